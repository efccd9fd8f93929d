/-
  The reference's games with links both ways: what its functions return.
-/
import Derived.Test.YtdkkhhfhdijfmaaZsFc
import Derived.Test.YtdkkhhfhdijfmaaZsCg
import Derived.Test.YtdkkhhfhdijfmaaZsCb
import Derived.Test.YtdkkhhfhdijfmaaZsSd
namespace Go.Proofs.Ytdkkhhfhdijfmaa
set_option linter.unusedVariables false
set_option linter.unusedSimpArgs false
open Go.RowKit
attribute [local irreducible] ay b9 Aw Le
abbrev gmA (g : Gm) : AV:=.agg [.c (.I g.own),.c (.I g.prio),.c (.R g.nxt),.c (.R g.prev),.c (.I g.pick)]
def edg (g : Gm) (v u : Int) : Bool:=decide (gi g.pick v.toNat < 0) || gi g.pick v.toNat == u
structure GmOk (g : Gm) (n : Nat) : Prop where
 le : n ≤ 256
 own : g.own.length = n
 prio : g.prio.length = n
 nxt : g.nxt.length = n
 prev : g.prev.length = n
 pick : g.pick.length = n
 nx : ∀ v,v < n → (gr g.nxt v).length ≤ 256 ∧ ∀ i,i < (gr g.nxt v).length → 0 ≤ gi (gr g.nxt v) i ∧ gi (gr g.nxt v) i < n
 nu : ∀ v s t,v < n → s < (gr g.nxt v).length → t < (gr g.nxt v).length → gi (gr g.nxt v) s = gi (gr g.nxt v) t → s = t
 pvi : ∀ u v : Nat,u < n → ((∃ t,t < (gr g.prev u).length ∧ gi (gr g.prev u) t = (v : Int)) ↔ v < n ∧ ∃ t,t < (gr g.nxt v).length ∧ gi (gr g.nxt v) t = (u : Int))
 pu : ∀ u s t,u < n → s < (gr g.prev u).length → t < (gr g.prev u).length → gi (gr g.prev u) s = gi (gr g.prev u) t → s = t
 o1 : ∀ v,v < n → 0 ≤ gi g.own v ∧ gi g.own v ≤ 1
 p1 : ∀ v,v < n → 0 ≤ gi g.prio v ∧ gi g.prio v ≤ 40
 pv : ∀ v,v < n → (gr g.prev v).length ≤ 65536 ∧ ∀ i,i < (gr g.prev v).length → 0 ≤ gi (gr g.prev v) i ∧ gi (gr g.prev v) i < n
theorem mb (g : Gm) (v u : Int) (h0 : 0 ≤ v) (h1 : v < g.pick.length) : ay Try.prog 69 [gmA g,.c (.int .i64 v),.c (.int .i64 u)] [] (fun _=>.c (.bool (edg g v u))):=by
 (refine bv aE Try.func69 rfl rfl (by kernel_rfl) fun hp0 ν hX hN=>?_;simp only [co,Nat.reduceAdd])
 (repeat' (first|(with_reducible first|(apply hK;clear hK K)|refine stZ ?_|refine aQ rfl ?_|((first|apply ae|apply af);clear ae X af Y))|(with_reducible refine aT ?_;first|refine aR rfl ?_|refine aS rfl ?_)|(with_reducible refine bh ?_;first|refine aM rfl rfl rfl rfl ?_|refine bf rfl rfl rfl ?_|refine bB rfl rfl rfl rfl ?_)|((first|(with_reducible first|((first|refine aW ?_|refine aX ?_);intro K hK)|(refine aC ?_;intro X Y ae af)|refine aD ?_)|(with_reducible refine bh ?_;refine aN rfl rfl fun X Y ae af=>?_));simp (disch:=first|decide|omega|(simp only [List.length_cons,List.length_nil];omega)) only [go_sem,↓aj hN,am hN,reduceIte,reduceCtorEq,Nat.reduceAdd,Nat.reduceLT,Nat.reduceLeDiff,Nat.reduceEqDiff,Nat.reduceSub])|(with_reducible refine And.intro (fun h=>?_) (fun h=>?_) <;> try (exfalso;omega))|(with_reducible refine aV aE hN ?_)|(with_reducible refine And.intro ?_ ?_)|(refine ah ?_;omega)|(exact aU hN (by decide))))
 all_goals (refine cU (.inr rfl) (by first|rfl|(simp (disch:=first|decide|omega|(simp only [List.length_cons,List.length_nil];omega)) only [bS,bV,bW,b7,go_sem,beq_self_eq_true,↓az,↓aj hN,am hN,reduceIte,reduceCtorEq,Nat.reduceAdd,Nat.reduceLT,Nat.reduceLeDiff,Nat.reduceEqDiff,Nat.reduceSub];rfl)) ?_)
 all_goals simp [*,edg]
def eB (g : Gm) (inn : List Bool) (v : Int) : Nat → Nat
 | 0 => 0
 | k + 1 => eB g inn v k + if gb inn (gi (gr g.nxt v.toNat) k).toNat && edg g v (gi (gr g.nxt v.toNat) k) then 1 else 0
def deg (g : Gm) (inn : List Bool) (v : Int) : Nat:=eB g inn v (gr g.nxt v.toNat).length
theorem mc (g : Gm) (inn : List Bool) (v : Int) (k : Nat) : eB g inn v k ≤ k:=by
 induction k with
 | zero => exact Nat.le_refl _
 | succ k ih => simp only [eB]; split <;> omega
theorem jG (g : Gm) (n : Nat) (hg : GmOk g n) (inn : List Bool) (hi : inn.length = n) (v : Int) (h0 : 0 ≤ v) (h1 : v < n) : ay Try.prog 66 [gmA g,.c (.B inn),.c (.int .i64 v)] [] (fun _=>.c (.int .i64 (deg g inn v))):=by
 obtain ⟨hl,hx⟩:=hg.nx v.toNat (by omega)
 have e1:=hg.nxt
 have e2:=hg.pick
 have e3:=hg.le
 (refine bv aE Try.func66 rfl rfl (by kernel_rfl) fun hp0 ν hX hN=>?_;simp only [co,Nat.reduceAdd])
 (repeat' (first|(with_reducible first|(apply hK;clear hK K)|refine stZ ?_|refine aQ rfl ?_|((first|apply ae|apply af);clear ae X af Y))|(with_reducible refine aT ?_;first|refine aR rfl ?_|refine aS rfl ?_)|(with_reducible refine bh ?_;first|refine aM rfl rfl rfl rfl ?_|refine bf rfl rfl rfl ?_|refine bB rfl rfl rfl rfl ?_)|((first|(with_reducible first|((first|refine aW ?_|refine aX ?_);intro K hK)|(refine aC ?_;intro X Y ae af)|refine aD ?_)|(with_reducible refine bh ?_;refine aN rfl rfl fun X Y ae af=>?_));simp (disch:=first|decide|omega|(simp only [List.length_cons,List.length_nil];omega)) only [go_sem,↓aj hN,am hN,reduceIte,reduceCtorEq,Nat.reduceAdd,Nat.reduceLT,Nat.reduceLeDiff,Nat.reduceEqDiff,Nat.reduceSub])|(with_reducible refine And.intro (fun h=>?_) (fun h=>?_) <;> try (exfalso;omega))|(with_reducible refine aV aE hN ?_)|(with_reducible refine And.intro ?_ ?_)|(refine ah ?_;omega)|(exact aU hN (by decide))))
 (refine bM (fun (k : Nat)=>(tmL [(8,.c (.int .i64 k)),(7,.c (.int .i64 (eB g inn v k))),(3,.ad (ν 0) 0),(1,.c (.B inn)),(2,.c (.int .i64 v))],hpL hp0 ν [.box [.c (.I g.own),.c (.I g.prio),.c (.R g.nxt),.c (.R g.prev),.c (.I g.pick)]])) (fun (k : Nat)=>k ≤ (gr g.nxt v.toNat).length) (fun (k : Nat)=>(gr g.nxt v.toNat).length - k) ⟨0,?_,bj hX hN [] ?_ ?_⟩ ?_;(repeat' (first|(with_reducible first|exact clZ|refine bm ?_ ?_|refine bn ?_ ?_|rfl|refine suZ ?_)|refine bo rfl ?_ ?_|exact aJ hN _ rfl rfl rfl|exact aK hN _ rfl rfl rfl|exact ap hN _ rfl rfl rfl (Or.inr rfl)|(refine aL hN _ rfl rfl (by first|exact Or.inr rfl|exact Or.inl rfl) ?_;first|exact aF _|exact aG _)|refine aq hN rfl ?_|refine au hN rfl rfl ?_|exact ao hN _ rfl rfl|exact aw hN rfl rfl rfl rfl|(with_reducible first|refine stZ ?_|refine aI ?_)));(try (any_goals (first|(with_reducible rfl)|(refine ah ?_;omega)))))
 · rfl
 intro k hk
 have hx:=hx k
 have hd:=mc g inn v k
 (repeat' (first|(with_reducible first|(apply hK;clear hK K)|refine stZ ?_|refine aQ rfl ?_|((first|apply ae|apply af);clear ae X af Y))|(with_reducible refine aT ?_;first|refine aR rfl ?_|refine aS rfl ?_)|(with_reducible refine bh ?_;first|refine aM rfl rfl rfl rfl ?_|refine bf rfl rfl rfl ?_|refine bB rfl rfl rfl rfl ?_)|((first|(with_reducible first|((first|refine aW ?_|refine aX ?_);intro K hK)|(refine aC ?_;intro X Y ae af)|refine aD ?_)|(with_reducible refine bh ?_;refine aN rfl rfl fun X Y ae af=>?_));simp (disch:=first|decide|omega|(simp only [List.length_cons,List.length_nil];omega)) only [go_sem,↓aj hN,am hN,reduceIte,reduceCtorEq,Nat.reduceAdd,Nat.reduceLT,Nat.reduceLeDiff,Nat.reduceEqDiff,Nat.reduceSub])|(with_reducible refine And.intro (fun h=>?_) (fun h=>?_) <;> try (exfalso;omega))|(with_reducible refine aV aE hN ?_)|(refine bd (mb g v ?_ h0 (by omega)) ?_ rfl (fun _=>rfl) ?_)|(with_reducible first|exact aA|refine ax ?_ ?_|exact bP _|refine a9 ?_|exact bc _|exact bA _ _|refine bz ?_|exact aZ _)|exact ba hN rfl rfl|(refine bw hN rfl ?_;first|exact aF _|exact aG _)|exact a8 rfl rfl rfl|(simp only [bt,List.map_nil])|(with_reducible refine bN ?_)|(with_reducible refine And.intro ?_ ?_)|(refine ah ?_;omega)|(exact aU hN (by decide))))
 · (refine ⟨k + 1,⟨?_,?_⟩,bj hX hN [] ?_ ?_⟩;(try any_goals dsimp only);(repeat' (first|(with_reducible first|exact clZ|refine bm ?_ ?_|refine bn ?_ ?_|rfl|refine suZ ?_)|refine bo rfl ?_ ?_|exact aJ hN _ rfl rfl rfl|exact aK hN _ rfl rfl rfl|exact ap hN _ rfl rfl rfl (Or.inr rfl)|(refine aL hN _ rfl rfl (by first|exact Or.inr rfl|exact Or.inl rfl) ?_;first|exact aF _|exact aG _)|refine aq hN rfl ?_|refine au hN rfl rfl ?_|exact ao hN _ rfl rfl|exact aw hN rfl rfl rfl rfl|(with_reducible first|refine stZ ?_|refine aI ?_)));(try (any_goals (first|(with_reducible rfl)|(refine ah ?_;omega)))))
   simp [eB, *]
 · (refine ⟨k + 1,⟨?_,?_⟩,bj hX hN [] ?_ ?_⟩;(try any_goals dsimp only);(repeat' (first|(with_reducible first|exact clZ|refine bm ?_ ?_|refine bn ?_ ?_|rfl|refine suZ ?_)|refine bo rfl ?_ ?_|exact aJ hN _ rfl rfl rfl|exact aK hN _ rfl rfl rfl|exact ap hN _ rfl rfl rfl (Or.inr rfl)|(refine aL hN _ rfl rfl (by first|exact Or.inr rfl|exact Or.inl rfl) ?_;first|exact aF _|exact aG _)|refine aq hN rfl ?_|refine au hN rfl rfl ?_|exact ao hN _ rfl rfl|exact aw hN rfl rfl rfl rfl|(with_reducible first|refine stZ ?_|refine aI ?_)));(try (any_goals (first|(with_reducible rfl)|(refine ah ?_;omega)))))
   simp [eB, *]
 · (refine ⟨k + 1,⟨?_,?_⟩,bj hX hN [] ?_ ?_⟩;(try any_goals dsimp only);(repeat' (first|(with_reducible first|exact clZ|refine bm ?_ ?_|refine bn ?_ ?_|rfl|refine suZ ?_)|refine bo rfl ?_ ?_|exact aJ hN _ rfl rfl rfl|exact aK hN _ rfl rfl rfl|exact ap hN _ rfl rfl rfl (Or.inr rfl)|(refine aL hN _ rfl rfl (by first|exact Or.inr rfl|exact Or.inl rfl) ?_;first|exact aF _|exact aG _)|refine aq hN rfl ?_|refine au hN rfl rfl ?_|exact ao hN _ rfl rfl|exact aw hN rfl rfl rfl rfl|(with_reducible first|refine stZ ?_|refine aI ?_)));(try (any_goals (first|(with_reducible rfl)|(refine ah ?_;omega)))))
   simp [eB, *]
 · (refine cU (.inr rfl) (by first|rfl|(simp (disch:=first|decide|omega|(simp only [List.length_cons,List.length_nil];omega)) only [bS,bV,bW,b7,go_sem,beq_self_eq_true,↓az,↓aj hN,am hN,reduceIte,reduceCtorEq,Nat.reduceAdd,Nat.reduceLT,Nat.reduceLeDiff,Nat.reduceEqDiff,Nat.reduceSub];rfl)) ?_)
   have e : k = (gr g.nxt v.toNat).length:=by omega
   rw [e];rfl
end Go.Proofs.Ytdkkhhfhdijfmaa
namespace Go.Proofs.Ytdkkhhfhdijfmaa
set_option linter.unusedVariables false
set_option linter.unusedSimpArgs false
open Go.RowKit
end Go.Proofs.Ytdkkhhfhdijfmaa
namespace Go.Proofs.Ytdkkhhfhdijfmaa
set_option linter.unusedVariables false
set_option linter.unusedSimpArgs false
open Go.RowKit
attribute [local irreducible] ay b9 Aw Le
theorem tO {φ : Nat → Loc} {hp : Hp} {w : World} {a : AV} {vs : List Value} (h : AVs φ hp w [a] vs) : ∃ v,vs = [v] ∧ AVC φ hp w a v:=by
 match vs,h with
 | [v], .cons h .nil => exact ⟨v, rfl, h⟩
theorem wT {φ : Nat → Loc} {hp : Hp} {w : World} {a b : AV} {vs : List Value} (h : AVs φ hp w [a,b] vs) : ∃ v u,vs = [v,u] ∧ AVC φ hp w a v ∧ AVC φ hp w b u:=by
 match vs,h with
 | [v, u], .cons h (.cons k .nil) => exact ⟨v, u, rfl, h, k⟩
theorem qF (g : Pa) : ay Try.prog 35 [paA g] [] (fun _=>.c (.bool (tf (PaOk g)))) :=
 lg Try.func35 rfl rfl (u:=.bool _) (fun O w=>.bool _) fun φ hp w vs h=>by
  obtain ⟨a,rfl,h1⟩:=tO h
  exact tc a g w (sf h1)
theorem qG (g : Pa) : ay Try.prog 31 [paA g] [] (fun _=>.c (.bool (tf (PaOk g)))) :=
 lg Try.func31 rfl rfl (u:=.bool _) (fun O w=>.bool _) fun φ hp w vs h=>by
  obtain ⟨a,rfl,h1⟩:=tO h
  exact (td a g w (sf h1)).mono fun e w' h=>h
theorem md (g : Pa) : ay Try.prog 25 [paA g] [] (fun _=>.c (.bool (tf (cJ g)))):=by
 (refine bv aE Try.func25 rfl rfl (by kernel_rfl) fun hp0 ν hX hN=>?_;simp only [co,Nat.reduceAdd])
 (repeat' (first|(with_reducible first|(apply hK;clear hK K)|refine stZ ?_|refine aQ rfl ?_|((first|apply ae|apply af);clear ae X af Y))|(with_reducible refine aT ?_;first|refine aR rfl ?_|refine aS rfl ?_)|(with_reducible refine bh ?_;first|refine aM rfl rfl rfl rfl ?_|refine bf rfl rfl rfl ?_|refine bB rfl rfl rfl rfl ?_)|((first|(with_reducible first|((first|refine aW ?_|refine aX ?_);intro K hK)|(refine aC ?_;intro X Y ae af)|refine aD ?_)|(with_reducible refine bh ?_;refine aN rfl rfl fun X Y ae af=>?_));simp (disch:=first|decide|omega|(simp only [List.length_cons,List.length_nil];omega)) only [go_sem,↓aj hN,am hN,reduceIte,reduceCtorEq,Nat.reduceAdd,Nat.reduceLT,Nat.reduceLeDiff,Nat.reduceEqDiff,Nat.reduceSub])|(with_reducible refine And.intro (fun h=>?_) (fun h=>?_) <;> try (exfalso;omega))|(with_reducible refine aV aE hN ?_)|(refine bd (qF ?_) ?_ rfl (fun _=>rfl) ?_)|(with_reducible first|exact aA|refine ax ?_ ?_|exact bP _|refine a9 ?_|exact bc _|exact bA _ _|refine bz ?_|exact aZ _)|exact ba hN rfl rfl|(refine bw hN rfl ?_;first|exact aF _|exact aG _)|exact a8 rfl rfl rfl|(simp only [bt,List.map_nil])|(with_reducible refine bN ?_)|(with_reducible refine And.intro ?_ ?_)|(refine ah ?_;omega)|(exact aU hN (by decide))))
 all_goals (refine cU (.inr rfl) (by first|rfl|(simp (disch:=first|decide|omega|(simp only [List.length_cons,List.length_nil];omega)) only [bS,bV,bW,b7,go_sem,beq_self_eq_true,↓az,↓aj hN,am hN,reduceIte,reduceCtorEq,Nat.reduceAdd,Nat.reduceLT,Nat.reduceLeDiff,Nat.reduceEqDiff,Nat.reduceSub];rfl)) ?_)
 · exact congrArg C.bool (np ⟨fun h'=>⟨by assumption,by omega⟩,fun h'=>by have:=h'.2;omega⟩)
 · exact congrArg C.bool (aB fun h'=>absurd h'.1 (by assumption)).symm
theorem qH (g : Pa) : ay Try.prog 21 [paA g] [] (fun _=>.c (.bool (tf (cJ g)))):=by
 (refine bv aE Try.func21 rfl rfl (by kernel_rfl) fun hp0 ν hX hN=>?_;simp only [co,Nat.reduceAdd])
 (repeat' (first|(with_reducible first|(apply hK;clear hK K)|refine stZ ?_|refine aQ rfl ?_|((first|apply ae|apply af);clear ae X af Y))|(with_reducible refine aT ?_;first|refine aR rfl ?_|refine aS rfl ?_)|(with_reducible refine bh ?_;first|refine aM rfl rfl rfl rfl ?_|refine bf rfl rfl rfl ?_|refine bB rfl rfl rfl rfl ?_)|((first|(with_reducible first|((first|refine aW ?_|refine aX ?_);intro K hK)|(refine aC ?_;intro X Y ae af)|refine aD ?_)|(with_reducible refine bh ?_;refine aN rfl rfl fun X Y ae af=>?_));simp (disch:=first|decide|omega|(simp only [List.length_cons,List.length_nil];omega)) only [go_sem,↓aj hN,am hN,reduceIte,reduceCtorEq,Nat.reduceAdd,Nat.reduceLT,Nat.reduceLeDiff,Nat.reduceEqDiff,Nat.reduceSub])|(with_reducible refine And.intro (fun h=>?_) (fun h=>?_) <;> try (exfalso;omega))|(with_reducible refine aV aE hN ?_)|(refine bd (qG ?_) ?_ rfl (fun _=>rfl) ?_)|(with_reducible first|exact aA|refine ax ?_ ?_|exact bP _|refine a9 ?_|exact bc _|exact bA _ _|refine bz ?_|exact aZ _)|exact ba hN rfl rfl|(refine bw hN rfl ?_;first|exact aF _|exact aG _)|exact a8 rfl rfl rfl|(simp only [bt,List.map_nil])|(with_reducible refine bN ?_)|(with_reducible refine And.intro ?_ ?_)|(refine ah ?_;omega)|(exact aU hN (by decide))))
 all_goals (refine cU (.inr rfl) (by first|rfl|(simp (disch:=first|decide|omega|(simp only [List.length_cons,List.length_nil];omega)) only [bS,bV,bW,b7,go_sem,beq_self_eq_true,↓az,↓aj hN,am hN,reduceIte,reduceCtorEq,Nat.reduceAdd,Nat.reduceLT,Nat.reduceLeDiff,Nat.reduceEqDiff,Nat.reduceSub];rfl)) ?_)
 · exact congrArg C.bool (dp ⟨fun h'=>⟨h',by omega⟩,fun h'=>h'.1⟩)
 · exact congrArg C.bool (aB fun h'=>by have:=h'.2;omega).symm
theorem tP (a : Ar) : ay Try.prog 72 [arA a] [] (fun _=>.c (.int .i64 a.own.length)):=by
 (refine bv aE Try.func72 rfl rfl (by kernel_rfl) fun hp0 ν hX hN=>?_;simp only [co,Nat.reduceAdd])
 (repeat' (first|(with_reducible first|(apply hK;clear hK K)|refine stZ ?_|refine aQ rfl ?_|((first|apply ae|apply af);clear ae X af Y))|(with_reducible refine aT ?_;first|refine aR rfl ?_|refine aS rfl ?_)|((with_reducible first|((first|refine aW ?_|refine aX ?_);intro K hK)|(refine aC ?_;intro X Y ae af)|refine aD ?_);simp (disch:=first|decide|omega|(simp only [List.length_cons,List.length_nil];omega)) only [go_sem,↓aj hN,am hN,reduceIte,reduceCtorEq,Nat.reduceAdd,Nat.reduceLT,Nat.reduceLeDiff,Nat.reduceEqDiff,Nat.reduceSub])|(with_reducible refine And.intro (fun h=>?_) (fun h=>?_) <;> try (exfalso;omega))|(with_reducible refine aV aE hN ?_)|(with_reducible refine And.intro ?_ ?_)|(refine ah ?_;omega)|(exact aU hN (by decide))))
 (refine cU (.inr rfl) (by first|rfl|(simp (disch:=first|decide|omega|(simp only [List.length_cons,List.length_nil];omega)) only [bS,bV,bW,b7,go_sem,beq_self_eq_true,↓az,↓aj hN,am hN,reduceIte,reduceCtorEq,Nat.reduceAdd,Nat.reduceLT,Nat.reduceLeDiff,Nat.reduceEqDiff,Nat.reduceSub];rfl)) ?_)
 rfl
end Go.Proofs.Ytdkkhhfhdijfmaa
namespace Go.Proofs.Ytdkkhhfhdijfmaa
set_option linter.unusedVariables false
set_option linter.unusedSimpArgs false
open Go.RowKit
attribute [local irreducible] ay b9 Aw Le
theorem sm (g : Pa) (xs : List Int) (hB : Bnd xs g.prio.length) : ay Try.prog 55 [paA g,.c (.I xs)] [] (fun _=>.c (.int .i64 (iS g.prio xs xs.length))) :=
 lg Try.func55 rfl rfl (u:=.int .i64 _) (fun O w=>.int _ _) fun φ hp w vs h=>by
  obtain ⟨a,b,rfl,h1,h2⟩:=wT h
  exact rv a b g xs w (sf h1) (pe (d8 h2)) hB
noncomputable def mkT (n : Nat) (xs : List Int) (k : Nat) : List Bool:=mks n fun v=>∃ j,j < k ∧ gi xs j = v
theorem sn (n : Nat) (xs : List Int) (k : Nat) : (mkT n xs k).length = n:=cH _ _
theorem qI (n : Nat) (xs : List Int) : mkT n xs 0 = List.replicate n false:=by
 rw [← gp n fun _=>false]
 exact dB fun v hv=>by rw [aB (by rintro ⟨j,h,_⟩;omega)];simp
theorem qJ {n : Nat} {xs : List Int} {k : Nat} (h0 : 0 ≤ gi xs k) (h1 : gi xs k < n) : mkT n xs (k + 1) = (mkT n xs k).set (gi xs k).toNat true:=by
 unfold mkT mks
 rw [lF (by omega)]
 refine dB fun v hv=>?_
 by_cases e : v = (gi xs k).toNat
 · rw [if_pos e,bg ⟨k,by omega,by omega⟩]
 · rw [if_neg e]
   refine dp ⟨fun ⟨j,h2,h3⟩=>⟨j,?_,h3⟩,fun ⟨j,h2,h3⟩=>⟨j,by omega,h3⟩⟩
   rcases Nat.lt_or_ge j k with h|h
   · exact h
   · have : j = k:=by omega
     subst this;omega
theorem sr (n : Nat) (xs : List Int) : mkT n xs xs.length = mks n fun v=>(v : Int) ∈ xs:=by
 refine fY fun v hv=>⟨fun ⟨j,h1,h2⟩=>?_,fun h=>?_⟩
 · rw [← h2];exact db h1
 · obtain ⟨j,h1,h2⟩:=d4 h;exact ⟨j,h1,h2⟩
theorem ia (a : Ar) (xs : List Int) (hB : Bnd xs a.own.length) (hn : a.own.length ≤ 256) (hx : xs.length ≤ 1048576) : ay Try.prog 73 [arA a,.c (.I xs)] [.arr 4 .yes (.B (mks a.own.length fun v=>(v : Int) ∈ xs))] (fun ns=>.sl (ns.getD 0 0)):=by
 (refine bv aE Try.func73 rfl rfl (by kernel_rfl) fun hp0 ν hX hN=>?_;simp only [co,Nat.reduceAdd])
 (repeat' (first|(with_reducible first|(apply hK;clear hK K)|refine stZ ?_|refine aQ rfl ?_|((first|apply ae|apply af);clear ae X af Y))|(with_reducible refine aT ?_;first|refine aR rfl ?_|refine aS rfl ?_)|((with_reducible first|((first|refine aW ?_|refine aX ?_);intro K hK)|(refine aC ?_;intro X Y ae af)|refine aD ?_);simp (disch:=first|decide|omega|(simp only [List.length_cons,List.length_nil];omega)) only [go_sem,↓aj hN,am hN,reduceIte,reduceCtorEq,Nat.reduceAdd,Nat.reduceLT,Nat.reduceLeDiff,Nat.reduceEqDiff,Nat.reduceSub])|(with_reducible refine And.intro (fun h=>?_) (fun h=>?_) <;> try (exfalso;omega))|(with_reducible refine aV aE hN ?_)|(with_reducible refine And.intro ?_ ?_)|(refine ah ?_;omega)|(exact aU hN (by decide))))
 (refine bM (fun (k : Nat)=>(tmL [(14,.c (.int .i64 k)),(13,.c (.int .i64 xs.length)),(12,.c (.I xs)),(5,.sl (ν 1))],hpL hp0 ν [.dead,.arr 4 .yes (.B (mkT a.own.length xs k))])) (fun (k : Nat)=>k ≤ xs.length) (fun (k : Nat)=>xs.length - k) ⟨0,?_,bj hX hN [] ?_ ?_⟩ ?_;(repeat' (first|(with_reducible first|exact clZ|refine bm ?_ ?_|refine bn ?_ ?_|rfl|refine suZ ?_)|refine bo rfl ?_ ?_|exact aJ hN _ rfl rfl rfl|exact aK hN _ rfl rfl rfl|exact ap hN _ rfl rfl rfl (Or.inr rfl)|(refine aL hN _ rfl rfl (by first|exact Or.inr rfl|exact Or.inl rfl) ?_;first|exact aF _|exact aG _)|refine aq hN rfl ?_|refine au hN rfl rfl ?_|exact ao hN _ rfl rfl|exact aw hN rfl rfl rfl rfl|(with_reducible first|refine stZ ?_|refine aI ?_)));(try (any_goals (first|(with_reducible rfl)|(refine ah ?_;omega)))))
 · exact qI _ _
 intro k hk
 have hb:=hB k
 have hl:=sn a.own.length xs k
 (repeat' (first|(with_reducible first|(apply hK;clear hK K)|refine stZ ?_|refine aQ rfl ?_|((first|apply ae|apply af);clear ae X af Y))|(with_reducible refine aT ?_;first|refine aR rfl ?_|refine aS rfl ?_)|((with_reducible first|((first|refine aW ?_|refine aX ?_);intro K hK)|(refine aC ?_;intro X Y ae af)|refine aD ?_);simp (disch:=first|decide|omega|(simp only [List.length_cons,List.length_nil];omega)) only [go_sem,↓aj hN,am hN,reduceIte,reduceCtorEq,Nat.reduceAdd,Nat.reduceLT,Nat.reduceLeDiff,Nat.reduceEqDiff,Nat.reduceSub])|(with_reducible refine And.intro (fun h=>?_) (fun h=>?_) <;> try (exfalso;omega))|(with_reducible refine aV aE hN ?_)|(with_reducible refine And.intro ?_ ?_)|(refine ah ?_;omega)|(exact aU hN (by decide))))
 · (refine ⟨k + 1,⟨?_,?_⟩,bj hX hN [] ?_ ?_⟩;(try any_goals dsimp only);(repeat' (first|(with_reducible first|exact clZ|refine bm ?_ ?_|refine bn ?_ ?_|rfl|refine suZ ?_)|refine bo rfl ?_ ?_|exact aJ hN _ rfl rfl rfl|exact aK hN _ rfl rfl rfl|exact ap hN _ rfl rfl rfl (Or.inr rfl)|(refine aL hN _ rfl rfl (by first|exact Or.inr rfl|exact Or.inl rfl) ?_;first|exact aF _|exact aG _)|refine aq hN rfl ?_|refine au hN rfl rfl ?_|exact ao hN _ rfl rfl|exact aw hN rfl rfl rfl rfl|(with_reducible first|refine stZ ?_|refine aI ?_)));(try (any_goals (first|(with_reducible rfl)|(refine ah ?_;omega)))))
   exact qJ (hB k (by omega)).1 (hB k (by omega)).2
 · (refine cV hN (i:=1) (.inr rfl) (by first|rfl|(simp (disch:=first|decide|omega|(simp only [List.length_cons,List.length_nil];omega)) only [bS,bV,bW,b7,go_sem,beq_self_eq_true,↓az,↓aj hN,am hN,reduceIte,reduceCtorEq,Nat.reduceAdd,Nat.reduceLT,Nat.reduceLeDiff,Nat.reduceEqDiff,Nat.reduceSub];rfl)) rfl ?_ rfl)
   rw [show k = xs.length by omega,sr]
end Go.Proofs.Ytdkkhhfhdijfmaa
namespace Go.Proofs.Ytdkkhhfhdijfmaa
set_option linter.unusedVariables false
set_option linter.unusedSimpArgs false
open Go.RowKit
end Go.Proofs.Ytdkkhhfhdijfmaa
namespace Go.Proofs.Ytdkkhhfhdijfmaa
set_option linter.unusedVariables false
set_option linter.unusedSimpArgs false
open Go.RowKit
theorem me {row : List Int} {v u : Nat} {x : Int} : ∀ {k : Nat},x ∈ ck row v u k ↔ x = v ∧ ∃ i,i < k ∧ (gi row i).toNat = u:=by
 intro k
 induction k with
 | zero => simp [ck]
 | succ k ih =>
   unfold ck
   rw [List.mem_append,ih]
   constructor
   · rintro (⟨h1,i,h2,h3⟩|h)
     · exact ⟨h1,i,by omega,h3⟩
     · split at h
       · rename_i hu;simp at h;exact ⟨h,k,by omega,hu⟩
       · simp at h
   · rintro ⟨h1,i,h2,h3⟩
     rcases Nat.lt_or_ge i k with h|h
     · exact .inl ⟨h1,i,h,h3⟩
     · have : i = k:=by omega
       subst this
       rw [if_pos h3];exact .inr (by simp [h1])
theorem fh {nxt : List (List Int)} {u : Nat} {x : Int} : ∀ {k : Nat},x ∈ bZ nxt u k ↔ ∃ v,v < k ∧ x = (v : Int) ∧ ∃ i,i < (gr nxt v).length ∧ (gi (gr nxt v) i).toNat = u:=by
 intro k
 induction k with
 | zero => simp [bZ]
 | succ k ih =>
   unfold bZ
   rw [List.mem_append,ih,me]
   constructor
   · rintro (⟨v,h1,h2⟩|⟨h1,h2⟩)
     · exact ⟨v,by omega,h2⟩
     · exact ⟨k,by omega,h1,h2⟩
   · rintro ⟨v,h1,h2⟩
     rcases Nat.lt_or_ge v k with h|h
     · exact .inl ⟨v,h,h2⟩
     · have : v = k:=by omega
       subst this;exact .inr h2
theorem qK {xs : List Int} {m : Int} (h : cu xs m) : ∀ {t s : Nat},s < t → t < xs.length → gi xs s < gi xs t:=by
 intro t
 induction t with
 | zero => intro s h1; omega
 | succ t ih =>
   intro s h1 h2
   have:=(h (t + 1) h2).2.2 (by omega)
   simp only [Nat.add_sub_cancel] at this
   rcases Nat.lt_or_ge s t with h3|h3
   · have:=ih h3 (by omega);omega
   · have : s = t:=by omega
     subst this;omega
theorem mf {xs : List Int} {m : Int} (h : cu xs m) {s t : Nat} (hs : s < xs.length) (ht : t < xs.length) (e : gi xs s = gi xs t) : s = t:=by
 rcases Nat.lt_trichotomy s t with h'|h'|h'
 · have:=qK h h' ht;omega
 · exact h'
 · have:=qK h h' hs;omega
theorem jH {xs : List Int} (h : xs.Nodup) {s t : Nat} (hs : s < xs.length) (ht : t < xs.length) (e : gi xs s = gi xs t) : s = t:=by
 rw [dq hs,dq ht] at e
 exact (List.getElem_inj (h₀:=hs) (h₁:=ht) h).1 e
theorem j4 {row : List Int} {m : Int} (h : cu row m) (v u : Nat) : ∀ i,i ≤ row.length → (ck row v u i = [] ∨ (ck row v u i = [(v : Int)] ∧ ∃ j,j < i ∧ (gi row j).toNat = u)):=by
 intro i
 induction i with
 | zero => intro _; exact .inl rfl
 | succ i ih =>
   intro hi
   unfold ck
   by_cases e : (gi row i).toNat = u
   · rw [if_pos e]
     rcases ih (by omega) with h1|⟨_,j,h1,h2⟩
     · rw [h1];exact .inr ⟨rfl,i,by omega,e⟩
     · have a:=(h j (by omega)).1
       have b:=(h i (by omega)).1
       have:=mf h (s:=j) (t:=i) (by omega) (by omega) (by omega)
       omega
   · rw [if_neg e,List.append_nil]
     rcases ih (by omega) with h1|⟨h0,j,h1,h2⟩
     · exact .inl h1
     · exact .inr ⟨h0,j,by omega,h2⟩
theorem li {nxt : List (List Int)} {n : Nat} {m : Int} (h : ∀ v,v < n → cu (gr nxt v) m) (u : Nat) : (bZ nxt u n).Nodup:=by
 induction n with
 | zero => exact List.nodup_nil
 | succ n ih =>
   unfold bZ
   rcases j4 (h n (by omega)) n u _ (Nat.le_refl _) with e|⟨e,_⟩
   · rw [e,List.append_nil];exact ih fun v hv=>h v (by omega)
   · rw [e,List.nodup_append]
     refine ⟨ih fun v hv=>h v (by omega),by simp,fun x hx y hy=>?_⟩
     obtain ⟨v,h1,h2,_⟩:=fh.1 hx
     simp at hy
     omega
theorem nr {nxt : List (List Int)} {n : Nat} (hv : ∀ v,v < n → ∀ i,i < (gr nxt v).length → 0 ≤ gi (gr nxt v) i ∧ gi (gr nxt v) i < n) (u v : Nat) : (∃ t,t < (bZ nxt u n).length ∧ gi (bZ nxt u n) t = (v : Int)) ↔ v < n ∧ ∃ t,t < (gr nxt v).length ∧ gi (gr nxt v) t = (u : Int):=by
 constructor
 · rintro ⟨t,h1,h2⟩
   have hm : (v : Int) ∈ bZ nxt u n:=by rw [← h2];exact db h1
   obtain ⟨v',h3,h4,i,h5,h6⟩:=fh.1 hm
   have e : v' = v:=by omega
   subst e
   exact ⟨h3,i,h5,by have:=hv v' h3 i h5;omega⟩
 · rintro ⟨h1,t,h2,h3⟩
   have hm : (v : Int) ∈ bZ nxt u n:=fh.2 ⟨v,h1,rfl,t,h2,by omega⟩
   exact d4 hm
theorem ib {g : Pa} (hg : PaOk g) : GmOk (cf g) g.prio.length:=by
 have h1:=hg.ar.le
 have h2:=hg.len
 have h3:=hg.ar.len
 have hv : ∀ v,v < g.prio.length → (gr g.ar.nxt v).length ≤ 16 ∧ ∀ i,i < (gr g.ar.nxt v).length → 0 ≤ gi (gr g.ar.nxt v) i ∧ gi (gr g.ar.nxt v) i < g.prio.length:=fun v hv=>by
  obtain ⟨_,_,_,a,b⟩:=hg.ar.vert v (by omega)
  exact ⟨a,fun i hi=>by have:=b.bnd i hi;omega⟩
 refine ⟨by omega,h2.symm,rfl,by show g.ar.nxt.length = _;omega,jE _ _,bK _ _,fun v hv'=>⟨by have:=(hv v hv').1;show (gr g.ar.nxt v).length ≤ _;omega,(hv v hv').2⟩,fun v s t hv' hs ht e=>mf (hg.ar.vert v (by omega)).2.2.2.2 hs ht e,fun u v hu=>?_,fun u s t hu hs ht e=>?_,fun v hv'=>by have:=hg.ar.vert v (by omega);exact ⟨this.1,this.2.1⟩,fun v hv'=>hg.prio v hv',fun u hu=>?_⟩
 · rw [show gr (cf g).prev u = bZ g.ar.nxt u g.prio.length from dW _ hu]
   exact nr (fun v hv' i hi=>(hv v hv').2 i hi) u v
 · rw [show gr (cf g).prev u = bZ g.ar.nxt u g.prio.length from dW _ hu] at hs ht e
   exact jH (li (fun v hv'=>hg.ar.vert v (by omega) |>.2.2.2.2) u) hs ht e
 have e : gr (cf g).prev u = bZ g.ar.nxt u g.prio.length:=dW _ hu
 rw [e]
 refine ⟨?_,fun i hi=>?_⟩
 · have:=jF (nxt:=g.ar.nxt) (m:=16) u g.prio.length fun j hj=>(hv j hj).1
   have : 16 * g.prio.length ≤ 16 * 256:=Nat.mul_le_mul_left _ (by omega)
   omega
 · obtain ⟨v,k1,k2,_⟩:=fh.1 (db hi)
   omega
end Go.Proofs.Ytdkkhhfhdijfmaa
