/-
  The reference's games with links both ways: what its functions return.
-/
import Derived.Test.YthjamlponejffaaZwFc
import Derived.Test.YthjamlponejffaaZwCg
import Derived.Test.YthjamlponejffaaZwCb
import Derived.Test.YthjamlponejffaaZwSd
namespace Go.Proofs.Ythjamlponejffaa
set_option linter.unusedVariables false
set_option linter.unusedSimpArgs false
open Go.RowKit
attribute [local irreducible] au ci Aw Le
abbrev gmA (g : Gm) : AV:=.agg [.c (.I g.own),.c (.I g.prio),.c (.R g.nxt),.c (.R g.prev),.c (.I g.pick)]
def edg (g : Gm) (v u : Int) : Bool:=decide (gi g.pick v.toNat < 0) || gi g.pick v.toNat == u
structure GmOk (g : Gm) (n : Nat) : Prop where
 le : n ≤ 256
 own : g.own.length = n
 prio : g.prio.length = n
 nxt : g.nxt.length = n
 prev : g.prev.length = n
 pick : g.pick.length = n
 nx : ∀ v,v < n → (gr g.nxt v).length ≤ 256 ∧ ∀ i,i < (gr g.nxt v).length → 0 ≤ gi (gr g.nxt v) i ∧ gi (gr g.nxt v) i < n
 nu : ∀ v s t,v < n → s < (gr g.nxt v).length → t < (gr g.nxt v).length → gi (gr g.nxt v) s = gi (gr g.nxt v) t → s = t
 pvi : ∀ u v : Nat,u < n → ((∃ t,t < (gr g.prev u).length ∧ gi (gr g.prev u) t = (v : Int)) ↔ v < n ∧ ∃ t,t < (gr g.nxt v).length ∧ gi (gr g.nxt v) t = (u : Int))
 pu : ∀ u s t,u < n → s < (gr g.prev u).length → t < (gr g.prev u).length → gi (gr g.prev u) s = gi (gr g.prev u) t → s = t
 o1 : ∀ v,v < n → 0 ≤ gi g.own v ∧ gi g.own v ≤ 1
 p1 : ∀ v,v < n → 0 ≤ gi g.prio v ∧ gi g.prio v ≤ 40
 pv : ∀ v,v < n → (gr g.prev v).length ≤ 65536 ∧ ∀ i,i < (gr g.prev v).length → 0 ≤ gi (gr g.prev v) i ∧ gi (gr g.prev v) i < n
theorem kw (g : Gm) (v u : Int) (h0 : 0 ≤ v) (h1 : v < g.pick.length) : au Try.prog 116 [gmA g,.c (.int .i64 v),.c (.int .i64 u)] [] (fun _=>.c (.bool (edg g v u))):=by
 (refine bu ba Try.func116 rfl rfl (by kernel_rfl) fun hp0 ν hX hN=>?_;simp only [cy,Nat.reduceAdd])
 (repeat' (first|(with_reducible first|(apply hK;clear hK K)|refine stZ ?_|refine bc rfl ?_|((first|apply ae|apply af);clear ae X af Y))|(with_reducible refine bf ?_;first|refine bd rfl ?_|refine be rfl ?_)|(with_reducible refine bI ?_;first|refine bp rfl rfl rfl rfl ?_|refine bH rfl rfl rfl ?_|refine bY rfl rfl rfl rfl ?_)|((first|(with_reducible first|((first|refine bi ?_|refine bj ?_);intro K hK)|(refine aN ?_;intro X Y ae af)|refine aO ?_)|(with_reducible refine bI ?_;refine br rfl rfl fun X Y ae af=>?_));simp (disch:=first|decide|omega|(simp only [List.length_cons,List.length_nil];omega)) only [go_sem,↓am hN,ao hN,reduceIte,reduceCtorEq,Nat.reduceAdd,Nat.reduceLT,Nat.reduceLeDiff,Nat.reduceEqDiff,Nat.reduceSub])|(with_reducible refine And.intro (fun h=>?_) (fun h=>?_) <;> try (exfalso;omega))|(with_reducible refine bh ba hN ?_)|(with_reducible refine And.intro ?_ ?_)|(refine ak ?_;omega)|(exact bg hN (by decide))))
 all_goals (refine dF (.inr rfl) (by first|rfl|(simp (disch:=first|decide|omega|(simp only [List.length_cons,List.length_nil];omega)) only [bW,b7,cf,cj,go_sem,beq_self_eq_true,↓aG,↓am hN,ao hN,reduceIte,reduceCtorEq,Nat.reduceAdd,Nat.reduceLT,Nat.reduceLeDiff,Nat.reduceEqDiff,Nat.reduceSub];rfl)) ?_)
 all_goals simp [*,edg]
def eN (g : Gm) (inn : List Bool) (v : Int) : Nat → Nat
 | 0 => 0
 | k + 1 => eN g inn v k + if gb inn (gi (gr g.nxt v.toNat) k).toNat && edg g v (gi (gr g.nxt v.toNat) k) then 1 else 0
def deg (g : Gm) (inn : List Bool) (v : Int) : Nat:=eN g inn v (gr g.nxt v.toNat).length
theorem kx (g : Gm) (inn : List Bool) (v : Int) (k : Nat) : eN g inn v k ≤ k:=by
 induction k with
 | zero => exact Nat.le_refl _
 | succ k ih => simp only [eN]; split <;> omega
theorem lA (g : Gm) (n : Nat) (hg : GmOk g n) (inn : List Bool) (hi : inn.length = n) (v : Int) (h0 : 0 ≤ v) (h1 : v < n) : au Try.prog 82 [gmA g,.c (.B inn),.c (.int .i64 v)] [] (fun _=>.c (.int .i64 (deg g inn v))):=by
 obtain ⟨hl,hx⟩:=hg.nx v.toNat (by omega)
 have e1:=hg.nxt
 have e2:=hg.pick
 have e3:=hg.le
 (refine bu ba Try.func82 rfl rfl (by kernel_rfl) fun hp0 ν hX hN=>?_;simp only [cy,Nat.reduceAdd])
 (repeat' (first|(with_reducible first|(apply hK;clear hK K)|refine stZ ?_|refine bc rfl ?_|((first|apply ae|apply af);clear ae X af Y))|(with_reducible refine bf ?_;first|refine bd rfl ?_|refine be rfl ?_)|(with_reducible refine bI ?_;first|refine bp rfl rfl rfl rfl ?_|refine bH rfl rfl rfl ?_|refine bY rfl rfl rfl rfl ?_)|((first|(with_reducible first|((first|refine bi ?_|refine bj ?_);intro K hK)|(refine aN ?_;intro X Y ae af)|refine aO ?_)|(with_reducible refine bI ?_;refine br rfl rfl fun X Y ae af=>?_));simp (disch:=first|decide|omega|(simp only [List.length_cons,List.length_nil];omega)) only [go_sem,↓am hN,ao hN,reduceIte,reduceCtorEq,Nat.reduceAdd,Nat.reduceLT,Nat.reduceLeDiff,Nat.reduceEqDiff,Nat.reduceSub])|(with_reducible refine And.intro (fun h=>?_) (fun h=>?_) <;> try (exfalso;omega))|(with_reducible refine bh ba hN ?_)|(with_reducible refine And.intro ?_ ?_)|(refine ak ?_;omega)|(exact bg hN (by decide))))
 (refine ce (fun (k : Nat)=>(tmL [(8,.c (.int .i64 k)),(7,.c (.int .i64 (eN g inn v k))),(3,.ad (ν 0) 0),(1,.c (.B inn)),(2,.c (.int .i64 v))],hpL hp0 ν [.box [.c (.I g.own),.c (.I g.prio),.c (.R g.nxt),.c (.R g.prev),.c (.I g.pick)]])) (fun (k : Nat)=>k ≤ (gr g.nxt v.toNat).length) (fun (k : Nat)=>(gr g.nxt v.toNat).length - k) ⟨0,?_,bC hX hN [] ?_ ?_⟩ ?_;(repeat' (first|(with_reducible first|exact clZ|refine bD ?_ ?_|refine bE ?_ ?_|rfl|refine suZ ?_)|refine bF rfl ?_ ?_|exact aR hN _ rfl rfl rfl|exact aS hN _ rfl rfl rfl|exact aB hN _ rfl rfl rfl (Or.inr rfl)|(refine aT hN _ rfl rfl (by first|exact Or.inr rfl|exact Or.inl rfl) ?_;first|exact aJ _|exact aK _)|refine aC hN rfl ?_|refine aD hN rfl rfl ?_|exact aA hN _ rfl rfl|exact aE hN rfl rfl rfl rfl|(with_reducible first|refine stZ ?_|refine aQ ?_)));(try (any_goals (first|(with_reducible rfl)|(refine ak ?_;omega)))))
 · rfl
 intro k hk
 have hx:=hx k
 have hd:=kx g inn v k
 (repeat' (first|(with_reducible first|(apply hK;clear hK K)|refine stZ ?_|refine bc rfl ?_|((first|apply ae|apply af);clear ae X af Y))|(with_reducible refine bf ?_;first|refine bd rfl ?_|refine be rfl ?_)|(with_reducible refine bI ?_;first|refine bp rfl rfl rfl rfl ?_|refine bH rfl rfl rfl ?_|refine bY rfl rfl rfl rfl ?_)|((first|(with_reducible first|((first|refine bi ?_|refine bj ?_);intro K hK)|(refine aN ?_;intro X Y ae af)|refine aO ?_)|(with_reducible refine bI ?_;refine br rfl rfl fun X Y ae af=>?_));simp (disch:=first|decide|omega|(simp only [List.length_cons,List.length_nil];omega)) only [go_sem,↓am hN,ao hN,reduceIte,reduceCtorEq,Nat.reduceAdd,Nat.reduceLT,Nat.reduceLeDiff,Nat.reduceEqDiff,Nat.reduceSub])|(with_reducible refine And.intro (fun h=>?_) (fun h=>?_) <;> try (exfalso;omega))|(with_reducible refine bh ba hN ?_)|(refine bo (kw g v ?_ h0 (by omega)) ?_ rfl (fun _=>rfl) ?_)|(with_reducible first|exact az|refine aw ?_ ?_|exact bX _|refine aY ?_|exact a8 _|exact bA _ _|refine bz ?_|exact aW _)|exact aZ hN rfl rfl|(refine bw hN rfl ?_;first|exact aJ _|exact aK _)|exact aX rfl rfl rfl|(simp only [aM,List.map_nil])|(with_reducible refine b8 ?_)|(with_reducible refine And.intro ?_ ?_)|(refine ak ?_;omega)|(exact bg hN (by decide))))
 · (refine ⟨k + 1,⟨?_,?_⟩,bC hX hN [] ?_ ?_⟩;(try any_goals dsimp only);(repeat' (first|(with_reducible first|exact clZ|refine bD ?_ ?_|refine bE ?_ ?_|rfl|refine suZ ?_)|refine bF rfl ?_ ?_|exact aR hN _ rfl rfl rfl|exact aS hN _ rfl rfl rfl|exact aB hN _ rfl rfl rfl (Or.inr rfl)|(refine aT hN _ rfl rfl (by first|exact Or.inr rfl|exact Or.inl rfl) ?_;first|exact aJ _|exact aK _)|refine aC hN rfl ?_|refine aD hN rfl rfl ?_|exact aA hN _ rfl rfl|exact aE hN rfl rfl rfl rfl|(with_reducible first|refine stZ ?_|refine aQ ?_)));(try (any_goals (first|(with_reducible rfl)|(refine ak ?_;omega)))))
   simp [eN, *]
 · (refine ⟨k + 1,⟨?_,?_⟩,bC hX hN [] ?_ ?_⟩;(try any_goals dsimp only);(repeat' (first|(with_reducible first|exact clZ|refine bD ?_ ?_|refine bE ?_ ?_|rfl|refine suZ ?_)|refine bF rfl ?_ ?_|exact aR hN _ rfl rfl rfl|exact aS hN _ rfl rfl rfl|exact aB hN _ rfl rfl rfl (Or.inr rfl)|(refine aT hN _ rfl rfl (by first|exact Or.inr rfl|exact Or.inl rfl) ?_;first|exact aJ _|exact aK _)|refine aC hN rfl ?_|refine aD hN rfl rfl ?_|exact aA hN _ rfl rfl|exact aE hN rfl rfl rfl rfl|(with_reducible first|refine stZ ?_|refine aQ ?_)));(try (any_goals (first|(with_reducible rfl)|(refine ak ?_;omega)))))
   simp [eN, *]
 · (refine ⟨k + 1,⟨?_,?_⟩,bC hX hN [] ?_ ?_⟩;(try any_goals dsimp only);(repeat' (first|(with_reducible first|exact clZ|refine bD ?_ ?_|refine bE ?_ ?_|rfl|refine suZ ?_)|refine bF rfl ?_ ?_|exact aR hN _ rfl rfl rfl|exact aS hN _ rfl rfl rfl|exact aB hN _ rfl rfl rfl (Or.inr rfl)|(refine aT hN _ rfl rfl (by first|exact Or.inr rfl|exact Or.inl rfl) ?_;first|exact aJ _|exact aK _)|refine aC hN rfl ?_|refine aD hN rfl rfl ?_|exact aA hN _ rfl rfl|exact aE hN rfl rfl rfl rfl|(with_reducible first|refine stZ ?_|refine aQ ?_)));(try (any_goals (first|(with_reducible rfl)|(refine ak ?_;omega)))))
   simp [eN, *]
 · (refine dF (.inr rfl) (by first|rfl|(simp (disch:=first|decide|omega|(simp only [List.length_cons,List.length_nil];omega)) only [bW,b7,cf,cj,go_sem,beq_self_eq_true,↓aG,↓am hN,ao hN,reduceIte,reduceCtorEq,Nat.reduceAdd,Nat.reduceLT,Nat.reduceLeDiff,Nat.reduceEqDiff,Nat.reduceSub];rfl)) ?_)
   have e : k = (gr g.nxt v.toNat).length:=by omega
   rw [e];rfl
end Go.Proofs.Ythjamlponejffaa
namespace Go.Proofs.Ythjamlponejffaa
set_option linter.unusedVariables false
set_option linter.unusedSimpArgs false
open Go.RowKit
attribute [local irreducible] au ci Aw Le
end Go.Proofs.Ythjamlponejffaa
namespace Go.Proofs.Ythjamlponejffaa
set_option linter.unusedVariables false
set_option linter.unusedSimpArgs false
open Go.RowKit
attribute [local irreducible] au ci Aw Le
theorem r9 {φ : Nat → Loc} {hp : Hp} {w : World} {a : AV} {vs : List Value} (h : AVs φ hp w [a] vs) : ∃ v,vs = [v] ∧ AVC φ hp w a v:=by
 match vs,h with
 | [v], .cons h .nil => exact ⟨v, rfl, h⟩
theorem vy {φ : Nat → Loc} {hp : Hp} {w : World} {a b : AV} {vs : List Value} (h : AVs φ hp w [a,b] vs) : ∃ v u,vs = [v,u] ∧ AVC φ hp w a v ∧ AVC φ hp w b u:=by
 match vs,h with
 | [v, u], .cons h (.cons k .nil) => exact ⟨v, u, rfl, h, k⟩
theorem oG (g : Pa) : au Try.prog 74 [paA g] [] (fun _=>.c (.bool (tf (PaOk g)))) :=
 jH Try.func74 rfl rfl (u:=.bool _) (fun O w=>.bool _) fun φ hp w vs h=>by
  obtain ⟨a,rfl,h1⟩:=r9 h
  exact rg a g w (qa h1)
theorem oH (g : Pa) : au Try.prog 39 [paA g] [] (fun _=>.c (.bool (tf (PaOk g)))) :=
 jH Try.func39 rfl rfl (u:=.bool _) (fun O w=>.bool _) fun φ hp w vs h=>by
  obtain ⟨a,rfl,h1⟩:=r9 h
  exact (rh a g w (qa h1)).mono fun e w' h=>h
theorem ky (g : Pa) : au Try.prog 50 [paA g] [] (fun _=>.c (.bool (tf (cP g)))):=by
 (refine bu ba Try.func50 rfl rfl (by kernel_rfl) fun hp0 ν hX hN=>?_;simp only [cy,Nat.reduceAdd])
 (repeat' (first|(with_reducible first|(apply hK;clear hK K)|refine stZ ?_|refine bc rfl ?_|((first|apply ae|apply af);clear ae X af Y))|(with_reducible refine bf ?_;first|refine bd rfl ?_|refine be rfl ?_)|(with_reducible refine bI ?_;first|refine bp rfl rfl rfl rfl ?_|refine bH rfl rfl rfl ?_|refine bY rfl rfl rfl rfl ?_)|((first|(with_reducible first|((first|refine bi ?_|refine bj ?_);intro K hK)|(refine aN ?_;intro X Y ae af)|refine aO ?_)|(with_reducible refine bI ?_;refine br rfl rfl fun X Y ae af=>?_));simp (disch:=first|decide|omega|(simp only [List.length_cons,List.length_nil];omega)) only [go_sem,↓am hN,ao hN,reduceIte,reduceCtorEq,Nat.reduceAdd,Nat.reduceLT,Nat.reduceLeDiff,Nat.reduceEqDiff,Nat.reduceSub])|(with_reducible refine And.intro (fun h=>?_) (fun h=>?_) <;> try (exfalso;omega))|(with_reducible refine bh ba hN ?_)|(refine bo (oG ?_) ?_ rfl (fun _=>rfl) ?_)|(with_reducible first|exact az|refine aw ?_ ?_|exact bX _|refine aY ?_|exact a8 _|exact bA _ _|refine bz ?_|exact aW _)|exact aZ hN rfl rfl|(refine bw hN rfl ?_;first|exact aJ _|exact aK _)|exact aX rfl rfl rfl|(simp only [aM,List.map_nil])|(with_reducible refine b8 ?_)|(with_reducible refine And.intro ?_ ?_)|(refine ak ?_;omega)|(exact bg hN (by decide))))
 all_goals (refine dF (.inr rfl) (by first|rfl|(simp (disch:=first|decide|omega|(simp only [List.length_cons,List.length_nil];omega)) only [bW,b7,cf,cj,go_sem,beq_self_eq_true,↓aG,↓am hN,ao hN,reduceIte,reduceCtorEq,Nat.reduceAdd,Nat.reduceLT,Nat.reduceLeDiff,Nat.reduceEqDiff,Nat.reduceSub];rfl)) ?_)
 · exact congrArg C.bool (r7 ⟨fun h'=>⟨by assumption,by omega⟩,fun h'=>by have:=h'.2;omega⟩)
 · exact congrArg C.bool (ap fun h'=>absurd h'.1 (by assumption)).symm
theorem kz (g : Pa) : au Try.prog 58 [paA g] [] (fun _=>.c (.bool (tf (cP g)))):=by
 (refine bu ba Try.func58 rfl rfl (by kernel_rfl) fun hp0 ν hX hN=>?_;simp only [cy,Nat.reduceAdd])
 (repeat' (first|(with_reducible first|(apply hK;clear hK K)|refine stZ ?_|refine bc rfl ?_|((first|apply ae|apply af);clear ae X af Y))|(with_reducible refine bf ?_;first|refine bd rfl ?_|refine be rfl ?_)|(with_reducible refine bI ?_;first|refine bp rfl rfl rfl rfl ?_|refine bH rfl rfl rfl ?_|refine bY rfl rfl rfl rfl ?_)|((first|(with_reducible first|((first|refine bi ?_|refine bj ?_);intro K hK)|(refine aN ?_;intro X Y ae af)|refine aO ?_)|(with_reducible refine bI ?_;refine br rfl rfl fun X Y ae af=>?_));simp (disch:=first|decide|omega|(simp only [List.length_cons,List.length_nil];omega)) only [go_sem,↓am hN,ao hN,reduceIte,reduceCtorEq,Nat.reduceAdd,Nat.reduceLT,Nat.reduceLeDiff,Nat.reduceEqDiff,Nat.reduceSub])|(with_reducible refine And.intro (fun h=>?_) (fun h=>?_) <;> try (exfalso;omega))|(with_reducible refine bh ba hN ?_)|(refine bo (oH ?_) ?_ rfl (fun _=>rfl) ?_)|(with_reducible first|exact az|refine aw ?_ ?_|exact bX _|refine aY ?_|exact a8 _|exact bA _ _|refine bz ?_|exact aW _)|exact aZ hN rfl rfl|(refine bw hN rfl ?_;first|exact aJ _|exact aK _)|exact aX rfl rfl rfl|(simp only [aM,List.map_nil])|(with_reducible refine b8 ?_)|(with_reducible refine And.intro ?_ ?_)|(refine ak ?_;omega)|(exact bg hN (by decide))))
 all_goals (refine dF (.inr rfl) (by first|rfl|(simp (disch:=first|decide|omega|(simp only [List.length_cons,List.length_nil];omega)) only [bW,b7,cf,cj,go_sem,beq_self_eq_true,↓aG,↓am hN,ao hN,reduceIte,reduceCtorEq,Nat.reduceAdd,Nat.reduceLT,Nat.reduceLeDiff,Nat.reduceEqDiff,Nat.reduceSub];rfl)) ?_)
 · exact congrArg C.bool (cH ⟨fun h'=>⟨h',by omega⟩,fun h'=>h'.1⟩)
 · exact congrArg C.bool (ap fun h'=>by have:=h'.2;omega).symm
end Go.Proofs.Ythjamlponejffaa
namespace Go.Proofs.Ythjamlponejffaa
set_option linter.unusedVariables false
set_option linter.unusedSimpArgs false
open Go.RowKit
attribute [local irreducible] au ci Aw Le
theorem qj (g : Pa) (xs : List Int) (hB : Bnd xs g.prio.length) : au Try.prog 61 [paA g,.c (.I xs)] [] (fun _=>.c (.int .i64 (cR g.prio xs xs.length))) :=
 jH Try.func61 rfl rfl (u:=.int .i64 _) (fun O w=>.int _ _) fun φ hp w vs h=>by
  obtain ⟨a,b,rfl,h1,h2⟩:=vy h
  exact pd a b g xs w (qa h1) (p9 (dw h2)) hB
noncomputable def mkT (n : Nat) (xs : List Int) (k : Nat) : List Bool:=mks n fun v=>∃ j,j < k ∧ gi xs j = v
theorem qk (n : Nat) (xs : List Int) (k : Nat) : (mkT n xs k).length = n:=bv _ _
theorem oI (n : Nat) (xs : List Int) : mkT n xs 0 = List.replicate n false:=by
 rw [← dn n fun _=>false]
 exact ct fun v hv=>by rw [ap (by rintro ⟨j,h,_⟩;omega)];simp
theorem oJ {n : Nat} {xs : List Int} {k : Nat} (h0 : 0 ≤ gi xs k) (h1 : gi xs k < n) : mkT n xs (k + 1) = (mkT n xs k).set (gi xs k).toNat true:=by
 unfold mkT mks
 rw [jV (by omega)]
 refine ct fun v hv=>?_
 by_cases e : v = (gi xs k).toNat
 · rw [if_pos e,aH ⟨k,by omega,by omega⟩]
 · rw [if_neg e]
   refine cH ⟨fun ⟨j,h2,h3⟩=>⟨j,?_,h3⟩,fun ⟨j,h2,h3⟩=>⟨j,by omega,h3⟩⟩
   rcases Nat.lt_or_ge j k with h|h
   · exact h
   · have : j = k:=by omega
     subst this;omega
theorem ql (n : Nat) (xs : List Int) : mkT n xs xs.length = mks n fun v=>(v : Int) ∈ xs:=by
 refine mH fun v hv=>⟨fun ⟨j,h1,h2⟩=>?_,fun h=>?_⟩
 · rw [← h2];exact cm h1
 · obtain ⟨j,h1,h2⟩:=dr h;exact ⟨j,h1,h2⟩
theorem oK (a : Ar) (xs : List Int) (hB : Bnd xs a.own.length) (hn : a.own.length ≤ 256) (hx : xs.length ≤ 1048576) : au Try.prog 117 [arA a,.c (.I xs)] [.arr 4 .yes (.B (mks a.own.length fun v=>(v : Int) ∈ xs))] (fun ns=>.sl (ns.getD 0 0)):=by
 (refine bu ba Try.func117 rfl rfl (by kernel_rfl) fun hp0 ν hX hN=>?_;simp only [cy,Nat.reduceAdd])
 (repeat' (first|(with_reducible first|(apply hK;clear hK K)|refine stZ ?_|refine bc rfl ?_|((first|apply ae|apply af);clear ae X af Y))|(with_reducible refine bf ?_;first|refine bd rfl ?_|refine be rfl ?_)|((with_reducible first|((first|refine bi ?_|refine bj ?_);intro K hK)|(refine aN ?_;intro X Y ae af)|refine aO ?_);simp (disch:=first|decide|omega|(simp only [List.length_cons,List.length_nil];omega)) only [go_sem,↓am hN,ao hN,reduceIte,reduceCtorEq,Nat.reduceAdd,Nat.reduceLT,Nat.reduceLeDiff,Nat.reduceEqDiff,Nat.reduceSub])|(with_reducible refine And.intro (fun h=>?_) (fun h=>?_) <;> try (exfalso;omega))|(with_reducible refine bh ba hN ?_)|(with_reducible refine And.intro ?_ ?_)|(refine ak ?_;omega)|(exact bg hN (by decide))))
 (refine ce (fun (k : Nat)=>(tmL [(14,.c (.int .i64 k)),(13,.c (.int .i64 xs.length)),(12,.c (.I xs)),(5,.sl (ν 1))],hpL hp0 ν [.dead,.arr 4 .yes (.B (mkT a.own.length xs k))])) (fun (k : Nat)=>k ≤ xs.length) (fun (k : Nat)=>xs.length - k) ⟨0,?_,bC hX hN [] ?_ ?_⟩ ?_;(repeat' (first|(with_reducible first|exact clZ|refine bD ?_ ?_|refine bE ?_ ?_|rfl|refine suZ ?_)|refine bF rfl ?_ ?_|exact aR hN _ rfl rfl rfl|exact aS hN _ rfl rfl rfl|exact aB hN _ rfl rfl rfl (Or.inr rfl)|(refine aT hN _ rfl rfl (by first|exact Or.inr rfl|exact Or.inl rfl) ?_;first|exact aJ _|exact aK _)|refine aC hN rfl ?_|refine aD hN rfl rfl ?_|exact aA hN _ rfl rfl|exact aE hN rfl rfl rfl rfl|(with_reducible first|refine stZ ?_|refine aQ ?_)));(try (any_goals (first|(with_reducible rfl)|(refine ak ?_;omega)))))
 · exact oI _ _
 intro k hk
 have hb:=hB k
 have hl:=qk a.own.length xs k
 (repeat' (first|(with_reducible first|(apply hK;clear hK K)|refine stZ ?_|refine bc rfl ?_|((first|apply ae|apply af);clear ae X af Y))|(with_reducible refine bf ?_;first|refine bd rfl ?_|refine be rfl ?_)|((with_reducible first|((first|refine bi ?_|refine bj ?_);intro K hK)|(refine aN ?_;intro X Y ae af)|refine aO ?_);simp (disch:=first|decide|omega|(simp only [List.length_cons,List.length_nil];omega)) only [go_sem,↓am hN,ao hN,reduceIte,reduceCtorEq,Nat.reduceAdd,Nat.reduceLT,Nat.reduceLeDiff,Nat.reduceEqDiff,Nat.reduceSub])|(with_reducible refine And.intro (fun h=>?_) (fun h=>?_) <;> try (exfalso;omega))|(with_reducible refine bh ba hN ?_)|(with_reducible refine And.intro ?_ ?_)|(refine ak ?_;omega)|(exact bg hN (by decide))))
 · (refine ⟨k + 1,⟨?_,?_⟩,bC hX hN [] ?_ ?_⟩;(try any_goals dsimp only);(repeat' (first|(with_reducible first|exact clZ|refine bD ?_ ?_|refine bE ?_ ?_|rfl|refine suZ ?_)|refine bF rfl ?_ ?_|exact aR hN _ rfl rfl rfl|exact aS hN _ rfl rfl rfl|exact aB hN _ rfl rfl rfl (Or.inr rfl)|(refine aT hN _ rfl rfl (by first|exact Or.inr rfl|exact Or.inl rfl) ?_;first|exact aJ _|exact aK _)|refine aC hN rfl ?_|refine aD hN rfl rfl ?_|exact aA hN _ rfl rfl|exact aE hN rfl rfl rfl rfl|(with_reducible first|refine stZ ?_|refine aQ ?_)));(try (any_goals (first|(with_reducible rfl)|(refine ak ?_;omega)))))
   exact oJ (hB k (by omega)).1 (hB k (by omega)).2
 · (refine cz hN (i:=1) (.inr rfl) (by first|rfl|(simp (disch:=first|decide|omega|(simp only [List.length_cons,List.length_nil];omega)) only [bW,b7,cf,cj,go_sem,beq_self_eq_true,↓aG,↓am hN,ao hN,reduceIte,reduceCtorEq,Nat.reduceAdd,Nat.reduceLT,Nat.reduceLeDiff,Nat.reduceEqDiff,Nat.reduceSub];rfl)) rfl ?_ rfl)
   rw [show k = xs.length by omega,ql]
end Go.Proofs.Ythjamlponejffaa
namespace Go.Proofs.Ythjamlponejffaa
set_option linter.unusedVariables false
set_option linter.unusedSimpArgs false
open Go.RowKit
attribute [local irreducible] au ci Aw Le
end Go.Proofs.Ythjamlponejffaa
namespace Go.Proofs.Ythjamlponejffaa
set_option linter.unusedVariables false
set_option linter.unusedSimpArgs false
open Go.RowKit
theorem kA {row : List Int} {v u : Nat} {x : Int} : ∀ {k : Nat},x ∈ bT row v u k ↔ x = v ∧ ∃ i,i < k ∧ (gi row i).toNat = u:=by
 intro k
 induction k with
 | zero => simp [bT]
 | succ k ih =>
   unfold bT
   rw [List.mem_append,ih]
   constructor
   · rintro (⟨h1,i,h2,h3⟩|h)
     · exact ⟨h1,i,by omega,h3⟩
     · split at h
       · rename_i hu;simp at h;exact ⟨h,k,by omega,hu⟩
       · simp at h
   · rintro ⟨h1,i,h2,h3⟩
     rcases Nat.lt_or_ge i k with h|h
     · exact .inl ⟨h1,i,h,h3⟩
     · have : i = k:=by omega
       subst this
       rw [if_pos h3];exact .inr (by simp [h1])
theorem ee {nxt : List (List Int)} {u : Nat} {x : Int} : ∀ {k : Nat},x ∈ bG nxt u k ↔ ∃ v,v < k ∧ x = (v : Int) ∧ ∃ i,i < (gr nxt v).length ∧ (gi (gr nxt v) i).toNat = u:=by
 intro k
 induction k with
 | zero => simp [bG]
 | succ k ih =>
   unfold bG
   rw [List.mem_append,ih,kA]
   constructor
   · rintro (⟨v,h1,h2⟩|⟨h1,h2⟩)
     · exact ⟨v,by omega,h2⟩
     · exact ⟨k,by omega,h1,h2⟩
   · rintro ⟨v,h1,h2⟩
     rcases Nat.lt_or_ge v k with h|h
     · exact .inl ⟨v,h,h2⟩
     · have : v = k:=by omega
       subst this;exact .inr h2
theorem oM {xs : List Int} {m : Int} (h : ck xs m) : ∀ {t s : Nat},s < t → t < xs.length → gi xs s < gi xs t:=by
 intro t
 induction t with
 | zero => intro s h1; omega
 | succ t ih =>
   intro s h1 h2
   have:=(h (t + 1) h2).2.2 (by omega)
   simp only [Nat.add_sub_cancel] at this
   rcases Nat.lt_or_ge s t with h3|h3
   · have:=ih h3 (by omega);omega
   · have : s = t:=by omega
     subst this;omega
theorem kB {xs : List Int} {m : Int} (h : ck xs m) {s t : Nat} (hs : s < xs.length) (ht : t < xs.length) (e : gi xs s = gi xs t) : s = t:=by
 rcases Nat.lt_trichotomy s t with h'|h'|h'
 · have:=oM h h' ht;omega
 · exact h'
 · have:=oM h h' hs;omega
theorem ic {xs : List Int} (h : xs.Nodup) {s t : Nat} (hs : s < xs.length) (ht : t < xs.length) (e : gi xs s = gi xs t) : s = t:=by
 rw [ew hs,ew ht] at e
 exact (List.getElem_inj (h₀:=hs) (h₁:=ht) h).1 e
theorem iB {row : List Int} {m : Int} (h : ck row m) (v u : Nat) : ∀ i,i ≤ row.length → (bT row v u i = [] ∨ (bT row v u i = [(v : Int)] ∧ ∃ j,j < i ∧ (gi row j).toNat = u)):=by
 intro i
 induction i with
 | zero => intro _; exact .inl rfl
 | succ i ih =>
   intro hi
   unfold bT
   by_cases e : (gi row i).toNat = u
   · rw [if_pos e]
     rcases ih (by omega) with h1|⟨_,j,h1,h2⟩
     · rw [h1];exact .inr ⟨rfl,i,by omega,e⟩
     · have a:=(h j (by omega)).1
       have b:=(h i (by omega)).1
       have:=kB h (s:=j) (t:=i) (by omega) (by omega) (by omega)
       omega
   · rw [if_neg e,List.append_nil]
     rcases ih (by omega) with h1|⟨h0,j,h1,h2⟩
     · exact .inl h1
     · exact .inr ⟨h0,j,by omega,h2⟩
theorem jO {nxt : List (List Int)} {n : Nat} {m : Int} (h : ∀ v,v < n → ck (gr nxt v) m) (u : Nat) : (bG nxt u n).Nodup:=by
 induction n with
 | zero => exact List.nodup_nil
 | succ n ih =>
   unfold bG
   rcases iB (h n (by omega)) n u _ (Nat.le_refl _) with e|⟨e,_⟩
   · rw [e,List.append_nil];exact ih fun v hv=>h v (by omega)
   · rw [e,List.nodup_append]
     refine ⟨ih fun v hv=>h v (by omega),by simp,fun x hx y hy=>?_⟩
     obtain ⟨v,h1,h2,_⟩:=ee.1 hx
     simp at hy
     omega
theorem lB {nxt : List (List Int)} {n : Nat} (hv : ∀ v,v < n → ∀ i,i < (gr nxt v).length → 0 ≤ gi (gr nxt v) i ∧ gi (gr nxt v) i < n) (u v : Nat) : (∃ t,t < (bG nxt u n).length ∧ gi (bG nxt u n) t = (v : Int)) ↔ v < n ∧ ∃ t,t < (gr nxt v).length ∧ gi (gr nxt v) t = (u : Int):=by
 constructor
 · rintro ⟨t,h1,h2⟩
   have hm : (v : Int) ∈ bG nxt u n:=by rw [← h2];exact cm h1
   obtain ⟨v',h3,h4,i,h5,h6⟩:=ee.1 hm
   have e : v' = v:=by omega
   subst e
   exact ⟨h3,i,h5,by have:=hv v' h3 i h5;omega⟩
 · rintro ⟨h1,t,h2,h3⟩
   have hm : (v : Int) ∈ bG nxt u n:=ee.2 ⟨v,h1,rfl,t,h2,by omega⟩
   exact dr hm
theorem fj {g : Pa} (hg : PaOk g) : GmOk (fR g) g.prio.length:=by
 have h1:=hg.ar.le
 have h2:=hg.len
 have h3:=hg.ar.len
 have hv : ∀ v,v < g.prio.length → (gr g.ar.nxt v).length ≤ 16 ∧ ∀ i,i < (gr g.ar.nxt v).length → 0 ≤ gi (gr g.ar.nxt v) i ∧ gi (gr g.ar.nxt v) i < g.prio.length:=fun v hv=>by
  obtain ⟨_,_,_,a,b⟩:=hg.ar.vert v (by omega)
  exact ⟨a,fun i hi=>by have:=b.bnd i hi;omega⟩
 refine ⟨by omega,h2.symm,rfl,by show g.ar.nxt.length = _;omega,ia _ _,cr _ _,fun v hv'=>⟨by have:=(hv v hv').1;show (gr g.ar.nxt v).length ≤ _;omega,(hv v hv').2⟩,fun v s t hv' hs ht e=>kB (hg.ar.vert v (by omega)).2.2.2.2 hs ht e,fun u v hu=>?_,fun u s t hu hs ht e=>?_,fun v hv'=>by have:=hg.ar.vert v (by omega);exact ⟨this.1,this.2.1⟩,fun v hv'=>hg.prio v hv',fun u hu=>?_⟩
 · rw [show gr (fR g).prev u = bG g.ar.nxt u g.prio.length from dm _ hu]
   exact lB (fun v hv' i hi=>(hv v hv').2 i hi) u v
 · rw [show gr (fR g).prev u = bG g.ar.nxt u g.prio.length from dm _ hu] at hs ht e
   exact ic (jO (fun v hv'=>hg.ar.vert v (by omega) |>.2.2.2.2) u) hs ht e
 have e : gr (fR g).prev u = bG g.ar.nxt u g.prio.length:=dm _ hu
 rw [e]
 refine ⟨?_,fun i hi=>?_⟩
 · have:=ib (nxt:=g.ar.nxt) (m:=16) u g.prio.length fun j hj=>(hv j hj).1
   have : 16 * g.prio.length ≤ 16 * 256:=Nat.mul_le_mul_left _ (by omega)
   omega
 · obtain ⟨v,k1,k2,_⟩:=ee.1 (cm hi)
   omega
end Go.Proofs.Ythjamlponejffaa
