/-
  The reference's games with links both ways: what its functions return.
-/
import Derived.Test.YthjamlponejffaaZhFc
import Derived.Test.YthjamlponejffaaZhCg
import Derived.Test.YthjamlponejffaaZhCb
import Derived.Test.YthjamlponejffaaZhSd
namespace Go.Proofs.Ythjamlponejffaa
set_option linter.unusedVariables false
set_option linter.unusedSimpArgs false
open Go.RowKit
attribute [local irreducible] ap b7 Aw Le
abbrev gmA (g : Gm) : AV:=.agg [.c (.I g.own),.c (.I g.prio),.c (.R g.nxt),.c (.R g.prev),.c (.I g.pick)]
def edg (g : Gm) (v u : Int) : Bool:=decide (gi g.pick v.toNat < 0) || gi g.pick v.toNat == u
structure GmOk (g : Gm) (n : Nat) : Prop where
 le : n ≤ 256
 own : g.own.length = n
 prio : g.prio.length = n
 nxt : g.nxt.length = n
 prev : g.prev.length = n
 pick : g.pick.length = n
 nx : ∀ v,v < n → (gr g.nxt v).length ≤ 256 ∧ ∀ i,i < (gr g.nxt v).length → 0 ≤ gi (gr g.nxt v) i ∧ gi (gr g.nxt v) i < n
 nu : ∀ v s t,v < n → s < (gr g.nxt v).length → t < (gr g.nxt v).length → gi (gr g.nxt v) s = gi (gr g.nxt v) t → s = t
 pvi : ∀ u v : Nat,u < n → ((∃ t,t < (gr g.prev u).length ∧ gi (gr g.prev u) t = (v : Int)) ↔ v < n ∧ ∃ t,t < (gr g.nxt v).length ∧ gi (gr g.nxt v) t = (u : Int))
 pu : ∀ u s t,u < n → s < (gr g.prev u).length → t < (gr g.prev u).length → gi (gr g.prev u) s = gi (gr g.prev u) t → s = t
 o1 : ∀ v,v < n → 0 ≤ gi g.own v ∧ gi g.own v ≤ 1
 p1 : ∀ v,v < n → 0 ≤ gi g.prio v ∧ gi g.prio v ≤ 40
 pv : ∀ v,v < n → (gr g.prev v).length ≤ 65536 ∧ ∀ i,i < (gr g.prev v).length → 0 ≤ gi (gr g.prev v) i ∧ gi (gr g.prev v) i < n
theorem mM (g : Gm) (v u : Int) (h0 : 0 ≤ v) (h1 : v < g.pick.length) : ap Try.prog 116 [gmA g,.c (.int .i64 v),.c (.int .i64 u)] [] (fun _=>.c (.bool (edg g v u))):=by
 (refine bf aI Try.func116 rfl rfl (by kernel_rfl) fun hp0 ν hX hN=>?_;simp only [bW,Nat.reduceAdd])
 (repeat' (first|(with_reducible first|(apply hK;clear hK K)|refine stZ ?_|refine aT rfl ?_|((first|apply ae|apply af);clear ae X af Y))|(with_reducible refine aW ?_;first|refine aU rfl ?_|refine aV rfl ?_)|(with_reducible refine bv ?_;first|refine bd rfl rfl rfl rfl ?_|refine bt rfl rfl rfl ?_|refine bI rfl rfl rfl rfl ?_)|((first|(with_reducible first|((first|refine aZ ?_|refine a8 ?_);intro K hK)|(refine aE ?_;intro X Y ae af)|refine aF ?_)|(with_reducible refine bv ?_;refine be rfl rfl fun X Y ae af=>?_));simp (disch:=first|decide|omega|(simp only [List.length_cons,List.length_nil];omega)) only [go_sem,↓aj hN,ak hN,reduceIte,reduceCtorEq,Nat.reduceAdd,Nat.reduceLT,Nat.reduceLeDiff,Nat.reduceEqDiff,Nat.reduceSub])|(with_reducible refine And.intro (fun h=>?_) (fun h=>?_) <;> try (exfalso;omega))|(with_reducible refine aY aI hN ?_)|(with_reducible refine And.intro ?_ ?_)|(refine ah ?_;omega)|(exact aX hN (by decide))))
 all_goals (refine bX (.inr rfl) (by first|rfl|(simp (disch:=first|decide|omega|(simp only [List.length_cons,List.length_nil];omega)) only [bG,bK,bN,bO,go_sem,beq_self_eq_true,↓ao,↓aj hN,ak hN,reduceIte,reduceCtorEq,Nat.reduceAdd,Nat.reduceLT,Nat.reduceLeDiff,Nat.reduceEqDiff,Nat.reduceSub];rfl)) ?_)
 all_goals simp [*,edg]
def gt (g : Gm) (inn : List Bool) (v : Int) : Nat → Nat
 | 0 => 0
 | k + 1 => gt g inn v k + if gb inn (gi (gr g.nxt v.toNat) k).toNat && edg g v (gi (gr g.nxt v.toNat) k) then 1 else 0
def deg (g : Gm) (inn : List Bool) (v : Int) : Nat:=gt g inn v (gr g.nxt v.toNat).length
theorem mN (g : Gm) (inn : List Bool) (v : Int) (k : Nat) : gt g inn v k ≤ k:=by
 induction k with
 | zero => exact Nat.le_refl _
 | succ k ih => simp only [gt]; split <;> omega
theorem oh (g : Gm) (n : Nat) (hg : GmOk g n) (inn : List Bool) (hi : inn.length = n) (v : Int) (h0 : 0 ≤ v) (h1 : v < n) : ap Try.prog 82 [gmA g,.c (.B inn),.c (.int .i64 v)] [] (fun _=>.c (.int .i64 (deg g inn v))):=by
 obtain ⟨hl,hx⟩:=hg.nx v.toNat (by omega)
 have e1:=hg.nxt
 have e2:=hg.pick
 have e3:=hg.le
 (refine bf aI Try.func82 rfl rfl (by kernel_rfl) fun hp0 ν hX hN=>?_;simp only [bW,Nat.reduceAdd])
 (repeat' (first|(with_reducible first|(apply hK;clear hK K)|refine stZ ?_|refine aT rfl ?_|((first|apply ae|apply af);clear ae X af Y))|(with_reducible refine aW ?_;first|refine aU rfl ?_|refine aV rfl ?_)|(with_reducible refine bv ?_;first|refine bd rfl rfl rfl rfl ?_|refine bt rfl rfl rfl ?_|refine bI rfl rfl rfl rfl ?_)|((first|(with_reducible first|((first|refine aZ ?_|refine a8 ?_);intro K hK)|(refine aE ?_;intro X Y ae af)|refine aF ?_)|(with_reducible refine bv ?_;refine be rfl rfl fun X Y ae af=>?_));simp (disch:=first|decide|omega|(simp only [List.length_cons,List.length_nil];omega)) only [go_sem,↓aj hN,ak hN,reduceIte,reduceCtorEq,Nat.reduceAdd,Nat.reduceLT,Nat.reduceLeDiff,Nat.reduceEqDiff,Nat.reduceSub])|(with_reducible refine And.intro (fun h=>?_) (fun h=>?_) <;> try (exfalso;omega))|(with_reducible refine aY aI hN ?_)|(with_reducible refine And.intro ?_ ?_)|(refine ah ?_;omega)|(exact aX hN (by decide))))
 (refine bT (fun (k : Nat)=>(tmL [(8,.c (.int .i64 k)),(7,.c (.int .i64 (gt g inn v k))),(3,.ad (ν 0) 0),(1,.c (.B inn)),(2,.c (.int .i64 v))],hpL hp0 ν [.box [.c (.I g.own),.c (.I g.prio),.c (.R g.nxt),.c (.R g.prev),.c (.I g.pick)]])) (fun (k : Nat)=>k ≤ (gr g.nxt v.toNat).length) (fun (k : Nat)=>(gr g.nxt v.toNat).length - k) ⟨0,?_,bB hX hN [] ?_ ?_⟩ ?_;(repeat' (first|(with_reducible first|exact clZ|refine bw ?_ ?_|refine bz ?_ ?_|rfl|refine suZ ?_)|refine bA rfl ?_ ?_|exact aP hN _ rfl rfl rfl|exact aQ hN _ rfl rfl rfl|exact ax hN _ rfl rfl rfl (Or.inr rfl)|(refine aR hN _ rfl rfl (by first|exact Or.inr rfl|exact Or.inl rfl) ?_;first|exact aC _|exact aD _)|refine ay hN rfl ?_|refine az hN rfl rfl ?_|exact au hN _ rfl rfl|exact aA hN rfl rfl rfl rfl|(with_reducible first|refine stZ ?_|refine aO ?_)));(try (any_goals (first|(with_reducible rfl)|(refine ah ?_;omega)))))
 · rfl
 intro k hk
 have hx:=hx k
 have hd:=mN g inn v k
 (repeat' (first|(with_reducible first|(apply hK;clear hK K)|refine stZ ?_|refine aT rfl ?_|((first|apply ae|apply af);clear ae X af Y))|(with_reducible refine aW ?_;first|refine aU rfl ?_|refine aV rfl ?_)|(with_reducible refine bv ?_;first|refine bd rfl rfl rfl rfl ?_|refine bt rfl rfl rfl ?_|refine bI rfl rfl rfl rfl ?_)|((first|(with_reducible first|((first|refine aZ ?_|refine a8 ?_);intro K hK)|(refine aE ?_;intro X Y ae af)|refine aF ?_)|(with_reducible refine bv ?_;refine be rfl rfl fun X Y ae af=>?_));simp (disch:=first|decide|omega|(simp only [List.length_cons,List.length_nil];omega)) only [go_sem,↓aj hN,ak hN,reduceIte,reduceCtorEq,Nat.reduceAdd,Nat.reduceLT,Nat.reduceLeDiff,Nat.reduceEqDiff,Nat.reduceSub])|(with_reducible refine And.intro (fun h=>?_) (fun h=>?_) <;> try (exfalso;omega))|(with_reducible refine aY aI hN ?_)|(refine aB (mM g v ?_ h0 (by omega)) ?_ rfl (fun _=>rfl) ?_)|(with_reducible first|exact aq|refine am ?_ ?_|exact bH _|refine aM ?_|exact aL _|exact bj _ _|refine bi ?_|exact aJ _)|exact aN hN rfl rfl|(refine bh hN rfl ?_;first|exact aC _|exact aD _)|exact aK rfl rfl rfl|(simp only [ba,List.map_nil])|(with_reducible refine bu ?_)|(with_reducible refine And.intro ?_ ?_)|(refine ah ?_;omega)|(exact aX hN (by decide))))
 · (refine ⟨k + 1,⟨?_,?_⟩,bB hX hN [] ?_ ?_⟩;(try any_goals dsimp only);(repeat' (first|(with_reducible first|exact clZ|refine bw ?_ ?_|refine bz ?_ ?_|rfl|refine suZ ?_)|refine bA rfl ?_ ?_|exact aP hN _ rfl rfl rfl|exact aQ hN _ rfl rfl rfl|exact ax hN _ rfl rfl rfl (Or.inr rfl)|(refine aR hN _ rfl rfl (by first|exact Or.inr rfl|exact Or.inl rfl) ?_;first|exact aC _|exact aD _)|refine ay hN rfl ?_|refine az hN rfl rfl ?_|exact au hN _ rfl rfl|exact aA hN rfl rfl rfl rfl|(with_reducible first|refine stZ ?_|refine aO ?_)));(try (any_goals (first|(with_reducible rfl)|(refine ah ?_;omega)))))
   simp [gt, *]
 · (refine ⟨k + 1,⟨?_,?_⟩,bB hX hN [] ?_ ?_⟩;(try any_goals dsimp only);(repeat' (first|(with_reducible first|exact clZ|refine bw ?_ ?_|refine bz ?_ ?_|rfl|refine suZ ?_)|refine bA rfl ?_ ?_|exact aP hN _ rfl rfl rfl|exact aQ hN _ rfl rfl rfl|exact ax hN _ rfl rfl rfl (Or.inr rfl)|(refine aR hN _ rfl rfl (by first|exact Or.inr rfl|exact Or.inl rfl) ?_;first|exact aC _|exact aD _)|refine ay hN rfl ?_|refine az hN rfl rfl ?_|exact au hN _ rfl rfl|exact aA hN rfl rfl rfl rfl|(with_reducible first|refine stZ ?_|refine aO ?_)));(try (any_goals (first|(with_reducible rfl)|(refine ah ?_;omega)))))
   simp [gt, *]
 · (refine ⟨k + 1,⟨?_,?_⟩,bB hX hN [] ?_ ?_⟩;(try any_goals dsimp only);(repeat' (first|(with_reducible first|exact clZ|refine bw ?_ ?_|refine bz ?_ ?_|rfl|refine suZ ?_)|refine bA rfl ?_ ?_|exact aP hN _ rfl rfl rfl|exact aQ hN _ rfl rfl rfl|exact ax hN _ rfl rfl rfl (Or.inr rfl)|(refine aR hN _ rfl rfl (by first|exact Or.inr rfl|exact Or.inl rfl) ?_;first|exact aC _|exact aD _)|refine ay hN rfl ?_|refine az hN rfl rfl ?_|exact au hN _ rfl rfl|exact aA hN rfl rfl rfl rfl|(with_reducible first|refine stZ ?_|refine aO ?_)));(try (any_goals (first|(with_reducible rfl)|(refine ah ?_;omega)))))
   simp [gt, *]
 · (refine bX (.inr rfl) (by first|rfl|(simp (disch:=first|decide|omega|(simp only [List.length_cons,List.length_nil];omega)) only [bG,bK,bN,bO,go_sem,beq_self_eq_true,↓ao,↓aj hN,ak hN,reduceIte,reduceCtorEq,Nat.reduceAdd,Nat.reduceLT,Nat.reduceLeDiff,Nat.reduceEqDiff,Nat.reduceSub];rfl)) ?_)
   have e : k = (gr g.nxt v.toNat).length:=by omega
   rw [e];rfl
end Go.Proofs.Ythjamlponejffaa
namespace Go.Proofs.Ythjamlponejffaa
set_option linter.unusedVariables false
set_option linter.unusedSimpArgs false
open Go.RowKit
attribute [local irreducible] ap b7 Aw Le
def ixF (p : Int → Bool) : List Int → Nat → Int
 | [], _ => -1
 | x :: xs, k => if p x then k else ixF p xs (k + 1)
theorem ui (p : Int → Bool) (xs : List Int) (k : Nat) : 0 ≤ ixF p xs k ↔ ∃ i,i < xs.length ∧ p (gi xs i) = true:=by
 induction xs generalizing k with
 | nil => simp [ixF]
 | cons x xs ih =>
   simp only [ixF]
   split
   · rename_i h;exact ⟨fun _=>⟨0,by simp,h⟩,fun _=>by omega⟩
   · rename_i h
     rw [ih]
     constructor
     · rintro ⟨i,h1,h2⟩;exact ⟨i + 1,by simpa using h1,h2⟩
     · rintro ⟨i,h1,h2⟩
       cases i with
       | zero => exact absurd h2 h
       | succ i => exact ⟨i, by simpa using h1, h2⟩
theorem pe {xs : List Int} {k : Nat} (h : k < xs.length) : xs.drop k = gi xs k :: xs.drop (k + 1):=by
 rw [List.drop_eq_getElem_cons h,dC h]
theorem mO (xs : List Int) (hl : xs.length ≤ 1048576) (f : FuncId) (cs : List C) (p : Int → Bool) (hF : ∀ i,i < xs.length → ap Try.prog f [.c (.int .i64 (gi xs i)),elA cs] [] fun _=>.c (.bool (p (gi xs i)))) :
  ap Try.prog 127 [.c (.I xs),.fn (.func f) [elA cs]] [] (fun _=>.c (.int .i64 (ixF p xs 0))):=by
 (refine bf aI Try.func127 rfl rfl (by kernel_rfl) fun hp0 ν hX hN=>?_;simp only [bW,Nat.reduceAdd])
 (repeat' (first|(with_reducible first|(apply hK;clear hK K)|refine stZ ?_|refine aT rfl ?_|((first|apply ae|apply af);clear ae X af Y))|(with_reducible refine aW ?_;first|refine aU rfl ?_|refine aV rfl ?_)|((with_reducible first|((first|refine aZ ?_|refine a8 ?_);intro K hK)|(refine aE ?_;intro X Y ae af)|refine aF ?_);simp (disch:=first|decide|omega|(simp only [List.length_cons,List.length_nil];omega)) only [go_sem,↓aj hN,ak hN,reduceIte,reduceCtorEq,Nat.reduceAdd,Nat.reduceLT,Nat.reduceLeDiff,Nat.reduceEqDiff,Nat.reduceSub])|(with_reducible refine And.intro (fun h=>?_) (fun h=>?_) <;> try (exfalso;omega))|(with_reducible refine aY aI hN ?_)|(with_reducible refine And.intro ?_ ?_)|(refine ah ?_;omega)|(exact aX hN (by decide))))
 (refine bT (fun (k : Nat)=>(tmL [(8,.c (.int .i64 k)),(7,.c (.int .i64 xs.length)),(0,.c (.I xs)),(1,.fn (.func f) [elA cs])],hpL hp0 ν [])) (fun (k : Nat)=>k ≤ xs.length ∧ ixF p xs 0 = ixF p (xs.drop k) k) (fun (k : Nat)=>xs.length - k) ⟨0,?_,bB hX hN [] ?_ ?_⟩ ?_;(repeat' (first|(with_reducible first|exact clZ|refine bw ?_ ?_|refine bz ?_ ?_|rfl|refine suZ ?_)|refine bA rfl ?_ ?_|exact aP hN _ rfl rfl rfl|exact aQ hN _ rfl rfl rfl|exact ax hN _ rfl rfl rfl (Or.inr rfl)|(refine aR hN _ rfl rfl (by first|exact Or.inr rfl|exact Or.inl rfl) ?_;first|exact aC _|exact aD _)|refine ay hN rfl ?_|refine az hN rfl rfl ?_|exact au hN _ rfl rfl|exact aA hN rfl rfl rfl rfl|(with_reducible first|refine stZ ?_|refine aO ?_)));(try (any_goals (first|(with_reducible rfl)|(refine ah ?_;omega)))))
 · exact ⟨Nat.zero_le _,rfl⟩
 intro k hk
 obtain ⟨hk,he⟩:=hk
 have hx:=fun h=>hF k h
 (repeat' (first|(with_reducible first|(apply hK;clear hK K)|refine stZ ?_|refine aT rfl ?_|((first|apply ae|apply af);clear ae X af Y))|(with_reducible refine aW ?_;first|refine aU rfl ?_|refine aV rfl ?_)|((with_reducible first|((first|refine aZ ?_|refine a8 ?_);intro K hK)|(refine aE ?_;intro X Y ae af)|refine aF ?_);simp (disch:=first|decide|omega|(simp only [List.length_cons,List.length_nil];omega)) only [go_sem,↓aj hN,ak hN,reduceIte,reduceCtorEq,Nat.reduceAdd,Nat.reduceLT,Nat.reduceLeDiff,Nat.reduceEqDiff,Nat.reduceSub])|(with_reducible refine And.intro (fun h=>?_) (fun h=>?_) <;> try (exfalso;omega))|(with_reducible refine aY aI hN ?_)|(refine aB (hx (by omega)) ?_ rfl (fun _=>rfl) ?_)|(with_reducible first|exact aq|refine am ?_ ?_|exact bH _|refine aM ?_|exact aL _|exact bj _ _|refine bi ?_|exact aJ _)|exact aN hN rfl rfl|(refine bh hN rfl ?_;first|exact aC _|exact aD _)|exact aK rfl rfl rfl|(simp only [ba,List.map_nil])|(with_reducible refine bu ?_)|(with_reducible refine And.intro ?_ ?_)|(refine ah ?_;omega)|(exact aX hN (by decide))))
 · (refine bX (.inr rfl) (by first|rfl|(simp (disch:=first|decide|omega|(simp only [List.length_cons,List.length_nil];omega)) only [bG,bK,bN,bO,go_sem,beq_self_eq_true,↓ao,↓aj hN,ak hN,reduceIte,reduceCtorEq,Nat.reduceAdd,Nat.reduceLT,Nat.reduceLeDiff,Nat.reduceEqDiff,Nat.reduceSub];rfl)) ?_)
   rw [he,pe (by omega),ixF,if_pos (by assumption)]
 · (refine ⟨k + 1,⟨?_,?_⟩,bB hX hN [] ?_ ?_⟩;(try any_goals dsimp only);(repeat' (first|(with_reducible first|exact clZ|refine bw ?_ ?_|refine bz ?_ ?_|rfl|refine suZ ?_)|refine bA rfl ?_ ?_|exact aP hN _ rfl rfl rfl|exact aQ hN _ rfl rfl rfl|exact ax hN _ rfl rfl rfl (Or.inr rfl)|(refine aR hN _ rfl rfl (by first|exact Or.inr rfl|exact Or.inl rfl) ?_;first|exact aC _|exact aD _)|refine ay hN rfl ?_|refine az hN rfl rfl ?_|exact au hN _ rfl rfl|exact aA hN rfl rfl rfl rfl|(with_reducible first|refine stZ ?_|refine aO ?_)));(try (any_goals (first|(with_reducible rfl)|(refine ah ?_;omega)))))
   exact ⟨by omega,by rw [he,pe (by omega),ixF,if_neg (by simp [*])]⟩
 · (refine bX (.inr rfl) (by first|rfl|(simp (disch:=first|decide|omega|(simp only [List.length_cons,List.length_nil];omega)) only [bG,bK,bN,bO,go_sem,beq_self_eq_true,↓ao,↓aj hN,ak hN,reduceIte,reduceCtorEq,Nat.reduceAdd,Nat.reduceLT,Nat.reduceLeDiff,Nat.reduceEqDiff,Nat.reduceSub];rfl)) ?_)
   rw [he,List.drop_eq_nil_of_le (by omega)];rfl
theorem j3 (xs : List Int) (hl : xs.length ≤ 1048576) (f : FuncId) (cs : List C) (p : Int → Bool) (hF : ∀ i,i < xs.length → ap Try.prog f [.c (.int .i64 (gi xs i)),elA cs] [] fun _=>.c (.bool (p (gi xs i)))) :
  ap Try.prog 118 [.c (.I xs),.fn (.func f) [elA cs]] [] (fun _=>.c (.bool (tf (∃ i,i < xs.length ∧ p (gi xs i) = true)))):=by
 (refine bf aI Try.func118 rfl rfl (by kernel_rfl) fun hp0 ν hX hN=>?_;simp only [bW,Nat.reduceAdd])
 (repeat' (first|(with_reducible first|(apply hK;clear hK K)|refine stZ ?_|refine aT rfl ?_|((first|apply ae|apply af);clear ae X af Y))|(with_reducible refine aW ?_;first|refine aU rfl ?_|refine aV rfl ?_)|((with_reducible first|((first|refine aZ ?_|refine a8 ?_);intro K hK)|(refine aE ?_;intro X Y ae af)|refine aF ?_);simp (disch:=first|decide|omega|(simp only [List.length_cons,List.length_nil];omega)) only [go_sem,↓aj hN,ak hN,reduceIte,reduceCtorEq,Nat.reduceAdd,Nat.reduceLT,Nat.reduceLeDiff,Nat.reduceEqDiff,Nat.reduceSub])|(with_reducible refine And.intro (fun h=>?_) (fun h=>?_) <;> try (exfalso;omega))|(with_reducible refine aY aI hN ?_)|(refine aB (mO xs hl f cs p hF) ?_ rfl (fun _=>rfl) ?_)|(with_reducible first|exact aq|refine am ?_ ?_|exact bH _|refine aM ?_|exact aL _|exact bj _ _|refine bi ?_|exact aJ _)|exact aN hN rfl rfl|(refine bh hN rfl ?_;first|exact aC _|exact aD _)|exact aK rfl rfl rfl|(simp only [ba,List.map_nil])|(with_reducible refine bu ?_)|(with_reducible refine And.intro ?_ ?_)|(refine ah ?_;omega)|(exact aX hN (by decide))))
 (refine bX (.inr rfl) (by first|rfl|(simp (disch:=first|decide|omega|(simp only [List.length_cons,List.length_nil];omega)) only [bG,bK,bN,bO,go_sem,beq_self_eq_true,↓ao,↓aj hN,ak hN,reduceIte,reduceCtorEq,Nat.reduceAdd,Nat.reduceLT,Nat.reduceLeDiff,Nat.reduceEqDiff,Nat.reduceSub];rfl)) ?_)
 have:=ui p xs 0
 rw [← this]
 by_cases h : 0 ≤ ixF p xs 0
 · rw [bc h];simp [h]
 · rw [aH h];simp [h]
end Go.Proofs.Ythjamlponejffaa
namespace Go.Proofs.Ythjamlponejffaa
set_option linter.unusedVariables false
set_option linter.unusedSimpArgs false
open Go.RowKit
attribute [local irreducible] ap b7 Aw Le
theorem uj {φ : Nat → Loc} {hp : Hp} {w : World} {a : AV} {vs : List Value} (h : AVs φ hp w [a] vs) : ∃ v,vs = [v] ∧ AVC φ hp w a v:=by
 match vs,h with
 | [v], .cons h .nil => exact ⟨v, rfl, h⟩
theorem sg {φ : Nat → Loc} {hp : Hp} {w : World} {a b : AV} {vs : List Value} (h : AVs φ hp w [a,b] vs) : ∃ v u,vs = [v,u] ∧ AVC φ hp w a v ∧ AVC φ hp w b u:=by
 match vs,h with
 | [v, u], .cons h (.cons k .nil) => exact ⟨v, u, rfl, h, k⟩
theorem zh {φ : Nat → Loc} {hp : Hp} {w : World} {a b c : AV} {vs : List Value} (h : AVs φ hp w [a,b,c] vs) : ∃ v u x,vs = [v,u,x] ∧ AVC φ hp w a v ∧ AVC φ hp w b u ∧ AVC φ hp w c x:=by
 match vs,h with
 | [v, u, x], .cons h (.cons k (.cons l .nil)) => exact ⟨v, u, x, rfl, h, k, l⟩
theorem oi (x lo hi : Int) : ap Try.prog 65 [.c (.int .i64 x),.c (.int .i64 lo),.c (.int .i64 hi)] [] (fun _=>.c (.bool (tf (lo ≤ x ∧ x ≤ hi)))) :=
 eX Try.func65 rfl rfl (u:=.bool _) (fun O w=>.bool _) fun φ hp w vs h=>by
  obtain ⟨a,b,c,rfl,h1,h2,h3⟩:=zh h
  obtain rfl:=ch h1
  obtain rfl:=ch h2
  obtain rfl:=ch h3
  exact (mc x lo hi w).mono fun e w' ⟨he,hw⟩=>⟨he,by rw [← hw];exact Below.refl _ _⟩
theorem pf (xs : List Int) (m : Int) : ap Try.prog 112 [.c (.I xs),.c (.int .i64 m)] [] (fun _=>.c (.bool (tf (bD xs m)))) :=
 eX Try.func112 rfl rfl (u:=.bool _) (fun O w=>.bool _) fun φ hp w vs h=>by
  obtain ⟨a,b,rfl,h1,h2⟩:=sg h
  obtain rfl:=ch h2
  obtain ⟨sa,n,c,rfl,hI⟩:=lN (dt h1)
  exact (iI sa n c xs m w hI).mono fun e w' ⟨he,hw⟩=>⟨he,by rw [← hw];exact Below.refl _ _⟩
theorem si (g : Pa) : ap Try.prog 74 [paA g] [] (fun _=>.c (.bool (tf (PaOk g)))) :=
 eX Try.func74 rfl rfl (u:=.bool _) (fun O w=>.bool _) fun φ hp w vs h=>by
  obtain ⟨a,rfl,h1⟩:=uj h
  exact vg a g w (od h1)
theorem iu (g : Pa) : ap Try.prog 39 [paA g] [] (fun _=>.c (.bool (tf (PaOk g)))) :=
 eX Try.func39 rfl rfl (u:=.bool _) (fun O w=>.bool _) fun φ hp w vs h=>by
  obtain ⟨a,rfl,h1⟩:=uj h
  exact (vi a g w (od h1)).mono fun e w' h=>h
theorem pg (xs : List Int) (m : Int) (h0 : 0 ≤ m) (h1 : m ≤ 1048576) : ap Try.prog 68 [.c (.I xs),.c (.int .i64 m)] [] (fun _=>.c (.bool (tf (bD xs m)))) :=
 eX Try.func68 rfl rfl (u:=.bool _) (fun O w=>.bool _) fun φ hp w vs h=>by
  obtain ⟨a,b,rfl,h1,h2⟩:=sg h
  obtain rfl:=ch h2
  obtain ⟨sa,n,c,rfl,hI⟩:=lN (dt h1)
  exact (iJ sa n c xs m w hI h0 (by omega)).mono fun e w' h=>h.bb
theorem ph (xs : List Int) (m : Int) : ap Try.prog 29 [.c (.I xs),.c (.int .i64 m)] [] (fun _=>.c (.bool (tf ((0 ≤ m ∧ m ≤ 256) ∧ bD xs m)))):=by
 by_cases hm : 0 ≤ m ∧ m ≤ 256
 · rw [show tf ((0 ≤ m ∧ m ≤ 256) ∧ bD xs m) = tf (bD xs m) from cM ⟨fun h=>h.2,fun h=>⟨hm,h⟩⟩]
   obtain ⟨m0,m1⟩:=hm
   (refine bf aI Try.func29 rfl rfl (by kernel_rfl) fun hp0 ν hX hN=>?_;simp only [bW,Nat.reduceAdd])
   (repeat' (first|(with_reducible first|(apply hK;clear hK K)|refine stZ ?_|refine aT rfl ?_|((first|apply ae|apply af);clear ae X af Y))|(with_reducible refine aW ?_;first|refine aU rfl ?_|refine aV rfl ?_)|(with_reducible refine bv ?_;first|refine bd rfl rfl rfl rfl ?_|refine bt rfl rfl rfl ?_|refine bI rfl rfl rfl rfl ?_)|((first|(with_reducible first|((first|refine aZ ?_|refine a8 ?_);intro K hK)|(refine aE ?_;intro X Y ae af)|refine aF ?_)|(with_reducible refine bv ?_;refine be rfl rfl fun X Y ae af=>?_));simp (disch:=first|decide|omega|(simp only [List.length_cons,List.length_nil];omega)) only [go_sem,↓aj hN,ak hN,reduceIte,reduceCtorEq,Nat.reduceAdd,Nat.reduceLT,Nat.reduceLeDiff,Nat.reduceEqDiff,Nat.reduceSub])|(with_reducible refine And.intro (fun h=>?_) (fun h=>?_) <;> try (exfalso;omega))|(with_reducible refine aY aI hN ?_)|(refine aB (oi ?_ ?_ ?_) ?_ rfl (fun _=>rfl) ?_)|(refine aB (pg xs m m0 (by omega)) ?_ rfl (fun _=>rfl) ?_)|(with_reducible first|exact aq|refine am ?_ ?_|exact bH _|refine aM ?_|exact aL _|exact bj _ _|refine bi ?_|exact aJ _)|exact aN hN rfl rfl|(refine bh hN rfl ?_;first|exact aC _|exact aD _)|exact aK rfl rfl rfl|(simp only [ba,List.map_nil])|(with_reducible refine bu ?_)|(with_reducible refine And.intro ?_ ?_)|(refine ah ?_;omega)|(exact aX hN (by decide))))
   all_goals (refine bX (.inr rfl) (by first|rfl|(simp (disch:=first|decide|omega|(simp only [List.length_cons,List.length_nil];omega)) only [bG,bK,bN,bO,go_sem,beq_self_eq_true,↓ao,↓aj hN,ak hN,reduceIte,reduceCtorEq,Nat.reduceAdd,Nat.reduceLT,Nat.reduceLeDiff,Nat.reduceEqDiff,Nat.reduceSub];rfl)) ?_)
   all_goals rfl
 · rw [aH (fun h=>hm h.1)]
   (refine bf aI Try.func29 rfl rfl (by kernel_rfl) fun hp0 ν hX hN=>?_;simp only [bW,Nat.reduceAdd])
   (repeat' (first|(with_reducible first|(apply hK;clear hK K)|refine stZ ?_|refine aT rfl ?_|((first|apply ae|apply af);clear ae X af Y))|(with_reducible refine aW ?_;first|refine aU rfl ?_|refine aV rfl ?_)|(with_reducible refine bv ?_;first|refine bd rfl rfl rfl rfl ?_|refine bt rfl rfl rfl ?_|refine bI rfl rfl rfl rfl ?_)|((first|(with_reducible first|((first|refine aZ ?_|refine a8 ?_);intro K hK)|(refine aE ?_;intro X Y ae af)|refine aF ?_)|(with_reducible refine bv ?_;refine be rfl rfl fun X Y ae af=>?_));simp (disch:=first|decide|omega|(simp only [List.length_cons,List.length_nil];omega)) only [go_sem,↓aj hN,ak hN,reduceIte,reduceCtorEq,Nat.reduceAdd,Nat.reduceLT,Nat.reduceLeDiff,Nat.reduceEqDiff,Nat.reduceSub])|(with_reducible refine And.intro (fun h=>?_) (fun h=>?_) <;> try (exfalso;omega))|(with_reducible refine aY aI hN ?_)|(refine aB (oi ?_ ?_ ?_) ?_ rfl (fun _=>rfl) ?_)|(with_reducible first|exact aq|refine am ?_ ?_|exact bH _|refine aM ?_|exact aL _|exact bj _ _|refine bi ?_|exact aJ _)|exact aN hN rfl rfl|(refine bh hN rfl ?_;first|exact aC _|exact aD _)|exact aK rfl rfl rfl|(simp only [ba,List.map_nil])|(with_reducible refine bu ?_)|(with_reducible refine And.intro ?_ ?_)|(refine ah ?_;omega)|(exact aX hN (by decide))))
   all_goals (refine bX (.inr rfl) (by first|rfl|(simp (disch:=first|decide|omega|(simp only [List.length_cons,List.length_nil];omega)) only [bG,bK,bN,bO,go_sem,beq_self_eq_true,↓ao,↓aj hN,ak hN,reduceIte,reduceCtorEq,Nat.reduceAdd,Nat.reduceLT,Nat.reduceLeDiff,Nat.reduceEqDiff,Nat.reduceSub];rfl)) ?_)
   all_goals first|rfl|(exfalso;omega)
theorem fq (g : Pa) : ap Try.prog 50 [paA g] [] (fun _=>.c (.bool (tf (dA g)))):=by
 (refine bf aI Try.func50 rfl rfl (by kernel_rfl) fun hp0 ν hX hN=>?_;simp only [bW,Nat.reduceAdd])
 (repeat' (first|(with_reducible first|(apply hK;clear hK K)|refine stZ ?_|refine aT rfl ?_|((first|apply ae|apply af);clear ae X af Y))|(with_reducible refine aW ?_;first|refine aU rfl ?_|refine aV rfl ?_)|(with_reducible refine bv ?_;first|refine bd rfl rfl rfl rfl ?_|refine bt rfl rfl rfl ?_|refine bI rfl rfl rfl rfl ?_)|((first|(with_reducible first|((first|refine aZ ?_|refine a8 ?_);intro K hK)|(refine aE ?_;intro X Y ae af)|refine aF ?_)|(with_reducible refine bv ?_;refine be rfl rfl fun X Y ae af=>?_));simp (disch:=first|decide|omega|(simp only [List.length_cons,List.length_nil];omega)) only [go_sem,↓aj hN,ak hN,reduceIte,reduceCtorEq,Nat.reduceAdd,Nat.reduceLT,Nat.reduceLeDiff,Nat.reduceEqDiff,Nat.reduceSub])|(with_reducible refine And.intro (fun h=>?_) (fun h=>?_) <;> try (exfalso;omega))|(with_reducible refine aY aI hN ?_)|(refine aB (si ?_) ?_ rfl (fun _=>rfl) ?_)|(with_reducible first|exact aq|refine am ?_ ?_|exact bH _|refine aM ?_|exact aL _|exact bj _ _|refine bi ?_|exact aJ _)|exact aN hN rfl rfl|(refine bh hN rfl ?_;first|exact aC _|exact aD _)|exact aK rfl rfl rfl|(simp only [ba,List.map_nil])|(with_reducible refine bu ?_)|(with_reducible refine And.intro ?_ ?_)|(refine ah ?_;omega)|(exact aX hN (by decide))))
 all_goals (refine bX (.inr rfl) (by first|rfl|(simp (disch:=first|decide|omega|(simp only [List.length_cons,List.length_nil];omega)) only [bG,bK,bN,bO,go_sem,beq_self_eq_true,↓ao,↓aj hN,ak hN,reduceIte,reduceCtorEq,Nat.reduceAdd,Nat.reduceLT,Nat.reduceLeDiff,Nat.reduceEqDiff,Nat.reduceSub];rfl)) ?_)
 · exact congrArg C.bool (rP ⟨fun h'=>⟨by assumption,by omega⟩,fun h'=>by have:=h'.2;omega⟩)
 · exact congrArg C.bool (aH fun h'=>absurd h'.1 (by assumption)).symm
theorem sj (a : Ar) : ap Try.prog 101 [arA a] [] (fun _=>.c (.int .i64 a.own.length)):=by
 (refine bf aI Try.func101 rfl rfl (by kernel_rfl) fun hp0 ν hX hN=>?_;simp only [bW,Nat.reduceAdd])
 (repeat' (first|(with_reducible first|(apply hK;clear hK K)|refine stZ ?_|refine aT rfl ?_|((first|apply ae|apply af);clear ae X af Y))|(with_reducible refine aW ?_;first|refine aU rfl ?_|refine aV rfl ?_)|((with_reducible first|((first|refine aZ ?_|refine a8 ?_);intro K hK)|(refine aE ?_;intro X Y ae af)|refine aF ?_);simp (disch:=first|decide|omega|(simp only [List.length_cons,List.length_nil];omega)) only [go_sem,↓aj hN,ak hN,reduceIte,reduceCtorEq,Nat.reduceAdd,Nat.reduceLT,Nat.reduceLeDiff,Nat.reduceEqDiff,Nat.reduceSub])|(with_reducible refine And.intro (fun h=>?_) (fun h=>?_) <;> try (exfalso;omega))|(with_reducible refine aY aI hN ?_)|(with_reducible refine And.intro ?_ ?_)|(refine ah ?_;omega)|(exact aX hN (by decide))))
 (refine bX (.inr rfl) (by first|rfl|(simp (disch:=first|decide|omega|(simp only [List.length_cons,List.length_nil];omega)) only [bG,bK,bN,bO,go_sem,beq_self_eq_true,↓ao,↓aj hN,ak hN,reduceIte,reduceCtorEq,Nat.reduceAdd,Nat.reduceLT,Nat.reduceLeDiff,Nat.reduceEqDiff,Nat.reduceSub];rfl)) ?_)
 rfl
end Go.Proofs.Ythjamlponejffaa
namespace Go.Proofs.Ythjamlponejffaa
set_option linter.unusedVariables false
set_option linter.unusedSimpArgs false
open Go.RowKit
attribute [local irreducible] ap b7 Aw Le
theorem pi (g : Pa) (xs : List Int) (hB : Bnd xs g.prio.length) : ap Try.prog 61 [paA g,.c (.I xs)] [] (fun _=>.c (.int .i64 (dr g.prio xs xs.length))) :=
 eX Try.func61 rfl rfl (u:=.int .i64 _) (fun O w=>.int _ _) fun φ hp w vs h=>by
  obtain ⟨a,b,rfl,h1,h2⟩:=sg h
  exact tx a b g xs w (od h1) (lN (dt h2)) hB
theorem j4 (x : Int) : ap Try.prog 90 [.c (.int .i64 x)] [] (fun _=>.c (.bool (x == 0 || x == 1))):=by
 (refine bf aI Try.func90 rfl rfl (by kernel_rfl) fun hp0 ν hX hN=>?_;simp only [bW,Nat.reduceAdd])
 (repeat' (first|(with_reducible first|(apply hK;clear hK K)|refine stZ ?_|refine aT rfl ?_|((first|apply ae|apply af);clear ae X af Y))|(with_reducible refine aW ?_;first|refine aU rfl ?_|refine aV rfl ?_)|(with_reducible refine bv ?_;first|refine bd rfl rfl rfl rfl ?_|refine bt rfl rfl rfl ?_|refine bI rfl rfl rfl rfl ?_)|((first|(with_reducible first|((first|refine aZ ?_|refine a8 ?_);intro K hK)|(refine aE ?_;intro X Y ae af)|refine aF ?_)|(with_reducible refine bv ?_;refine be rfl rfl fun X Y ae af=>?_));simp (disch:=first|decide|omega|(simp only [List.length_cons,List.length_nil];omega)) only [go_sem,↓aj hN,ak hN,reduceIte,reduceCtorEq,Nat.reduceAdd,Nat.reduceLT,Nat.reduceLeDiff,Nat.reduceEqDiff,Nat.reduceSub])|(with_reducible refine And.intro (fun h=>?_) (fun h=>?_) <;> try (exfalso;omega))|(with_reducible refine aY aI hN ?_)|(with_reducible refine And.intro ?_ ?_)|(refine ah ?_;omega)|(exact aX hN (by decide))))
 all_goals (refine bX (.inr rfl) (by first|rfl|(simp (disch:=first|decide|omega|(simp only [List.length_cons,List.length_nil];omega)) only [bG,bK,bN,bO,go_sem,beq_self_eq_true,↓ao,↓aj hN,ak hN,reduceIte,reduceCtorEq,Nat.reduceAdd,Nat.reduceLT,Nat.reduceLeDiff,Nat.reduceEqDiff,Nat.reduceSub];rfl)) ?_)
 all_goals simp [*]
noncomputable def mkT (n : Nat) (xs : List Int) (k : Nat) : List Bool:=mks n fun v=>∃ j,j < k ∧ gi xs j = v
theorem uk (n : Nat) (xs : List Int) (k : Nat) : (mkT n xs k).length = n:=ep _ _
theorem sk (n : Nat) (xs : List Int) : mkT n xs 0 = List.replicate n false:=by
 rw [← cX n fun _=>false]
 exact cV fun v hv=>by rw [aH (by rintro ⟨j,h,_⟩;omega)];simp
theorem sm {n : Nat} {xs : List Int} {k : Nat} (h0 : 0 ≤ gi xs k) (h1 : gi xs k < n) : mkT n xs (k + 1) = (mkT n xs k).set (gi xs k).toNat true:=by
 unfold mkT mks
 rw [l9 (by omega)]
 refine cV fun v hv=>?_
 by_cases e : v = (gi xs k).toNat
 · rw [if_pos e,bc ⟨k,by omega,by omega⟩]
 · rw [if_neg e]
   refine cM ⟨fun ⟨j,h2,h3⟩=>⟨j,?_,h3⟩,fun ⟨j,h2,h3⟩=>⟨j,by omega,h3⟩⟩
   rcases Nat.lt_or_ge j k with h|h
   · exact h
   · have : j = k:=by omega
     subst this;omega
theorem ul (n : Nat) (xs : List Int) : mkT n xs xs.length = mks n fun v=>(v : Int) ∈ xs:=by
 refine pN fun v hv=>⟨fun ⟨j,h1,h2⟩=>?_,fun h=>?_⟩
 · rw [← h2];exact cy h1
 · obtain ⟨j,h1,h2⟩:=ck h;exact ⟨j,h1,h2⟩
theorem mP (a : Ar) (xs : List Int) (hB : Bnd xs a.own.length) (hn : a.own.length ≤ 256) (hx : xs.length ≤ 1048576) : ap Try.prog 117 [arA a,.c (.I xs)] [.arr 4 .yes (.B (mks a.own.length fun v=>(v : Int) ∈ xs))] (fun ns=>.sl (ns.getD 0 0)):=by
 (refine bf aI Try.func117 rfl rfl (by kernel_rfl) fun hp0 ν hX hN=>?_;simp only [bW,Nat.reduceAdd])
 (repeat' (first|(with_reducible first|(apply hK;clear hK K)|refine stZ ?_|refine aT rfl ?_|((first|apply ae|apply af);clear ae X af Y))|(with_reducible refine aW ?_;first|refine aU rfl ?_|refine aV rfl ?_)|((with_reducible first|((first|refine aZ ?_|refine a8 ?_);intro K hK)|(refine aE ?_;intro X Y ae af)|refine aF ?_);simp (disch:=first|decide|omega|(simp only [List.length_cons,List.length_nil];omega)) only [go_sem,↓aj hN,ak hN,reduceIte,reduceCtorEq,Nat.reduceAdd,Nat.reduceLT,Nat.reduceLeDiff,Nat.reduceEqDiff,Nat.reduceSub])|(with_reducible refine And.intro (fun h=>?_) (fun h=>?_) <;> try (exfalso;omega))|(with_reducible refine aY aI hN ?_)|(with_reducible refine And.intro ?_ ?_)|(refine ah ?_;omega)|(exact aX hN (by decide))))
 (refine bT (fun (k : Nat)=>(tmL [(14,.c (.int .i64 k)),(13,.c (.int .i64 xs.length)),(12,.c (.I xs)),(5,.sl (ν 1))],hpL hp0 ν [.dead,.arr 4 .yes (.B (mkT a.own.length xs k))])) (fun (k : Nat)=>k ≤ xs.length) (fun (k : Nat)=>xs.length - k) ⟨0,?_,bB hX hN [] ?_ ?_⟩ ?_;(repeat' (first|(with_reducible first|exact clZ|refine bw ?_ ?_|refine bz ?_ ?_|rfl|refine suZ ?_)|refine bA rfl ?_ ?_|exact aP hN _ rfl rfl rfl|exact aQ hN _ rfl rfl rfl|exact ax hN _ rfl rfl rfl (Or.inr rfl)|(refine aR hN _ rfl rfl (by first|exact Or.inr rfl|exact Or.inl rfl) ?_;first|exact aC _|exact aD _)|refine ay hN rfl ?_|refine az hN rfl rfl ?_|exact au hN _ rfl rfl|exact aA hN rfl rfl rfl rfl|(with_reducible first|refine stZ ?_|refine aO ?_)));(try (any_goals (first|(with_reducible rfl)|(refine ah ?_;omega)))))
 · exact sk _ _
 intro k hk
 have hb:=hB k
 have hl:=uk a.own.length xs k
 (repeat' (first|(with_reducible first|(apply hK;clear hK K)|refine stZ ?_|refine aT rfl ?_|((first|apply ae|apply af);clear ae X af Y))|(with_reducible refine aW ?_;first|refine aU rfl ?_|refine aV rfl ?_)|((with_reducible first|((first|refine aZ ?_|refine a8 ?_);intro K hK)|(refine aE ?_;intro X Y ae af)|refine aF ?_);simp (disch:=first|decide|omega|(simp only [List.length_cons,List.length_nil];omega)) only [go_sem,↓aj hN,ak hN,reduceIte,reduceCtorEq,Nat.reduceAdd,Nat.reduceLT,Nat.reduceLeDiff,Nat.reduceEqDiff,Nat.reduceSub])|(with_reducible refine And.intro (fun h=>?_) (fun h=>?_) <;> try (exfalso;omega))|(with_reducible refine aY aI hN ?_)|(with_reducible refine And.intro ?_ ?_)|(refine ah ?_;omega)|(exact aX hN (by decide))))
 · (refine ⟨k + 1,⟨?_,?_⟩,bB hX hN [] ?_ ?_⟩;(try any_goals dsimp only);(repeat' (first|(with_reducible first|exact clZ|refine bw ?_ ?_|refine bz ?_ ?_|rfl|refine suZ ?_)|refine bA rfl ?_ ?_|exact aP hN _ rfl rfl rfl|exact aQ hN _ rfl rfl rfl|exact ax hN _ rfl rfl rfl (Or.inr rfl)|(refine aR hN _ rfl rfl (by first|exact Or.inr rfl|exact Or.inl rfl) ?_;first|exact aC _|exact aD _)|refine ay hN rfl ?_|refine az hN rfl rfl ?_|exact au hN _ rfl rfl|exact aA hN rfl rfl rfl rfl|(with_reducible first|refine stZ ?_|refine aO ?_)));(try (any_goals (first|(with_reducible rfl)|(refine ah ?_;omega)))))
   exact sm (hB k (by omega)).1 (hB k (by omega)).2
 · (refine cR hN (i:=1) (.inr rfl) (by first|rfl|(simp (disch:=first|decide|omega|(simp only [List.length_cons,List.length_nil];omega)) only [bG,bK,bN,bO,go_sem,beq_self_eq_true,↓ao,↓aj hN,ak hN,reduceIte,reduceCtorEq,Nat.reduceAdd,Nat.reduceLT,Nat.reduceLeDiff,Nat.reduceEqDiff,Nat.reduceSub];rfl)) rfl ?_ rfl)
   rw [show k = xs.length by omega,ul]
end Go.Proofs.Ythjamlponejffaa
namespace Go.Proofs.Ythjamlponejffaa
set_option linter.unusedVariables false
set_option linter.unusedSimpArgs false
open Go.RowKit
attribute [local irreducible] ap b7 Aw Le
def fL (a : Ar) (xs : List Int) : Prop:=bD xs a.own.length ∧ ∀ k,k < xs.length → ∃ i,i < (gr a.nxt (gi xs k).toNat).length ∧ gi (gr a.nxt (gi xs k).toNat) i ∈ xs
def iv (g : Pa) (xs : List Int) (who d mine yours : Int) : Prop:=fL g.ar xs ∧ (who = 0 ∨ who = 1) ∧ 0 ≤ d ∧ d ≤ 41 ∧ d.tmod 2 = who ∧ dr g.prio xs xs.length ≤ d ∧ 0 ≤ mine ∧ mine ≤ 12 ∧ 0 ≤ yours ∧ yours ≤ 12
theorem sr {n : Nat} {xs : List Int} {u : Int} (h0 : 0 ≤ u) (h1 : u < n) : gb (mks n fun v=>(v : Int) ∈ xs) u.toNat = tf (u ∈ xs):=by
 rw [fb _ (by omega)]
 exact cM (by rw [Int.toNat_of_nonneg h0])
theorem qB (ws : List Bool) (u : Int) (h0 : 0 ≤ u) (h1 : u < ws.length) : ap Try.prog 119 [.c (.int .i64 u),elA [.B ws]] [] (fun _=>.c (.bool (gb ws u.toNat))):=by
 (refine bf aI Try.func119 rfl rfl (by kernel_rfl) fun hp0 ν hX hN=>?_;simp only [bW,Nat.reduceAdd])
 (repeat' (first|(with_reducible first|(apply hK;clear hK K)|refine stZ ?_|refine aT rfl ?_|((first|apply ae|apply af);clear ae X af Y))|(with_reducible refine aW ?_;first|refine aU rfl ?_|refine aV rfl ?_)|((with_reducible first|((first|refine aZ ?_|refine a8 ?_);intro K hK)|(refine aE ?_;intro X Y ae af)|refine aF ?_);simp (disch:=first|decide|omega|(simp only [List.length_cons,List.length_nil];omega)) only [go_sem,↓aj hN,ak hN,reduceIte,reduceCtorEq,Nat.reduceAdd,Nat.reduceLT,Nat.reduceLeDiff,Nat.reduceEqDiff,Nat.reduceSub])|(with_reducible refine And.intro (fun h=>?_) (fun h=>?_) <;> try (exfalso;omega))|(with_reducible refine aY aI hN ?_)|(with_reducible refine And.intro ?_ ?_)|(refine ah ?_;omega)|(exact aX hN (by decide))))
 (refine bX (.inr rfl) (by first|rfl|(simp (disch:=first|decide|omega|(simp only [List.length_cons,List.length_nil];omega)) only [bG,bK,bN,bO,go_sem,beq_self_eq_true,↓ao,↓aj hN,ak hN,reduceIte,reduceCtorEq,Nat.reduceAdd,Nat.reduceLT,Nat.reduceLeDiff,Nat.reduceEqDiff,Nat.reduceSub];rfl)) ?_)
 rfl
theorem mQ (a : Ar) (hA : ArOk a) (xs : List Int) : ap Try.prog 89 [arA a,.c (.I xs)] [] (fun _=>.c (.bool (tf (fL a xs)))):=by
 by_cases hs : bD xs a.own.length
 · have hB:=hs.bnd
   have hl:=cG hs (by omega)
   have hn:=hA.le
   have hln:=hA.len
   (refine bf aI Try.func89 rfl rfl (by kernel_rfl) fun hp0 ν hX hN=>?_;simp only [bW,Nat.reduceAdd])
   (repeat' (first|(with_reducible first|(apply hK;clear hK K)|refine stZ ?_|refine aT rfl ?_|((first|apply ae|apply af);clear ae X af Y))|(with_reducible refine aW ?_;first|refine aU rfl ?_|refine aV rfl ?_)|((with_reducible first|((first|refine aZ ?_|refine a8 ?_);intro K hK)|(refine aE ?_;intro X Y ae af)|refine aF ?_);simp (disch:=first|decide|omega|(simp only [List.length_cons,List.length_nil];omega)) only [go_sem,↓aj hN,ak hN,reduceIte,reduceCtorEq,Nat.reduceAdd,Nat.reduceLT,Nat.reduceLeDiff,Nat.reduceEqDiff,Nat.reduceSub])|(with_reducible refine And.intro (fun h=>?_) (fun h=>?_) <;> try (exfalso;omega))|(with_reducible refine aY aI hN ?_)|(refine aB (sj a) ?_ rfl (fun _=>rfl) ?_)|(refine aB (pf xs ?_) ?_ rfl (fun _=>rfl) ?_)|(refine aB (mP a xs hB hn (by omega)) ?_ rfl (fun _=>rfl) ?_)|(with_reducible first|exact aq|refine am ?_ ?_|exact bH _|refine aM ?_|exact aL _|exact bj _ _|refine bi ?_|exact aJ _)|exact aN hN rfl rfl|(refine bh hN rfl ?_;first|exact aC _|exact aD _)|exact aK rfl rfl rfl|(simp only [ba,List.map_nil])|(with_reducible refine bu ?_)|(with_reducible refine And.intro ?_ ?_)|(refine ah ?_;omega)|(exact aX hN (by decide))))
   · exact absurd hs (by assumption)
   (refine bT (fun (k : Nat)=>(tmL [(18,.c (.int .i64 k)),(17,.c (.int .i64 xs.length)),(16,.c (.I xs)),(5,.ad (ν 2) 0),(2,.ad (ν 0) 0)],hpL hp0 ν [.box [.c (.I a.own),.c (.R a.nxt)],.dead,.box [.c (.B (mks a.own.length fun v=>(v : Int) ∈ xs))]])) (fun (k : Nat)=>k ≤ xs.length ∧ ∀ j,j < k → ∃ i,i < (gr a.nxt (gi xs j).toNat).length ∧ gi (gr a.nxt (gi xs j).toNat) i ∈ xs) (fun (k : Nat)=>xs.length - k) ⟨0,?_,bB hX hN [] ?_ ?_⟩ ?_;(repeat' (first|(with_reducible first|exact clZ|refine bw ?_ ?_|refine bz ?_ ?_|rfl|refine suZ ?_)|refine bA rfl ?_ ?_|exact aP hN _ rfl rfl rfl|exact aQ hN _ rfl rfl rfl|exact ax hN _ rfl rfl rfl (Or.inr rfl)|(refine aR hN _ rfl rfl (by first|exact Or.inr rfl|exact Or.inl rfl) ?_;first|exact aC _|exact aD _)|refine ay hN rfl ?_|refine az hN rfl rfl ?_|exact au hN _ rfl rfl|exact aA hN rfl rfl rfl rfl|(with_reducible first|refine stZ ?_|refine aO ?_)));(try (any_goals (first|(with_reducible rfl)|(refine ah ?_;omega)))))
   · exact ⟨Nat.zero_le _,fun j hj=>by omega⟩
   intro k hk
   obtain ⟨hk,hI⟩:=hk
   have hb:=hB k
   have hvl : k < xs.length → (gr a.nxt (gi xs k).toNat).length ≤ 16:=fun h=>(hA.vert _ (by have:=hB k h;omega)).2.2.2.1
   have hv : ∀ i,k < xs.length → i < (gr a.nxt (gi xs k).toNat).length → 0 ≤ gi (gr a.nxt (gi xs k).toNat) i ∧ gi (gr a.nxt (gi xs k).toNat) i < a.own.length:=fun i h hi=>by
    have h5:=(hA.vert (gi xs k).toNat (by have:=hB k h;omega)).2.2.2.2
    exact h5.bnd i hi
   have hm : (mks a.own.length fun v=>(v : Int) ∈ xs).length = a.own.length:=ep _ _
   (repeat' (first|(with_reducible first|(apply hK;clear hK K)|refine stZ ?_|refine aT rfl ?_|((first|apply ae|apply af);clear ae X af Y))|(with_reducible refine aW ?_;first|refine aU rfl ?_|refine aV rfl ?_)|((with_reducible first|((first|refine aZ ?_|refine a8 ?_);intro K hK)|(refine aE ?_;intro X Y ae af)|refine aF ?_);simp (disch:=first|decide|omega|(simp only [List.length_cons,List.length_nil];omega)) only [go_sem,↓aj hN,ak hN,reduceIte,reduceCtorEq,Nat.reduceAdd,Nat.reduceLT,Nat.reduceLeDiff,Nat.reduceEqDiff,Nat.reduceSub])|(with_reducible refine And.intro (fun h=>?_) (fun h=>?_) <;> try (exfalso;omega))|(with_reducible refine aY aI hN ?_)|(refine aB (j3 (gr a.nxt (gi xs k).toNat) (by have:=hvl (by omega);omega) _ [.B (mks a.own.length fun v=>(v : Int) ∈ xs)] (fun u=>gb (mks a.own.length fun v=>(v : Int) ∈ xs) u.toNat) (fun i hi=>qB _ _ (hv i (by omega) hi).1 (by rw [hm];exact (hv i (by omega) hi).2))) ?_ rfl (fun _=>rfl) ?_)|(with_reducible first|exact aq|refine am ?_ ?_|exact bH _|refine aM ?_|exact aL _|exact bj _ _|refine bi ?_|exact aJ _)|exact aN hN rfl rfl|(refine bh hN rfl ?_;first|exact aC _|exact aD _)|exact aK rfl rfl rfl|(simp only [ba,List.map_nil])|(with_reducible refine bu ?_)|(with_reducible refine And.intro ?_ ?_)|(refine ah ?_;omega)|(exact aX hN (by decide))))
   · (refine bX (.inr rfl) (by first|rfl|(simp (disch:=first|decide|omega|(simp only [List.length_cons,List.length_nil];omega)) only [bG,bK,bN,bO,go_sem,beq_self_eq_true,↓ao,↓aj hN,ak hN,reduceIte,reduceCtorEq,Nat.reduceAdd,Nat.reduceLT,Nat.reduceLeDiff,Nat.reduceEqDiff,Nat.reduceSub];rfl)) ?_)
     have h1:=h
     rw [aH (show ¬ fL a xs from fun h=>by
      obtain ⟨i,hi,hm'⟩:=h.2 k (by omega)
      refine h1 ⟨i,hi,?_⟩
      rw [sr (hv i (by omega) hi).1 (hv i (by omega) hi).2]
      exact bc hm')]
   · (refine ⟨k + 1,⟨?_,?_⟩,bB hX hN [] ?_ ?_⟩;(try any_goals dsimp only);(repeat' (first|(with_reducible first|exact clZ|refine bw ?_ ?_|refine bz ?_ ?_|rfl|refine suZ ?_)|refine bA rfl ?_ ?_|exact aP hN _ rfl rfl rfl|exact aQ hN _ rfl rfl rfl|exact ax hN _ rfl rfl rfl (Or.inr rfl)|(refine aR hN _ rfl rfl (by first|exact Or.inr rfl|exact Or.inl rfl) ?_;first|exact aC _|exact aD _)|refine ay hN rfl ?_|refine az hN rfl rfl ?_|exact au hN _ rfl rfl|exact aA hN rfl rfl rfl rfl|(with_reducible first|refine stZ ?_|refine aO ?_)));(try (any_goals (first|(with_reducible rfl)|(refine ah ?_;omega)))))
     have h1:=h
     refine ⟨by omega,fun j hj=>?_⟩
     rcases Nat.lt_or_ge j k with h|h
     · exact hI j h
     · have : j = k:=by omega
       subst this
       obtain ⟨i,hi,hm'⟩:=h1
       rw [sr (hv i (by omega) hi).1 (hv i (by omega) hi).2] at hm'
       exact ⟨i,hi,jF.1 hm'⟩
   · (refine bX (.inr rfl) (by first|rfl|(simp (disch:=first|decide|omega|(simp only [List.length_cons,List.length_nil];omega)) only [bG,bK,bN,bO,go_sem,beq_self_eq_true,↓ao,↓aj hN,ak hN,reduceIte,reduceCtorEq,Nat.reduceAdd,Nat.reduceLT,Nat.reduceLeDiff,Nat.reduceEqDiff,Nat.reduceSub];rfl)) ?_)
     rw [bc (show fL a xs from ⟨hs,fun j hj=>hI j (by omega)⟩)]
 · rw [aH (fun h=>hs h.1)]
   (refine bf aI Try.func89 rfl rfl (by kernel_rfl) fun hp0 ν hX hN=>?_;simp only [bW,Nat.reduceAdd])
   (repeat' (first|(with_reducible first|(apply hK;clear hK K)|refine stZ ?_|refine aT rfl ?_|((first|apply ae|apply af);clear ae X af Y))|(with_reducible refine aW ?_;first|refine aU rfl ?_|refine aV rfl ?_)|((with_reducible first|((first|refine aZ ?_|refine a8 ?_);intro K hK)|(refine aE ?_;intro X Y ae af)|refine aF ?_);simp (disch:=first|decide|omega|(simp only [List.length_cons,List.length_nil];omega)) only [go_sem,↓aj hN,ak hN,reduceIte,reduceCtorEq,Nat.reduceAdd,Nat.reduceLT,Nat.reduceLeDiff,Nat.reduceEqDiff,Nat.reduceSub])|(with_reducible refine And.intro (fun h=>?_) (fun h=>?_) <;> try (exfalso;omega))|(with_reducible refine aY aI hN ?_)|(refine aB (sj a) ?_ rfl (fun _=>rfl) ?_)|(refine aB (pf xs ?_) ?_ rfl (fun _=>rfl) ?_)|(with_reducible first|exact aq|refine am ?_ ?_|exact bH _|refine aM ?_|exact aL _|exact bj _ _|refine bi ?_|exact aJ _)|exact aN hN rfl rfl|(refine bh hN rfl ?_;first|exact aC _|exact aD _)|exact aK rfl rfl rfl|(simp only [ba,List.map_nil])|(with_reducible refine bu ?_)|(with_reducible refine And.intro ?_ ?_)|(refine ah ?_;omega)|(exact aX hN (by decide))))
   · (refine bX (.inr rfl) (by first|rfl|(simp (disch:=first|decide|omega|(simp only [List.length_cons,List.length_nil];omega)) only [bG,bK,bN,bO,go_sem,beq_self_eq_true,↓ao,↓aj hN,ak hN,reduceIte,reduceCtorEq,Nat.reduceAdd,Nat.reduceLT,Nat.reduceLeDiff,Nat.reduceEqDiff,Nat.reduceSub];rfl)) ?_)
     rfl
   · exact absurd (by assumption) hs
set_option maxHeartbeats 4000000 in
theorem iT (g : Pa) (hg : PaOk g) (xs : List Int) (who d mine yours : Int) : ap Try.prog 51 [paA g,.c (.I xs),.c (.int .i64 who),.c (.int .i64 d),.c (.int .i64 mine),.c (.int .i64 yours)] [] (fun _=>.c (.bool (tf (iv g xs who d mine yours)))):=by
 have hA:=hg.ar
 by_cases hG : fL g.ar xs
 · have hB : Bnd xs g.prio.length:=by rw [hg.len];exact hG.1.bnd
   (refine bf aI Try.func51 rfl rfl (by kernel_rfl) fun hp0 ν hX hN=>?_;simp only [bW,Nat.reduceAdd])
   (repeat' (first|(with_reducible first|(apply hK;clear hK K)|refine stZ ?_|refine aT rfl ?_|((first|apply ae|apply af);clear ae X af Y))|(with_reducible refine aW ?_;first|refine aU rfl ?_|refine aV rfl ?_)|(with_reducible refine bv ?_;first|refine bd rfl rfl rfl rfl ?_|refine bt rfl rfl rfl ?_|refine bI rfl rfl rfl rfl ?_)|((first|(with_reducible first|((first|refine aZ ?_|refine a8 ?_);intro K hK)|(refine aE ?_;intro X Y ae af)|refine aF ?_)|(with_reducible refine bv ?_;refine be rfl rfl fun X Y ae af=>?_));simp (disch:=first|decide|omega|(simp only [List.length_cons,List.length_nil];omega)) only [go_sem,↓aj hN,ak hN,reduceIte,reduceCtorEq,Nat.reduceAdd,Nat.reduceLT,Nat.reduceLeDiff,Nat.reduceEqDiff,Nat.reduceSub])|(with_reducible refine And.intro (fun h=>?_) (fun h=>?_) <;> try (exfalso;omega))|(with_reducible refine aY aI hN ?_)|(refine aB (mQ g.ar hA xs) ?_ rfl (fun _=>rfl) ?_)|(refine aB (j4 ?_) ?_ rfl (fun _=>rfl) ?_)|(refine aB (pi g xs hB) ?_ rfl (fun _=>rfl) ?_)|(with_reducible first|exact aq|refine am ?_ ?_|exact bH _|refine aM ?_|exact aL _|exact bj _ _|refine bi ?_|exact aJ _)|exact aN hN rfl rfl|(refine bh hN rfl ?_;first|exact aC _|exact aD _)|exact aK rfl rfl rfl|(simp only [ba,List.map_nil])|(with_reducible refine bu ?_)|(with_reducible refine And.intro ?_ ?_)|(refine ah ?_;omega)|(exact aX hN (by decide))))
   all_goals (refine bX (.inr rfl) (by first|rfl|(simp (disch:=first|decide|omega|(simp only [List.length_cons,List.length_nil];omega)) only [bG,bK,bN,bO,go_sem,beq_self_eq_true,↓ao,↓aj hN,ak hN,reduceIte,reduceCtorEq,Nat.reduceAdd,Nat.reduceLT,Nat.reduceLeDiff,Nat.reduceEqDiff,Nat.reduceSub];rfl)) ?_)
   all_goals refine fK ?_
   all_goals first
    | (refine rP ?_; unfold iv; grind)
    | (refine mF ?_; unfold iv; grind)
 · rw [aH (fun h=>hG h.1)]
   (refine bf aI Try.func51 rfl rfl (by kernel_rfl) fun hp0 ν hX hN=>?_;simp only [bW,Nat.reduceAdd])
   (repeat' (first|(with_reducible first|(apply hK;clear hK K)|refine stZ ?_|refine aT rfl ?_|((first|apply ae|apply af);clear ae X af Y))|(with_reducible refine aW ?_;first|refine aU rfl ?_|refine aV rfl ?_)|(with_reducible refine bv ?_;first|refine bd rfl rfl rfl rfl ?_|refine bt rfl rfl rfl ?_|refine bI rfl rfl rfl rfl ?_)|((first|(with_reducible first|((first|refine aZ ?_|refine a8 ?_);intro K hK)|(refine aE ?_;intro X Y ae af)|refine aF ?_)|(with_reducible refine bv ?_;refine be rfl rfl fun X Y ae af=>?_));simp (disch:=first|decide|omega|(simp only [List.length_cons,List.length_nil];omega)) only [go_sem,↓aj hN,ak hN,reduceIte,reduceCtorEq,Nat.reduceAdd,Nat.reduceLT,Nat.reduceLeDiff,Nat.reduceEqDiff,Nat.reduceSub])|(with_reducible refine And.intro (fun h=>?_) (fun h=>?_) <;> try (exfalso;omega))|(with_reducible refine aY aI hN ?_)|(refine aB (mQ g.ar hA xs) ?_ rfl (fun _=>rfl) ?_)|(refine aB (j4 ?_) ?_ rfl (fun _=>rfl) ?_)|(with_reducible first|exact aq|refine am ?_ ?_|exact bH _|refine aM ?_|exact aL _|exact bj _ _|refine bi ?_|exact aJ _)|exact aN hN rfl rfl|(refine bh hN rfl ?_;first|exact aC _|exact aD _)|exact aK rfl rfl rfl|(simp only [ba,List.map_nil])|(with_reducible refine bu ?_)|(with_reducible refine And.intro ?_ ?_)|(refine ah ?_;omega)|(exact aX hN (by decide))))
   all_goals first
    | exact absurd (by assumption) hG
    | ((refine bX (.inr rfl) (by first | rfl | (simp (disch := first | decide | omega | (simp only [List.length_cons, List.length_nil]; omega)) only [bG, bK, bN, bO, go_sem, beq_self_eq_true, ↓ao, ↓aj hN, ak hN, reduceIte, reduceCtorEq, Nat.reduceAdd, Nat.reduceLT, Nat.reduceLeDiff, Nat.reduceEqDiff, Nat.reduceSub]; rfl)) ?_); rfl)
def gR (g : Pa) (xs : List Int) (who d mine yours : Int) : Prop:=dA g ∧ iv g xs who d mine yours
end Go.Proofs.Ythjamlponejffaa
namespace Go.Proofs.Ythjamlponejffaa
set_option linter.unusedVariables false
set_option linter.unusedSimpArgs false
open Go.RowKit
theorem mR {row : List Int} {v u : Nat} {x : Int} : ∀ {k : Nat},x ∈ cB row v u k ↔ x = v ∧ ∃ i,i < k ∧ (gi row i).toNat = u:=by
 intro k
 induction k with
 | zero => simp [cB]
 | succ k ih =>
   unfold cB
   rw [List.mem_append,ih]
   constructor
   · rintro (⟨h1,i,h2,h3⟩|h)
     · exact ⟨h1,i,by omega,h3⟩
     · split at h
       · rename_i hu;simp at h;exact ⟨h,k,by omega,hu⟩
       · simp at h
   · rintro ⟨h1,i,h2,h3⟩
     rcases Nat.lt_or_ge i k with h|h
     · exact .inl ⟨h1,i,h,h3⟩
     · have : i = k:=by omega
       subst this
       rw [if_pos h3];exact .inr (by simp [h1])
theorem fM {nxt : List (List Int)} {u : Nat} {x : Int} : ∀ {k : Nat},x ∈ cg nxt u k ↔ ∃ v,v < k ∧ x = (v : Int) ∧ ∃ i,i < (gr nxt v).length ∧ (gi (gr nxt v) i).toNat = u:=by
 intro k
 induction k with
 | zero => simp [cg]
 | succ k ih =>
   unfold cg
   rw [List.mem_append,ih,mR]
   constructor
   · rintro (⟨v,h1,h2⟩|⟨h1,h2⟩)
     · exact ⟨v,by omega,h2⟩
     · exact ⟨k,by omega,h1,h2⟩
   · rintro ⟨v,h1,h2⟩
     rcases Nat.lt_or_ge v k with h|h
     · exact .inl ⟨v,h,h2⟩
     · have : v = k:=by omega
       subst this;exact .inr h2
theorem lV {xs : List Int} {m : Int} (h : bD xs m) : ∀ {t s : Nat},s < t → t < xs.length → gi xs s < gi xs t:=by
 intro t
 induction t with
 | zero => intro s h1; omega
 | succ t ih =>
   intro s h1 h2
   have:=(h (t + 1) h2).2.2 (by omega)
   simp only [Nat.add_sub_cancel] at this
   rcases Nat.lt_or_ge s t with h3|h3
   · have:=ih h3 (by omega);omega
   · have : s = t:=by omega
     subst this;omega
theorem mS {xs : List Int} {m : Int} (h : bD xs m) {s t : Nat} (hs : s < xs.length) (ht : t < xs.length) (e : gi xs s = gi xs t) : s = t:=by
 rcases Nat.lt_trichotomy s t with h'|h'|h'
 · have:=lV h h' ht;omega
 · exact h'
 · have:=lV h h' hs;omega
theorem j5 {xs : List Int} (h : xs.Nodup) {s t : Nat} (hs : s < xs.length) (ht : t < xs.length) (e : gi xs s = gi xs t) : s = t:=by
 rw [dC hs,dC ht] at e
 exact (List.getElem_inj (h₀:=hs) (h₁:=ht) h).1 e
theorem ky {row : List Int} {m : Int} (h : bD row m) (v u : Nat) : ∀ i,i ≤ row.length → (cB row v u i = [] ∨ (cB row v u i = [(v : Int)] ∧ ∃ j,j < i ∧ (gi row j).toNat = u)):=by
 intro i
 induction i with
 | zero => intro _; exact .inl rfl
 | succ i ih =>
   intro hi
   unfold cB
   by_cases e : (gi row i).toNat = u
   · rw [if_pos e]
     rcases ih (by omega) with h1|⟨_,j,h1,h2⟩
     · rw [h1];exact .inr ⟨rfl,i,by omega,e⟩
     · have a:=(h j (by omega)).1
       have b:=(h i (by omega)).1
       have:=mS h (s:=j) (t:=i) (by omega) (by omega) (by omega)
       omega
   · rw [if_neg e,List.append_nil]
     rcases ih (by omega) with h1|⟨h0,j,h1,h2⟩
     · exact .inl h1
     · exact .inr ⟨h0,j,by omega,h2⟩
theorem lW {nxt : List (List Int)} {n : Nat} {m : Int} (h : ∀ v,v < n → bD (gr nxt v) m) (u : Nat) : (cg nxt u n).Nodup:=by
 induction n with
 | zero => exact List.nodup_nil
 | succ n ih =>
   unfold cg
   rcases ky (h n (by omega)) n u _ (Nat.le_refl _) with e|⟨e,_⟩
   · rw [e,List.append_nil];exact ih fun v hv=>h v (by omega)
   · rw [e,List.nodup_append]
     refine ⟨ih fun v hv=>h v (by omega),by simp,fun x hx y hy=>?_⟩
     obtain ⟨v,h1,h2,_⟩:=fM.1 hx
     simp at hy
     omega
theorem om {nxt : List (List Int)} {n : Nat} (hv : ∀ v,v < n → ∀ i,i < (gr nxt v).length → 0 ≤ gi (gr nxt v) i ∧ gi (gr nxt v) i < n) (u v : Nat) : (∃ t,t < (cg nxt u n).length ∧ gi (cg nxt u n) t = (v : Int)) ↔ v < n ∧ ∃ t,t < (gr nxt v).length ∧ gi (gr nxt v) t = (u : Int):=by
 constructor
 · rintro ⟨t,h1,h2⟩
   have hm : (v : Int) ∈ cg nxt u n:=by rw [← h2];exact cy h1
   obtain ⟨v',h3,h4,i,h5,h6⟩:=fM.1 hm
   have e : v' = v:=by omega
   subst e
   exact ⟨h3,i,h5,by have:=hv v' h3 i h5;omega⟩
 · rintro ⟨h1,t,h2,h3⟩
   have hm : (v : Int) ∈ cg nxt u n:=fM.2 ⟨v,h1,rfl,t,h2,by omega⟩
   exact ck hm
theorem eZ {g : Pa} (hg : PaOk g) : GmOk (c8 g) g.prio.length:=by
 have h1:=hg.ar.le
 have h2:=hg.len
 have h3:=hg.ar.len
 have hv : ∀ v,v < g.prio.length → (gr g.ar.nxt v).length ≤ 16 ∧ ∀ i,i < (gr g.ar.nxt v).length → 0 ≤ gi (gr g.ar.nxt v) i ∧ gi (gr g.ar.nxt v) i < g.prio.length:=fun v hv=>by
  obtain ⟨_,_,_,a,b⟩:=hg.ar.vert v (by omega)
  exact ⟨a,fun i hi=>by have:=b.bnd i hi;omega⟩
 refine ⟨by omega,h2.symm,rfl,by show g.ar.nxt.length = _;omega,gp _ _,bY _ _,fun v hv'=>⟨by have:=(hv v hv').1;show (gr g.ar.nxt v).length ≤ _;omega,(hv v hv').2⟩,fun v s t hv' hs ht e=>mS (hg.ar.vert v (by omega)).2.2.2.2 hs ht e,fun u v hu=>?_,fun u s t hu hs ht e=>?_,fun v hv'=>by have:=hg.ar.vert v (by omega);exact ⟨this.1,this.2.1⟩,fun v hv'=>hg.prio v hv',fun u hu=>?_⟩
 · rw [show gr (c8 g).prev u = cg g.ar.nxt u g.prio.length from dq _ hu]
   exact om (fun v hv' i hi=>(hv v hv').2 i hi) u v
 · rw [show gr (c8 g).prev u = cg g.ar.nxt u g.prio.length from dq _ hu] at hs ht e
   exact j5 (lW (fun v hv'=>hg.ar.vert v (by omega) |>.2.2.2.2) u) hs ht e
 have e : gr (c8 g).prev u = cg g.ar.nxt u g.prio.length:=dq _ hu
 rw [e]
 refine ⟨?_,fun i hi=>?_⟩
 · have:=j2 (nxt:=g.ar.nxt) (m:=16) u g.prio.length fun j hj=>(hv j hj).1
   have : 16 * g.prio.length ≤ 16 * 256:=Nat.mul_le_mul_left _ (by omega)
   omega
 · obtain ⟨v,k1,k2,_⟩:=fM.1 (cy hi)
   omega
end Go.Proofs.Ythjamlponejffaa
