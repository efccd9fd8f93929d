/-
  The reference's games with links both ways: what its functions return.
-/
import Derived.Test.YthjamlponejffaaZrFc
import Derived.Test.YthjamlponejffaaZrCg
import Derived.Test.YthjamlponejffaaZrCb
import Derived.Test.YthjamlponejffaaZrSd
namespace Go.Proofs.Ythjamlponejffaa
set_option linter.unusedVariables false
set_option linter.unusedSimpArgs false
open Go.RowKit
attribute [local irreducible] aw cu Aw Le
abbrev gmA (g : Gm) : AV:=.agg [.c (.I g.own),.c (.I g.prio),.c (.R g.nxt),.c (.R g.prev),.c (.I g.pick)]
def edg (g : Gm) (v u : Int) : Bool:=decide (gi g.pick v.toNat < 0) || gi g.pick v.toNat == u
structure GmOk (g : Gm) (n : Nat) : Prop where
 le : n ≤ 256
 own : g.own.length = n
 prio : g.prio.length = n
 nxt : g.nxt.length = n
 prev : g.prev.length = n
 pick : g.pick.length = n
 nx : ∀ v,v < n → (gr g.nxt v).length ≤ 256 ∧ ∀ i,i < (gr g.nxt v).length → 0 ≤ gi (gr g.nxt v) i ∧ gi (gr g.nxt v) i < n
 nu : ∀ v s t,v < n → s < (gr g.nxt v).length → t < (gr g.nxt v).length → gi (gr g.nxt v) s = gi (gr g.nxt v) t → s = t
 pvi : ∀ u v : Nat,u < n → ((∃ t,t < (gr g.prev u).length ∧ gi (gr g.prev u) t = (v : Int)) ↔ v < n ∧ ∃ t,t < (gr g.nxt v).length ∧ gi (gr g.nxt v) t = (u : Int))
 pu : ∀ u s t,u < n → s < (gr g.prev u).length → t < (gr g.prev u).length → gi (gr g.prev u) s = gi (gr g.prev u) t → s = t
 o1 : ∀ v,v < n → 0 ≤ gi g.own v ∧ gi g.own v ≤ 1
 p1 : ∀ v,v < n → 0 ≤ gi g.prio v ∧ gi g.prio v ≤ 40
 pv : ∀ v,v < n → (gr g.prev v).length ≤ 65536 ∧ ∀ i,i < (gr g.prev v).length → 0 ≤ gi (gr g.prev v) i ∧ gi (gr g.prev v) i < n
theorem lj (g : Gm) (v u : Int) (h0 : 0 ≤ v) (h1 : v < g.pick.length) : aw Try.prog 116 [gmA g,.c (.int .i64 v),.c (.int .i64 u)] [] (fun _=>.c (.bool (edg g v u))):=by
 (refine aV aS Try.func116 rfl rfl (by kernel_rfl) fun hp0 ν hX hN=>?_;simp only [ca,Nat.reduceAdd])
 (repeat' (first|(with_reducible first|(apply hK;clear hK K)|refine stZ ?_|refine aX rfl ?_|((first|apply ae|apply af);clear ae X af Y))|(with_reducible refine a8 ?_;first|refine aY rfl ?_|refine aZ rfl ?_)|(with_reducible refine bz ?_;first|refine be rfl rfl rfl rfl ?_|refine bv rfl rfl rfl ?_|refine bN rfl rfl rfl rfl ?_)|((first|(with_reducible first|((first|refine bc ?_|refine bd ?_);intro K hK)|(refine aC ?_;intro X Y ae af)|refine aD ?_)|(with_reducible refine bz ?_;refine bf rfl rfl fun X Y ae af=>?_));simp (disch:=first|decide|omega|(simp only [List.length_cons,List.length_nil];omega)) only [go_sem,↓ak hN,an hN,reduceIte,reduceCtorEq,Nat.reduceAdd,Nat.reduceLT,Nat.reduceLeDiff,Nat.reduceEqDiff,Nat.reduceSub])|(with_reducible refine And.intro (fun h=>?_) (fun h=>?_) <;> try (exfalso;omega))|(with_reducible refine ba aS hN ?_)|(with_reducible refine And.intro ?_ ?_)|(refine am ?_;omega)|(exact a9 hN (by decide))))
 all_goals (refine ch (.inr rfl) (by first|rfl|(simp (disch:=first|decide|omega|(simp only [List.length_cons,List.length_nil];omega)) only [bH,bM,bP,bQ,go_sem,beq_self_eq_true,↓ax,↓ak hN,an hN,reduceIte,reduceCtorEq,Nat.reduceAdd,Nat.reduceLT,Nat.reduceLeDiff,Nat.reduceEqDiff,Nat.reduceSub];rfl)) ?_)
 all_goals simp [*,edg]
def dR (g : Gm) (inn : List Bool) (v : Int) : Nat → Nat
 | 0 => 0
 | k + 1 => dR g inn v k + if gb inn (gi (gr g.nxt v.toNat) k).toNat && edg g v (gi (gr g.nxt v.toNat) k) then 1 else 0
def deg (g : Gm) (inn : List Bool) (v : Int) : Nat:=dR g inn v (gr g.nxt v.toNat).length
theorem lk (g : Gm) (inn : List Bool) (v : Int) (k : Nat) : dR g inn v k ≤ k:=by
 induction k with
 | zero => exact Nat.le_refl _
 | succ k ih => simp only [dR]; split <;> omega
theorem iQ (g : Gm) (n : Nat) (hg : GmOk g n) (inn : List Bool) (hi : inn.length = n) (v : Int) (h0 : 0 ≤ v) (h1 : v < n) : aw Try.prog 82 [gmA g,.c (.B inn),.c (.int .i64 v)] [] (fun _=>.c (.int .i64 (deg g inn v))):=by
 obtain ⟨hl,hx⟩:=hg.nx v.toNat (by omega)
 have e1:=hg.nxt
 have e2:=hg.pick
 have e3:=hg.le
 (refine aV aS Try.func82 rfl rfl (by kernel_rfl) fun hp0 ν hX hN=>?_;simp only [ca,Nat.reduceAdd])
 (repeat' (first|(with_reducible first|(apply hK;clear hK K)|refine stZ ?_|refine aX rfl ?_|((first|apply ae|apply af);clear ae X af Y))|(with_reducible refine a8 ?_;first|refine aY rfl ?_|refine aZ rfl ?_)|(with_reducible refine bz ?_;first|refine be rfl rfl rfl rfl ?_|refine bv rfl rfl rfl ?_|refine bN rfl rfl rfl rfl ?_)|((first|(with_reducible first|((first|refine bc ?_|refine bd ?_);intro K hK)|(refine aC ?_;intro X Y ae af)|refine aD ?_)|(with_reducible refine bz ?_;refine bf rfl rfl fun X Y ae af=>?_));simp (disch:=first|decide|omega|(simp only [List.length_cons,List.length_nil];omega)) only [go_sem,↓ak hN,an hN,reduceIte,reduceCtorEq,Nat.reduceAdd,Nat.reduceLT,Nat.reduceLeDiff,Nat.reduceEqDiff,Nat.reduceSub])|(with_reducible refine And.intro (fun h=>?_) (fun h=>?_) <;> try (exfalso;omega))|(with_reducible refine ba aS hN ?_)|(with_reducible refine And.intro ?_ ?_)|(refine am ?_;omega)|(exact a9 hN (by decide))))
 (refine ce (fun (k : Nat)=>(tmL [(8,.c (.int .i64 k)),(7,.c (.int .i64 (dR g inn v k))),(3,.ad (ν 0) 0),(1,.c (.B inn)),(2,.c (.int .i64 v))],hpL hp0 ν [.box [.c (.I g.own),.c (.I g.prio),.c (.R g.nxt),.c (.R g.prev),.c (.I g.pick)]])) (fun (k : Nat)=>k ≤ (gr g.nxt v.toNat).length) (fun (k : Nat)=>(gr g.nxt v.toNat).length - k) ⟨0,?_,bI hX hN [] ?_ ?_⟩ ?_;(repeat' (first|(with_reducible first|exact clZ|refine bJ ?_ ?_|refine bK ?_ ?_|rfl|refine suZ ?_)|refine bL rfl ?_ ?_|exact bo hN _ rfl rfl rfl|exact bp hN _ rfl rfl rfl|exact aL hN _ rfl rfl rfl (Or.inr rfl)|(refine br hN _ rfl rfl (by first|exact Or.inr rfl|exact Or.inl rfl) ?_;first|exact aP _|exact aQ _)|refine aM hN rfl ?_|refine aN hN rfl rfl ?_|exact aK hN _ rfl rfl|exact aO hN rfl rfl rfl rfl|(with_reducible first|refine stZ ?_|refine bn ?_)));(try (any_goals (first|(with_reducible rfl)|(refine am ?_;omega)))))
 · rfl
 intro k hk
 have hx:=hx k
 have hd:=lk g inn v k
 (repeat' (first|(with_reducible first|(apply hK;clear hK K)|refine stZ ?_|refine aX rfl ?_|((first|apply ae|apply af);clear ae X af Y))|(with_reducible refine a8 ?_;first|refine aY rfl ?_|refine aZ rfl ?_)|(with_reducible refine bz ?_;first|refine be rfl rfl rfl rfl ?_|refine bv rfl rfl rfl ?_|refine bN rfl rfl rfl rfl ?_)|((first|(with_reducible first|((first|refine bc ?_|refine bd ?_);intro K hK)|(refine aC ?_;intro X Y ae af)|refine aD ?_)|(with_reducible refine bz ?_;refine bf rfl rfl fun X Y ae af=>?_));simp (disch:=first|decide|omega|(simp only [List.length_cons,List.length_nil];omega)) only [go_sem,↓ak hN,an hN,reduceIte,reduceCtorEq,Nat.reduceAdd,Nat.reduceLT,Nat.reduceLeDiff,Nat.reduceEqDiff,Nat.reduceSub])|(with_reducible refine And.intro (fun h=>?_) (fun h=>?_) <;> try (exfalso;omega))|(with_reducible refine ba aS hN ?_)|(refine aB (lj g v ?_ h0 (by omega)) ?_ rfl (fun _=>rfl) ?_)|(with_reducible first|exact au|refine ap ?_ ?_|exact bF _|refine aH ?_|exact aJ _|exact bi _ _|refine bh ?_|exact aF _)|exact aI hN rfl rfl|(refine bg hN rfl ?_;first|exact aP _|exact aQ _)|exact aG rfl rfl rfl|(simp only [aT,List.map_nil])|(with_reducible refine bC ?_)|(with_reducible refine And.intro ?_ ?_)|(refine am ?_;omega)|(exact a9 hN (by decide))))
 · (refine ⟨k + 1,⟨?_,?_⟩,bI hX hN [] ?_ ?_⟩;(try any_goals dsimp only);(repeat' (first|(with_reducible first|exact clZ|refine bJ ?_ ?_|refine bK ?_ ?_|rfl|refine suZ ?_)|refine bL rfl ?_ ?_|exact bo hN _ rfl rfl rfl|exact bp hN _ rfl rfl rfl|exact aL hN _ rfl rfl rfl (Or.inr rfl)|(refine br hN _ rfl rfl (by first|exact Or.inr rfl|exact Or.inl rfl) ?_;first|exact aP _|exact aQ _)|refine aM hN rfl ?_|refine aN hN rfl rfl ?_|exact aK hN _ rfl rfl|exact aO hN rfl rfl rfl rfl|(with_reducible first|refine stZ ?_|refine bn ?_)));(try (any_goals (first|(with_reducible rfl)|(refine am ?_;omega)))))
   simp [dR, *]
 · (refine ⟨k + 1,⟨?_,?_⟩,bI hX hN [] ?_ ?_⟩;(try any_goals dsimp only);(repeat' (first|(with_reducible first|exact clZ|refine bJ ?_ ?_|refine bK ?_ ?_|rfl|refine suZ ?_)|refine bL rfl ?_ ?_|exact bo hN _ rfl rfl rfl|exact bp hN _ rfl rfl rfl|exact aL hN _ rfl rfl rfl (Or.inr rfl)|(refine br hN _ rfl rfl (by first|exact Or.inr rfl|exact Or.inl rfl) ?_;first|exact aP _|exact aQ _)|refine aM hN rfl ?_|refine aN hN rfl rfl ?_|exact aK hN _ rfl rfl|exact aO hN rfl rfl rfl rfl|(with_reducible first|refine stZ ?_|refine bn ?_)));(try (any_goals (first|(with_reducible rfl)|(refine am ?_;omega)))))
   simp [dR, *]
 · (refine ⟨k + 1,⟨?_,?_⟩,bI hX hN [] ?_ ?_⟩;(try any_goals dsimp only);(repeat' (first|(with_reducible first|exact clZ|refine bJ ?_ ?_|refine bK ?_ ?_|rfl|refine suZ ?_)|refine bL rfl ?_ ?_|exact bo hN _ rfl rfl rfl|exact bp hN _ rfl rfl rfl|exact aL hN _ rfl rfl rfl (Or.inr rfl)|(refine br hN _ rfl rfl (by first|exact Or.inr rfl|exact Or.inl rfl) ?_;first|exact aP _|exact aQ _)|refine aM hN rfl ?_|refine aN hN rfl rfl ?_|exact aK hN _ rfl rfl|exact aO hN rfl rfl rfl rfl|(with_reducible first|refine stZ ?_|refine bn ?_)));(try (any_goals (first|(with_reducible rfl)|(refine am ?_;omega)))))
   simp [dR, *]
 · (refine ch (.inr rfl) (by first|rfl|(simp (disch:=first|decide|omega|(simp only [List.length_cons,List.length_nil];omega)) only [bH,bM,bP,bQ,go_sem,beq_self_eq_true,↓ax,↓ak hN,an hN,reduceIte,reduceCtorEq,Nat.reduceAdd,Nat.reduceLT,Nat.reduceLeDiff,Nat.reduceEqDiff,Nat.reduceSub];rfl)) ?_)
   have e : k = (gr g.nxt v.toNat).length:=by omega
   rw [e];rfl
end Go.Proofs.Ythjamlponejffaa
namespace Go.Proofs.Ythjamlponejffaa
set_option linter.unusedVariables false
set_option linter.unusedSimpArgs false
open Go.RowKit
attribute [local irreducible] aw cu Aw Le
def ixF (p : Int → Bool) : List Int → Nat → Int
 | [], _ => -1
 | x :: xs, k => if p x then k else ixF p xs (k + 1)
theorem rc (p : Int → Bool) (xs : List Int) (k : Nat) : 0 ≤ ixF p xs k ↔ ∃ i,i < xs.length ∧ p (gi xs i) = true:=by
 induction xs generalizing k with
 | nil => simp [ixF]
 | cons x xs ih =>
   simp only [ixF]
   split
   · rename_i h;exact ⟨fun _=>⟨0,by simp,h⟩,fun _=>by omega⟩
   · rename_i h
     rw [ih]
     constructor
     · rintro ⟨i,h1,h2⟩;exact ⟨i + 1,by simpa using h1,h2⟩
     · rintro ⟨i,h1,h2⟩
       cases i with
       | zero => exact absurd h2 h
       | succ i => exact ⟨i, by simpa using h1, h2⟩
theorem nq {xs : List Int} {k : Nat} (h : k < xs.length) : xs.drop k = gi xs k :: xs.drop (k + 1):=by
 rw [List.drop_eq_getElem_cons h,dz h]
theorem lm (xs : List Int) (hl : xs.length ≤ 1048576) (f : FuncId) (cs : List C) (p : Int → Bool) (hF : ∀ i,i < xs.length → aw Try.prog f [.c (.int .i64 (gi xs i)),elA cs] [] fun _=>.c (.bool (p (gi xs i)))) :
  aw Try.prog 127 [.c (.I xs),.fn (.func f) [elA cs]] [] (fun _=>.c (.int .i64 (ixF p xs 0))):=by
 (refine aV aS Try.func127 rfl rfl (by kernel_rfl) fun hp0 ν hX hN=>?_;simp only [ca,Nat.reduceAdd])
 (repeat' (first|(with_reducible first|(apply hK;clear hK K)|refine stZ ?_|refine aX rfl ?_|((first|apply ae|apply af);clear ae X af Y))|(with_reducible refine a8 ?_;first|refine aY rfl ?_|refine aZ rfl ?_)|((with_reducible first|((first|refine bc ?_|refine bd ?_);intro K hK)|(refine aC ?_;intro X Y ae af)|refine aD ?_);simp (disch:=first|decide|omega|(simp only [List.length_cons,List.length_nil];omega)) only [go_sem,↓ak hN,an hN,reduceIte,reduceCtorEq,Nat.reduceAdd,Nat.reduceLT,Nat.reduceLeDiff,Nat.reduceEqDiff,Nat.reduceSub])|(with_reducible refine And.intro (fun h=>?_) (fun h=>?_) <;> try (exfalso;omega))|(with_reducible refine ba aS hN ?_)|(with_reducible refine And.intro ?_ ?_)|(refine am ?_;omega)|(exact a9 hN (by decide))))
 (refine ce (fun (k : Nat)=>(tmL [(8,.c (.int .i64 k)),(7,.c (.int .i64 xs.length)),(0,.c (.I xs)),(1,.fn (.func f) [elA cs])],hpL hp0 ν [])) (fun (k : Nat)=>k ≤ xs.length ∧ ixF p xs 0 = ixF p (xs.drop k) k) (fun (k : Nat)=>xs.length - k) ⟨0,?_,bI hX hN [] ?_ ?_⟩ ?_;(repeat' (first|(with_reducible first|exact clZ|refine bJ ?_ ?_|refine bK ?_ ?_|rfl|refine suZ ?_)|refine bL rfl ?_ ?_|exact bo hN _ rfl rfl rfl|exact bp hN _ rfl rfl rfl|exact aL hN _ rfl rfl rfl (Or.inr rfl)|(refine br hN _ rfl rfl (by first|exact Or.inr rfl|exact Or.inl rfl) ?_;first|exact aP _|exact aQ _)|refine aM hN rfl ?_|refine aN hN rfl rfl ?_|exact aK hN _ rfl rfl|exact aO hN rfl rfl rfl rfl|(with_reducible first|refine stZ ?_|refine bn ?_)));(try (any_goals (first|(with_reducible rfl)|(refine am ?_;omega)))))
 · exact ⟨Nat.zero_le _,rfl⟩
 intro k hk
 obtain ⟨hk,he⟩:=hk
 have hx:=fun h=>hF k h
 (repeat' (first|(with_reducible first|(apply hK;clear hK K)|refine stZ ?_|refine aX rfl ?_|((first|apply ae|apply af);clear ae X af Y))|(with_reducible refine a8 ?_;first|refine aY rfl ?_|refine aZ rfl ?_)|((with_reducible first|((first|refine bc ?_|refine bd ?_);intro K hK)|(refine aC ?_;intro X Y ae af)|refine aD ?_);simp (disch:=first|decide|omega|(simp only [List.length_cons,List.length_nil];omega)) only [go_sem,↓ak hN,an hN,reduceIte,reduceCtorEq,Nat.reduceAdd,Nat.reduceLT,Nat.reduceLeDiff,Nat.reduceEqDiff,Nat.reduceSub])|(with_reducible refine And.intro (fun h=>?_) (fun h=>?_) <;> try (exfalso;omega))|(with_reducible refine ba aS hN ?_)|(refine aB (hx (by omega)) ?_ rfl (fun _=>rfl) ?_)|(with_reducible first|exact au|refine ap ?_ ?_|exact bF _|refine aH ?_|exact aJ _|exact bi _ _|refine bh ?_|exact aF _)|exact aI hN rfl rfl|(refine bg hN rfl ?_;first|exact aP _|exact aQ _)|exact aG rfl rfl rfl|(simp only [aT,List.map_nil])|(with_reducible refine bC ?_)|(with_reducible refine And.intro ?_ ?_)|(refine am ?_;omega)|(exact a9 hN (by decide))))
 · (refine ch (.inr rfl) (by first|rfl|(simp (disch:=first|decide|omega|(simp only [List.length_cons,List.length_nil];omega)) only [bH,bM,bP,bQ,go_sem,beq_self_eq_true,↓ax,↓ak hN,an hN,reduceIte,reduceCtorEq,Nat.reduceAdd,Nat.reduceLT,Nat.reduceLeDiff,Nat.reduceEqDiff,Nat.reduceSub];rfl)) ?_)
   rw [he,nq (by omega),ixF,if_pos (by assumption)]
 · (refine ⟨k + 1,⟨?_,?_⟩,bI hX hN [] ?_ ?_⟩;(try any_goals dsimp only);(repeat' (first|(with_reducible first|exact clZ|refine bJ ?_ ?_|refine bK ?_ ?_|rfl|refine suZ ?_)|refine bL rfl ?_ ?_|exact bo hN _ rfl rfl rfl|exact bp hN _ rfl rfl rfl|exact aL hN _ rfl rfl rfl (Or.inr rfl)|(refine br hN _ rfl rfl (by first|exact Or.inr rfl|exact Or.inl rfl) ?_;first|exact aP _|exact aQ _)|refine aM hN rfl ?_|refine aN hN rfl rfl ?_|exact aK hN _ rfl rfl|exact aO hN rfl rfl rfl rfl|(with_reducible first|refine stZ ?_|refine bn ?_)));(try (any_goals (first|(with_reducible rfl)|(refine am ?_;omega)))))
   exact ⟨by omega,by rw [he,nq (by omega),ixF,if_neg (by simp [*])]⟩
 · (refine ch (.inr rfl) (by first|rfl|(simp (disch:=first|decide|omega|(simp only [List.length_cons,List.length_nil];omega)) only [bH,bM,bP,bQ,go_sem,beq_self_eq_true,↓ax,↓ak hN,an hN,reduceIte,reduceCtorEq,Nat.reduceAdd,Nat.reduceLT,Nat.reduceLeDiff,Nat.reduceEqDiff,Nat.reduceSub];rfl)) ?_)
   rw [he,List.drop_eq_nil_of_le (by omega)];rfl
theorem iR (xs : List Int) (hl : xs.length ≤ 1048576) (f : FuncId) (cs : List C) (p : Int → Bool) (hF : ∀ i,i < xs.length → aw Try.prog f [.c (.int .i64 (gi xs i)),elA cs] [] fun _=>.c (.bool (p (gi xs i)))) :
  aw Try.prog 118 [.c (.I xs),.fn (.func f) [elA cs]] [] (fun _=>.c (.bool (tf (∃ i,i < xs.length ∧ p (gi xs i) = true)))):=by
 (refine aV aS Try.func118 rfl rfl (by kernel_rfl) fun hp0 ν hX hN=>?_;simp only [ca,Nat.reduceAdd])
 (repeat' (first|(with_reducible first|(apply hK;clear hK K)|refine stZ ?_|refine aX rfl ?_|((first|apply ae|apply af);clear ae X af Y))|(with_reducible refine a8 ?_;first|refine aY rfl ?_|refine aZ rfl ?_)|((with_reducible first|((first|refine bc ?_|refine bd ?_);intro K hK)|(refine aC ?_;intro X Y ae af)|refine aD ?_);simp (disch:=first|decide|omega|(simp only [List.length_cons,List.length_nil];omega)) only [go_sem,↓ak hN,an hN,reduceIte,reduceCtorEq,Nat.reduceAdd,Nat.reduceLT,Nat.reduceLeDiff,Nat.reduceEqDiff,Nat.reduceSub])|(with_reducible refine And.intro (fun h=>?_) (fun h=>?_) <;> try (exfalso;omega))|(with_reducible refine ba aS hN ?_)|(refine aB (lm xs hl f cs p hF) ?_ rfl (fun _=>rfl) ?_)|(with_reducible first|exact au|refine ap ?_ ?_|exact bF _|refine aH ?_|exact aJ _|exact bi _ _|refine bh ?_|exact aF _)|exact aI hN rfl rfl|(refine bg hN rfl ?_;first|exact aP _|exact aQ _)|exact aG rfl rfl rfl|(simp only [aT,List.map_nil])|(with_reducible refine bC ?_)|(with_reducible refine And.intro ?_ ?_)|(refine am ?_;omega)|(exact a9 hN (by decide))))
 (refine ch (.inr rfl) (by first|rfl|(simp (disch:=first|decide|omega|(simp only [List.length_cons,List.length_nil];omega)) only [bH,bM,bP,bQ,go_sem,beq_self_eq_true,↓ax,↓ak hN,an hN,reduceIte,reduceCtorEq,Nat.reduceAdd,Nat.reduceLT,Nat.reduceLeDiff,Nat.reduceEqDiff,Nat.reduceSub];rfl)) ?_)
 have:=rc p xs 0
 rw [← this]
 by_cases h : 0 ≤ ixF p xs 0
 · rw [aA h];simp [h]
 · rw [aq h];simp [h]
end Go.Proofs.Ythjamlponejffaa
namespace Go.Proofs.Ythjamlponejffaa
set_option linter.unusedVariables false
set_option linter.unusedSimpArgs false
open Go.RowKit
attribute [local irreducible] aw cu Aw Le
theorem sU {φ : Nat → Loc} {hp : Hp} {w : World} {a : AV} {vs : List Value} (h : AVs φ hp w [a] vs) : ∃ v,vs = [v] ∧ AVC φ hp w a v:=by
 match vs,h with
 | [v], .cons h .nil => exact ⟨v, rfl, h⟩
theorem sV {φ : Nat → Loc} {hp : Hp} {w : World} {a b : AV} {vs : List Value} (h : AVs φ hp w [a,b] vs) : ∃ v u,vs = [v,u] ∧ AVC φ hp w a v ∧ AVC φ hp w b u:=by
 match vs,h with
 | [v, u], .cons h (.cons k .nil) => exact ⟨v, u, rfl, h, k⟩
theorem v9 {φ : Nat → Loc} {hp : Hp} {w : World} {a b c : AV} {vs : List Value} (h : AVs φ hp w [a,b,c] vs) : ∃ v u x,vs = [v,u,x] ∧ AVC φ hp w a v ∧ AVC φ hp w b u ∧ AVC φ hp w c x:=by
 match vs,h with
 | [v, u, x], .cons h (.cons k (.cons l .nil)) => exact ⟨v, u, x, rfl, h, k, l⟩
theorem iS (x lo hi : Int) : aw Try.prog 65 [.c (.int .i64 x),.c (.int .i64 lo),.c (.int .i64 hi)] [] (fun _=>.c (.bool (tf (lo ≤ x ∧ x ≤ hi)))) :=
 fy Try.func65 rfl rfl (u:=.bool _) (fun O w=>.bool _) fun φ hp w vs h=>by
  obtain ⟨a,b,c,rfl,h1,h2,h3⟩:=v9 h
  obtain rfl:=cf h1
  obtain rfl:=cf h2
  obtain rfl:=cf h3
  exact (kK x lo hi w).mono fun e w' ⟨he,hw⟩=>⟨he,by rw [← hw];exact Below.refl _ _⟩
theorem nr (xs : List Int) (m : Int) : aw Try.prog 112 [.c (.I xs),.c (.int .i64 m)] [] (fun _=>.c (.bool (tf (b7 xs m)))) :=
 fy Try.func112 rfl rfl (u:=.bool _) (fun O w=>.bool _) fun φ hp w vs h=>by
  obtain ⟨a,b,rfl,h1,h2⟩:=sV h
  obtain rfl:=cf h2
  obtain ⟨sa,n,c,rfl,hI⟩:=ou (dj h1)
  exact (gw sa n c xs m w hI).mono fun e w' ⟨he,hw⟩=>⟨he,by rw [← hw];exact Below.refl _ _⟩
theorem pN (g : Pa) : aw Try.prog 74 [paA g] [] (fun _=>.c (.bool (tf (PaOk g)))) :=
 fy Try.func74 rfl rfl (u:=.bool _) (fun O w=>.bool _) fun φ hp w vs h=>by
  obtain ⟨a,rfl,h1⟩:=sU h
  exact rR a g w (q9 h1)
theorem pO (g : Pa) : aw Try.prog 39 [paA g] [] (fun _=>.c (.bool (tf (PaOk g)))) :=
 fy Try.func39 rfl rfl (u:=.bool _) (fun O w=>.bool _) fun φ hp w vs h=>by
  obtain ⟨a,rfl,h1⟩:=sU h
  exact (rS a g w (q9 h1)).mono fun e w' h=>h
theorem re (xs : List Int) (m : Int) (h0 : 0 ≤ m) (h1 : m ≤ 1048576) : aw Try.prog 68 [.c (.I xs),.c (.int .i64 m)] [] (fun _=>.c (.bool (tf (b7 xs m)))) :=
 fy Try.func68 rfl rfl (u:=.bool _) (fun O w=>.bool _) fun φ hp w vs h=>by
  obtain ⟨a,b,rfl,h1,h2⟩:=sV h
  obtain rfl:=cf h2
  obtain ⟨sa,n,c,rfl,hI⟩:=ou (dj h1)
  exact (gx sa n c xs m w hI h0 (by omega)).mono fun e w' h=>h.bb
theorem kt (xs : List Int) (m : Int) : aw Try.prog 29 [.c (.I xs),.c (.int .i64 m)] [] (fun _=>.c (.bool (tf ((0 ≤ m ∧ m ≤ 256) ∧ b7 xs m)))):=by
 by_cases hm : 0 ≤ m ∧ m ≤ 256
 · rw [show tf ((0 ≤ m ∧ m ≤ 256) ∧ b7 xs m) = tf (b7 xs m) from cL ⟨fun h=>h.2,fun h=>⟨hm,h⟩⟩]
   obtain ⟨m0,m1⟩:=hm
   (refine aV aS Try.func29 rfl rfl (by kernel_rfl) fun hp0 ν hX hN=>?_;simp only [ca,Nat.reduceAdd])
   (repeat' (first|(with_reducible first|(apply hK;clear hK K)|refine stZ ?_|refine aX rfl ?_|((first|apply ae|apply af);clear ae X af Y))|(with_reducible refine a8 ?_;first|refine aY rfl ?_|refine aZ rfl ?_)|(with_reducible refine bz ?_;first|refine be rfl rfl rfl rfl ?_|refine bv rfl rfl rfl ?_|refine bN rfl rfl rfl rfl ?_)|((first|(with_reducible first|((first|refine bc ?_|refine bd ?_);intro K hK)|(refine aC ?_;intro X Y ae af)|refine aD ?_)|(with_reducible refine bz ?_;refine bf rfl rfl fun X Y ae af=>?_));simp (disch:=first|decide|omega|(simp only [List.length_cons,List.length_nil];omega)) only [go_sem,↓ak hN,an hN,reduceIte,reduceCtorEq,Nat.reduceAdd,Nat.reduceLT,Nat.reduceLeDiff,Nat.reduceEqDiff,Nat.reduceSub])|(with_reducible refine And.intro (fun h=>?_) (fun h=>?_) <;> try (exfalso;omega))|(with_reducible refine ba aS hN ?_)|(refine aB (iS ?_ ?_ ?_) ?_ rfl (fun _=>rfl) ?_)|(refine aB (re xs m m0 (by omega)) ?_ rfl (fun _=>rfl) ?_)|(with_reducible first|exact au|refine ap ?_ ?_|exact bF _|refine aH ?_|exact aJ _|exact bi _ _|refine bh ?_|exact aF _)|exact aI hN rfl rfl|(refine bg hN rfl ?_;first|exact aP _|exact aQ _)|exact aG rfl rfl rfl|(simp only [aT,List.map_nil])|(with_reducible refine bC ?_)|(with_reducible refine And.intro ?_ ?_)|(refine am ?_;omega)|(exact a9 hN (by decide))))
   all_goals (refine ch (.inr rfl) (by first|rfl|(simp (disch:=first|decide|omega|(simp only [List.length_cons,List.length_nil];omega)) only [bH,bM,bP,bQ,go_sem,beq_self_eq_true,↓ax,↓ak hN,an hN,reduceIte,reduceCtorEq,Nat.reduceAdd,Nat.reduceLT,Nat.reduceLeDiff,Nat.reduceEqDiff,Nat.reduceSub];rfl)) ?_)
   all_goals rfl
 · rw [aq (fun h=>hm h.1)]
   (refine aV aS Try.func29 rfl rfl (by kernel_rfl) fun hp0 ν hX hN=>?_;simp only [ca,Nat.reduceAdd])
   (repeat' (first|(with_reducible first|(apply hK;clear hK K)|refine stZ ?_|refine aX rfl ?_|((first|apply ae|apply af);clear ae X af Y))|(with_reducible refine a8 ?_;first|refine aY rfl ?_|refine aZ rfl ?_)|(with_reducible refine bz ?_;first|refine be rfl rfl rfl rfl ?_|refine bv rfl rfl rfl ?_|refine bN rfl rfl rfl rfl ?_)|((first|(with_reducible first|((first|refine bc ?_|refine bd ?_);intro K hK)|(refine aC ?_;intro X Y ae af)|refine aD ?_)|(with_reducible refine bz ?_;refine bf rfl rfl fun X Y ae af=>?_));simp (disch:=first|decide|omega|(simp only [List.length_cons,List.length_nil];omega)) only [go_sem,↓ak hN,an hN,reduceIte,reduceCtorEq,Nat.reduceAdd,Nat.reduceLT,Nat.reduceLeDiff,Nat.reduceEqDiff,Nat.reduceSub])|(with_reducible refine And.intro (fun h=>?_) (fun h=>?_) <;> try (exfalso;omega))|(with_reducible refine ba aS hN ?_)|(refine aB (iS ?_ ?_ ?_) ?_ rfl (fun _=>rfl) ?_)|(with_reducible first|exact au|refine ap ?_ ?_|exact bF _|refine aH ?_|exact aJ _|exact bi _ _|refine bh ?_|exact aF _)|exact aI hN rfl rfl|(refine bg hN rfl ?_;first|exact aP _|exact aQ _)|exact aG rfl rfl rfl|(simp only [aT,List.map_nil])|(with_reducible refine bC ?_)|(with_reducible refine And.intro ?_ ?_)|(refine am ?_;omega)|(exact a9 hN (by decide))))
   all_goals (refine ch (.inr rfl) (by first|rfl|(simp (disch:=first|decide|omega|(simp only [List.length_cons,List.length_nil];omega)) only [bH,bM,bP,bQ,go_sem,beq_self_eq_true,↓ax,↓ak hN,an hN,reduceIte,reduceCtorEq,Nat.reduceAdd,Nat.reduceLT,Nat.reduceLeDiff,Nat.reduceEqDiff,Nat.reduceSub];rfl)) ?_)
   all_goals first|rfl|(exfalso;omega)
theorem e8 (g : Pa) : aw Try.prog 50 [paA g] [] (fun _=>.c (.bool (tf (dJ g)))):=by
 (refine aV aS Try.func50 rfl rfl (by kernel_rfl) fun hp0 ν hX hN=>?_;simp only [ca,Nat.reduceAdd])
 (repeat' (first|(with_reducible first|(apply hK;clear hK K)|refine stZ ?_|refine aX rfl ?_|((first|apply ae|apply af);clear ae X af Y))|(with_reducible refine a8 ?_;first|refine aY rfl ?_|refine aZ rfl ?_)|(with_reducible refine bz ?_;first|refine be rfl rfl rfl rfl ?_|refine bv rfl rfl rfl ?_|refine bN rfl rfl rfl rfl ?_)|((first|(with_reducible first|((first|refine bc ?_|refine bd ?_);intro K hK)|(refine aC ?_;intro X Y ae af)|refine aD ?_)|(with_reducible refine bz ?_;refine bf rfl rfl fun X Y ae af=>?_));simp (disch:=first|decide|omega|(simp only [List.length_cons,List.length_nil];omega)) only [go_sem,↓ak hN,an hN,reduceIte,reduceCtorEq,Nat.reduceAdd,Nat.reduceLT,Nat.reduceLeDiff,Nat.reduceEqDiff,Nat.reduceSub])|(with_reducible refine And.intro (fun h=>?_) (fun h=>?_) <;> try (exfalso;omega))|(with_reducible refine ba aS hN ?_)|(refine aB (pN ?_) ?_ rfl (fun _=>rfl) ?_)|(with_reducible first|exact au|refine ap ?_ ?_|exact bF _|refine aH ?_|exact aJ _|exact bi _ _|refine bh ?_|exact aF _)|exact aI hN rfl rfl|(refine bg hN rfl ?_;first|exact aP _|exact aQ _)|exact aG rfl rfl rfl|(simp only [aT,List.map_nil])|(with_reducible refine bC ?_)|(with_reducible refine And.intro ?_ ?_)|(refine am ?_;omega)|(exact a9 hN (by decide))))
 all_goals (refine ch (.inr rfl) (by first|rfl|(simp (disch:=first|decide|omega|(simp only [List.length_cons,List.length_nil];omega)) only [bH,bM,bP,bQ,go_sem,beq_self_eq_true,↓ax,↓ak hN,an hN,reduceIte,reduceCtorEq,Nat.reduceAdd,Nat.reduceLT,Nat.reduceLeDiff,Nat.reduceEqDiff,Nat.reduceSub];rfl)) ?_)
 · exact congrArg C.bool (pG ⟨fun h'=>⟨by assumption,by omega⟩,fun h'=>by have:=h'.2;omega⟩)
 · exact congrArg C.bool (aq fun h'=>absurd h'.1 (by assumption)).symm
theorem iT (g : Pa) : aw Try.prog 58 [paA g] [] (fun _=>.c (.bool (tf (dJ g)))):=by
 (refine aV aS Try.func58 rfl rfl (by kernel_rfl) fun hp0 ν hX hN=>?_;simp only [ca,Nat.reduceAdd])
 (repeat' (first|(with_reducible first|(apply hK;clear hK K)|refine stZ ?_|refine aX rfl ?_|((first|apply ae|apply af);clear ae X af Y))|(with_reducible refine a8 ?_;first|refine aY rfl ?_|refine aZ rfl ?_)|(with_reducible refine bz ?_;first|refine be rfl rfl rfl rfl ?_|refine bv rfl rfl rfl ?_|refine bN rfl rfl rfl rfl ?_)|((first|(with_reducible first|((first|refine bc ?_|refine bd ?_);intro K hK)|(refine aC ?_;intro X Y ae af)|refine aD ?_)|(with_reducible refine bz ?_;refine bf rfl rfl fun X Y ae af=>?_));simp (disch:=first|decide|omega|(simp only [List.length_cons,List.length_nil];omega)) only [go_sem,↓ak hN,an hN,reduceIte,reduceCtorEq,Nat.reduceAdd,Nat.reduceLT,Nat.reduceLeDiff,Nat.reduceEqDiff,Nat.reduceSub])|(with_reducible refine And.intro (fun h=>?_) (fun h=>?_) <;> try (exfalso;omega))|(with_reducible refine ba aS hN ?_)|(refine aB (pO ?_) ?_ rfl (fun _=>rfl) ?_)|(with_reducible first|exact au|refine ap ?_ ?_|exact bF _|refine aH ?_|exact aJ _|exact bi _ _|refine bh ?_|exact aF _)|exact aI hN rfl rfl|(refine bg hN rfl ?_;first|exact aP _|exact aQ _)|exact aG rfl rfl rfl|(simp only [aT,List.map_nil])|(with_reducible refine bC ?_)|(with_reducible refine And.intro ?_ ?_)|(refine am ?_;omega)|(exact a9 hN (by decide))))
 all_goals (refine ch (.inr rfl) (by first|rfl|(simp (disch:=first|decide|omega|(simp only [List.length_cons,List.length_nil];omega)) only [bH,bM,bP,bQ,go_sem,beq_self_eq_true,↓ax,↓ak hN,an hN,reduceIte,reduceCtorEq,Nat.reduceAdd,Nat.reduceLT,Nat.reduceLeDiff,Nat.reduceEqDiff,Nat.reduceSub];rfl)) ?_)
 · exact congrArg C.bool (cL ⟨fun h'=>⟨h',by omega⟩,fun h'=>h'.1⟩)
 · exact congrArg C.bool (aq fun h'=>by have:=h'.2;omega).symm
theorem pP (a : Ar) : aw Try.prog 101 [arA a] [] (fun _=>.c (.int .i64 a.own.length)):=by
 (refine aV aS Try.func101 rfl rfl (by kernel_rfl) fun hp0 ν hX hN=>?_;simp only [ca,Nat.reduceAdd])
 (repeat' (first|(with_reducible first|(apply hK;clear hK K)|refine stZ ?_|refine aX rfl ?_|((first|apply ae|apply af);clear ae X af Y))|(with_reducible refine a8 ?_;first|refine aY rfl ?_|refine aZ rfl ?_)|((with_reducible first|((first|refine bc ?_|refine bd ?_);intro K hK)|(refine aC ?_;intro X Y ae af)|refine aD ?_);simp (disch:=first|decide|omega|(simp only [List.length_cons,List.length_nil];omega)) only [go_sem,↓ak hN,an hN,reduceIte,reduceCtorEq,Nat.reduceAdd,Nat.reduceLT,Nat.reduceLeDiff,Nat.reduceEqDiff,Nat.reduceSub])|(with_reducible refine And.intro (fun h=>?_) (fun h=>?_) <;> try (exfalso;omega))|(with_reducible refine ba aS hN ?_)|(with_reducible refine And.intro ?_ ?_)|(refine am ?_;omega)|(exact a9 hN (by decide))))
 (refine ch (.inr rfl) (by first|rfl|(simp (disch:=first|decide|omega|(simp only [List.length_cons,List.length_nil];omega)) only [bH,bM,bP,bQ,go_sem,beq_self_eq_true,↓ax,↓ak hN,an hN,reduceIte,reduceCtorEq,Nat.reduceAdd,Nat.reduceLT,Nat.reduceLeDiff,Nat.reduceEqDiff,Nat.reduceSub];rfl)) ?_)
 rfl
end Go.Proofs.Ythjamlponejffaa
namespace Go.Proofs.Ythjamlponejffaa
set_option linter.unusedVariables false
set_option linter.unusedSimpArgs false
open Go.RowKit
attribute [local irreducible] aw cu Aw Le
theorem rf (g : Pa) (xs : List Int) (hB : Bnd xs g.prio.length) : aw Try.prog 61 [paA g,.c (.I xs)] [] (fun _=>.c (.int .i64 (fE g.prio xs xs.length))) :=
 fy Try.func61 rfl rfl (u:=.int .i64 _) (fun O w=>.int _ _) fun φ hp w vs h=>by
  obtain ⟨a,b,rfl,h1,h2⟩:=sV h
  exact qf a b g xs w (q9 h1) (ou (dj h2)) hB
theorem iU (x : Int) : aw Try.prog 90 [.c (.int .i64 x)] [] (fun _=>.c (.bool (x == 0 || x == 1))):=by
 (refine aV aS Try.func90 rfl rfl (by kernel_rfl) fun hp0 ν hX hN=>?_;simp only [ca,Nat.reduceAdd])
 (repeat' (first|(with_reducible first|(apply hK;clear hK K)|refine stZ ?_|refine aX rfl ?_|((first|apply ae|apply af);clear ae X af Y))|(with_reducible refine a8 ?_;first|refine aY rfl ?_|refine aZ rfl ?_)|(with_reducible refine bz ?_;first|refine be rfl rfl rfl rfl ?_|refine bv rfl rfl rfl ?_|refine bN rfl rfl rfl rfl ?_)|((first|(with_reducible first|((first|refine bc ?_|refine bd ?_);intro K hK)|(refine aC ?_;intro X Y ae af)|refine aD ?_)|(with_reducible refine bz ?_;refine bf rfl rfl fun X Y ae af=>?_));simp (disch:=first|decide|omega|(simp only [List.length_cons,List.length_nil];omega)) only [go_sem,↓ak hN,an hN,reduceIte,reduceCtorEq,Nat.reduceAdd,Nat.reduceLT,Nat.reduceLeDiff,Nat.reduceEqDiff,Nat.reduceSub])|(with_reducible refine And.intro (fun h=>?_) (fun h=>?_) <;> try (exfalso;omega))|(with_reducible refine ba aS hN ?_)|(with_reducible refine And.intro ?_ ?_)|(refine am ?_;omega)|(exact a9 hN (by decide))))
 all_goals (refine ch (.inr rfl) (by first|rfl|(simp (disch:=first|decide|omega|(simp only [List.length_cons,List.length_nil];omega)) only [bH,bM,bP,bQ,go_sem,beq_self_eq_true,↓ax,↓ak hN,an hN,reduceIte,reduceCtorEq,Nat.reduceAdd,Nat.reduceLT,Nat.reduceLeDiff,Nat.reduceEqDiff,Nat.reduceSub];rfl)) ?_)
 all_goals simp [*]
noncomputable def mkT (n : Nat) (xs : List Int) (k : Nat) : List Bool:=mks n fun v=>∃ j,j < k ∧ gi xs j = v
theorem nt (n : Nat) (xs : List Int) (k : Nat) : (mkT n xs k).length = n:=bw _ _
theorem ln (n : Nat) (xs : List Int) : mkT n xs 0 = List.replicate n false:=by
 rw [← ef n fun _=>false]
 exact cz fun v hv=>by rw [aq (by rintro ⟨j,h,_⟩;omega)];simp
theorem lp {n : Nat} {xs : List Int} {k : Nat} (h0 : 0 ≤ gi xs k) (h1 : gi xs k < n) : mkT n xs (k + 1) = (mkT n xs k).set (gi xs k).toNat true:=by
 unfold mkT mks
 rw [kD (by omega)]
 refine cz fun v hv=>?_
 by_cases e : v = (gi xs k).toNat
 · rw [if_pos e,aA ⟨k,by omega,by omega⟩]
 · rw [if_neg e]
   refine cL ⟨fun ⟨j,h2,h3⟩=>⟨j,?_,h3⟩,fun ⟨j,h2,h3⟩=>⟨j,by omega,h3⟩⟩
   rcases Nat.lt_or_ge j k with h|h
   · exact h
   · have : j = k:=by omega
     subst this;omega
theorem ny (n : Nat) (xs : List Int) : mkT n xs xs.length = mks n fun v=>(v : Int) ∈ xs:=by
 refine nM fun v hv=>⟨fun ⟨j,h1,h2⟩=>?_,fun h=>?_⟩
 · rw [← h2];exact cy h1
 · obtain ⟨j,h1,h2⟩:=cG h;exact ⟨j,h1,h2⟩
theorem lq (a : Ar) (xs : List Int) (hB : Bnd xs a.own.length) (hn : a.own.length ≤ 256) (hx : xs.length ≤ 1048576) : aw Try.prog 117 [arA a,.c (.I xs)] [.arr 4 .yes (.B (mks a.own.length fun v=>(v : Int) ∈ xs))] (fun ns=>.sl (ns.getD 0 0)):=by
 (refine aV aS Try.func117 rfl rfl (by kernel_rfl) fun hp0 ν hX hN=>?_;simp only [ca,Nat.reduceAdd])
 (repeat' (first|(with_reducible first|(apply hK;clear hK K)|refine stZ ?_|refine aX rfl ?_|((first|apply ae|apply af);clear ae X af Y))|(with_reducible refine a8 ?_;first|refine aY rfl ?_|refine aZ rfl ?_)|((with_reducible first|((first|refine bc ?_|refine bd ?_);intro K hK)|(refine aC ?_;intro X Y ae af)|refine aD ?_);simp (disch:=first|decide|omega|(simp only [List.length_cons,List.length_nil];omega)) only [go_sem,↓ak hN,an hN,reduceIte,reduceCtorEq,Nat.reduceAdd,Nat.reduceLT,Nat.reduceLeDiff,Nat.reduceEqDiff,Nat.reduceSub])|(with_reducible refine And.intro (fun h=>?_) (fun h=>?_) <;> try (exfalso;omega))|(with_reducible refine ba aS hN ?_)|(with_reducible refine And.intro ?_ ?_)|(refine am ?_;omega)|(exact a9 hN (by decide))))
 (refine ce (fun (k : Nat)=>(tmL [(14,.c (.int .i64 k)),(13,.c (.int .i64 xs.length)),(12,.c (.I xs)),(5,.sl (ν 1))],hpL hp0 ν [.dead,.arr 4 .yes (.B (mkT a.own.length xs k))])) (fun (k : Nat)=>k ≤ xs.length) (fun (k : Nat)=>xs.length - k) ⟨0,?_,bI hX hN [] ?_ ?_⟩ ?_;(repeat' (first|(with_reducible first|exact clZ|refine bJ ?_ ?_|refine bK ?_ ?_|rfl|refine suZ ?_)|refine bL rfl ?_ ?_|exact bo hN _ rfl rfl rfl|exact bp hN _ rfl rfl rfl|exact aL hN _ rfl rfl rfl (Or.inr rfl)|(refine br hN _ rfl rfl (by first|exact Or.inr rfl|exact Or.inl rfl) ?_;first|exact aP _|exact aQ _)|refine aM hN rfl ?_|refine aN hN rfl rfl ?_|exact aK hN _ rfl rfl|exact aO hN rfl rfl rfl rfl|(with_reducible first|refine stZ ?_|refine bn ?_)));(try (any_goals (first|(with_reducible rfl)|(refine am ?_;omega)))))
 · exact ln _ _
 intro k hk
 have hb:=hB k
 have hl:=nt a.own.length xs k
 (repeat' (first|(with_reducible first|(apply hK;clear hK K)|refine stZ ?_|refine aX rfl ?_|((first|apply ae|apply af);clear ae X af Y))|(with_reducible refine a8 ?_;first|refine aY rfl ?_|refine aZ rfl ?_)|((with_reducible first|((first|refine bc ?_|refine bd ?_);intro K hK)|(refine aC ?_;intro X Y ae af)|refine aD ?_);simp (disch:=first|decide|omega|(simp only [List.length_cons,List.length_nil];omega)) only [go_sem,↓ak hN,an hN,reduceIte,reduceCtorEq,Nat.reduceAdd,Nat.reduceLT,Nat.reduceLeDiff,Nat.reduceEqDiff,Nat.reduceSub])|(with_reducible refine And.intro (fun h=>?_) (fun h=>?_) <;> try (exfalso;omega))|(with_reducible refine ba aS hN ?_)|(with_reducible refine And.intro ?_ ?_)|(refine am ?_;omega)|(exact a9 hN (by decide))))
 · (refine ⟨k + 1,⟨?_,?_⟩,bI hX hN [] ?_ ?_⟩;(try any_goals dsimp only);(repeat' (first|(with_reducible first|exact clZ|refine bJ ?_ ?_|refine bK ?_ ?_|rfl|refine suZ ?_)|refine bL rfl ?_ ?_|exact bo hN _ rfl rfl rfl|exact bp hN _ rfl rfl rfl|exact aL hN _ rfl rfl rfl (Or.inr rfl)|(refine br hN _ rfl rfl (by first|exact Or.inr rfl|exact Or.inl rfl) ?_;first|exact aP _|exact aQ _)|refine aM hN rfl ?_|refine aN hN rfl rfl ?_|exact aK hN _ rfl rfl|exact aO hN rfl rfl rfl rfl|(with_reducible first|refine stZ ?_|refine bn ?_)));(try (any_goals (first|(with_reducible rfl)|(refine am ?_;omega)))))
   exact lp (hB k (by omega)).1 (hB k (by omega)).2
 · (refine ct hN (i:=1) (.inr rfl) (by first|rfl|(simp (disch:=first|decide|omega|(simp only [List.length_cons,List.length_nil];omega)) only [bH,bM,bP,bQ,go_sem,beq_self_eq_true,↓ax,↓ak hN,an hN,reduceIte,reduceCtorEq,Nat.reduceAdd,Nat.reduceLT,Nat.reduceLeDiff,Nat.reduceEqDiff,Nat.reduceSub];rfl)) rfl ?_ rfl)
   rw [show k = xs.length by omega,ny]
theorem iV (n : Nat) (xs : List Int) (hB : Bnd xs n) (hn : n ≤ 256) (hx : xs.length ≤ 1048576) : aw Try.prog 48 [.c (.int .i64 n),.c (.I xs)] [.arr 4 .yes (.B (mks n fun v=>(v : Int) ∈ xs))] (fun ns=>.sl (ns.getD 0 0)):=by
 (refine aV aS Try.func48 rfl rfl (by kernel_rfl) fun hp0 ν hX hN=>?_;simp only [ca,Nat.reduceAdd])
 (repeat' (first|(with_reducible first|(apply hK;clear hK K)|refine stZ ?_|refine aX rfl ?_|((first|apply ae|apply af);clear ae X af Y))|(with_reducible refine a8 ?_;first|refine aY rfl ?_|refine aZ rfl ?_)|((with_reducible first|((first|refine bc ?_|refine bd ?_);intro K hK)|(refine aC ?_;intro X Y ae af)|refine aD ?_);simp (disch:=first|decide|omega|(simp only [List.length_cons,List.length_nil];omega)) only [go_sem,↓ak hN,an hN,reduceIte,reduceCtorEq,Nat.reduceAdd,Nat.reduceLT,Nat.reduceLeDiff,Nat.reduceEqDiff,Nat.reduceSub])|(with_reducible refine And.intro (fun h=>?_) (fun h=>?_) <;> try (exfalso;omega))|(with_reducible refine ba aS hN ?_)|(with_reducible refine And.intro ?_ ?_)|(refine am ?_;omega)|(exact a9 hN (by decide))))
 (refine ce (fun (k : Nat)=>(tmL [(6,.c (.int .i64 k)),(5,.sl (ν 0)),(1,.c (.I xs))],hpL hp0 ν [.arr 4 .yes (.B (mkT n xs k))])) (fun (k : Nat)=>k ≤ xs.length) (fun (k : Nat)=>xs.length - k) ⟨0,?_,bI hX hN [] ?_ ?_⟩ ?_;(repeat' (first|(with_reducible first|exact clZ|refine bJ ?_ ?_|refine bK ?_ ?_|rfl|refine suZ ?_)|refine bL rfl ?_ ?_|exact bo hN _ rfl rfl rfl|exact bp hN _ rfl rfl rfl|exact aL hN _ rfl rfl rfl (Or.inr rfl)|(refine br hN _ rfl rfl (by first|exact Or.inr rfl|exact Or.inl rfl) ?_;first|exact aP _|exact aQ _)|refine aM hN rfl ?_|refine aN hN rfl rfl ?_|exact aK hN _ rfl rfl|exact aO hN rfl rfl rfl rfl|(with_reducible first|refine stZ ?_|refine bn ?_)));(try (any_goals (first|(with_reducible rfl)|(refine am ?_;omega)))))
 · exact ln _ _
 intro k hk
 have hb:=hB k
 have hl:=nt n xs k
 (repeat' (first|(with_reducible first|(apply hK;clear hK K)|refine stZ ?_|refine aX rfl ?_|((first|apply ae|apply af);clear ae X af Y))|(with_reducible refine a8 ?_;first|refine aY rfl ?_|refine aZ rfl ?_)|((with_reducible first|((first|refine bc ?_|refine bd ?_);intro K hK)|(refine aC ?_;intro X Y ae af)|refine aD ?_);simp (disch:=first|decide|omega|(simp only [List.length_cons,List.length_nil];omega)) only [go_sem,↓ak hN,an hN,reduceIte,reduceCtorEq,Nat.reduceAdd,Nat.reduceLT,Nat.reduceLeDiff,Nat.reduceEqDiff,Nat.reduceSub])|(with_reducible refine And.intro (fun h=>?_) (fun h=>?_) <;> try (exfalso;omega))|(with_reducible refine ba aS hN ?_)|(with_reducible refine And.intro ?_ ?_)|(refine am ?_;omega)|(exact a9 hN (by decide))))
 · (refine ⟨k + 1,⟨?_,?_⟩,bI hX hN [] ?_ ?_⟩;(try any_goals dsimp only);(repeat' (first|(with_reducible first|exact clZ|refine bJ ?_ ?_|refine bK ?_ ?_|rfl|refine suZ ?_)|refine bL rfl ?_ ?_|exact bo hN _ rfl rfl rfl|exact bp hN _ rfl rfl rfl|exact aL hN _ rfl rfl rfl (Or.inr rfl)|(refine br hN _ rfl rfl (by first|exact Or.inr rfl|exact Or.inl rfl) ?_;first|exact aP _|exact aQ _)|refine aM hN rfl ?_|refine aN hN rfl rfl ?_|exact aK hN _ rfl rfl|exact aO hN rfl rfl rfl rfl|(with_reducible first|refine stZ ?_|refine bn ?_)));(try (any_goals (first|(with_reducible rfl)|(refine am ?_;omega)))))
   exact lp (hB k (by omega)).1 (hB k (by omega)).2
 · (refine ct hN (i:=0) (.inr rfl) (by first|rfl|(simp (disch:=first|decide|omega|(simp only [List.length_cons,List.length_nil];omega)) only [bH,bM,bP,bQ,go_sem,beq_self_eq_true,↓ax,↓ak hN,an hN,reduceIte,reduceCtorEq,Nat.reduceAdd,Nat.reduceLT,Nat.reduceLeDiff,Nat.reduceEqDiff,Nat.reduceSub];rfl)) rfl ?_ rfl)
   rw [show k = xs.length by omega,ny]
end Go.Proofs.Ythjamlponejffaa
namespace Go.Proofs.Ythjamlponejffaa
set_option linter.unusedVariables false
set_option linter.unusedSimpArgs false
open Go.RowKit
attribute [local irreducible] aw cu Aw Le
def e9 (a : Ar) (xs : List Int) : Prop:=b7 xs a.own.length ∧ ∀ k,k < xs.length → ∃ i,i < (gr a.nxt (gi xs k).toNat).length ∧ gi (gr a.nxt (gi xs k).toNat) i ∈ xs
def eE (g : Pa) (xs : List Int) (who d mine yours : Int) : Prop:=e9 g.ar xs ∧ (who = 0 ∨ who = 1) ∧ 0 ≤ d ∧ d ≤ 41 ∧ d.tmod 2 = who ∧ fE g.prio xs xs.length ≤ d ∧ 0 ≤ mine ∧ mine ≤ 12 ∧ 0 ≤ yours ∧ yours ≤ 12
theorem mD {n : Nat} {xs : List Int} {u : Int} (h0 : 0 ≤ u) (h1 : u < n) : gb (mks n fun v=>(v : Int) ∈ xs) u.toNat = tf (u ∈ xs):=by
 rw [eq _ (by omega)]
 exact cL (by rw [Int.toNat_of_nonneg h0])
theorem ow (ws : List Bool) (u : Int) (h0 : 0 ≤ u) (h1 : u < ws.length) : aw Try.prog 119 [.c (.int .i64 u),elA [.B ws]] [] (fun _=>.c (.bool (gb ws u.toNat))):=by
 (refine aV aS Try.func119 rfl rfl (by kernel_rfl) fun hp0 ν hX hN=>?_;simp only [ca,Nat.reduceAdd])
 (repeat' (first|(with_reducible first|(apply hK;clear hK K)|refine stZ ?_|refine aX rfl ?_|((first|apply ae|apply af);clear ae X af Y))|(with_reducible refine a8 ?_;first|refine aY rfl ?_|refine aZ rfl ?_)|((with_reducible first|((first|refine bc ?_|refine bd ?_);intro K hK)|(refine aC ?_;intro X Y ae af)|refine aD ?_);simp (disch:=first|decide|omega|(simp only [List.length_cons,List.length_nil];omega)) only [go_sem,↓ak hN,an hN,reduceIte,reduceCtorEq,Nat.reduceAdd,Nat.reduceLT,Nat.reduceLeDiff,Nat.reduceEqDiff,Nat.reduceSub])|(with_reducible refine And.intro (fun h=>?_) (fun h=>?_) <;> try (exfalso;omega))|(with_reducible refine ba aS hN ?_)|(with_reducible refine And.intro ?_ ?_)|(refine am ?_;omega)|(exact a9 hN (by decide))))
 (refine ch (.inr rfl) (by first|rfl|(simp (disch:=first|decide|omega|(simp only [List.length_cons,List.length_nil];omega)) only [bH,bM,bP,bQ,go_sem,beq_self_eq_true,↓ax,↓ak hN,an hN,reduceIte,reduceCtorEq,Nat.reduceAdd,Nat.reduceLT,Nat.reduceLeDiff,Nat.reduceEqDiff,Nat.reduceSub];rfl)) ?_)
 rfl
theorem lr (a : Ar) (hA : ArOk a) (xs : List Int) : aw Try.prog 89 [arA a,.c (.I xs)] [] (fun _=>.c (.bool (tf (e9 a xs)))):=by
 by_cases hs : b7 xs a.own.length
 · have hB:=hs.bnd
   have hl:=cS hs (by omega)
   have hn:=hA.le
   have hln:=hA.len
   (refine aV aS Try.func89 rfl rfl (by kernel_rfl) fun hp0 ν hX hN=>?_;simp only [ca,Nat.reduceAdd])
   (repeat' (first|(with_reducible first|(apply hK;clear hK K)|refine stZ ?_|refine aX rfl ?_|((first|apply ae|apply af);clear ae X af Y))|(with_reducible refine a8 ?_;first|refine aY rfl ?_|refine aZ rfl ?_)|((with_reducible first|((first|refine bc ?_|refine bd ?_);intro K hK)|(refine aC ?_;intro X Y ae af)|refine aD ?_);simp (disch:=first|decide|omega|(simp only [List.length_cons,List.length_nil];omega)) only [go_sem,↓ak hN,an hN,reduceIte,reduceCtorEq,Nat.reduceAdd,Nat.reduceLT,Nat.reduceLeDiff,Nat.reduceEqDiff,Nat.reduceSub])|(with_reducible refine And.intro (fun h=>?_) (fun h=>?_) <;> try (exfalso;omega))|(with_reducible refine ba aS hN ?_)|(refine aB (pP a) ?_ rfl (fun _=>rfl) ?_)|(refine aB (nr xs ?_) ?_ rfl (fun _=>rfl) ?_)|(refine aB (lq a xs hB hn (by omega)) ?_ rfl (fun _=>rfl) ?_)|(with_reducible first|exact au|refine ap ?_ ?_|exact bF _|refine aH ?_|exact aJ _|exact bi _ _|refine bh ?_|exact aF _)|exact aI hN rfl rfl|(refine bg hN rfl ?_;first|exact aP _|exact aQ _)|exact aG rfl rfl rfl|(simp only [aT,List.map_nil])|(with_reducible refine bC ?_)|(with_reducible refine And.intro ?_ ?_)|(refine am ?_;omega)|(exact a9 hN (by decide))))
   · exact absurd hs (by assumption)
   (refine ce (fun (k : Nat)=>(tmL [(18,.c (.int .i64 k)),(17,.c (.int .i64 xs.length)),(16,.c (.I xs)),(5,.ad (ν 2) 0),(2,.ad (ν 0) 0)],hpL hp0 ν [.box [.c (.I a.own),.c (.R a.nxt)],.dead,.box [.c (.B (mks a.own.length fun v=>(v : Int) ∈ xs))]])) (fun (k : Nat)=>k ≤ xs.length ∧ ∀ j,j < k → ∃ i,i < (gr a.nxt (gi xs j).toNat).length ∧ gi (gr a.nxt (gi xs j).toNat) i ∈ xs) (fun (k : Nat)=>xs.length - k) ⟨0,?_,bI hX hN [] ?_ ?_⟩ ?_;(repeat' (first|(with_reducible first|exact clZ|refine bJ ?_ ?_|refine bK ?_ ?_|rfl|refine suZ ?_)|refine bL rfl ?_ ?_|exact bo hN _ rfl rfl rfl|exact bp hN _ rfl rfl rfl|exact aL hN _ rfl rfl rfl (Or.inr rfl)|(refine br hN _ rfl rfl (by first|exact Or.inr rfl|exact Or.inl rfl) ?_;first|exact aP _|exact aQ _)|refine aM hN rfl ?_|refine aN hN rfl rfl ?_|exact aK hN _ rfl rfl|exact aO hN rfl rfl rfl rfl|(with_reducible first|refine stZ ?_|refine bn ?_)));(try (any_goals (first|(with_reducible rfl)|(refine am ?_;omega)))))
   · exact ⟨Nat.zero_le _,fun j hj=>by omega⟩
   intro k hk
   obtain ⟨hk,hI⟩:=hk
   have hb:=hB k
   have hvl : k < xs.length → (gr a.nxt (gi xs k).toNat).length ≤ 16:=fun h=>(hA.vert _ (by have:=hB k h;omega)).2.2.2.1
   have hv : ∀ i,k < xs.length → i < (gr a.nxt (gi xs k).toNat).length → 0 ≤ gi (gr a.nxt (gi xs k).toNat) i ∧ gi (gr a.nxt (gi xs k).toNat) i < a.own.length:=fun i h hi=>by
    have h5:=(hA.vert (gi xs k).toNat (by have:=hB k h;omega)).2.2.2.2
    exact h5.bnd i hi
   have hm : (mks a.own.length fun v=>(v : Int) ∈ xs).length = a.own.length:=bw _ _
   (repeat' (first|(with_reducible first|(apply hK;clear hK K)|refine stZ ?_|refine aX rfl ?_|((first|apply ae|apply af);clear ae X af Y))|(with_reducible refine a8 ?_;first|refine aY rfl ?_|refine aZ rfl ?_)|((with_reducible first|((first|refine bc ?_|refine bd ?_);intro K hK)|(refine aC ?_;intro X Y ae af)|refine aD ?_);simp (disch:=first|decide|omega|(simp only [List.length_cons,List.length_nil];omega)) only [go_sem,↓ak hN,an hN,reduceIte,reduceCtorEq,Nat.reduceAdd,Nat.reduceLT,Nat.reduceLeDiff,Nat.reduceEqDiff,Nat.reduceSub])|(with_reducible refine And.intro (fun h=>?_) (fun h=>?_) <;> try (exfalso;omega))|(with_reducible refine ba aS hN ?_)|(refine aB (iR (gr a.nxt (gi xs k).toNat) (by have:=hvl (by omega);omega) _ [.B (mks a.own.length fun v=>(v : Int) ∈ xs)] (fun u=>gb (mks a.own.length fun v=>(v : Int) ∈ xs) u.toNat) (fun i hi=>ow _ _ (hv i (by omega) hi).1 (by rw [hm];exact (hv i (by omega) hi).2))) ?_ rfl (fun _=>rfl) ?_)|(with_reducible first|exact au|refine ap ?_ ?_|exact bF _|refine aH ?_|exact aJ _|exact bi _ _|refine bh ?_|exact aF _)|exact aI hN rfl rfl|(refine bg hN rfl ?_;first|exact aP _|exact aQ _)|exact aG rfl rfl rfl|(simp only [aT,List.map_nil])|(with_reducible refine bC ?_)|(with_reducible refine And.intro ?_ ?_)|(refine am ?_;omega)|(exact a9 hN (by decide))))
   · (refine ch (.inr rfl) (by first|rfl|(simp (disch:=first|decide|omega|(simp only [List.length_cons,List.length_nil];omega)) only [bH,bM,bP,bQ,go_sem,beq_self_eq_true,↓ax,↓ak hN,an hN,reduceIte,reduceCtorEq,Nat.reduceAdd,Nat.reduceLT,Nat.reduceLeDiff,Nat.reduceEqDiff,Nat.reduceSub];rfl)) ?_)
     have h1:=h
     rw [aq (show ¬ e9 a xs from fun h=>by
      obtain ⟨i,hi,hm'⟩:=h.2 k (by omega)
      refine h1 ⟨i,hi,?_⟩
      rw [mD (hv i (by omega) hi).1 (hv i (by omega) hi).2]
      exact aA hm')]
   · (refine ⟨k + 1,⟨?_,?_⟩,bI hX hN [] ?_ ?_⟩;(try any_goals dsimp only);(repeat' (first|(with_reducible first|exact clZ|refine bJ ?_ ?_|refine bK ?_ ?_|rfl|refine suZ ?_)|refine bL rfl ?_ ?_|exact bo hN _ rfl rfl rfl|exact bp hN _ rfl rfl rfl|exact aL hN _ rfl rfl rfl (Or.inr rfl)|(refine br hN _ rfl rfl (by first|exact Or.inr rfl|exact Or.inl rfl) ?_;first|exact aP _|exact aQ _)|refine aM hN rfl ?_|refine aN hN rfl rfl ?_|exact aK hN _ rfl rfl|exact aO hN rfl rfl rfl rfl|(with_reducible first|refine stZ ?_|refine bn ?_)));(try (any_goals (first|(with_reducible rfl)|(refine am ?_;omega)))))
     have h1:=h
     refine ⟨by omega,fun j hj=>?_⟩
     rcases Nat.lt_or_ge j k with h|h
     · exact hI j h
     · have : j = k:=by omega
       subst this
       obtain ⟨i,hi,hm'⟩:=h1
       rw [mD (hv i (by omega) hi).1 (hv i (by omega) hi).2] at hm'
       exact ⟨i,hi,gJ.1 hm'⟩
   · (refine ch (.inr rfl) (by first|rfl|(simp (disch:=first|decide|omega|(simp only [List.length_cons,List.length_nil];omega)) only [bH,bM,bP,bQ,go_sem,beq_self_eq_true,↓ax,↓ak hN,an hN,reduceIte,reduceCtorEq,Nat.reduceAdd,Nat.reduceLT,Nat.reduceLeDiff,Nat.reduceEqDiff,Nat.reduceSub];rfl)) ?_)
     rw [aA (show e9 a xs from ⟨hs,fun j hj=>hI j (by omega)⟩)]
 · rw [aq (fun h=>hs h.1)]
   (refine aV aS Try.func89 rfl rfl (by kernel_rfl) fun hp0 ν hX hN=>?_;simp only [ca,Nat.reduceAdd])
   (repeat' (first|(with_reducible first|(apply hK;clear hK K)|refine stZ ?_|refine aX rfl ?_|((first|apply ae|apply af);clear ae X af Y))|(with_reducible refine a8 ?_;first|refine aY rfl ?_|refine aZ rfl ?_)|((with_reducible first|((first|refine bc ?_|refine bd ?_);intro K hK)|(refine aC ?_;intro X Y ae af)|refine aD ?_);simp (disch:=first|decide|omega|(simp only [List.length_cons,List.length_nil];omega)) only [go_sem,↓ak hN,an hN,reduceIte,reduceCtorEq,Nat.reduceAdd,Nat.reduceLT,Nat.reduceLeDiff,Nat.reduceEqDiff,Nat.reduceSub])|(with_reducible refine And.intro (fun h=>?_) (fun h=>?_) <;> try (exfalso;omega))|(with_reducible refine ba aS hN ?_)|(refine aB (pP a) ?_ rfl (fun _=>rfl) ?_)|(refine aB (nr xs ?_) ?_ rfl (fun _=>rfl) ?_)|(with_reducible first|exact au|refine ap ?_ ?_|exact bF _|refine aH ?_|exact aJ _|exact bi _ _|refine bh ?_|exact aF _)|exact aI hN rfl rfl|(refine bg hN rfl ?_;first|exact aP _|exact aQ _)|exact aG rfl rfl rfl|(simp only [aT,List.map_nil])|(with_reducible refine bC ?_)|(with_reducible refine And.intro ?_ ?_)|(refine am ?_;omega)|(exact a9 hN (by decide))))
   · (refine ch (.inr rfl) (by first|rfl|(simp (disch:=first|decide|omega|(simp only [List.length_cons,List.length_nil];omega)) only [bH,bM,bP,bQ,go_sem,beq_self_eq_true,↓ax,↓ak hN,an hN,reduceIte,reduceCtorEq,Nat.reduceAdd,Nat.reduceLT,Nat.reduceLeDiff,Nat.reduceEqDiff,Nat.reduceSub];rfl)) ?_)
     rfl
   · exact absurd (by assumption) hs
set_option maxHeartbeats 4000000 in
theorem gH (g : Pa) (hg : PaOk g) (xs : List Int) (who d mine yours : Int) : aw Try.prog 51 [paA g,.c (.I xs),.c (.int .i64 who),.c (.int .i64 d),.c (.int .i64 mine),.c (.int .i64 yours)] [] (fun _=>.c (.bool (tf (eE g xs who d mine yours)))):=by
 have hA:=hg.ar
 by_cases hG : e9 g.ar xs
 · have hB : Bnd xs g.prio.length:=by rw [hg.len];exact hG.1.bnd
   (refine aV aS Try.func51 rfl rfl (by kernel_rfl) fun hp0 ν hX hN=>?_;simp only [ca,Nat.reduceAdd])
   (repeat' (first|(with_reducible first|(apply hK;clear hK K)|refine stZ ?_|refine aX rfl ?_|((first|apply ae|apply af);clear ae X af Y))|(with_reducible refine a8 ?_;first|refine aY rfl ?_|refine aZ rfl ?_)|(with_reducible refine bz ?_;first|refine be rfl rfl rfl rfl ?_|refine bv rfl rfl rfl ?_|refine bN rfl rfl rfl rfl ?_)|((first|(with_reducible first|((first|refine bc ?_|refine bd ?_);intro K hK)|(refine aC ?_;intro X Y ae af)|refine aD ?_)|(with_reducible refine bz ?_;refine bf rfl rfl fun X Y ae af=>?_));simp (disch:=first|decide|omega|(simp only [List.length_cons,List.length_nil];omega)) only [go_sem,↓ak hN,an hN,reduceIte,reduceCtorEq,Nat.reduceAdd,Nat.reduceLT,Nat.reduceLeDiff,Nat.reduceEqDiff,Nat.reduceSub])|(with_reducible refine And.intro (fun h=>?_) (fun h=>?_) <;> try (exfalso;omega))|(with_reducible refine ba aS hN ?_)|(refine aB (lr g.ar hA xs) ?_ rfl (fun _=>rfl) ?_)|(refine aB (iU ?_) ?_ rfl (fun _=>rfl) ?_)|(refine aB (rf g xs hB) ?_ rfl (fun _=>rfl) ?_)|(with_reducible first|exact au|refine ap ?_ ?_|exact bF _|refine aH ?_|exact aJ _|exact bi _ _|refine bh ?_|exact aF _)|exact aI hN rfl rfl|(refine bg hN rfl ?_;first|exact aP _|exact aQ _)|exact aG rfl rfl rfl|(simp only [aT,List.map_nil])|(with_reducible refine bC ?_)|(with_reducible refine And.intro ?_ ?_)|(refine am ?_;omega)|(exact a9 hN (by decide))))
   all_goals (refine ch (.inr rfl) (by first|rfl|(simp (disch:=first|decide|omega|(simp only [List.length_cons,List.length_nil];omega)) only [bH,bM,bP,bQ,go_sem,beq_self_eq_true,↓ax,↓ak hN,an hN,reduceIte,reduceCtorEq,Nat.reduceAdd,Nat.reduceLT,Nat.reduceLeDiff,Nat.reduceEqDiff,Nat.reduceSub];rfl)) ?_)
   all_goals refine kr ?_
   all_goals first
    | (refine pG ?_; unfold eE; grind)
    | (refine dH ?_; unfold eE; grind)
 · rw [aq (fun h=>hG h.1)]
   (refine aV aS Try.func51 rfl rfl (by kernel_rfl) fun hp0 ν hX hN=>?_;simp only [ca,Nat.reduceAdd])
   (repeat' (first|(with_reducible first|(apply hK;clear hK K)|refine stZ ?_|refine aX rfl ?_|((first|apply ae|apply af);clear ae X af Y))|(with_reducible refine a8 ?_;first|refine aY rfl ?_|refine aZ rfl ?_)|(with_reducible refine bz ?_;first|refine be rfl rfl rfl rfl ?_|refine bv rfl rfl rfl ?_|refine bN rfl rfl rfl rfl ?_)|((first|(with_reducible first|((first|refine bc ?_|refine bd ?_);intro K hK)|(refine aC ?_;intro X Y ae af)|refine aD ?_)|(with_reducible refine bz ?_;refine bf rfl rfl fun X Y ae af=>?_));simp (disch:=first|decide|omega|(simp only [List.length_cons,List.length_nil];omega)) only [go_sem,↓ak hN,an hN,reduceIte,reduceCtorEq,Nat.reduceAdd,Nat.reduceLT,Nat.reduceLeDiff,Nat.reduceEqDiff,Nat.reduceSub])|(with_reducible refine And.intro (fun h=>?_) (fun h=>?_) <;> try (exfalso;omega))|(with_reducible refine ba aS hN ?_)|(refine aB (lr g.ar hA xs) ?_ rfl (fun _=>rfl) ?_)|(refine aB (iU ?_) ?_ rfl (fun _=>rfl) ?_)|(with_reducible first|exact au|refine ap ?_ ?_|exact bF _|refine aH ?_|exact aJ _|exact bi _ _|refine bh ?_|exact aF _)|exact aI hN rfl rfl|(refine bg hN rfl ?_;first|exact aP _|exact aQ _)|exact aG rfl rfl rfl|(simp only [aT,List.map_nil])|(with_reducible refine bC ?_)|(with_reducible refine And.intro ?_ ?_)|(refine am ?_;omega)|(exact a9 hN (by decide))))
   all_goals first
    | exact absurd (by assumption) hG
    | ((refine ch (.inr rfl) (by first | rfl | (simp (disch := first | decide | omega | (simp only [List.length_cons, List.length_nil]; omega)) only [bH, bM, bP, bQ, go_sem, beq_self_eq_true, ↓ax, ↓ak hN, an hN, reduceIte, reduceCtorEq, Nat.reduceAdd, Nat.reduceLT, Nat.reduceLeDiff, Nat.reduceEqDiff, Nat.reduceSub]; rfl)) ?_); rfl)
def cP (g : Pa) (xs : List Int) (who d mine yours : Int) : Prop:=dJ g ∧ eE g xs who d mine yours
end Go.Proofs.Ythjamlponejffaa
namespace Go.Proofs.Ythjamlponejffaa
set_option linter.unusedVariables false
set_option linter.unusedSimpArgs false
open Go.RowKit
theorem ls {row : List Int} {v u : Nat} {x : Int} : ∀ {k : Nat},x ∈ b8 row v u k ↔ x = v ∧ ∃ i,i < k ∧ (gi row i).toNat = u:=by
 intro k
 induction k with
 | zero => simp [b8]
 | succ k ih =>
   unfold b8
   rw [List.mem_append,ih]
   constructor
   · rintro (⟨h1,i,h2,h3⟩|h)
     · exact ⟨h1,i,by omega,h3⟩
     · split at h
       · rename_i hu;simp at h;exact ⟨h,k,by omega,hu⟩
       · simp at h
   · rintro ⟨h1,i,h2,h3⟩
     rcases Nat.lt_or_ge i k with h|h
     · exact .inl ⟨h1,i,h,h3⟩
     · have : i = k:=by omega
       subst this
       rw [if_pos h3];exact .inr (by simp [h1])
theorem eF {nxt : List (List Int)} {u : Nat} {x : Int} : ∀ {k : Nat},x ∈ bO nxt u k ↔ ∃ v,v < k ∧ x = (v : Int) ∧ ∃ i,i < (gr nxt v).length ∧ (gi (gr nxt v) i).toNat = u:=by
 intro k
 induction k with
 | zero => simp [bO]
 | succ k ih =>
   unfold bO
   rw [List.mem_append,ih,ls]
   constructor
   · rintro (⟨v,h1,h2⟩|⟨h1,h2⟩)
     · exact ⟨v,by omega,h2⟩
     · exact ⟨k,by omega,h1,h2⟩
   · rintro ⟨v,h1,h2⟩
     rcases Nat.lt_or_ge v k with h|h
     · exact .inl ⟨v,h,h2⟩
     · have : v = k:=by omega
       subst this;exact .inr h2
theorem mE {xs : List Int} {m : Int} (h : b7 xs m) : ∀ {t s : Nat},s < t → t < xs.length → gi xs s < gi xs t:=by
 intro t
 induction t with
 | zero => intro s h1; omega
 | succ t ih =>
   intro s h1 h2
   have:=(h (t + 1) h2).2.2 (by omega)
   simp only [Nat.add_sub_cancel] at this
   rcases Nat.lt_or_ge s t with h3|h3
   · have:=ih h3 (by omega);omega
   · have : s = t:=by omega
     subst this;omega
theorem lu {xs : List Int} {m : Int} (h : b7 xs m) {s t : Nat} (hs : s < xs.length) (ht : t < xs.length) (e : gi xs s = gi xs t) : s = t:=by
 rcases Nat.lt_trichotomy s t with h'|h'|h'
 · have:=mE h h' ht;omega
 · exact h'
 · have:=mE h h' hs;omega
theorem iW {xs : List Int} (h : xs.Nodup) {s t : Nat} (hs : s < xs.length) (ht : t < xs.length) (e : gi xs s = gi xs t) : s = t:=by
 rw [dz hs,dz ht] at e
 exact (List.getElem_inj (h₀:=hs) (h₁:=ht) h).1 e
theorem jm {row : List Int} {m : Int} (h : b7 row m) (v u : Nat) : ∀ i,i ≤ row.length → (b8 row v u i = [] ∨ (b8 row v u i = [(v : Int)] ∧ ∃ j,j < i ∧ (gi row j).toNat = u)):=by
 intro i
 induction i with
 | zero => intro _; exact .inl rfl
 | succ i ih =>
   intro hi
   unfold b8
   by_cases e : (gi row i).toNat = u
   · rw [if_pos e]
     rcases ih (by omega) with h1|⟨_,j,h1,h2⟩
     · rw [h1];exact .inr ⟨rfl,i,by omega,e⟩
     · have a:=(h j (by omega)).1
       have b:=(h i (by omega)).1
       have:=lu h (s:=j) (t:=i) (by omega) (by omega) (by omega)
       omega
   · rw [if_neg e,List.append_nil]
     rcases ih (by omega) with h1|⟨h0,j,h1,h2⟩
     · exact .inl h1
     · exact .inr ⟨h0,j,by omega,h2⟩
theorem ku {nxt : List (List Int)} {n : Nat} {m : Int} (h : ∀ v,v < n → b7 (gr nxt v) m) (u : Nat) : (bO nxt u n).Nodup:=by
 induction n with
 | zero => exact List.nodup_nil
 | succ n ih =>
   unfold bO
   rcases jm (h n (by omega)) n u _ (Nat.le_refl _) with e|⟨e,_⟩
   · rw [e,List.append_nil];exact ih fun v hv=>h v (by omega)
   · rw [e,List.nodup_append]
     refine ⟨ih fun v hv=>h v (by omega),by simp,fun x hx y hy=>?_⟩
     obtain ⟨v,h1,h2,_⟩:=eF.1 hx
     simp at hy
     omega
theorem mF {nxt : List (List Int)} {n : Nat} (hv : ∀ v,v < n → ∀ i,i < (gr nxt v).length → 0 ≤ gi (gr nxt v) i ∧ gi (gr nxt v) i < n) (u v : Nat) : (∃ t,t < (bO nxt u n).length ∧ gi (bO nxt u n) t = (v : Int)) ↔ v < n ∧ ∃ t,t < (gr nxt v).length ∧ gi (gr nxt v) t = (u : Int):=by
 constructor
 · rintro ⟨t,h1,h2⟩
   have hm : (v : Int) ∈ bO nxt u n:=by rw [← h2];exact cy h1
   obtain ⟨v',h3,h4,i,h5,h6⟩:=eF.1 hm
   have e : v' = v:=by omega
   subst e
   exact ⟨h3,i,h5,by have:=hv v' h3 i h5;omega⟩
 · rintro ⟨h1,t,h2,h3⟩
   have hm : (v : Int) ∈ bO nxt u n:=eF.2 ⟨v,h1,rfl,t,h2,by omega⟩
   exact cG hm
theorem dS {g : Pa} (hg : PaOk g) : GmOk (cY g) g.prio.length:=by
 have h1:=hg.ar.le
 have h2:=hg.len
 have h3:=hg.ar.len
 have hv : ∀ v,v < g.prio.length → (gr g.ar.nxt v).length ≤ 16 ∧ ∀ i,i < (gr g.ar.nxt v).length → 0 ≤ gi (gr g.ar.nxt v) i ∧ gi (gr g.ar.nxt v) i < g.prio.length:=fun v hv=>by
  obtain ⟨_,_,_,a,b⟩:=hg.ar.vert v (by omega)
  exact ⟨a,fun i hi=>by have:=b.bnd i hi;omega⟩
 refine ⟨by omega,h2.symm,rfl,by show g.ar.nxt.length = _;omega,iO _ _,dq _ _,fun v hv'=>⟨by have:=(hv v hv').1;show (gr g.ar.nxt v).length ≤ _;omega,(hv v hv').2⟩,fun v s t hv' hs ht e=>lu (hg.ar.vert v (by omega)).2.2.2.2 hs ht e,fun u v hu=>?_,fun u s t hu hs ht e=>?_,fun v hv'=>by have:=hg.ar.vert v (by omega);exact ⟨this.1,this.2.1⟩,fun v hv'=>hg.prio v hv',fun u hu=>?_⟩
 · rw [show gr (cY g).prev u = bO g.ar.nxt u g.prio.length from dw _ hu]
   exact mF (fun v hv' i hi=>(hv v hv').2 i hi) u v
 · rw [show gr (cY g).prev u = bO g.ar.nxt u g.prio.length from dw _ hu] at hs ht e
   exact iW (ku (fun v hv'=>hg.ar.vert v (by omega) |>.2.2.2.2) u) hs ht e
 have e : gr (cY g).prev u = bO g.ar.nxt u g.prio.length:=dw _ hu
 rw [e]
 refine ⟨?_,fun i hi=>?_⟩
 · have:=iP (nxt:=g.ar.nxt) (m:=16) u g.prio.length fun j hj=>(hv j hj).1
   have : 16 * g.prio.length ≤ 16 * 256:=Nat.mul_le_mul_left _ (by omega)
   omega
 · obtain ⟨v,k1,k2,_⟩:=eF.1 (cy hi)
   omega
end Go.Proofs.Ythjamlponejffaa
