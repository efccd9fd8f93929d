/-
  The solver's small functions.
-/
import Derived.Test.YthjamlponejffaaZwCe
import Derived.Test.YthjamlponejffaaZwCg
namespace Go.Proofs.Ythjamlponejffaa
set_option linter.unusedVariables false
set_option linter.unusedSimpArgs false
open Go.RowKit
attribute [local irreducible] au ci Aw Le
def eu (bs : List Bool) : Nat → List Int
 | 0 => []
 | k + 1 => eu bs k ++ if gb bs k then [(k : Int)] else []
theorem oN (bs : List Bool) : ∀ k,(eu bs k).length ≤ k:=by
 intro k
 induction k with
 | zero => exact Nat.le_refl _
 | succ k ih => simp only [eu, List.length_append]; split <;> simp <;> omega
theorem ig {bs : List Bool} {x : Int} : ∀ {k : Nat},x ∈ eu bs k ↔ ∃ v,v < k ∧ x = (v : Int) ∧ gb bs v = true:=by
 intro k
 induction k with
 | zero => simp [eu]
 | succ k ih =>
   rw [eu,List.mem_append,ih]
   constructor
   · rintro (⟨v,h1,h2⟩|h)
     · exact ⟨v,by omega,h2⟩
     · split at h
       · rename_i hb;simp at h;exact ⟨k,by omega,h,hb⟩
       · simp at h
   · rintro ⟨v,h1,h2,h3⟩
     rcases Nat.lt_or_ge v k with h|h
     · exact .inl ⟨v,h,h2,h3⟩
     · have : v = k:=by omega
       subst this
       rw [if_pos h3];exact .inr (by simp [h2])
theorem fS (a b : List Bool) (h : b.length = a.length) (hl : a.length ≤ 256) : au Try.prog 87 [.c (.B a),.c (.B b)] [.arr 4 .yes (.B (b9 a.length fun i=>gb a i && !gb b i))] (fun ns=>.sl (ns.getD 0 0)):=by
 (refine bu ba Try.func87 rfl rfl (by kernel_rfl) fun hp0 ν hX hN=>?_;simp only [cy,Nat.reduceAdd])
 (repeat' (first|(with_reducible first|(apply hK;clear hK K)|refine stZ ?_|refine bc rfl ?_|((first|apply ae|apply af);clear ae X af Y))|(with_reducible refine bf ?_;first|refine bd rfl ?_|refine be rfl ?_)|(with_reducible refine bI ?_;first|refine bp rfl rfl rfl rfl ?_|refine bH rfl rfl rfl ?_|refine bY rfl rfl rfl rfl ?_)|((first|(with_reducible first|((first|refine bi ?_|refine bj ?_);intro K hK)|(refine aN ?_;intro X Y ae af)|refine aO ?_)|(with_reducible refine bI ?_;refine br rfl rfl fun X Y ae af=>?_));simp (disch:=first|decide|omega|(simp only [List.length_cons,List.length_nil];omega)) only [go_sem,↓am hN,ao hN,reduceIte,reduceCtorEq,Nat.reduceAdd,Nat.reduceLT,Nat.reduceLeDiff,Nat.reduceEqDiff,Nat.reduceSub])|(with_reducible refine And.intro (fun h=>?_) (fun h=>?_) <;> try (exfalso;omega))|(with_reducible refine bh ba hN ?_)|(with_reducible refine And.intro ?_ ?_)|(refine ak ?_;omega)|(exact bg hN (by decide))))
 (refine ce (fun (k : Nat)=>(tmL [(6,.c (.int .i64 k)),(5,.sl (ν 0)),(0,.c (.B a)),(1,.c (.B b))],hpL hp0 ν [.arr 4 .yes (.B (b9 a.length fun i=>if i < k then gb a i && !gb b i else false))])) (fun (k : Nat)=>k ≤ a.length) (fun (k : Nat)=>a.length - k) ⟨0,?_,bC hX hN [] ?_ ?_⟩ ?_;(repeat' (first|(with_reducible first|exact clZ|refine bD ?_ ?_|refine bE ?_ ?_|rfl|refine suZ ?_)|refine bF rfl ?_ ?_|exact aR hN _ rfl rfl rfl|exact aS hN _ rfl rfl rfl|exact aB hN _ rfl rfl rfl (Or.inr rfl)|(refine aT hN _ rfl rfl (by first|exact Or.inr rfl|exact Or.inl rfl) ?_;first|exact aJ _|exact aK _)|refine aC hN rfl ?_|refine aD hN rfl rfl ?_|exact aA hN _ rfl rfl|exact aE hN rfl rfl rfl rfl|(with_reducible first|refine stZ ?_|refine aQ ?_)));(try (any_goals (first|(with_reducible rfl)|(refine ak ?_;omega)))))
 · exact dn _ _
 intro k hk
 (repeat' (first|(with_reducible first|(apply hK;clear hK K)|refine stZ ?_|refine bc rfl ?_|((first|apply ae|apply af);clear ae X af Y))|(with_reducible refine bf ?_;first|refine bd rfl ?_|refine be rfl ?_)|(with_reducible refine bI ?_;first|refine bp rfl rfl rfl rfl ?_|refine bH rfl rfl rfl ?_|refine bY rfl rfl rfl rfl ?_)|((first|(with_reducible first|((first|refine bi ?_|refine bj ?_);intro K hK)|(refine aN ?_;intro X Y ae af)|refine aO ?_)|(with_reducible refine bI ?_;refine br rfl rfl fun X Y ae af=>?_));simp (disch:=first|decide|omega|(simp only [List.length_cons,List.length_nil];omega)) only [go_sem,↓am hN,ao hN,reduceIte,reduceCtorEq,Nat.reduceAdd,Nat.reduceLT,Nat.reduceLeDiff,Nat.reduceEqDiff,Nat.reduceSub])|(with_reducible refine And.intro (fun h=>?_) (fun h=>?_) <;> try (exfalso;omega))|(with_reducible refine bh ba hN ?_)|(with_reducible refine And.intro ?_ ?_)|(refine ak ?_;omega)|(exact bg hN (by decide))))
 · (refine ⟨k + 1,⟨?_,?_⟩,bC hX hN [] ?_ ?_⟩;(try any_goals dsimp only);(repeat' (first|(with_reducible first|exact clZ|refine bD ?_ ?_|refine bE ?_ ?_|rfl|refine suZ ?_)|refine bF rfl ?_ ?_|exact aR hN _ rfl rfl rfl|exact aS hN _ rfl rfl rfl|exact aB hN _ rfl rfl rfl (Or.inr rfl)|(refine aT hN _ rfl rfl (by first|exact Or.inr rfl|exact Or.inl rfl) ?_;first|exact aJ _|exact aK _)|refine aC hN rfl ?_|refine aD hN rfl rfl ?_|exact aA hN _ rfl rfl|exact aE hN rfl rfl rfl rfl|(with_reducible first|refine stZ ?_|refine aQ ?_)));(try (any_goals (first|(with_reducible rfl)|(refine ak ?_;omega)))))
   exact iZ (by omega) (by simp [*])
 · (refine ⟨k + 1,⟨?_,?_⟩,bC hX hN [] ?_ ?_⟩;(try any_goals dsimp only);(repeat' (first|(with_reducible first|exact clZ|refine bD ?_ ?_|refine bE ?_ ?_|rfl|refine suZ ?_)|refine bF rfl ?_ ?_|exact aR hN _ rfl rfl rfl|exact aS hN _ rfl rfl rfl|exact aB hN _ rfl rfl rfl (Or.inr rfl)|(refine aT hN _ rfl rfl (by first|exact Or.inr rfl|exact Or.inl rfl) ?_;first|exact aJ _|exact aK _)|refine aC hN rfl ?_|refine aD hN rfl rfl ?_|exact aA hN _ rfl rfl|exact aE hN rfl rfl rfl rfl|(with_reducible first|refine stZ ?_|refine aQ ?_)));(try (any_goals (first|(with_reducible rfl)|(refine ak ?_;omega)))))
   exact iZ (by omega) (by simp [*])
 · (refine cz hN (i:=0) (.inr rfl) (by first|rfl|(simp (disch:=first|decide|omega|(simp only [List.length_cons,List.length_nil];omega)) only [bW,b7,cf,cj,go_sem,beq_self_eq_true,↓aG,↓am hN,ao hN,reduceIte,reduceCtorEq,Nat.reduceAdd,Nat.reduceLT,Nat.reduceLeDiff,Nat.reduceEqDiff,Nat.reduceSub];rfl)) rfl ?_ rfl)
   exact congrArg C.B (fh (by omega))
theorem qm (n : Nat) (hn : n ≤ 256) : au Try.prog 98 [.c (.int .i64 n)] [.arr 4 .yes (.B (b9 n fun _=>true))] (fun ns=>.sl (ns.getD 0 0)):=by
 (refine bu ba Try.func98 rfl rfl (by kernel_rfl) fun hp0 ν hX hN=>?_;simp only [cy,Nat.reduceAdd])
 (repeat' (first|(with_reducible first|(apply hK;clear hK K)|refine stZ ?_|refine bc rfl ?_|((first|apply ae|apply af);clear ae X af Y))|(with_reducible refine bf ?_;first|refine bd rfl ?_|refine be rfl ?_)|((with_reducible first|((first|refine bi ?_|refine bj ?_);intro K hK)|(refine aN ?_;intro X Y ae af)|refine aO ?_);simp (disch:=first|decide|omega|(simp only [List.length_cons,List.length_nil];omega)) only [go_sem,↓am hN,ao hN,reduceIte,reduceCtorEq,Nat.reduceAdd,Nat.reduceLT,Nat.reduceLeDiff,Nat.reduceEqDiff,Nat.reduceSub])|(with_reducible refine And.intro (fun h=>?_) (fun h=>?_) <;> try (exfalso;omega))|(with_reducible refine bh ba hN ?_)|(with_reducible refine And.intro ?_ ?_)|(refine ak ?_;omega)|(exact bg hN (by decide))))
 (refine ce (fun (k : Nat)=>(tmL [(4,.c (.int .i64 k)),(3,.sl (ν 0)),(0,.c (.int .i64 n))],hpL hp0 ν [.arr 4 .yes (.B (b9 n fun i=>if i < k then true else false))])) (fun (k : Nat)=>k ≤ n) (fun (k : Nat)=>n - k) ⟨0,?_,bC hX hN [] ?_ ?_⟩ ?_;(repeat' (first|(with_reducible first|exact clZ|refine bD ?_ ?_|refine bE ?_ ?_|rfl|refine suZ ?_)|refine bF rfl ?_ ?_|exact aR hN _ rfl rfl rfl|exact aS hN _ rfl rfl rfl|exact aB hN _ rfl rfl rfl (Or.inr rfl)|(refine aT hN _ rfl rfl (by first|exact Or.inr rfl|exact Or.inl rfl) ?_;first|exact aJ _|exact aK _)|refine aC hN rfl ?_|refine aD hN rfl rfl ?_|exact aA hN _ rfl rfl|exact aE hN rfl rfl rfl rfl|(with_reducible first|refine stZ ?_|refine aQ ?_)));(try (any_goals (first|(with_reducible rfl)|(refine ak ?_;omega)))))
 · exact dn n fun _=>true
 intro k hk
 (repeat' (first|(with_reducible first|(apply hK;clear hK K)|refine stZ ?_|refine bc rfl ?_|((first|apply ae|apply af);clear ae X af Y))|(with_reducible refine bf ?_;first|refine bd rfl ?_|refine be rfl ?_)|((with_reducible first|((first|refine bi ?_|refine bj ?_);intro K hK)|(refine aN ?_;intro X Y ae af)|refine aO ?_);simp (disch:=first|decide|omega|(simp only [List.length_cons,List.length_nil];omega)) only [go_sem,↓am hN,ao hN,reduceIte,reduceCtorEq,Nat.reduceAdd,Nat.reduceLT,Nat.reduceLeDiff,Nat.reduceEqDiff,Nat.reduceSub])|(with_reducible refine And.intro (fun h=>?_) (fun h=>?_) <;> try (exfalso;omega))|(with_reducible refine bh ba hN ?_)|(with_reducible refine And.intro ?_ ?_)|(refine ak ?_;omega)|(exact bg hN (by decide))))
 · (refine ⟨k + 1,⟨?_,?_⟩,bC hX hN [] ?_ ?_⟩;(try any_goals dsimp only);(repeat' (first|(with_reducible first|exact clZ|refine bD ?_ ?_|refine bE ?_ ?_|rfl|refine suZ ?_)|refine bF rfl ?_ ?_|exact aR hN _ rfl rfl rfl|exact aS hN _ rfl rfl rfl|exact aB hN _ rfl rfl rfl (Or.inr rfl)|(refine aT hN _ rfl rfl (by first|exact Or.inr rfl|exact Or.inl rfl) ?_;first|exact aJ _|exact aK _)|refine aC hN rfl ?_|refine aD hN rfl rfl ?_|exact aA hN _ rfl rfl|exact aE hN rfl rfl rfl rfl|(with_reducible first|refine stZ ?_|refine aQ ?_)));(try (any_goals (first|(with_reducible rfl)|(refine ak ?_;omega)))))
   exact iZ (f:=fun _=>true) (d:=fun _=>false) (by omega) rfl
 · (refine cz hN (i:=0) (.inr rfl) (by first|rfl|(simp (disch:=first|decide|omega|(simp only [List.length_cons,List.length_nil];omega)) only [bW,b7,cf,cj,go_sem,beq_self_eq_true,↓aG,↓am hN,ao hN,reduceIte,reduceCtorEq,Nat.reduceAdd,Nat.reduceLT,Nat.reduceLeDiff,Nat.reduceEqDiff,Nat.reduceSub];rfl)) rfl ?_ rfl)
   exact congrArg C.B (fh (f:=fun _=>true) (d:=fun _=>false) (by omega))
def jP (pr : List Int) (bs : List Bool) : Nat → Int
 | 0 => -1
 | k + 1 => if gb bs k then max (jP pr bs k) (gi pr k) else jP pr bs k
theorem qp (a b : Int) : au Try.prog 104 [.c (.int .i64 a),.c (.int .i64 b)] [] (fun _=>.c (.int .i64 (max a b))):=by
 (refine bu ba Try.func104 rfl rfl (by kernel_rfl) fun hp0 ν hX hN=>?_;simp only [cy,Nat.reduceAdd])
 (repeat' (first|(with_reducible first|(apply hK;clear hK K)|refine stZ ?_|refine bc rfl ?_|((first|apply ae|apply af);clear ae X af Y))|(with_reducible refine bf ?_;first|refine bd rfl ?_|refine be rfl ?_)|((with_reducible first|((first|refine bi ?_|refine bj ?_);intro K hK)|(refine aN ?_;intro X Y ae af)|refine aO ?_);simp (disch:=first|decide|omega|(simp only [List.length_cons,List.length_nil];omega)) only [go_sem,↓am hN,ao hN,reduceIte,reduceCtorEq,Nat.reduceAdd,Nat.reduceLT,Nat.reduceLeDiff,Nat.reduceEqDiff,Nat.reduceSub])|(with_reducible refine And.intro (fun h=>?_) (fun h=>?_) <;> try (exfalso;omega))|(with_reducible refine bh ba hN ?_)|(with_reducible refine And.intro ?_ ?_)|(refine ak ?_;omega)|(exact bg hN (by decide))))
 all_goals (refine dF (.inr rfl) (by first|rfl|(simp (disch:=first|decide|omega|(simp only [List.length_cons,List.length_nil];omega)) only [bW,b7,cf,cj,go_sem,beq_self_eq_true,↓aG,↓am hN,ao hN,reduceIte,reduceCtorEq,Nat.reduceAdd,Nat.reduceLT,Nat.reduceLeDiff,Nat.reduceEqDiff,Nat.reduceSub];rfl)) ?_)
 all_goals (refine oE ?_;omega)
theorem qq (g : Gm) (n : Nat) (hg : GmOk g n) (inn : List Bool) (hi : inn.length = n) : au Try.prog 99 [gmA g,.c (.B inn)] [] (fun _=>.c (.int .i64 (jP g.prio inn n))):=by
 have h1:=hg.le
 have h2:=hg.prio
 (refine bu ba Try.func99 rfl rfl (by kernel_rfl) fun hp0 ν hX hN=>?_;simp only [cy,Nat.reduceAdd])
 (repeat' (first|(with_reducible first|(apply hK;clear hK K)|refine stZ ?_|refine bc rfl ?_|((first|apply ae|apply af);clear ae X af Y))|(with_reducible refine bf ?_;first|refine bd rfl ?_|refine be rfl ?_)|((with_reducible first|((first|refine bi ?_|refine bj ?_);intro K hK)|(refine aN ?_;intro X Y ae af)|refine aO ?_);simp (disch:=first|decide|omega|(simp only [List.length_cons,List.length_nil];omega)) only [go_sem,↓am hN,ao hN,reduceIte,reduceCtorEq,Nat.reduceAdd,Nat.reduceLT,Nat.reduceLeDiff,Nat.reduceEqDiff,Nat.reduceSub])|(with_reducible refine And.intro (fun h=>?_) (fun h=>?_) <;> try (exfalso;omega))|(with_reducible refine bh ba hN ?_)|(with_reducible refine And.intro ?_ ?_)|(refine ak ?_;omega)|(exact bg hN (by decide))))
 (refine ce (fun (k : Nat)=>(tmL [(6,.c (.int .i64 k)),(5,.c (.int .i64 (jP g.prio inn k))),(2,.ad (ν 0) 0),(1,.c (.B inn))],hpL hp0 ν [.box [.c (.I g.own),.c (.I g.prio),.c (.R g.nxt),.c (.R g.prev),.c (.I g.pick)]])) (fun (k : Nat)=>k ≤ n) (fun (k : Nat)=>n - k) ⟨0,?_,bC hX hN [] ?_ ?_⟩ ?_;(repeat' (first|(with_reducible first|exact clZ|refine bD ?_ ?_|refine bE ?_ ?_|rfl|refine suZ ?_)|refine bF rfl ?_ ?_|exact aR hN _ rfl rfl rfl|exact aS hN _ rfl rfl rfl|exact aB hN _ rfl rfl rfl (Or.inr rfl)|(refine aT hN _ rfl rfl (by first|exact Or.inr rfl|exact Or.inl rfl) ?_;first|exact aJ _|exact aK _)|refine aC hN rfl ?_|refine aD hN rfl rfl ?_|exact aA hN _ rfl rfl|exact aE hN rfl rfl rfl rfl|(with_reducible first|refine stZ ?_|refine aQ ?_)));(try (any_goals (first|(with_reducible rfl)|(refine ak ?_;omega)))))
 · rfl
 intro k hk
 (repeat' (first|(with_reducible first|(apply hK;clear hK K)|refine stZ ?_|refine bc rfl ?_|((first|apply ae|apply af);clear ae X af Y))|(with_reducible refine bf ?_;first|refine bd rfl ?_|refine be rfl ?_)|((with_reducible first|((first|refine bi ?_|refine bj ?_);intro K hK)|(refine aN ?_;intro X Y ae af)|refine aO ?_);simp (disch:=first|decide|omega|(simp only [List.length_cons,List.length_nil];omega)) only [go_sem,↓am hN,ao hN,reduceIte,reduceCtorEq,Nat.reduceAdd,Nat.reduceLT,Nat.reduceLeDiff,Nat.reduceEqDiff,Nat.reduceSub])|(with_reducible refine And.intro (fun h=>?_) (fun h=>?_) <;> try (exfalso;omega))|(with_reducible refine bh ba hN ?_)|(refine bo (qp ?_ ?_) ?_ rfl (fun _=>rfl) ?_)|(with_reducible first|exact az|refine aw ?_ ?_|exact bX _|refine aY ?_|exact a8 _|exact bA _ _|refine bz ?_|exact aW _)|exact aZ hN rfl rfl|(refine bw hN rfl ?_;first|exact aJ _|exact aK _)|exact aX rfl rfl rfl|(simp only [aM,List.map_nil])|(with_reducible refine b8 ?_)|(with_reducible refine And.intro ?_ ?_)|(refine ak ?_;omega)|(exact bg hN (by decide))))
 · (refine ⟨k + 1,⟨?_,?_⟩,bC hX hN [] ?_ ?_⟩;(try any_goals dsimp only);(repeat' (first|(with_reducible first|exact clZ|refine bD ?_ ?_|refine bE ?_ ?_|rfl|refine suZ ?_)|refine bF rfl ?_ ?_|exact aR hN _ rfl rfl rfl|exact aS hN _ rfl rfl rfl|exact aB hN _ rfl rfl rfl (Or.inr rfl)|(refine aT hN _ rfl rfl (by first|exact Or.inr rfl|exact Or.inl rfl) ?_;first|exact aJ _|exact aK _)|refine aC hN rfl ?_|refine aD hN rfl rfl ?_|exact aA hN _ rfl rfl|exact aE hN rfl rfl rfl rfl|(with_reducible first|refine stZ ?_|refine aQ ?_)));(try (any_goals (first|(with_reducible rfl)|(refine ak ?_;omega)))))
   simp [jP, *]
 · (refine ⟨k + 1,⟨?_,?_⟩,bC hX hN [] ?_ ?_⟩;(try any_goals dsimp only);(repeat' (first|(with_reducible first|exact clZ|refine bD ?_ ?_|refine bE ?_ ?_|rfl|refine suZ ?_)|refine bF rfl ?_ ?_|exact aR hN _ rfl rfl rfl|exact aS hN _ rfl rfl rfl|exact aB hN _ rfl rfl rfl (Or.inr rfl)|(refine aT hN _ rfl rfl (by first|exact Or.inr rfl|exact Or.inl rfl) ?_;first|exact aJ _|exact aK _)|refine aC hN rfl ?_|refine aD hN rfl rfl ?_|exact aA hN _ rfl rfl|exact aE hN rfl rfl rfl rfl|(with_reducible first|refine stZ ?_|refine aQ ?_)));(try (any_goals (first|(with_reducible rfl)|(refine ak ?_;omega)))))
   simp [jP, *]
 · (refine dF (.inr rfl) (by first|rfl|(simp (disch:=first|decide|omega|(simp only [List.length_cons,List.length_nil];omega)) only [bW,b7,cf,cj,go_sem,beq_self_eq_true,↓aG,↓am hN,ao hN,reduceIte,reduceCtorEq,Nat.reduceAdd,Nat.reduceLT,Nat.reduceLeDiff,Nat.reduceEqDiff,Nat.reduceSub];rfl)) ?_)
   rw [show k = n by omega]
end Go.Proofs.Ythjamlponejffaa
