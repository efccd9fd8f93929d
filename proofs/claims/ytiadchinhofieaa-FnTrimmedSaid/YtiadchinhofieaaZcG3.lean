/-
  Small functions: marks of a set; the vertices of a trap.
-/
import Derived.Test.YtiadchinhofieaaZcCe
import Derived.Test.YtiadchinhofieaaZcFc
namespace Go.Proofs.Ytiadchinhofieaa
set_option linter.unusedVariables false
set_option linter.unusedSimpArgs false
open Go.RowKit
attribute [local irreducible] aq ci Aw Le
theorem yE {Q : Nat → Prop} {k : Nat} (h : ∀ i,i < k → Q i) (hk : Q k) : ∀ i,i < k + 1 → Q i:=fun i hi=>by
 rcases Nat.lt_or_ge i k with h'|h'
 · exact h i h'
 · have : i = k:=by omega
   subst this;exact hk
theorem mz {a b : Int} (h : (a != b) = false) : a = b:=by simpa using h
theorem mA {xs ys : List Int} (hl : xs.length = ys.length) : xs = ys ↔ ∀ j,j < xs.length → gi xs j = gi ys j :=
 ⟨fun h j _=>by rw [h],fun h=>kN hl h⟩
theorem sU (xs ys : List Int) (hl : xs.length ≤ 1048576) : aq Try.prog 106 [.c (.I xs),.c (.I ys)] [] (fun _=>.c (.bool (tf (xs = ys)))):=by
 (refine bh aG Try.func106 rfl rfl (by kernel_rfl) fun hp0 ν hX hN=>?_;simp only [cx,Nat.reduceAdd])
 (repeat' (first|(with_reducible first|(apply hK;clear hK K)|refine stZ ?_|refine aM rfl ?_|((first|apply ae|apply af);clear ae X af Y))|(with_reducible refine aP ?_;first|refine aN rfl ?_|refine aO rfl ?_)|(with_reducible refine bU ?_;refine b8 hN ?_)|((with_reducible first|((first|refine aS ?_|refine b9 ?_|refine aT ?_|refine ca ?_);intro K hK)|(refine az ?_;intro X Y ae af)|refine aA ?_);simp (disch:=first|decide|omega|(simp only [List.length_cons,List.length_nil];omega)) only [go_sem,↓am hN,ao hN,reduceIte,reduceCtorEq,Nat.reduceAdd,Nat.reduceLT,Nat.reduceLeDiff,Nat.reduceEqDiff,Nat.reduceSub])|(with_reducible refine And.intro (fun h=>?_) (fun h=>?_) <;> try (exfalso;omega))|(with_reducible refine aR aG hN ?_)|(with_reducible refine bn aG hN ?_)|(with_reducible refine And.intro ?_ ?_)|(refine ak ?_;omega)|(exact aQ hN (by decide))))
 · (refine dd (.inr rfl) (by first|rfl|(simp (disch:=first|decide|omega|(simp only [List.length_cons,List.length_nil];omega)) only [bK,bS,bV,bY,go_sem,beq_self_eq_true,↓au,↓am hN,ao hN,reduceIte,reduceCtorEq,Nat.reduceAdd,Nat.reduceLT,Nat.reduceLeDiff,Nat.reduceEqDiff,Nat.reduceSub];rfl)) ?_)
   exact congrArg C.bool (ax fun e : xs = ys=>by have:=congrArg List.length e;omega).symm
 have hll : xs.length = ys.length:=by have:=bne_eq_false_iff_eq.1 (show ((xs.length : Int) != ys.length) = false by assumption);omega
 (refine cj (fun (k : Nat)=>(tmL [(13,.c (.int .i64 k)),(12,.c (.int .i64 xs.length)),(0,.c (.I xs)),(1,.c (.I ys))],hpL hp0 ν [])) (fun (k : Nat)=>k ≤ xs.length ∧ ∀ j,j < k → gi xs j = gi ys j) (fun (k : Nat)=>xs.length - k) ⟨0,?_,bA hX hN [] ?_ ?_⟩ ?_;(repeat' (first|(with_reducible first|exact clZ|refine bB ?_ ?_|refine bC ?_ ?_|rfl|refine suZ ?_)|refine bD rfl ?_ ?_|exact aX hN _ rfl rfl rfl|exact aY hN _ rfl rfl rfl|exact aC hN _ rfl rfl rfl (Or.inr rfl)|(refine aU hN _ rfl rfl (by first|exact Or.inr rfl|exact Or.inl rfl) ?_;first|exact aZ _|exact a8 _)|refine aD hN rfl ?_|refine aE hN rfl rfl ?_|exact aB hN _ rfl rfl|exact aF hN rfl rfl rfl rfl|(with_reducible first|refine stZ ?_|refine aW ?_)));(try (any_goals (first|(with_reducible rfl)|(refine ak ?_;omega)))))
 · exact ⟨Nat.zero_le _,fun j h=>by omega⟩
 rintro k ⟨hk,hq⟩
 (repeat' (first|(with_reducible first|(apply hK;clear hK K)|refine stZ ?_|refine aM rfl ?_|((first|apply ae|apply af);clear ae X af Y))|(with_reducible refine aP ?_;first|refine aN rfl ?_|refine aO rfl ?_)|(with_reducible refine bU ?_;refine b8 hN ?_)|((with_reducible first|((first|refine aS ?_|refine b9 ?_|refine aT ?_|refine ca ?_);intro K hK)|(refine az ?_;intro X Y ae af)|refine aA ?_);simp (disch:=first|decide|omega|(simp only [List.length_cons,List.length_nil];omega)) only [go_sem,↓am hN,ao hN,reduceIte,reduceCtorEq,Nat.reduceAdd,Nat.reduceLT,Nat.reduceLeDiff,Nat.reduceEqDiff,Nat.reduceSub])|(with_reducible refine And.intro (fun h=>?_) (fun h=>?_) <;> try (exfalso;omega))|(with_reducible refine aR aG hN ?_)|(with_reducible refine bn aG hN ?_)|(with_reducible refine And.intro ?_ ?_)|(refine ak ?_;omega)|(exact aQ hN (by decide))))
 · (refine dd (.inr rfl) (by first|rfl|(simp (disch:=first|decide|omega|(simp only [List.length_cons,List.length_nil];omega)) only [bK,bS,bV,bY,go_sem,beq_self_eq_true,↓au,↓am hN,ao hN,reduceIte,reduceCtorEq,Nat.reduceAdd,Nat.reduceLT,Nat.reduceLeDiff,Nat.reduceEqDiff,Nat.reduceSub];rfl)) ?_)
   have hne : ¬ gi xs k = gi ys k:=by assumption
   exact congrArg C.bool (ax fun e : xs = ys=>hne (by rw [e])).symm
 · (refine ⟨k + 1,⟨?_,?_⟩,bA hX hN [] ?_ ?_⟩;(try any_goals dsimp only);(repeat' (first|(with_reducible first|exact clZ|refine bB ?_ ?_|refine bC ?_ ?_|rfl|refine suZ ?_)|refine bD rfl ?_ ?_|exact aX hN _ rfl rfl rfl|exact aY hN _ rfl rfl rfl|exact aC hN _ rfl rfl rfl (Or.inr rfl)|(refine aU hN _ rfl rfl (by first|exact Or.inr rfl|exact Or.inl rfl) ?_;first|exact aZ _|exact a8 _)|refine aD hN rfl ?_|refine aE hN rfl rfl ?_|exact aB hN _ rfl rfl|exact aF hN rfl rfl rfl rfl|(with_reducible first|refine stZ ?_|refine aW ?_)));(try (any_goals (first|(with_reducible rfl)|(refine ak ?_;omega)))))
   have he : gi xs k = gi ys k:=bne_eq_false_iff_eq.1 (by assumption)
   refine ⟨by omega,fun j hj=>?_⟩
   rcases Nat.lt_or_ge j k with h|h
   · exact hq j h
   · have : j = k:=by omega
     subst this;exact he
 · (refine dd (.inr rfl) (by first|rfl|(simp (disch:=first|decide|omega|(simp only [List.length_cons,List.length_nil];omega)) only [bK,bS,bV,bY,go_sem,beq_self_eq_true,↓au,↓am hN,ao hN,reduceIte,reduceCtorEq,Nat.reduceAdd,Nat.reduceLT,Nat.reduceLeDiff,Nat.reduceEqDiff,Nat.reduceSub];rfl)) ?_)
   exact congrArg C.bool (aH ((mA hll).2 fun j hj=>hq j (by omega))).symm
theorem rn (xs ys : List Int) (hl : xs.length ≤ 1048576) : aq Try.prog 71 [.c (.I xs),.c (.I ys)] [] (fun _=>.c (.bool (tf (xs = ys)))):=by
 (refine bh aG Try.func71 rfl rfl (by kernel_rfl) fun hp0 ν hX hN=>?_;simp only [cx,Nat.reduceAdd])
 (repeat' (first|(with_reducible first|(apply hK;clear hK K)|refine stZ ?_|refine aM rfl ?_|((first|apply ae|apply af);clear ae X af Y))|(with_reducible refine aP ?_;first|refine aN rfl ?_|refine aO rfl ?_)|(with_reducible refine bU ?_;refine b8 hN ?_)|((with_reducible first|((first|refine aS ?_|refine b9 ?_|refine aT ?_|refine ca ?_);intro K hK)|(refine az ?_;intro X Y ae af)|refine aA ?_);simp (disch:=first|decide|omega|(simp only [List.length_cons,List.length_nil];omega)) only [go_sem,↓am hN,ao hN,reduceIte,reduceCtorEq,Nat.reduceAdd,Nat.reduceLT,Nat.reduceLeDiff,Nat.reduceEqDiff,Nat.reduceSub])|(with_reducible refine And.intro (fun h=>?_) (fun h=>?_) <;> try (exfalso;omega))|(with_reducible refine aR aG hN ?_)|(with_reducible refine bn aG hN ?_)|(with_reducible refine And.intro ?_ ?_)|(refine ak ?_;omega)|(exact aQ hN (by decide))))
 · (refine dd (.inr rfl) (by first|rfl|(simp (disch:=first|decide|omega|(simp only [List.length_cons,List.length_nil];omega)) only [bK,bS,bV,bY,go_sem,beq_self_eq_true,↓au,↓am hN,ao hN,reduceIte,reduceCtorEq,Nat.reduceAdd,Nat.reduceLT,Nat.reduceLeDiff,Nat.reduceEqDiff,Nat.reduceSub];rfl)) ?_)
   exact congrArg C.bool (ax fun e : xs = ys=>by have:=congrArg List.length e;omega).symm
 have hll : xs.length = ys.length:=by have:=bne_eq_false_iff_eq.1 (show ((xs.length : Int) != ys.length) = false by assumption);omega
 (refine cj (fun (k : Nat)=>(tmL [(5,.c (.int .i64 k)),(0,.c (.I xs)),(1,.c (.I ys))],hpL hp0 ν [])) (fun (k : Nat)=>k ≤ xs.length ∧ ∀ j,j < k → gi xs j = gi ys j) (fun (k : Nat)=>xs.length - k) ⟨0,?_,bA hX hN [] ?_ ?_⟩ ?_;(repeat' (first|(with_reducible first|exact clZ|refine bB ?_ ?_|refine bC ?_ ?_|rfl|refine suZ ?_)|refine bD rfl ?_ ?_|exact aX hN _ rfl rfl rfl|exact aY hN _ rfl rfl rfl|exact aC hN _ rfl rfl rfl (Or.inr rfl)|(refine aU hN _ rfl rfl (by first|exact Or.inr rfl|exact Or.inl rfl) ?_;first|exact aZ _|exact a8 _)|refine aD hN rfl ?_|refine aE hN rfl rfl ?_|exact aB hN _ rfl rfl|exact aF hN rfl rfl rfl rfl|(with_reducible first|refine stZ ?_|refine aW ?_)));(try (any_goals (first|(with_reducible rfl)|(refine ak ?_;omega)))))
 · exact ⟨Nat.zero_le _,fun j h=>by omega⟩
 rintro k ⟨hk,hq⟩
 (repeat' (first|(with_reducible first|(apply hK;clear hK K)|refine stZ ?_|refine aM rfl ?_|((first|apply ae|apply af);clear ae X af Y))|(with_reducible refine aP ?_;first|refine aN rfl ?_|refine aO rfl ?_)|(with_reducible refine bU ?_;refine b8 hN ?_)|((with_reducible first|((first|refine aS ?_|refine b9 ?_|refine aT ?_|refine ca ?_);intro K hK)|(refine az ?_;intro X Y ae af)|refine aA ?_);simp (disch:=first|decide|omega|(simp only [List.length_cons,List.length_nil];omega)) only [go_sem,↓am hN,ao hN,reduceIte,reduceCtorEq,Nat.reduceAdd,Nat.reduceLT,Nat.reduceLeDiff,Nat.reduceEqDiff,Nat.reduceSub])|(with_reducible refine And.intro (fun h=>?_) (fun h=>?_) <;> try (exfalso;omega))|(with_reducible refine aR aG hN ?_)|(with_reducible refine bn aG hN ?_)|(with_reducible refine And.intro ?_ ?_)|(refine ak ?_;omega)|(exact aQ hN (by decide))))
 · (refine dd (.inr rfl) (by first|rfl|(simp (disch:=first|decide|omega|(simp only [List.length_cons,List.length_nil];omega)) only [bK,bS,bV,bY,go_sem,beq_self_eq_true,↓au,↓am hN,ao hN,reduceIte,reduceCtorEq,Nat.reduceAdd,Nat.reduceLT,Nat.reduceLeDiff,Nat.reduceEqDiff,Nat.reduceSub];rfl)) ?_)
   have hne : ¬ gi xs k = gi ys k:=by assumption
   exact congrArg C.bool (ax fun e : xs = ys=>hne (by rw [e])).symm
 · (refine ⟨k + 1,⟨?_,?_⟩,bA hX hN [] ?_ ?_⟩;(try any_goals dsimp only);(repeat' (first|(with_reducible first|exact clZ|refine bB ?_ ?_|refine bC ?_ ?_|rfl|refine suZ ?_)|refine bD rfl ?_ ?_|exact aX hN _ rfl rfl rfl|exact aY hN _ rfl rfl rfl|exact aC hN _ rfl rfl rfl (Or.inr rfl)|(refine aU hN _ rfl rfl (by first|exact Or.inr rfl|exact Or.inl rfl) ?_;first|exact aZ _|exact a8 _)|refine aD hN rfl ?_|refine aE hN rfl rfl ?_|exact aB hN _ rfl rfl|exact aF hN rfl rfl rfl rfl|(with_reducible first|refine stZ ?_|refine aW ?_)));(try (any_goals (first|(with_reducible rfl)|(refine ak ?_;omega)))))
   have he : gi xs k = gi ys k:=bne_eq_false_iff_eq.1 (by assumption)
   refine ⟨by omega,fun j hj=>?_⟩
   rcases Nat.lt_or_ge j k with h|h
   · exact hq j h
   · have : j = k:=by omega
     subst this;exact he
 · (refine dd (.inr rfl) (by first|rfl|(simp (disch:=first|decide|omega|(simp only [List.length_cons,List.length_nil];omega)) only [bK,bS,bV,bY,go_sem,beq_self_eq_true,↓au,↓am hN,ao hN,reduceIte,reduceCtorEq,Nat.reduceAdd,Nat.reduceLT,Nat.reduceLeDiff,Nat.reduceEqDiff,Nat.reduceSub];rfl)) ?_)
   exact congrArg C.bool (aH ((mA hll).2 fun j hj=>hq j (by omega))).symm
theorem rm (b : Bool) : aq Try.prog 116 [.c (.bool b)] [] (fun _=>.c (.int .i64 (if b then 1 else 0))):=by
 (refine bh aG Try.func116 rfl rfl (by kernel_rfl) fun hp0 ν hX hN=>?_;simp only [cx,Nat.reduceAdd])
 (repeat' (first|(with_reducible first|(apply hK;clear hK K)|refine stZ ?_|refine aM rfl ?_|((first|apply ae|apply af);clear ae X af Y))|(with_reducible refine aP ?_;first|refine aN rfl ?_|refine aO rfl ?_)|((with_reducible first|((first|refine aS ?_|refine aT ?_);intro K hK)|(refine az ?_;intro X Y ae af)|refine aA ?_);simp (disch:=first|decide|omega|(simp only [List.length_cons,List.length_nil];omega)) only [go_sem,↓am hN,ao hN,reduceIte,reduceCtorEq,Nat.reduceAdd,Nat.reduceLT,Nat.reduceLeDiff,Nat.reduceEqDiff,Nat.reduceSub])|(with_reducible refine And.intro (fun h=>?_) (fun h=>?_) <;> try (exfalso;omega))|(with_reducible refine aR aG hN ?_)|(with_reducible refine And.intro ?_ ?_)|(refine ak ?_;omega)|(exact aQ hN (by decide))))
 all_goals (refine dd (.inr rfl) (by first|rfl|(simp (disch:=first|decide|omega|(simp only [List.length_cons,List.length_nil];omega)) only [bK,bS,bV,bY,go_sem,beq_self_eq_true,↓au,↓am hN,ao hN,reduceIte,reduceCtorEq,Nat.reduceAdd,Nat.reduceLT,Nat.reduceLeDiff,Nat.reduceEqDiff,Nat.reduceSub];rfl)) ?_)
 all_goals simp [*]
theorem pq (n : Nat) (hn : n ≤ 256) : aq Try.prog 153 [.c (.int .i64 n)] [.arr 2 .yes (.I (tab n fun v=>v))] (fun ns=>.sl (ns.getD 0 0)):=by
 (refine bh aG Try.func153 rfl rfl (by kernel_rfl) fun hp0 ν hX hN=>?_;simp only [cx,Nat.reduceAdd])
 (repeat' (first|(with_reducible first|(apply hK;clear hK K)|refine stZ ?_|refine aM rfl ?_|((first|apply ae|apply af);clear ae X af Y))|(with_reducible refine aP ?_;first|refine aN rfl ?_|refine aO rfl ?_)|(with_reducible refine be ?_;first|refine aK rfl rfl rfl rfl ?_|refine bc rfl rfl rfl ?_|refine bp rfl rfl rfl rfl ?_)|((first|(with_reducible first|((first|refine aS ?_|refine aT ?_);intro K hK)|(refine az ?_;intro X Y ae af)|refine aA ?_)|(with_reducible refine be ?_;refine aL rfl rfl fun X Y ae af=>?_));simp (disch:=first|decide|omega|(simp only [List.length_cons,List.length_nil];omega)) only [go_sem,↓am hN,ao hN,reduceIte,reduceCtorEq,Nat.reduceAdd,Nat.reduceLT,Nat.reduceLeDiff,Nat.reduceEqDiff,Nat.reduceSub])|(with_reducible refine And.intro (fun h=>?_) (fun h=>?_) <;> try (exfalso;omega))|(with_reducible refine aR aG hN ?_)|(with_reducible refine And.intro ?_ ?_)|(refine ak ?_;omega)|(exact aQ hN (by decide))))
 rw [if_neg (show ¬ (n : Int) < 0 by omega)]
 refine ⟨fun h=>?_,fun h=>?_⟩
 · exfalso;simp at h;omega
 (repeat' (first|(with_reducible first|(apply hK;clear hK K)|refine stZ ?_|refine aM rfl ?_|((first|apply ae|apply af);clear ae X af Y))|(with_reducible refine aP ?_;first|refine aN rfl ?_|refine aO rfl ?_)|(with_reducible refine be ?_;first|refine aK rfl rfl rfl rfl ?_|refine bc rfl rfl rfl ?_|refine bp rfl rfl rfl rfl ?_)|((first|(with_reducible first|((first|refine aS ?_|refine aT ?_);intro K hK)|(refine az ?_;intro X Y ae af)|refine aA ?_)|(with_reducible refine be ?_;refine aL rfl rfl fun X Y ae af=>?_));simp (disch:=first|decide|omega|(simp only [List.length_cons,List.length_nil];omega)) only [go_sem,↓am hN,ao hN,reduceIte,reduceCtorEq,Nat.reduceAdd,Nat.reduceLT,Nat.reduceLeDiff,Nat.reduceEqDiff,Nat.reduceSub])|(with_reducible refine And.intro (fun h=>?_) (fun h=>?_) <;> try (exfalso;omega))|(with_reducible refine aR aG hN ?_)|(with_reducible refine And.intro ?_ ?_)|(refine ak ?_;omega)|(exact aQ hN (by decide))))
 (refine cj (fun (k : Nat)=>(tmL [(4,.c (.int .i64 k)),(3,.sl (ν 0)),(0,.c (.int .i64 n))],hpL hp0 ν [.arr 2 .yes (.I (tab k fun v=>v))])) (fun (k : Nat)=>k ≤ n) (fun (k : Nat)=>n - k) ⟨0,?_,bA hX hN [] ?_ ?_⟩ ?_;(repeat' (first|(with_reducible first|exact clZ|refine bB ?_ ?_|refine bC ?_ ?_|rfl|refine suZ ?_)|refine bD rfl ?_ ?_|exact aX hN _ rfl rfl rfl|exact aY hN _ rfl rfl rfl|exact aC hN _ rfl rfl rfl (Or.inr rfl)|(refine aU hN _ rfl rfl (by first|exact Or.inr rfl|exact Or.inl rfl) ?_;first|exact aZ _|exact a8 _)|refine aD hN rfl ?_|refine aE hN rfl rfl ?_|exact aB hN _ rfl rfl|exact aF hN rfl rfl rfl rfl|(with_reducible first|refine stZ ?_|refine aW ?_)));(try (any_goals (first|(with_reducible rfl)|(refine ak ?_;omega)))))
 · rfl
 intro k hk
 have hlen:=db k fun v=>(v : Int)
 (repeat' (first|(with_reducible first|(apply hK;clear hK K)|refine stZ ?_|refine aM rfl ?_|((first|apply ae|apply af);clear ae X af Y))|(with_reducible refine aP ?_;first|refine aN rfl ?_|refine aO rfl ?_)|(with_reducible refine be ?_;first|refine aK rfl rfl rfl rfl ?_|refine bc rfl rfl rfl ?_|refine bp rfl rfl rfl rfl ?_)|((first|(with_reducible first|((first|refine aS ?_|refine aT ?_);intro K hK)|(refine az ?_;intro X Y ae af)|refine aA ?_)|(with_reducible refine be ?_;refine aL rfl rfl fun X Y ae af=>?_));simp (disch:=first|decide|omega|(simp only [List.length_cons,List.length_nil];omega)) only [go_sem,↓am hN,ao hN,reduceIte,reduceCtorEq,Nat.reduceAdd,Nat.reduceLT,Nat.reduceLeDiff,Nat.reduceEqDiff,Nat.reduceSub])|(with_reducible refine And.intro (fun h=>?_) (fun h=>?_) <;> try (exfalso;omega))|(with_reducible refine aR aG hN ?_)|(with_reducible refine And.intro ?_ ?_)|(refine ak ?_;omega)|(exact aQ hN (by decide))))
 · (refine ⟨k + 1,⟨?_,?_⟩,bA hX hN [(0,2)] ?_ ?_⟩;(try any_goals dsimp only);(repeat' (first|(with_reducible first|exact clZ|refine bB ?_ ?_|refine bC ?_ ?_|rfl|refine suZ ?_)|refine bD rfl ?_ ?_|exact aX hN _ rfl rfl rfl|exact aY hN _ rfl rfl rfl|exact aC hN _ rfl rfl rfl (Or.inr rfl)|(refine aU hN _ rfl rfl (by first|exact Or.inr rfl|exact Or.inl rfl) ?_;first|exact aZ _|exact a8 _)|refine aD hN rfl ?_|refine aE hN rfl rfl ?_|exact aB hN _ rfl rfl|exact aF hN rfl rfl rfl rfl|(with_reducible first|refine stZ ?_|refine aW ?_)));(try (any_goals (first|(with_reducible rfl)|(refine ak ?_;omega)))))
   exact lS k fun v=>(v : Int)
 · (refine dw hN (i:=0) (.inr rfl) (by first|rfl|(simp (disch:=first|decide|omega|(simp only [List.length_cons,List.length_nil];omega)) only [bK,bS,bV,bY,go_sem,beq_self_eq_true,↓au,↓am hN,ao hN,reduceIte,reduceCtorEq,Nat.reduceAdd,Nat.reduceLT,Nat.reduceLeDiff,Nat.reduceEqDiff,Nat.reduceSub];rfl)) rfl ?_ rfl)
   rw [show k = n by omega]
theorem rl (a : Ar) (hn : a.own.length ≤ 256) : aq Try.prog 138 [arA a] [.arr 2 .yes (.I (tab a.own.length fun v=>v))] (fun ns=>.sl (ns.getD 0 0)):=by
 (refine bh aG Try.func138 rfl rfl (by kernel_rfl) fun hp0 ν hX hN=>?_;simp only [cx,Nat.reduceAdd])
 (repeat' (first|(with_reducible first|(apply hK;clear hK K)|refine stZ ?_|refine aM rfl ?_|((first|apply ae|apply af);clear ae X af Y))|(with_reducible refine aP ?_;first|refine aN rfl ?_|refine aO rfl ?_)|((with_reducible first|((first|refine aS ?_|refine aT ?_);intro K hK)|(refine az ?_;intro X Y ae af)|refine aA ?_);simp (disch:=first|decide|omega|(simp only [List.length_cons,List.length_nil];omega)) only [go_sem,↓am hN,ao hN,reduceIte,reduceCtorEq,Nat.reduceAdd,Nat.reduceLT,Nat.reduceLeDiff,Nat.reduceEqDiff,Nat.reduceSub])|(with_reducible refine And.intro (fun h=>?_) (fun h=>?_) <;> try (exfalso;omega))|(with_reducible refine aR aG hN ?_)|(refine bE (qP a) ?_ rfl (fun _=>rfl) ?_)|(refine bE (pq a.own.length hn) ?_ rfl (fun _=>rfl) ?_)|(with_reducible first|exact aV|refine aJ ?_ ?_|exact cF _|refine bv ?_|exact bz _|exact bR _ _|refine bQ ?_|exact bt _)|exact bw hN rfl rfl|(refine bP hN rfl ?_;first|exact aZ _|exact a8 _)|exact bu rfl rfl rfl|(simp only [ba,List.map_nil])|(with_reducible refine bo ?_)|(with_reducible refine And.intro ?_ ?_)|(refine ak ?_;omega)|(exact aQ hN (by decide))))
 (refine dw hN (i:=1) (.inr rfl) (by first|rfl|(simp (disch:=first|decide|omega|(simp only [List.length_cons,List.length_nil];omega)) only [bK,bS,bV,bY,go_sem,beq_self_eq_true,↓au,↓am hN,ao hN,reduceIte,reduceCtorEq,Nat.reduceAdd,Nat.reduceLT,Nat.reduceLeDiff,Nat.reduceEqDiff,Nat.reduceSub];rfl)) rfl ?_ rfl)
 rfl
end Go.Proofs.Ytiadchinhofieaa
namespace Go.Proofs.Ytiadchinhofieaa
set_option linter.unusedVariables false
set_option linter.unusedSimpArgs false
open Go.RowKit
attribute [local irreducible] aq ci Aw Le
theorem yn (xs : List Int) (x : Int) : aq Try.prog 63 [.c (.I xs),.c (.int .i64 x)] [] (fun _=>.c (.bool (tf (x ∈ xs)))) :=
 fC Try.func63 rfl rfl (u:=.bool _) (fun O w=>.bool _) fun φ hp w vs h=>by
  obtain ⟨a,b,rfl,h1,h2⟩:=uv h
  obtain rfl:=cH h2
  obtain ⟨sa,n,c,rfl,hI⟩:=ny (du h1)
  exact (ya sa n c xs x w hI).mono fun e w' ⟨he,hw⟩=>⟨he,by rw [← hw];exact Below.refl _ _⟩
theorem mB (xs : List Int) (hl : xs.length ≤ 1048576) : aq Try.prog 109 [.c (.I xs)] [.arr 2 .yes (.I xs)] (fun ns=>.sl (ns.getD 0 0)):=by
 (refine bh aG Try.func109 rfl rfl (by kernel_rfl) fun hp0 ν hX hN=>?_;simp only [cx,Nat.reduceAdd])
 (repeat' (first|(with_reducible first|(apply hK;clear hK K)|refine stZ ?_|refine aM rfl ?_|((first|apply ae|apply af);clear ae X af Y))|(with_reducible refine aP ?_;first|refine aN rfl ?_|refine aO rfl ?_)|((with_reducible first|((first|refine aS ?_|refine aT ?_);intro K hK)|(refine az ?_;intro X Y ae af)|refine aA ?_);simp (disch:=first|decide|omega|(simp only [List.length_cons,List.length_nil];omega)) only [go_sem,↓am hN,ao hN,reduceIte,reduceCtorEq,Nat.reduceAdd,Nat.reduceLT,Nat.reduceLeDiff,Nat.reduceEqDiff,Nat.reduceSub])|(with_reducible refine And.intro (fun h=>?_) (fun h=>?_) <;> try (exfalso;omega))|(with_reducible refine aR aG hN ?_)|(with_reducible refine And.intro ?_ ?_)|(refine ak ?_;omega)|(exact aQ hN (by decide))))
 (refine dw hN (i:=1) (.inr rfl) (by first|rfl|(simp (disch:=first|decide|omega|(simp only [List.length_cons,List.length_nil];omega)) only [bK,bS,bV,bY,go_sem,beq_self_eq_true,↓au,↓am hN,ao hN,reduceIte,reduceCtorEq,Nat.reduceAdd,Nat.reduceLT,Nat.reduceLeDiff,Nat.reduceEqDiff,Nat.reduceSub];rfl)) rfl ?_ rfl)
 rfl
end Go.Proofs.Ytiadchinhofieaa
namespace Go.Proofs.Ytiadchinhofieaa
set_option linter.unusedVariables false
set_option linter.unusedSimpArgs false
open Go.RowKit
end Go.Proofs.Ytiadchinhofieaa
