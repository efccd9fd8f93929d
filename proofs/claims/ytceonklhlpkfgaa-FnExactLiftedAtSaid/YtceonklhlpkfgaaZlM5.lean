/-
  Measures: the library's comparisons, and the program's small functions.
-/
import Derived.Test.YtceonklhlpkfgaaZlM4
import Derived.Test.YtceonklhlpkfgaaZlCe
namespace Go.Proofs.Ytceonklhlpkfgaa
set_option linter.unusedVariables false
set_option linter.unusedSimpArgs false
open Go.RowKit
attribute [local irreducible] ay cM Aw Le
theorem pK (x : Int) (a b : List Int) : MS.cmp (x :: a) (x :: b) = MS.cmp a b:=by
 have h1 : MS.lx (x :: a) (x :: b) ↔ MS.lx a b:=⟨fun h=>h.elim (fun h=>by omega) fun h=>h.2,fun h=>.inr ⟨rfl,h⟩⟩
 unfold MS.cmp
 by_cases h : MS.lx a b
 · rw [if_pos h,if_pos (h1.2 h)]
 · rw [if_neg h,if_neg (fun k=>h (h1.1 k))]
   by_cases e : a = b
   · subst e;rw [if_pos rfl,if_pos rfl]
   · rw [if_neg e,if_neg (by simpa using e)]
theorem pL {x y : Int} (h : x < y) (a b : List Int) : MS.cmp (x :: a) (y :: b) = -1:=if_pos (.inl h)
theorem pM {x y : Int} (h : y < x) (a b : List Int) : MS.cmp (x :: a) (y :: b) = 1:=by
 unfold MS.cmp
 rw [if_neg,if_neg (by intro e;injection e;omega)]
 rintro (h'|h')
 · omega
 · omega
theorem qR (y : Int) (b : List Int) : MS.cmp [] (y :: b) = -1:=if_pos trivial
theorem qS (x : Int) (a : List Int) : MS.cmp (x :: a) [] = 1:=by
 unfold MS.cmp
 rw [if_neg (show ¬ MS.lx (x :: a) [] from fun h=>h),if_neg (by simp)]
theorem qT : MS.cmp [] [] = 0:=by
 unfold MS.cmp
 rw [if_neg (show ¬ MS.lx [] [] from fun h=>h),if_pos rfl]
def mW (x y : Int) : Int:=if x < y then -1 else if y < x then 1 else 0
theorem pN (x : Int) : ay Try.prog 64 [.c (.int .i64 x)] [] (fun _=>.c (.bool false)):=by
 (refine aV aL Try.func64 rfl rfl (by kernel_rfl) fun hp0 ν hX hN=>?_;simp only [ch,Nat.reduceAdd])
 (repeat' (first|(with_reducible first|(apply hK;clear hK K)|refine stZ ?_|refine aY rfl ?_|((first|apply ae|apply af);clear ae X af Y))|(with_reducible refine ba ?_;first|refine aZ rfl ?_|refine a8 rfl ?_)|((with_reducible first|((first|refine be ?_|refine bf ?_);intro K hK)|(refine aM ?_;intro X Y ae af)|refine aN ?_);simp (disch:=first|decide|omega|(simp only [List.length_cons,List.length_nil];omega)) only [go_sem,↓ak hN,an hN,reduceIte,reduceCtorEq,Nat.reduceAdd,Nat.reduceLT,Nat.reduceLeDiff,Nat.reduceEqDiff,Nat.reduceSub])|(with_reducible refine And.intro (fun h=>?_) (fun h=>?_) <;> try (exfalso;omega))|(with_reducible refine bd aL hN ?_)|(with_reducible refine And.intro ?_ ?_)|(refine ap ?_;omega)|(exact bc hN (by decide))))
 all_goals (refine bX (.inr rfl) (by first|rfl|(simp (disch:=first|decide|omega|(simp only [List.length_cons,List.length_nil];omega)) only [bm,bq,bC,bF,go_sem,beq_self_eq_true,↓az,↓ak hN,an hN,reduceIte,reduceCtorEq,Nat.reduceAdd,Nat.reduceLT,Nat.reduceLeDiff,Nat.reduceEqDiff,Nat.reduceSub];rfl)) ?_)
 all_goals simp
theorem qU (x y : Int) : ay Try.prog 53 [.c (.int .i64 x),.c (.int .i64 y)] [] (fun _=>.c (.int .i64 (mW x y))):=by
 (refine aV aL Try.func53 rfl rfl (by kernel_rfl) fun hp0 ν hX hN=>?_;simp only [ch,Nat.reduceAdd])
 (repeat' (first|(with_reducible first|(apply hK;clear hK K)|refine stZ ?_|refine aY rfl ?_|((first|apply ae|apply af);clear ae X af Y))|(with_reducible refine ba ?_;first|refine aZ rfl ?_|refine a8 rfl ?_)|((with_reducible first|((first|refine be ?_|refine bf ?_);intro K hK)|(refine aM ?_;intro X Y ae af)|refine aN ?_);simp (disch:=first|decide|omega|(simp only [List.length_cons,List.length_nil];omega)) only [go_sem,↓ak hN,an hN,reduceIte,reduceCtorEq,Nat.reduceAdd,Nat.reduceLT,Nat.reduceLeDiff,Nat.reduceEqDiff,Nat.reduceSub])|(with_reducible refine And.intro (fun h=>?_) (fun h=>?_) <;> try (exfalso;omega))|(with_reducible refine bd aL hN ?_)|(refine aF (pN ?_) ?_ rfl (fun _=>rfl) ?_)|(with_reducible first|exact aw|refine aq ?_ ?_|exact bD _|refine aI ?_|exact aK _|exact aS _ _|refine aR ?_|exact aG _)|exact aJ hN rfl rfl|(refine aQ hN rfl ?_;first|exact aT _|exact aU _)|exact aH rfl rfl rfl|(simp only [aE,List.map_nil])|(with_reducible refine bB ?_)|(with_reducible refine And.intro ?_ ?_)|(refine ap ?_;omega)|(exact bc hN (by decide))))
 all_goals (refine bX (.inr rfl) (by first|rfl|(simp (disch:=first|decide|omega|(simp only [List.length_cons,List.length_nil];omega)) only [bm,bq,bC,bF,go_sem,beq_self_eq_true,↓az,↓ak hN,an hN,reduceIte,reduceCtorEq,Nat.reduceAdd,Nat.reduceLT,Nat.reduceLeDiff,Nat.reduceEqDiff,Nat.reduceSub];rfl)) ?_)
 all_goals unfold mW
 all_goals grind
theorem mX (a b : List Int) (ha : a.length ≤ 1048576) (hb : b.length ≤ 1048576) : ay Try.prog 33 [.c (.I a),.c (.I b)] [] (fun _=>.c (.int .i64 (MS.cmp a b))):=by
 (refine aV aL Try.func33 rfl rfl (by kernel_rfl) fun hp0 ν hX hN=>?_;simp only [ch,Nat.reduceAdd])
 (repeat' (first|(with_reducible first|(apply hK;clear hK K)|refine stZ ?_|refine aY rfl ?_|((first|apply ae|apply af);clear ae X af Y))|(with_reducible refine ba ?_;first|refine aZ rfl ?_|refine a8 rfl ?_)|((with_reducible first|((first|refine be ?_|refine bf ?_);intro K hK)|(refine aM ?_;intro X Y ae af)|refine aN ?_);simp (disch:=first|decide|omega|(simp only [List.length_cons,List.length_nil];omega)) only [go_sem,↓ak hN,an hN,reduceIte,reduceCtorEq,Nat.reduceAdd,Nat.reduceLT,Nat.reduceLeDiff,Nat.reduceEqDiff,Nat.reduceSub])|(with_reducible refine And.intro (fun h=>?_) (fun h=>?_) <;> try (exfalso;omega))|(with_reducible refine bd aL hN ?_)|(with_reducible refine And.intro ?_ ?_)|(refine ap ?_;omega)|(exact bc hN (by decide))))
 (refine dw (fun (k : Nat)=>(tmL [(11,.c (.int .i64 k)),(10,.c (.int .i64 a.length)),(9,.c (.I a)),(0,.c (.I a)),(1,.c (.I b))],hpL hp0 ν [])) (fun (k : Nat)=>k ≤ a.length ∧ k ≤ b.length ∧ MS.cmp a b = MS.cmp (a.drop k) (b.drop k)) (fun (k : Nat)=>a.length - k) ⟨0,?_,cS hX hN [] ?_ ?_⟩ ?_;(repeat' (first|(with_reducible first|exact clZ|refine cT ?_ ?_|refine cU ?_ ?_|rfl|refine suZ ?_)|refine cV rfl ?_ ?_|exact bU hN _ rfl rfl rfl|exact bV hN _ rfl rfl rfl|exact bu hN _ rfl rfl rfl (Or.inr rfl)|(refine bW hN _ rfl rfl (by first|exact Or.inr rfl|exact Or.inl rfl) ?_;first|exact aT _|exact aU _)|refine bv hN rfl ?_|refine bw hN rfl rfl ?_|exact br hN _ rfl rfl|exact bz hN rfl rfl rfl rfl|(with_reducible first|refine stZ ?_|refine bT ?_)));(try (any_goals (first|(with_reducible rfl)|(refine ap ?_;omega)))))
 · exact ⟨Nat.zero_le _,Nat.zero_le _,rfl⟩
 rintro k ⟨hk,hk2,he⟩
 have hdr : k < a.length → a.drop k = gi a k :: a.drop (k + 1):=l2
 have hdr2 : k < b.length → b.drop k = gi b k :: b.drop (k + 1):=l2
 (repeat' (first|(with_reducible first|(apply hK;clear hK K)|refine stZ ?_|refine aY rfl ?_|((first|apply ae|apply af);clear ae X af Y))|(with_reducible refine ba ?_;first|refine aZ rfl ?_|refine a8 rfl ?_)|((with_reducible first|((first|refine be ?_|refine bf ?_);intro K hK)|(refine aM ?_;intro X Y ae af)|refine aN ?_);simp (disch:=first|decide|omega|(simp only [List.length_cons,List.length_nil];omega)) only [go_sem,↓ak hN,an hN,reduceIte,reduceCtorEq,Nat.reduceAdd,Nat.reduceLT,Nat.reduceLeDiff,Nat.reduceEqDiff,Nat.reduceSub])|(with_reducible refine And.intro (fun h=>?_) (fun h=>?_) <;> try (exfalso;omega))|(with_reducible refine bd aL hN ?_)|(refine aF (qU ?_ ?_) ?_ rfl (fun _=>rfl) ?_)|(with_reducible first|exact aw|refine aq ?_ ?_|exact bD _|refine aI ?_|exact aK _|exact aS _ _|refine aR ?_|exact aG _)|exact aJ hN rfl rfl|(refine aQ hN rfl ?_;first|exact aT _|exact aU _)|exact aH rfl rfl rfl|(simp only [aE,List.map_nil])|(with_reducible refine bB ?_)|(with_reducible refine And.intro ?_ ?_)|(refine ap ?_;omega)|(exact bc hN (by decide))))
 · (refine bX (.inr rfl) (by first|rfl|(simp (disch:=first|decide|omega|(simp only [List.length_cons,List.length_nil];omega)) only [bm,bq,bC,bF,go_sem,beq_self_eq_true,↓az,↓ak hN,an hN,reduceIte,reduceCtorEq,Nat.reduceAdd,Nat.reduceLT,Nat.reduceLeDiff,Nat.reduceEqDiff,Nat.reduceSub];rfl)) ?_)
   rw [he,hdr (by omega),List.drop_eq_nil_of_le (by omega : b.length ≤ k),qS]
 · (refine bX (.inr rfl) (by first|rfl|(simp (disch:=first|decide|omega|(simp only [List.length_cons,List.length_nil];omega)) only [bm,bq,bC,bF,go_sem,beq_self_eq_true,↓az,↓ak hN,an hN,reduceIte,reduceCtorEq,Nat.reduceAdd,Nat.reduceLT,Nat.reduceLeDiff,Nat.reduceEqDiff,Nat.reduceSub];rfl)) ?_)
   have h0 : ¬ mW (gi a k) (gi b k) = 0:=by assumption
   rw [he,hdr (by omega),hdr2 (by omega)]
   unfold mW at h0 ⊢
   split
   · rw [pL (by assumption)]
   · split
     · rw [pM (by assumption)]
     · rename_i h1 h2;rw [if_neg h1,if_neg h2] at h0;exact absurd rfl h0
 · have h0 : mW (gi a k) (gi b k) = 0:=g9 (by assumption)
   have e : gi a k = gi b k:=by
    unfold mW at h0
    split at h0
    · cases h0
    · split at h0
      · cases h0
      · omega
   (refine ⟨k + 1,⟨?_,?_⟩,cS hX hN [] ?_ ?_⟩;(try any_goals dsimp only);(repeat' (first|(with_reducible first|exact clZ|refine cT ?_ ?_|refine cU ?_ ?_|rfl|refine suZ ?_)|refine cV rfl ?_ ?_|exact bU hN _ rfl rfl rfl|exact bV hN _ rfl rfl rfl|exact bu hN _ rfl rfl rfl (Or.inr rfl)|(refine bW hN _ rfl rfl (by first|exact Or.inr rfl|exact Or.inl rfl) ?_;first|exact aT _|exact aU _)|refine bv hN rfl ?_|refine bw hN rfl rfl ?_|exact br hN _ rfl rfl|exact bz hN rfl rfl rfl rfl|(with_reducible first|refine stZ ?_|refine bT ?_)));(try (any_goals (first|(with_reducible rfl)|(refine ap ?_;omega)))))
   exact ⟨by omega,by omega,by rw [he,hdr (by omega),hdr2 (by omega),e,pK]⟩
 · (refine bX (.inr rfl) (by first|rfl|(simp (disch:=first|decide|omega|(simp only [List.length_cons,List.length_nil];omega)) only [bm,bq,bC,bF,go_sem,beq_self_eq_true,↓az,↓ak hN,an hN,reduceIte,reduceCtorEq,Nat.reduceAdd,Nat.reduceLT,Nat.reduceLeDiff,Nat.reduceEqDiff,Nat.reduceSub];rfl)) ?_)
   rw [he,List.drop_eq_nil_of_le (by omega : a.length ≤ k),hdr2 (by omega),qR]
 · (refine bX (.inr rfl) (by first|rfl|(simp (disch:=first|decide|omega|(simp only [List.length_cons,List.length_nil];omega)) only [bm,bq,bC,bF,go_sem,beq_self_eq_true,↓az,↓ak hN,an hN,reduceIte,reduceCtorEq,Nat.reduceAdd,Nat.reduceLT,Nat.reduceLeDiff,Nat.reduceEqDiff,Nat.reduceSub];rfl)) ?_)
   rw [he,List.drop_eq_nil_of_le (by omega : a.length ≤ k),List.drop_eq_nil_of_le (by omega : b.length ≤ k),qT]
theorem ox {L : Nat → List Int} {k : Nat} (h : MS.lx (L k) (MS.bst true L k)) : MS.bst true L (k + 1) = L k:=MS.bst_yes (.inr (by simpa using h))
theorem oy {L : Nat → List Int} {k : Nat} (h : MS.lx (MS.bst false L k) (L k)) : MS.bst false L (k + 1) = L k:=MS.bst_yes (.inr (by simpa using h))
theorem oz {L : Nat → List Int} {k : Nat} (hk : 0 < k) (h : ¬ MS.lx (L k) (MS.bst true L k)) : MS.bst true L (k + 1) = MS.bst true L k:=MS.bst_no fun h'=>h'.elim (fun e=>by omega) fun e=>h (by simpa using e)
theorem oA {L : Nat → List Int} {k : Nat} (hk : 0 < k) (h : ¬ MS.lx (MS.bst false L k) (L k)) : MS.bst false L (k + 1) = MS.bst false L k:=MS.bst_no fun h'=>h'.elim (fun e=>by omega) fun e=>h (by simpa using e)
theorem jH (a b : Int) : (a == b) = tf (a = b):=by
 by_cases h : a = b
 · rw [aA h];simpa using h
 · rw [am h];simpa using h
theorem hU (m : List Int) (h : 0 < m.length) : ay Try.prog 63 [.c (.I m)] [] (fun _=>.c (.bool (tf (gi m 0 = 1)))):=by
 (refine aV aL Try.func63 rfl rfl (by kernel_rfl) fun hp0 ν hX hN=>?_;simp only [ch,Nat.reduceAdd])
 (repeat' (first|(with_reducible first|(apply hK;clear hK K)|refine stZ ?_|refine aY rfl ?_|((first|apply ae|apply af);clear ae X af Y))|(with_reducible refine ba ?_;first|refine aZ rfl ?_|refine a8 rfl ?_)|((with_reducible first|((first|refine be ?_|refine bf ?_);intro K hK)|(refine aM ?_;intro X Y ae af)|refine aN ?_);simp (disch:=first|decide|omega|(simp only [List.length_cons,List.length_nil];omega)) only [go_sem,↓ak hN,an hN,reduceIte,reduceCtorEq,Nat.reduceAdd,Nat.reduceLT,Nat.reduceLeDiff,Nat.reduceEqDiff,Nat.reduceSub])|(with_reducible refine And.intro (fun h=>?_) (fun h=>?_) <;> try (exfalso;omega))|(with_reducible refine bd aL hN ?_)|(with_reducible refine And.intro ?_ ?_)|(refine ap ?_;omega)|(exact bc hN (by decide))))
 (refine bX (.inr rfl) (by first|rfl|(simp (disch:=first|decide|omega|(simp only [List.length_cons,List.length_nil];omega)) only [bm,bq,bC,bF,go_sem,beq_self_eq_true,↓az,↓ak hN,an hN,reduceIte,reduceCtorEq,Nat.reduceAdd,Nat.reduceLT,Nat.reduceLeDiff,Nat.reduceEqDiff,Nat.reduceSub];rfl)) ?_)
 exact congrArg C.bool (jH _ _)
end Go.Proofs.Ytceonklhlpkfgaa
