/-
  Measures: the library's comparisons, and the program's small functions.
-/
import Derived.Test.YtceonklhlpkfgaaZmM4
import Derived.Test.YtceonklhlpkfgaaZmCe
namespace Go.Proofs.Ytceonklhlpkfgaa
set_option linter.unusedVariables false
set_option linter.unusedSimpArgs false
open Go.RowKit
attribute [local irreducible] aw cz Aw Le
theorem pM (x : Int) (a b : List Int) : MS.cmp (x :: a) (x :: b) = MS.cmp a b:=by
 have h1 : MS.lx (x :: a) (x :: b) ↔ MS.lx a b:=⟨fun h=>h.elim (fun h=>by omega) fun h=>h.2,fun h=>.inr ⟨rfl,h⟩⟩
 unfold MS.cmp
 by_cases h : MS.lx a b
 · rw [if_pos h,if_pos (h1.2 h)]
 · rw [if_neg h,if_neg (fun k=>h (h1.1 k))]
   by_cases e : a = b
   · subst e;rw [if_pos rfl,if_pos rfl]
   · rw [if_neg e,if_neg (by simpa using e)]
theorem pN {x y : Int} (h : x < y) (a b : List Int) : MS.cmp (x :: a) (y :: b) = -1:=if_pos (.inl h)
theorem pO {x y : Int} (h : y < x) (a b : List Int) : MS.cmp (x :: a) (y :: b) = 1:=by
 unfold MS.cmp
 rw [if_neg,if_neg (by intro e;injection e;omega)]
 rintro (h'|h')
 · omega
 · omega
theorem qV (y : Int) (b : List Int) : MS.cmp [] (y :: b) = -1:=if_pos trivial
theorem qW (x : Int) (a : List Int) : MS.cmp (x :: a) [] = 1:=by
 unfold MS.cmp
 rw [if_neg (show ¬ MS.lx (x :: a) [] from fun h=>h),if_neg (by simp)]
theorem qX : MS.cmp [] [] = 0:=by
 unfold MS.cmp
 rw [if_neg (show ¬ MS.lx [] [] from fun h=>h),if_pos rfl]
def mN (x y : Int) : Int:=if x < y then -1 else if y < x then 1 else 0
theorem pP (x : Int) : aw Try.prog 64 [.c (.int .i64 x)] [] (fun _=>.c (.bool false)):=by
 (refine bc aF Try.func64 rfl rfl (by kernel_rfl) fun hp0 ν hX hN=>?_;simp only [ct,Nat.reduceAdd])
 (repeat' (first|(with_reducible first|(apply hK;clear hK K)|refine stZ ?_|refine be rfl ?_|((first|apply ae|apply af);clear ae X af Y))|(with_reducible refine bh ?_;first|refine bf rfl ?_|refine bg rfl ?_)|((with_reducible first|((first|refine bm ?_|refine bn ?_);intro K hK)|(refine aL ?_;intro X Y ae af)|refine aM ?_);simp (disch:=first|decide|omega|(simp only [List.length_cons,List.length_nil];omega)) only [go_sem,↓aj hN,am hN,reduceIte,reduceCtorEq,Nat.reduceAdd,Nat.reduceLT,Nat.reduceLeDiff,Nat.reduceEqDiff,Nat.reduceSub])|(with_reducible refine And.intro (fun h=>?_) (fun h=>?_) <;> try (exfalso;omega))|(with_reducible refine bj aF hN ?_)|(with_reducible refine And.intro ?_ ?_)|(refine an ?_;omega)|(exact bi hN (by decide))))
 all_goals (refine ce (.inr rfl) (by first|rfl|(simp (disch:=first|decide|omega|(simp only [List.length_cons,List.length_nil];omega)) only [bF,bH,bJ,bP,go_sem,beq_self_eq_true,↓aB,↓aj hN,am hN,reduceIte,reduceCtorEq,Nat.reduceAdd,Nat.reduceLT,Nat.reduceLeDiff,Nat.reduceEqDiff,Nat.reduceSub];rfl)) ?_)
 all_goals simp
theorem qY (x y : Int) : aw Try.prog 53 [.c (.int .i64 x),.c (.int .i64 y)] [] (fun _=>.c (.int .i64 (mN x y))):=by
 (refine bc aF Try.func53 rfl rfl (by kernel_rfl) fun hp0 ν hX hN=>?_;simp only [ct,Nat.reduceAdd])
 (repeat' (first|(with_reducible first|(apply hK;clear hK K)|refine stZ ?_|refine be rfl ?_|((first|apply ae|apply af);clear ae X af Y))|(with_reducible refine bh ?_;first|refine bf rfl ?_|refine bg rfl ?_)|((with_reducible first|((first|refine bm ?_|refine bn ?_);intro K hK)|(refine aL ?_;intro X Y ae af)|refine aM ?_);simp (disch:=first|decide|omega|(simp only [List.length_cons,List.length_nil];omega)) only [go_sem,↓aj hN,am hN,reduceIte,reduceCtorEq,Nat.reduceAdd,Nat.reduceLT,Nat.reduceLeDiff,Nat.reduceEqDiff,Nat.reduceSub])|(with_reducible refine And.intro (fun h=>?_) (fun h=>?_) <;> try (exfalso;omega))|(with_reducible refine bj aF hN ?_)|(refine aW (pP ?_) ?_ rfl (fun _=>rfl) ?_)|(with_reducible first|exact ay|refine aq ?_ ?_|exact bQ _|refine aI ?_|exact aK _|exact ba _ _|refine a8 ?_|exact aG _)|exact aJ hN rfl rfl|(refine aZ hN rfl ?_;first|exact aN _|exact aO _)|exact aH rfl rfl rfl|(simp only [aD,List.map_nil])|(with_reducible refine bK ?_)|(with_reducible refine And.intro ?_ ?_)|(refine an ?_;omega)|(exact bi hN (by decide))))
 all_goals (refine ce (.inr rfl) (by first|rfl|(simp (disch:=first|decide|omega|(simp only [List.length_cons,List.length_nil];omega)) only [bF,bH,bJ,bP,go_sem,beq_self_eq_true,↓aB,↓aj hN,am hN,reduceIte,reduceCtorEq,Nat.reduceAdd,Nat.reduceLT,Nat.reduceLeDiff,Nat.reduceEqDiff,Nat.reduceSub];rfl)) ?_)
 all_goals unfold mN
 all_goals grind
theorem eS (a b : List Int) (ha : a.length ≤ 1048576) (hb : b.length ≤ 1048576) : aw Try.prog 33 [.c (.I a),.c (.I b)] [] (fun _=>.c (.int .i64 (MS.cmp a b))):=by
 (refine bc aF Try.func33 rfl rfl (by kernel_rfl) fun hp0 ν hX hN=>?_;simp only [ct,Nat.reduceAdd])
 (repeat' (first|(with_reducible first|(apply hK;clear hK K)|refine stZ ?_|refine be rfl ?_|((first|apply ae|apply af);clear ae X af Y))|(with_reducible refine bh ?_;first|refine bf rfl ?_|refine bg rfl ?_)|((with_reducible first|((first|refine bm ?_|refine bn ?_);intro K hK)|(refine aL ?_;intro X Y ae af)|refine aM ?_);simp (disch:=first|decide|omega|(simp only [List.length_cons,List.length_nil];omega)) only [go_sem,↓aj hN,am hN,reduceIte,reduceCtorEq,Nat.reduceAdd,Nat.reduceLT,Nat.reduceLeDiff,Nat.reduceEqDiff,Nat.reduceSub])|(with_reducible refine And.intro (fun h=>?_) (fun h=>?_) <;> try (exfalso;omega))|(with_reducible refine bj aF hN ?_)|(with_reducible refine And.intro ?_ ?_)|(refine an ?_;omega)|(exact bi hN (by decide))))
 (refine cw (fun (k : Nat)=>(tmL [(11,.c (.int .i64 k)),(10,.c (.int .i64 a.length)),(9,.c (.I a)),(0,.c (.I a)),(1,.c (.I b))],hpL hp0 ν [])) (fun (k : Nat)=>k ≤ a.length ∧ k ≤ b.length ∧ MS.cmp a b = MS.cmp (a.drop k) (b.drop k)) (fun (k : Nat)=>a.length - k) ⟨0,?_,bT hX hN [] ?_ ?_⟩ ?_;(repeat' (first|(with_reducible first|exact clZ|refine bU ?_ ?_|refine bV ?_ ?_|rfl|refine suZ ?_)|refine bW rfl ?_ ?_|exact bz hN _ rfl rfl rfl|exact bA hN _ rfl rfl rfl|exact aS hN _ rfl rfl rfl (Or.inr rfl)|(refine bB hN _ rfl rfl (by first|exact Or.inr rfl|exact Or.inl rfl) ?_;first|exact aN _|exact aO _)|refine aT hN rfl ?_|refine aU hN rfl rfl ?_|exact aR hN _ rfl rfl|exact aV hN rfl rfl rfl rfl|(with_reducible first|refine stZ ?_|refine bw ?_)));(try (any_goals (first|(with_reducible rfl)|(refine an ?_;omega)))))
 · exact ⟨Nat.zero_le _,Nat.zero_le _,rfl⟩
 rintro k ⟨hk,hk2,he⟩
 have hdr : k < a.length → a.drop k = gi a k :: a.drop (k + 1):=lV
 have hdr2 : k < b.length → b.drop k = gi b k :: b.drop (k + 1):=lV
 (repeat' (first|(with_reducible first|(apply hK;clear hK K)|refine stZ ?_|refine be rfl ?_|((first|apply ae|apply af);clear ae X af Y))|(with_reducible refine bh ?_;first|refine bf rfl ?_|refine bg rfl ?_)|((with_reducible first|((first|refine bm ?_|refine bn ?_);intro K hK)|(refine aL ?_;intro X Y ae af)|refine aM ?_);simp (disch:=first|decide|omega|(simp only [List.length_cons,List.length_nil];omega)) only [go_sem,↓aj hN,am hN,reduceIte,reduceCtorEq,Nat.reduceAdd,Nat.reduceLT,Nat.reduceLeDiff,Nat.reduceEqDiff,Nat.reduceSub])|(with_reducible refine And.intro (fun h=>?_) (fun h=>?_) <;> try (exfalso;omega))|(with_reducible refine bj aF hN ?_)|(refine aW (qY ?_ ?_) ?_ rfl (fun _=>rfl) ?_)|(with_reducible first|exact ay|refine aq ?_ ?_|exact bQ _|refine aI ?_|exact aK _|exact ba _ _|refine a8 ?_|exact aG _)|exact aJ hN rfl rfl|(refine aZ hN rfl ?_;first|exact aN _|exact aO _)|exact aH rfl rfl rfl|(simp only [aD,List.map_nil])|(with_reducible refine bK ?_)|(with_reducible refine And.intro ?_ ?_)|(refine an ?_;omega)|(exact bi hN (by decide))))
 · (refine ce (.inr rfl) (by first|rfl|(simp (disch:=first|decide|omega|(simp only [List.length_cons,List.length_nil];omega)) only [bF,bH,bJ,bP,go_sem,beq_self_eq_true,↓aB,↓aj hN,am hN,reduceIte,reduceCtorEq,Nat.reduceAdd,Nat.reduceLT,Nat.reduceLeDiff,Nat.reduceEqDiff,Nat.reduceSub];rfl)) ?_)
   rw [he,hdr (by omega),List.drop_eq_nil_of_le (by omega : b.length ≤ k),qW]
 · (refine ce (.inr rfl) (by first|rfl|(simp (disch:=first|decide|omega|(simp only [List.length_cons,List.length_nil];omega)) only [bF,bH,bJ,bP,go_sem,beq_self_eq_true,↓aB,↓aj hN,am hN,reduceIte,reduceCtorEq,Nat.reduceAdd,Nat.reduceLT,Nat.reduceLeDiff,Nat.reduceEqDiff,Nat.reduceSub];rfl)) ?_)
   have h0 : ¬ mN (gi a k) (gi b k) = 0:=by assumption
   rw [he,hdr (by omega),hdr2 (by omega)]
   unfold mN at h0 ⊢
   split
   · rw [pN (by assumption)]
   · split
     · rw [pO (by assumption)]
     · rename_i h1 h2;rw [if_neg h1,if_neg h2] at h0;exact absurd rfl h0
 · have h0 : mN (gi a k) (gi b k) = 0:=g8 (by assumption)
   have e : gi a k = gi b k:=by
    unfold mN at h0
    split at h0
    · cases h0
    · split at h0
      · cases h0
      · omega
   (refine ⟨k + 1,⟨?_,?_⟩,bT hX hN [] ?_ ?_⟩;(try any_goals dsimp only);(repeat' (first|(with_reducible first|exact clZ|refine bU ?_ ?_|refine bV ?_ ?_|rfl|refine suZ ?_)|refine bW rfl ?_ ?_|exact bz hN _ rfl rfl rfl|exact bA hN _ rfl rfl rfl|exact aS hN _ rfl rfl rfl (Or.inr rfl)|(refine bB hN _ rfl rfl (by first|exact Or.inr rfl|exact Or.inl rfl) ?_;first|exact aN _|exact aO _)|refine aT hN rfl ?_|refine aU hN rfl rfl ?_|exact aR hN _ rfl rfl|exact aV hN rfl rfl rfl rfl|(with_reducible first|refine stZ ?_|refine bw ?_)));(try (any_goals (first|(with_reducible rfl)|(refine an ?_;omega)))))
   exact ⟨by omega,by omega,by rw [he,hdr (by omega),hdr2 (by omega),e,pM]⟩
 · (refine ce (.inr rfl) (by first|rfl|(simp (disch:=first|decide|omega|(simp only [List.length_cons,List.length_nil];omega)) only [bF,bH,bJ,bP,go_sem,beq_self_eq_true,↓aB,↓aj hN,am hN,reduceIte,reduceCtorEq,Nat.reduceAdd,Nat.reduceLT,Nat.reduceLeDiff,Nat.reduceEqDiff,Nat.reduceSub];rfl)) ?_)
   rw [he,List.drop_eq_nil_of_le (by omega : a.length ≤ k),hdr2 (by omega),qV]
 · (refine ce (.inr rfl) (by first|rfl|(simp (disch:=first|decide|omega|(simp only [List.length_cons,List.length_nil];omega)) only [bF,bH,bJ,bP,go_sem,beq_self_eq_true,↓aB,↓aj hN,am hN,reduceIte,reduceCtorEq,Nat.reduceAdd,Nat.reduceLT,Nat.reduceLeDiff,Nat.reduceEqDiff,Nat.reduceSub];rfl)) ?_)
   rw [he,List.drop_eq_nil_of_le (by omega : a.length ≤ k),List.drop_eq_nil_of_le (by omega : b.length ≤ k),qX]
theorem ln {L : Nat → List Int} {k : Nat} (h : MS.lx (L k) (MS.bst true L k)) : MS.bst true L (k + 1) = L k:=MS.bst_yes (.inr (by simpa using h))
theorem lp {L : Nat → List Int} {k : Nat} (h : MS.lx (MS.bst false L k) (L k)) : MS.bst false L (k + 1) = L k:=MS.bst_yes (.inr (by simpa using h))
theorem lq {L : Nat → List Int} {k : Nat} (hk : 0 < k) (h : ¬ MS.lx (L k) (MS.bst true L k)) : MS.bst true L (k + 1) = MS.bst true L k:=MS.bst_no fun h'=>h'.elim (fun e=>by omega) fun e=>h (by simpa using e)
theorem lr {L : Nat → List Int} {k : Nat} (hk : 0 < k) (h : ¬ MS.lx (MS.bst false L k) (L k)) : MS.bst false L (k + 1) = MS.bst false L k:=MS.bst_no fun h'=>h'.elim (fun e=>by omega) fun e=>h (by simpa using e)
theorem mO (rs : List (List Int)) (h0 : 0 < rs.length) (hl : rs.length ≤ 1048576) (hr : ∀ i,i < rs.length → (gr rs i).length ≤ 1048576) : aw Try.prog 51 [.c (.R rs),.fn (.func 33) []] [] (fun _=>.c (.I (MS.bst true (gr rs) rs.length))):=by
 (refine bc aF Try.func51 rfl rfl (by kernel_rfl) fun hp0 ν hX hN=>?_;simp only [ct,Nat.reduceAdd])
 (repeat' (first|(with_reducible first|(apply hK;clear hK K)|refine stZ ?_|refine be rfl ?_|((first|apply ae|apply af);clear ae X af Y))|(with_reducible refine bh ?_;first|refine bf rfl ?_|refine bg rfl ?_)|((with_reducible first|((first|refine bm ?_|refine bn ?_);intro K hK)|(refine aL ?_;intro X Y ae af)|refine aM ?_);simp (disch:=first|decide|omega|(simp only [List.length_cons,List.length_nil];omega)) only [go_sem,↓aj hN,am hN,reduceIte,reduceCtorEq,Nat.reduceAdd,Nat.reduceLT,Nat.reduceLeDiff,Nat.reduceEqDiff,Nat.reduceSub])|(with_reducible refine And.intro (fun h=>?_) (fun h=>?_) <;> try (exfalso;omega))|(with_reducible refine bj aF hN ?_)|(with_reducible refine And.intro ?_ ?_)|(refine an ?_;omega)|(exact bi hN (by decide))))
 (refine cw (fun (k : Nat)=>(tmL [(6,.c (.int .i64 (k + 1))),(5,.c (.I (MS.bst true (gr rs) (k + 1)))),(0,.c (.R rs)),(1,.fn (.func 33) [])],hpL hp0 ν [])) (fun (k : Nat)=>k + 1 ≤ rs.length) (fun (k : Nat)=>rs.length - k) ⟨0,?_,bT hX hN [] ?_ ?_⟩ ?_;(repeat' (first|(with_reducible first|exact clZ|refine bU ?_ ?_|refine bV ?_ ?_|rfl|refine suZ ?_)|refine bW rfl ?_ ?_|exact bz hN _ rfl rfl rfl|exact bA hN _ rfl rfl rfl|exact aS hN _ rfl rfl rfl (Or.inr rfl)|(refine bB hN _ rfl rfl (by first|exact Or.inr rfl|exact Or.inl rfl) ?_;first|exact aN _|exact aO _)|refine aT hN rfl ?_|refine aU hN rfl rfl ?_|exact aR hN _ rfl rfl|exact aV hN rfl rfl rfl rfl|(with_reducible first|refine stZ ?_|refine bw ?_)));(try (any_goals (first|(with_reducible rfl)|(refine an ?_;omega)))))
 · exact (MS.bst_yes (.inl rfl)).symm
 intro k hk
 have hb : (MS.bst true (gr rs) (k + 1)).length ≤ 1048576:=by
  obtain ⟨j,j1,j2⟩:=MS.bst_mem true (gr rs) (k + 1) (by omega)
  rw [j2];exact hr j (by omega)
 have hr2 : k + 1 < rs.length → (gr rs ((k : Int) + 1).toNat).length ≤ 1048576:=hr (k + 1)
 (repeat' (first|(with_reducible first|(apply hK;clear hK K)|refine stZ ?_|refine be rfl ?_|((first|apply ae|apply af);clear ae X af Y))|(with_reducible refine bh ?_;first|refine bf rfl ?_|refine bg rfl ?_)|((with_reducible first|((first|refine bm ?_|refine bn ?_);intro K hK)|(refine aL ?_;intro X Y ae af)|refine aM ?_);simp (disch:=first|decide|omega|(simp only [List.length_cons,List.length_nil];omega)) only [go_sem,↓aj hN,am hN,reduceIte,reduceCtorEq,Nat.reduceAdd,Nat.reduceLT,Nat.reduceLeDiff,Nat.reduceEqDiff,Nat.reduceSub])|(with_reducible refine And.intro (fun h=>?_) (fun h=>?_) <;> try (exfalso;omega))|(with_reducible refine bj aF hN ?_)|(refine aW (eS (gr rs ((k : Int) + 1).toNat) (MS.bst true (gr rs) (k + 1)) (hr2 (by omega)) hb) ?_ rfl (fun _=>rfl) ?_)|(with_reducible first|exact ay|refine aq ?_ ?_|exact bQ _|refine aI ?_|exact aK _|exact ba _ _|refine a8 ?_|exact aG _)|exact aJ hN rfl rfl|(refine aZ hN rfl ?_;first|exact aN _|exact aO _)|exact aH rfl rfl rfl|(simp only [aD,List.map_nil])|(with_reducible refine bK ?_)|(with_reducible refine And.intro ?_ ?_)|(refine an ?_;omega)|(exact bi hN (by decide))))
 · (refine ⟨k + 1,⟨?_,?_⟩,bT hX hN [] ?_ ?_⟩;(try any_goals dsimp only);(repeat' (first|(with_reducible first|exact clZ|refine bU ?_ ?_|refine bV ?_ ?_|rfl|refine suZ ?_)|refine bW rfl ?_ ?_|exact bz hN _ rfl rfl rfl|exact bA hN _ rfl rfl rfl|exact aS hN _ rfl rfl rfl (Or.inr rfl)|(refine bB hN _ rfl rfl (by first|exact Or.inr rfl|exact Or.inl rfl) ?_;first|exact aN _|exact aO _)|refine aT hN rfl ?_|refine aU hN rfl rfl ?_|exact aR hN _ rfl rfl|exact aV hN rfl rfl rfl rfl|(with_reducible first|refine stZ ?_|refine bw ?_)));(try (any_goals (first|(with_reducible rfl)|(refine an ?_;omega)))))
   exact (ln (L:=gr rs) (MS.cmp_lt.1 (by assumption))).symm
 · (refine ⟨k + 1,⟨?_,?_⟩,bT hX hN [] ?_ ?_⟩;(try any_goals dsimp only);(repeat' (first|(with_reducible first|exact clZ|refine bU ?_ ?_|refine bV ?_ ?_|rfl|refine suZ ?_)|refine bW rfl ?_ ?_|exact bz hN _ rfl rfl rfl|exact bA hN _ rfl rfl rfl|exact aS hN _ rfl rfl rfl (Or.inr rfl)|(refine bB hN _ rfl rfl (by first|exact Or.inr rfl|exact Or.inl rfl) ?_;first|exact aN _|exact aO _)|refine aT hN rfl ?_|refine aU hN rfl rfl ?_|exact aR hN _ rfl rfl|exact aV hN rfl rfl rfl rfl|(with_reducible first|refine stZ ?_|refine bw ?_)));(try (any_goals (first|(with_reducible rfl)|(refine an ?_;omega)))))
   exact (lq (L:=gr rs) (Nat.succ_pos k) fun h'=>absurd (MS.cmp_lt.2 h') (by assumption)).symm
 · (refine ce (.inr rfl) (by first|rfl|(simp (disch:=first|decide|omega|(simp only [List.length_cons,List.length_nil];omega)) only [bF,bH,bJ,bP,go_sem,beq_self_eq_true,↓aB,↓aj hN,am hN,reduceIte,reduceCtorEq,Nat.reduceAdd,Nat.reduceLT,Nat.reduceLeDiff,Nat.reduceEqDiff,Nat.reduceSub];rfl)) ?_)
   rw [show rs.length = k + 1 by omega]
theorem mP (rs : List (List Int)) (h0 : 0 < rs.length) (hl : rs.length ≤ 1048576) (hr : ∀ i,i < rs.length → (gr rs i).length ≤ 1048576) : aw Try.prog 52 [.c (.R rs),.fn (.func 33) []] [] (fun _=>.c (.I (MS.bst false (gr rs) rs.length))):=by
 (refine bc aF Try.func52 rfl rfl (by kernel_rfl) fun hp0 ν hX hN=>?_;simp only [ct,Nat.reduceAdd])
 (repeat' (first|(with_reducible first|(apply hK;clear hK K)|refine stZ ?_|refine be rfl ?_|((first|apply ae|apply af);clear ae X af Y))|(with_reducible refine bh ?_;first|refine bf rfl ?_|refine bg rfl ?_)|((with_reducible first|((first|refine bm ?_|refine bn ?_);intro K hK)|(refine aL ?_;intro X Y ae af)|refine aM ?_);simp (disch:=first|decide|omega|(simp only [List.length_cons,List.length_nil];omega)) only [go_sem,↓aj hN,am hN,reduceIte,reduceCtorEq,Nat.reduceAdd,Nat.reduceLT,Nat.reduceLeDiff,Nat.reduceEqDiff,Nat.reduceSub])|(with_reducible refine And.intro (fun h=>?_) (fun h=>?_) <;> try (exfalso;omega))|(with_reducible refine bj aF hN ?_)|(with_reducible refine And.intro ?_ ?_)|(refine an ?_;omega)|(exact bi hN (by decide))))
 (refine cw (fun (k : Nat)=>(tmL [(6,.c (.int .i64 (k + 1))),(5,.c (.I (MS.bst false (gr rs) (k + 1)))),(0,.c (.R rs)),(1,.fn (.func 33) [])],hpL hp0 ν [])) (fun (k : Nat)=>k + 1 ≤ rs.length) (fun (k : Nat)=>rs.length - k) ⟨0,?_,bT hX hN [] ?_ ?_⟩ ?_;(repeat' (first|(with_reducible first|exact clZ|refine bU ?_ ?_|refine bV ?_ ?_|rfl|refine suZ ?_)|refine bW rfl ?_ ?_|exact bz hN _ rfl rfl rfl|exact bA hN _ rfl rfl rfl|exact aS hN _ rfl rfl rfl (Or.inr rfl)|(refine bB hN _ rfl rfl (by first|exact Or.inr rfl|exact Or.inl rfl) ?_;first|exact aN _|exact aO _)|refine aT hN rfl ?_|refine aU hN rfl rfl ?_|exact aR hN _ rfl rfl|exact aV hN rfl rfl rfl rfl|(with_reducible first|refine stZ ?_|refine bw ?_)));(try (any_goals (first|(with_reducible rfl)|(refine an ?_;omega)))))
 · exact (MS.bst_yes (.inl rfl)).symm
 intro k hk
 have hb : (MS.bst false (gr rs) (k + 1)).length ≤ 1048576:=by
  obtain ⟨j,j1,j2⟩:=MS.bst_mem false (gr rs) (k + 1) (by omega)
  rw [j2];exact hr j (by omega)
 have hr2 : k + 1 < rs.length → (gr rs ((k : Int) + 1).toNat).length ≤ 1048576:=hr (k + 1)
 (repeat' (first|(with_reducible first|(apply hK;clear hK K)|refine stZ ?_|refine be rfl ?_|((first|apply ae|apply af);clear ae X af Y))|(with_reducible refine bh ?_;first|refine bf rfl ?_|refine bg rfl ?_)|((with_reducible first|((first|refine bm ?_|refine bn ?_);intro K hK)|(refine aL ?_;intro X Y ae af)|refine aM ?_);simp (disch:=first|decide|omega|(simp only [List.length_cons,List.length_nil];omega)) only [go_sem,↓aj hN,am hN,reduceIte,reduceCtorEq,Nat.reduceAdd,Nat.reduceLT,Nat.reduceLeDiff,Nat.reduceEqDiff,Nat.reduceSub])|(with_reducible refine And.intro (fun h=>?_) (fun h=>?_) <;> try (exfalso;omega))|(with_reducible refine bj aF hN ?_)|(refine aW (eS (gr rs ((k : Int) + 1).toNat) (MS.bst false (gr rs) (k + 1)) (hr2 (by omega)) hb) ?_ rfl (fun _=>rfl) ?_)|(with_reducible first|exact ay|refine aq ?_ ?_|exact bQ _|refine aI ?_|exact aK _|exact ba _ _|refine a8 ?_|exact aG _)|exact aJ hN rfl rfl|(refine aZ hN rfl ?_;first|exact aN _|exact aO _)|exact aH rfl rfl rfl|(simp only [aD,List.map_nil])|(with_reducible refine bK ?_)|(with_reducible refine And.intro ?_ ?_)|(refine an ?_;omega)|(exact bi hN (by decide))))
 · (refine ⟨k + 1,⟨?_,?_⟩,bT hX hN [] ?_ ?_⟩;(try any_goals dsimp only);(repeat' (first|(with_reducible first|exact clZ|refine bU ?_ ?_|refine bV ?_ ?_|rfl|refine suZ ?_)|refine bW rfl ?_ ?_|exact bz hN _ rfl rfl rfl|exact bA hN _ rfl rfl rfl|exact aS hN _ rfl rfl rfl (Or.inr rfl)|(refine bB hN _ rfl rfl (by first|exact Or.inr rfl|exact Or.inl rfl) ?_;first|exact aN _|exact aO _)|refine aT hN rfl ?_|refine aU hN rfl rfl ?_|exact aR hN _ rfl rfl|exact aV hN rfl rfl rfl rfl|(with_reducible first|refine stZ ?_|refine bw ?_)));(try (any_goals (first|(with_reducible rfl)|(refine an ?_;omega)))))
   exact (lp (L:=gr rs) (MS.cmp_gt.1 (by assumption))).symm
 · (refine ⟨k + 1,⟨?_,?_⟩,bT hX hN [] ?_ ?_⟩;(try any_goals dsimp only);(repeat' (first|(with_reducible first|exact clZ|refine bU ?_ ?_|refine bV ?_ ?_|rfl|refine suZ ?_)|refine bW rfl ?_ ?_|exact bz hN _ rfl rfl rfl|exact bA hN _ rfl rfl rfl|exact aS hN _ rfl rfl rfl (Or.inr rfl)|(refine bB hN _ rfl rfl (by first|exact Or.inr rfl|exact Or.inl rfl) ?_;first|exact aN _|exact aO _)|refine aT hN rfl ?_|refine aU hN rfl rfl ?_|exact aR hN _ rfl rfl|exact aV hN rfl rfl rfl rfl|(with_reducible first|refine stZ ?_|refine bw ?_)));(try (any_goals (first|(with_reducible rfl)|(refine an ?_;omega)))))
   exact (lr (L:=gr rs) (Nat.succ_pos k) fun h'=>absurd (MS.cmp_gt.2 h') (by assumption)).symm
 · (refine ce (.inr rfl) (by first|rfl|(simp (disch:=first|decide|omega|(simp only [List.length_cons,List.length_nil];omega)) only [bF,bH,bJ,bP,go_sem,beq_self_eq_true,↓aB,↓aj hN,am hN,reduceIte,reduceCtorEq,Nat.reduceAdd,Nat.reduceLT,Nat.reduceLeDiff,Nat.reduceEqDiff,Nat.reduceSub];rfl)) ?_)
   rw [show rs.length = k + 1 by omega]
theorem jC (a b : Int) : (a == b) = tf (a = b):=by
 by_cases h : a = b
 · rw [aE h];simpa using h
 · rw [ap h];simpa using h
theorem hD (m : List Int) (h : 0 < m.length) : aw Try.prog 63 [.c (.I m)] [] (fun _=>.c (.bool (tf (gi m 0 = 1)))):=by
 (refine bc aF Try.func63 rfl rfl (by kernel_rfl) fun hp0 ν hX hN=>?_;simp only [ct,Nat.reduceAdd])
 (repeat' (first|(with_reducible first|(apply hK;clear hK K)|refine stZ ?_|refine be rfl ?_|((first|apply ae|apply af);clear ae X af Y))|(with_reducible refine bh ?_;first|refine bf rfl ?_|refine bg rfl ?_)|((with_reducible first|((first|refine bm ?_|refine bn ?_);intro K hK)|(refine aL ?_;intro X Y ae af)|refine aM ?_);simp (disch:=first|decide|omega|(simp only [List.length_cons,List.length_nil];omega)) only [go_sem,↓aj hN,am hN,reduceIte,reduceCtorEq,Nat.reduceAdd,Nat.reduceLT,Nat.reduceLeDiff,Nat.reduceEqDiff,Nat.reduceSub])|(with_reducible refine And.intro (fun h=>?_) (fun h=>?_) <;> try (exfalso;omega))|(with_reducible refine bj aF hN ?_)|(with_reducible refine And.intro ?_ ?_)|(refine an ?_;omega)|(exact bi hN (by decide))))
 (refine ce (.inr rfl) (by first|rfl|(simp (disch:=first|decide|omega|(simp only [List.length_cons,List.length_nil];omega)) only [bF,bH,bJ,bP,go_sem,beq_self_eq_true,↓aB,↓aj hN,am hN,reduceIte,reduceCtorEq,Nat.reduceAdd,Nat.reduceLT,Nat.reduceLeDiff,Nat.reduceEqDiff,Nat.reduceSub];rfl)) ?_)
 exact congrArg C.bool (jC _ _)
end Go.Proofs.Ytceonklhlpkfgaa
