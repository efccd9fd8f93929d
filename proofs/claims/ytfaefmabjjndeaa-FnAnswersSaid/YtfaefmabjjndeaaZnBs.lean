/-
  Binary search in a set; what is in one set and not in another one.
-/
import Derived.Test.YtfaefmabjjndeaaZnKf
import Derived.Test.YtfaefmabjjndeaaZnCb
import Derived.Test.YtfaefmabjjndeaaZnAt2
namespace Go.Proofs.Ytfaefmabjjndeaa
set_option linter.unusedVariables false
set_option linter.unusedSimpArgs false
open Go.RowKit
attribute [local irreducible] ax cJ Aw Le
def fF (x : Int) : List Int → Nat
 | [] => 0
 | o :: os => if o < x then fF x os + 1 else 0
theorem ox (x : Int) : ∀ os,fF x os ≤ os.length
 | [] => Nat.le_refl _
 | o :: os => by
   unfold fF
   split
   · exact Nat.succ_le_succ (ox x os)
   · exact Nat.zero_le _
theorem gF {x : Int} : ∀ {os : List Int},os.Pairwise (· < ·) → ∀ i,i < os.length → (gi os i < x ↔ i < fF x os)
 | [], _, i, h => absurd h (Nat.not_lt_zero _)
 | o :: os, hp, i, h => by
   rw [List.pairwise_cons] at hp
   unfold fF
   rcases i with _|i
   · show o < x ↔ _
     split
     · rename_i e;exact ⟨fun _=>Nat.succ_pos _,fun _=>e⟩
     · rename_i e;exact ⟨fun h=>absurd h e,fun h=>absurd h (Nat.not_lt_zero _)⟩
   · have hi : i < os.length:=by simpa using h
     show gi os i < x ↔ _
     have ih:=gF (x:=x) hp.2 i hi
     split
     · rw [ih];omega
     · rename_i e
       have:=hp.1 _ (du hi)
       exact ⟨fun h=>absurd h (by omega),fun h=>absurd h (Nat.not_lt_zero _)⟩
theorem lC {xs : List Int} {m : Int} (h : cz xs m) : xs.Pairwise (· < ·):=by
 rw [List.pairwise_iff_getElem]
 have key : ∀ d i,i + d + 1 < xs.length → gi xs i < gi xs (i + d + 1):=by
  intro d
  induction d with
  | zero => intro i hi; exact (h (i + 1) hi).2.2 (Nat.succ_pos _)
  | succ d ih =>
    intro i hi
    have h1:=ih i (by omega)
    have h2:=(h (i + d + 1 + 1) (by omega)).2.2 (Nat.succ_pos _)
    rw [show i + d + 1 + 1 - 1 = i + d + 1 by omega] at h2
    rw [show i + (d + 1) + 1 = i + d + 1 + 1 by omega]
    omega
 intro i j hi hj hij
 have:=key (j - i - 1) i (by omega)
 rw [show i + (j - i - 1) + 1 = j by omega] at this
 rwa [dB hi,dB hj] at this
theorem jR {x : Int} {xs : List Int} (h : xs.Pairwise (· < ·)) : x ∈ xs ↔ fF x xs < xs.length ∧ gi xs (fF x xs) = x:=by
 constructor
 · intro hx
   obtain ⟨k,hk,e⟩:=c4 hx
   have h1:=gF (x:=x) h k hk
   have h2 : ¬ k < fF x xs:=fun h'=>by have:=h1.2 h';omega
   rcases Nat.lt_or_ge (fF x xs) k with h3|h3
   · have h4:=gF (x:=x) h (fF x xs) (by omega)
     have h5:=List.pairwise_iff_getElem.1 h (fF x xs) k (by omega) hk h3
     rw [← dB (by omega : fF x xs < xs.length),← dB hk] at h5
     have:=h4.1 (by omega)
     omega
   · have : fF x xs = k:=by omega
     rw [this];exact ⟨hk,e⟩
 · rintro ⟨h1,h2⟩;rw [← h2];exact du h1
theorem uv {i j : Nat} (h : i + j ≤ 9223372036854775807) : IntKind.i64.wrap (oJ .u64 (IntKind.u64.wrap ((i : Int) + (j : Int))) 1) = (((i + j) / 2 : Nat) : Int):=by
 have e1 : IntKind.u64.wrap ((i : Int) + (j : Int)) = ((i + j : Nat) : Int):=by
  simp [IntKind.wrap,IntKind.bits,IntKind.signed];omega
 rw [e1]
 unfold oJ
 have e2 : (2 : Int) ^ min (1 : Int).toNat IntKind.u64.bits = 2:=by decide
 rw [e2,Int.fdiv_eq_ediv_of_nonneg _ (by decide)]
 rw [qH (by omega)]
 omega
theorem sR (x : Int) : ax Try.prog 210 [.c (.int .i64 x)] [] (fun _=>.c (.bool false)):=by
 (refine bV aP Try.func210 rfl rfl (by kernel_rfl) fun hp0 ν hX hN=>?_;simp only [cK,Nat.reduceAdd])
 (repeat' (first|(with_reducible first|(refine hK _ _ ?_;clear hK K)|(refine aa _ ?_;clear aa K)|refine bj ?_|refine cc ?_|refine bc ?_|refine aq ?_|refine ap ?_|refine ce ?_|refine aJ ?_|refine bd ?_|refine cf ?_|refine be ?_|refine bf rfl ?_|refine bm ?_|refine bg ?_|refine cg ?_|refine bh ?_|refine aI ?_|refine n_k ?_|refine bi ?_|(refine ae ?_;clear ae X af Y)|(refine af ?_;clear ae X af Y))|(with_reducible refine br ?_;first|refine bo rfl ?_|refine bp rfl ?_)|(with_reducible refine bz ?_;first|refine au rfl rfl rfl rfl ?_|refine aL rfl rfl rfl ?_|refine bv rfl rfl rfl rfl ?_)|((first|(with_reducible first|refine bt rfl rfl fun K hK=>?_|refine bu rfl rfl fun K aa=>?_|refine aK fun X Y ae af=>?_|refine aM ?_));simp (disch:=first|decide|omega|(simp only [List.length_cons,List.length_nil];omega)) only [go_sem,beq_self_eq_true,↓aj,↓ak hN,am hN,reduceIte,reduceCtorEq,Nat.reduceAdd,Nat.reduceLT,Nat.reduceLeDiff,Nat.reduceEqDiff,Nat.reduceSub])|(with_reducible refine And.intro (fun h=>?_) (fun h=>?_) <;> try (exfalso;omega))|(with_reducible refine bn aP hN rfl ?_ ?_;kernel_rfl)|(with_reducible refine And.intro ?_ ?_)|(refine ah ?_;omega)|(exact bw hN (by decide))))
 all_goals (refine cO (.inr rfl) (by first|rfl|(simp (disch:=first|decide|omega|(simp only [List.length_cons,List.length_nil];omega)) only [cj,cn,cu,cy,go_sem,beq_self_eq_true,↓aj,↓ak hN,am hN,reduceIte,reduceCtorEq,Nat.reduceAdd,Nat.reduceLT,Nat.reduceLeDiff,Nat.reduceEqDiff,Nat.reduceSub];rfl)) ?_)
 all_goals simp
theorem sS (x : Int) : ax Try.prog 213 [.c (.int .i64 x)] [] (fun _=>.c (.bool false)):=by
 (refine bV aP Try.func213 rfl rfl (by kernel_rfl) fun hp0 ν hX hN=>?_;simp only [cK,Nat.reduceAdd])
 (repeat' (first|(with_reducible first|(refine hK _ _ ?_;clear hK K)|(refine aa _ ?_;clear aa K)|refine bj ?_|refine cc ?_|refine bc ?_|refine aq ?_|refine ap ?_|refine ce ?_|refine aJ ?_|refine bd ?_|refine cf ?_|refine be ?_|refine bf rfl ?_|refine bm ?_|refine bg ?_|refine cg ?_|refine bh ?_|refine aI ?_|refine n_k ?_|refine bi ?_|(refine ae ?_;clear ae X af Y)|(refine af ?_;clear ae X af Y))|(with_reducible refine br ?_;first|refine bo rfl ?_|refine bp rfl ?_)|(with_reducible refine bz ?_;first|refine au rfl rfl rfl rfl ?_|refine aL rfl rfl rfl ?_|refine bv rfl rfl rfl rfl ?_)|((first|(with_reducible first|refine bt rfl rfl fun K hK=>?_|refine bu rfl rfl fun K aa=>?_|refine aK fun X Y ae af=>?_|refine aM ?_));simp (disch:=first|decide|omega|(simp only [List.length_cons,List.length_nil];omega)) only [go_sem,beq_self_eq_true,↓aj,↓ak hN,am hN,reduceIte,reduceCtorEq,Nat.reduceAdd,Nat.reduceLT,Nat.reduceLeDiff,Nat.reduceEqDiff,Nat.reduceSub])|(with_reducible refine And.intro (fun h=>?_) (fun h=>?_) <;> try (exfalso;omega))|(with_reducible refine bn aP hN rfl ?_ ?_;kernel_rfl)|(with_reducible refine And.intro ?_ ?_)|(refine ah ?_;omega)|(exact bw hN (by decide))))
 all_goals (refine cO (.inr rfl) (by first|rfl|(simp (disch:=first|decide|omega|(simp only [List.length_cons,List.length_nil];omega)) only [cj,cn,cu,cy,go_sem,beq_self_eq_true,↓aj,↓ak hN,am hN,reduceIte,reduceCtorEq,Nat.reduceAdd,Nat.reduceLT,Nat.reduceLeDiff,Nat.reduceEqDiff,Nat.reduceSub];rfl)) ?_)
 all_goals simp
theorem pi (x y : Int) : ax Try.prog 212 [.c (.int .i64 x),.c (.int .i64 y)] [] (fun _=>.c (.bool (decide (x < y)))):=by
 (refine bV aP Try.func212 rfl rfl (by kernel_rfl) fun hp0 ν hX hN=>?_;simp only [cK,Nat.reduceAdd])
 (repeat' (first|(with_reducible first|(refine hK _ _ ?_;clear hK K)|(refine aa _ ?_;clear aa K)|refine bj ?_|refine cc ?_|refine bc ?_|refine aq ?_|refine ap ?_|refine ce ?_|refine aJ ?_|refine bd ?_|refine cf ?_|refine be ?_|refine bf rfl ?_|refine bm ?_|refine bg ?_|refine cg ?_|refine bh ?_|refine aI ?_|refine n_k ?_|refine bi ?_|(refine ae ?_;clear ae X af Y)|(refine af ?_;clear ae X af Y))|(with_reducible refine br ?_;first|refine bo rfl ?_|refine bp rfl ?_)|(with_reducible refine bz ?_;first|refine au rfl rfl rfl rfl ?_|refine aL rfl rfl rfl ?_|refine bv rfl rfl rfl rfl ?_)|((first|(with_reducible first|refine bt rfl rfl fun K hK=>?_|refine bu rfl rfl fun K aa=>?_|refine aK fun X Y ae af=>?_|refine aM ?_)|(with_reducible refine bz ?_;refine bJ rfl rfl fun X Y ae af=>?_));simp (disch:=first|decide|omega|(simp only [List.length_cons,List.length_nil];omega)) only [go_sem,beq_self_eq_true,↓aj,↓ak hN,am hN,reduceIte,reduceCtorEq,Nat.reduceAdd,Nat.reduceLT,Nat.reduceLeDiff,Nat.reduceEqDiff,Nat.reduceSub])|(with_reducible refine And.intro (fun h=>?_) (fun h=>?_) <;> try (exfalso;omega))|(with_reducible refine bn aP hN rfl ?_ ?_;kernel_rfl)|(refine bK (sR ?_) ?_ rfl (fun _=>rfl) ?_)|(with_reducible first|exact aG|refine aF ?_ ?_|exact cC _|refine bC ?_|exact ba _|exact b9 _ _|refine b8 ?_|exact aZ _)|exact bD hN rfl rfl|(refine b7 hN rfl ?_;first|exact aN _|exact aO _)|exact a8 rfl rfl rfl|(simp only [bB,List.map_nil])|(with_reducible refine cm ?_)|(with_reducible refine And.intro ?_ ?_)|(refine ah ?_;omega)|(exact bw hN (by decide))))
 all_goals (refine cO (.inr rfl) (by first|rfl|(simp (disch:=first|decide|omega|(simp only [List.length_cons,List.length_nil];omega)) only [cj,cn,cu,cy,go_sem,beq_self_eq_true,↓aj,↓ak hN,am hN,reduceIte,reduceCtorEq,Nat.reduceAdd,Nat.reduceLT,Nat.reduceLeDiff,Nat.reduceEqDiff,Nat.reduceSub];rfl)) ?_)
 all_goals simp [*]
theorem my (xs : List Int) (x : Int) (hx : xs.Pairwise (· < ·)) (hl : xs.length ≤ 1048576) : ax Try.prog 172 [.c (.I xs),.c (.int .i64 x)] [] (fun _=>.tup [.c (.int .i64 (fF x xs)),.c (.bool (tf (x ∈ xs)))]):=by
 have hpl:=ox x xs
 (refine bV aP Try.func172 rfl rfl (by kernel_rfl) fun hp0 ν hX hN=>?_;simp only [cK,Nat.reduceAdd])
 (repeat' (first|(with_reducible first|(refine hK _ _ ?_;clear hK K)|(refine aa _ ?_;clear aa K)|refine bj ?_|refine cc ?_|refine bc ?_|refine aq ?_|refine ap ?_|refine ce ?_|refine aJ ?_|refine bd ?_|refine cf ?_|refine be ?_|refine bf rfl ?_|refine bm ?_|refine bg ?_|refine cg ?_|refine bh ?_|refine aI ?_|refine n_k ?_|refine bi ?_|(refine ae ?_;clear ae X af Y)|(refine af ?_;clear ae X af Y))|(with_reducible refine br ?_;first|refine bo rfl ?_|refine bp rfl ?_)|(with_reducible refine bz ?_;first|refine au rfl rfl rfl rfl ?_|refine aL rfl rfl rfl ?_|refine bv rfl rfl rfl rfl ?_)|((first|(with_reducible first|refine bt rfl rfl fun K hK=>?_|refine bu rfl rfl fun K aa=>?_|refine aK fun X Y ae af=>?_|refine aM ?_)|(with_reducible refine bz ?_;refine bJ rfl rfl fun X Y ae af=>?_));simp (disch:=first|decide|omega|(simp only [List.length_cons,List.length_nil];omega)) only [go_sem,beq_self_eq_true,↓aj,↓ak hN,am hN,reduceIte,reduceCtorEq,Nat.reduceAdd,Nat.reduceLT,Nat.reduceLeDiff,Nat.reduceEqDiff,Nat.reduceSub])|(with_reducible refine And.intro (fun h=>?_) (fun h=>?_) <;> try (exfalso;omega))|(with_reducible refine bn aP hN rfl ?_ ?_;kernel_rfl)|(with_reducible refine And.intro ?_ ?_)|(refine ah ?_;omega)|(exact bw hN (by decide))))
 (refine co (fun (y : Nat × Nat)=>(tmL [(7,.c (.int .i64 y.1)),(8,.c (.int .i64 y.2)),(6,.c (.int .i64 xs.length)),(0,.c (.I xs)),(1,.c (.int .i64 x))],hpL hp0 ν [])) (fun (y : Nat × Nat)=>y.1 ≤ fF x xs ∧ fF x xs ≤ y.2 ∧ y.2 ≤ xs.length) (fun (y : Nat × Nat)=>y.2 - y.1) ⟨(0,xs.length),?_,bX hX hN [] ?_ ?_⟩ ?_;(repeat' (first|(with_reducible first|exact bP _|exact bQ|exact bR|refine bS ?_ ?_|refine bT ?_ ?_|exact ay _|exact bN _|exact ao _|rfl|exact aS _ _|refine aA ?_|exact bO _|refine aW ?_)|refine bU rfl ?_ ?_|exact aT hN _ rfl rfl rfl|exact aU hN _ rfl rfl rfl|exact aB hN _ rfl rfl rfl (Or.inr rfl)|(refine aV hN _ rfl rfl (by first|exact Or.inr rfl|exact Or.inl rfl) ?_;first|exact aN _|exact aO _)|refine aC hN rfl ?_|refine aD hN rfl rfl ?_|exact az hN _ rfl rfl|exact aE hN rfl rfl rfl rfl|(with_reducible first|refine aR ?_|refine bF ?_|refine bH ?_|refine bI ?_|refine bG ?_|refine bE ?_)));(try (any_goals (first|(with_reducible rfl)|(refine ah ?_;omega)))))
 rintro ⟨i,j⟩ ⟨h1,h2,h3⟩
 dsimp only at h1 h2 h3 ⊢
 have hm:=uv (i:=i) (j:=j) (by omega)
 (repeat' (first|(with_reducible first|(refine hK _ _ ?_;clear hK K)|(refine aa _ ?_;clear aa K)|refine bj ?_|refine cc ?_|refine bc ?_|refine aq ?_|refine ap ?_|refine ce ?_|refine aJ ?_|refine bd ?_|refine cf ?_|refine be ?_|refine bf rfl ?_|refine bm ?_|refine bg ?_|refine cg ?_|refine bh ?_|refine aI ?_|refine n_k ?_|refine bi ?_|(refine ae ?_;clear ae X af Y)|(refine af ?_;clear ae X af Y))|(with_reducible refine br ?_;first|refine bo rfl ?_|refine bp rfl ?_)|(with_reducible refine bz ?_;first|refine au rfl rfl rfl rfl ?_|refine aL rfl rfl rfl ?_|refine bv rfl rfl rfl rfl ?_)|((first|(with_reducible first|refine bt rfl rfl fun K hK=>?_|refine bu rfl rfl fun K aa=>?_|refine aK fun X Y ae af=>?_|refine aM ?_)|(with_reducible refine bz ?_;refine bJ rfl rfl fun X Y ae af=>?_));simp (disch:=first|decide|omega|(simp only [List.length_cons,List.length_nil];omega)) only [go_sem,beq_self_eq_true,↓aj,↓ak hN,am hN,reduceIte,reduceCtorEq,Nat.reduceAdd,Nat.reduceLT,Nat.reduceLeDiff,Nat.reduceEqDiff,Nat.reduceSub])|(with_reducible refine And.intro (fun h=>?_) (fun h=>?_) <;> try (exfalso;omega))|(with_reducible refine bn aP hN rfl ?_ ?_;kernel_rfl)|(rw [hm])|(refine bK (pi ?_ ?_) ?_ rfl (fun _=>rfl) ?_)|(refine bK (sS ?_) ?_ rfl (fun _=>rfl) ?_)|(with_reducible first|exact aG|refine aF ?_ ?_|exact cC _|refine bC ?_|exact ba _|exact b9 _ _|refine b8 ?_|exact aZ _)|exact bD hN rfl rfl|(refine b7 hN rfl ?_;first|exact aN _|exact aO _)|exact a8 rfl rfl rfl|(simp only [bB,List.map_nil])|(with_reducible refine cm ?_)|(with_reducible refine And.intro ?_ ?_)|(refine ah ?_;omega)|(exact bw hN (by decide))))
 · have h4:=(gF hx ((i + j) / 2) (by omega)).1 (by assumption)
   (refine ⟨((i + j) / 2 + 1,j),⟨?_,?_⟩,bX hX hN [] ?_ ?_⟩;(try any_goals dsimp only);(repeat' (first|(with_reducible first|exact bP _|exact bQ|exact bR|refine bS ?_ ?_|refine bT ?_ ?_|exact ay _|exact bN _|exact ao _|rfl|exact aS _ _|refine aA ?_|exact bO _|refine aW ?_)|refine bU rfl ?_ ?_|exact aT hN _ rfl rfl rfl|exact aU hN _ rfl rfl rfl|exact aB hN _ rfl rfl rfl (Or.inr rfl)|(refine aV hN _ rfl rfl (by first|exact Or.inr rfl|exact Or.inl rfl) ?_;first|exact aN _|exact aO _)|refine aC hN rfl ?_|refine aD hN rfl rfl ?_|exact az hN _ rfl rfl|exact aE hN rfl rfl rfl rfl|(with_reducible first|refine aR ?_|refine bF ?_|refine bH ?_|refine bI ?_|refine bG ?_|refine bE ?_)));(try (any_goals (first|(with_reducible rfl)|(refine ah ?_;omega)))))
 · have h4 : ¬ (i + j) / 2 < fF x xs:=fun h=>absurd ((gF hx ((i + j) / 2) (by omega)).2 h) (by assumption)
   (refine ⟨(i,(i + j) / 2),⟨?_,?_⟩,bX hX hN [] ?_ ?_⟩;(try any_goals dsimp only);(repeat' (first|(with_reducible first|exact bP _|exact bQ|exact bR|refine bS ?_ ?_|refine bT ?_ ?_|exact ay _|exact bN _|exact ao _|rfl|exact aS _ _|refine aA ?_|exact bO _|refine aW ?_)|refine bU rfl ?_ ?_|exact aT hN _ rfl rfl rfl|exact aU hN _ rfl rfl rfl|exact aB hN _ rfl rfl rfl (Or.inr rfl)|(refine aV hN _ rfl rfl (by first|exact Or.inr rfl|exact Or.inl rfl) ?_;first|exact aN _|exact aO _)|refine aC hN rfl ?_|refine aD hN rfl rfl ?_|exact az hN _ rfl rfl|exact aE hN rfl rfl rfl rfl|(with_reducible first|refine aR ?_|refine bF ?_|refine bH ?_|refine bI ?_|refine bG ?_|refine bE ?_)));(try (any_goals (first|(with_reducible rfl)|(refine ah ?_;omega)))))
 · have e : i = fF x xs:=by omega
   have hm : x ∈ xs:=(jR hx).2 ⟨by omega,by rw [← e];assumption⟩
   (refine fl hN [] (by decide) (.inr rfl) (by first|exact cP rfl rfl|exact cI hN rfl rfl rfl rfl|exact cA hN rfl rfl rfl rfl rfl|(simp (disch:=first|decide|omega|(simp only [List.length_cons,List.length_nil];omega)) only [cj,cn,cu,cy,go_sem,beq_self_eq_true,↓aj,↓ak hN,am hN,reduceIte,reduceCtorEq,Nat.reduceAdd,Nat.reduceLT,Nat.reduceLeDiff,Nat.reduceEqDiff,Nat.reduceSub];rfl)|rfl) ?_ fun νs hνs=>?_;(repeat' (first|exact Gone.nil|(refine Gone.cons rfl rfl ?_ ?_)|(with_reducible refine ec ?_)|(with_reducible refine eb ?_)|(with_reducible refine SVs.cons ?_ ?_)|(with_reducible exact SVs.nil)|(simp only [List.drop,List.take])|(simp (disch:=first|decide|omega) only [↓aj,reduceIte,reduceCtorEq,Nat.reduceEqDiff])|(with_reducible exact iu _)|(with_reducible exact d8 _)|(exact d9 rfl rfl rfl)|(exact eG 0 (by simp) rfl rfl)|(refine fk hN rfl (ee hN (by decide)) ?_)|(with_reducible refine fj ?_)|(with_reducible rfl)|(with_reducible refine bF ?_)|(with_reducible refine bH ?_)|(with_reducible refine bI ?_)|(with_reducible refine bG ?_)|(with_reducible refine bE ?_)|(refine ah ?_;omega))))
   rw [bW hm]
 · have e : i = fF x xs:=by omega
   have hm : ¬ x ∈ xs:=fun h=>by
    have h5:=((jR hx).1 h).2
    rw [← e] at h5
    have h6 : (gi xs i == x) = false:=by assumption
    rw [h5] at h6
    simp at h6
   (refine fl hN [] (by decide) (.inr rfl) (by first|exact cP rfl rfl|exact cI hN rfl rfl rfl rfl|exact cA hN rfl rfl rfl rfl rfl|(simp (disch:=first|decide|omega|(simp only [List.length_cons,List.length_nil];omega)) only [cj,cn,cu,cy,go_sem,beq_self_eq_true,↓aj,↓ak hN,am hN,reduceIte,reduceCtorEq,Nat.reduceAdd,Nat.reduceLT,Nat.reduceLeDiff,Nat.reduceEqDiff,Nat.reduceSub];rfl)|rfl) ?_ fun νs hνs=>?_;(repeat' (first|exact Gone.nil|(refine Gone.cons rfl rfl ?_ ?_)|(with_reducible refine ec ?_)|(with_reducible refine eb ?_)|(with_reducible refine SVs.cons ?_ ?_)|(with_reducible exact SVs.nil)|(simp only [List.drop,List.take])|(simp (disch:=first|decide|omega) only [↓aj,reduceIte,reduceCtorEq,Nat.reduceEqDiff])|(with_reducible exact iu _)|(with_reducible exact d8 _)|(exact d9 rfl rfl rfl)|(exact eG 0 (by simp) rfl rfl)|(refine fk hN rfl (ee hN (by decide)) ?_)|(with_reducible refine fj ?_)|(with_reducible rfl)|(with_reducible refine bF ?_)|(with_reducible refine bH ?_)|(with_reducible refine bI ?_)|(with_reducible refine bG ?_)|(with_reducible refine bE ?_)|(refine ah ?_;omega))))
   rw [aH hm]
 · have e : i = fF x xs:=by omega
   have hm : ¬ x ∈ xs:=fun h=>by have:=((jR hx).1 h).1;omega
   (refine fl hN [] (by decide) (.inr rfl) (by first|exact cP rfl rfl|exact cI hN rfl rfl rfl rfl|exact cA hN rfl rfl rfl rfl rfl|(simp (disch:=first|decide|omega|(simp only [List.length_cons,List.length_nil];omega)) only [cj,cn,cu,cy,go_sem,beq_self_eq_true,↓aj,↓ak hN,am hN,reduceIte,reduceCtorEq,Nat.reduceAdd,Nat.reduceLT,Nat.reduceLeDiff,Nat.reduceEqDiff,Nat.reduceSub];rfl)|rfl) ?_ fun νs hνs=>?_;(repeat' (first|exact Gone.nil|(refine Gone.cons rfl rfl ?_ ?_)|(with_reducible refine ec ?_)|(with_reducible refine eb ?_)|(with_reducible refine SVs.cons ?_ ?_)|(with_reducible exact SVs.nil)|(simp only [List.drop,List.take])|(simp (disch:=first|decide|omega) only [↓aj,reduceIte,reduceCtorEq,Nat.reduceEqDiff])|(with_reducible exact iu _)|(with_reducible exact d8 _)|(exact d9 rfl rfl rfl)|(exact eG 0 (by simp) rfl rfl)|(refine fk hN rfl (ee hN (by decide)) ?_)|(with_reducible refine fj ?_)|(with_reducible rfl)|(with_reducible refine bF ?_)|(with_reducible refine bH ?_)|(with_reducible refine bI ?_)|(with_reducible refine bG ?_)|(with_reducible refine bE ?_)|(refine ah ?_;omega))))
   rw [aH hm]
theorem pj (a b : List Int) (ha : a.length ≤ 1048576) (hb : b.Pairwise (· < ·)) (hbl : b.length ≤ 1048576) : ax Try.prog 115 [.c (.I a),.c (.I b)] [.arr 2 .yes (.I (fM (fun x=>¬ x ∈ b) a a.length))] (fun ns=>.sl (ns.getD 0 0)):=by
 (refine bV aP Try.func115 rfl rfl (by kernel_rfl) fun hp0 ν hX hN=>?_;simp only [cK,Nat.reduceAdd])
 (repeat' (first|(with_reducible first|(refine hK _ _ ?_;clear hK K)|(refine aa _ ?_;clear aa K)|refine bj ?_|refine cc ?_|refine bc ?_|refine aq ?_|refine ap ?_|refine ce ?_|refine aJ ?_|refine bd ?_|refine cf ?_|refine be ?_|refine bf rfl ?_|refine bm ?_|refine bg ?_|refine cg ?_|refine bh ?_|refine aI ?_|refine n_k ?_|refine bi ?_|(refine ae ?_;clear ae X af Y)|(refine af ?_;clear ae X af Y))|(with_reducible refine br ?_;first|refine bo rfl ?_|refine bp rfl ?_)|(with_reducible refine bz ?_;first|refine au rfl rfl rfl rfl ?_|refine aL rfl rfl rfl ?_|refine bv rfl rfl rfl rfl ?_)|((first|(with_reducible first|refine bt rfl rfl fun K hK=>?_|refine bu rfl rfl fun K aa=>?_|refine aK fun X Y ae af=>?_|refine aM ?_));simp (disch:=first|decide|omega|(simp only [List.length_cons,List.length_nil];omega)) only [go_sem,beq_self_eq_true,↓aj,↓ak hN,am hN,reduceIte,reduceCtorEq,Nat.reduceAdd,Nat.reduceLT,Nat.reduceLeDiff,Nat.reduceEqDiff,Nat.reduceSub])|(with_reducible refine And.intro (fun h=>?_) (fun h=>?_) <;> try (exfalso;omega))|(with_reducible refine bn aP hN rfl ?_ ?_;kernel_rfl)|(with_reducible refine And.intro ?_ ?_)|(refine ah ?_;omega)|(exact bw hN (by decide))))
 (refine co (fun (k : Nat)=>(tmL [(13,.c (.int .i64 k)),(12,.c (.int .i64 a.length)),(11,.c (.I a)),(5,.sl (ν 0)),(1,.c (.I b))],hpL hp0 ν [.arr 2 .yes (.I (fM (fun x=>¬ x ∈ b) a k))])) (fun (k : Nat)=>k ≤ a.length) (fun (k : Nat)=>a.length - k) ⟨0,?_,bX hX hN [] ?_ ?_⟩ ?_;(repeat' (first|(with_reducible first|exact bP _|exact bQ|exact bR|refine bS ?_ ?_|refine bT ?_ ?_|exact ay _|exact bN _|exact ao _|rfl|exact aS _ _|refine aA ?_|exact bO _|refine aW ?_)|refine bU rfl ?_ ?_|exact aT hN _ rfl rfl rfl|exact aU hN _ rfl rfl rfl|exact aB hN _ rfl rfl rfl (Or.inr rfl)|(refine aV hN _ rfl rfl (by first|exact Or.inr rfl|exact Or.inl rfl) ?_;first|exact aN _|exact aO _)|refine aC hN rfl ?_|refine aD hN rfl rfl ?_|exact az hN _ rfl rfl|exact aE hN rfl rfl rfl rfl|(with_reducible first|refine aR ?_|refine bF ?_|refine bH ?_|refine bI ?_|refine bG ?_|refine bE ?_)));(try (any_goals (first|(with_reducible rfl)|(refine ah ?_;omega)))))
 · rfl
 intro k hk
 have hfl:=gn (fun x=>¬ x ∈ b) a k
 (repeat' (first|(with_reducible first|(refine hK _ _ ?_;clear hK K)|(refine aa _ ?_;clear aa K)|refine bj ?_|refine cc ?_|refine bc ?_|refine aq ?_|refine ap ?_|refine ce ?_|refine aJ ?_|refine bd ?_|refine cf ?_|refine be ?_|refine bf rfl ?_|refine bm ?_|refine bg ?_|refine cg ?_|refine bh ?_|refine aI ?_|refine n_k ?_|refine bi ?_|(refine ae ?_;clear ae X af Y)|(refine af ?_;clear ae X af Y))|(with_reducible refine br ?_;first|refine bo rfl ?_|refine bp rfl ?_)|(with_reducible refine bz ?_;first|refine au rfl rfl rfl rfl ?_|refine aL rfl rfl rfl ?_|refine bv rfl rfl rfl rfl ?_)|((first|(with_reducible first|refine bt rfl rfl fun K hK=>?_|refine bu rfl rfl fun K aa=>?_|refine aK fun X Y ae af=>?_|refine aM ?_));simp (disch:=first|decide|omega|(simp only [List.length_cons,List.length_nil];omega)) only [go_sem,beq_self_eq_true,↓aj,↓ak hN,am hN,reduceIte,reduceCtorEq,Nat.reduceAdd,Nat.reduceLT,Nat.reduceLeDiff,Nat.reduceEqDiff,Nat.reduceSub])|(with_reducible refine And.intro (fun h=>?_) (fun h=>?_) <;> try (exfalso;omega))|(with_reducible refine bn aP hN rfl ?_ ?_;kernel_rfl)|(refine bK (my b ?_ hb hbl) ?_ rfl (fun _=>rfl) ?_)|(with_reducible first|exact aG|refine aF ?_ ?_|exact cC _|refine bC ?_|exact ba _|exact b9 _ _|refine b8 ?_|exact aZ _)|exact bD hN rfl rfl|(refine b7 hN rfl ?_;first|exact aN _|exact aO _)|exact a8 rfl rfl rfl|(simp only [bB,List.map_nil])|(with_reducible refine cm ?_)|(with_reducible refine And.intro ?_ ?_)|(refine ah ?_;omega)|(exact bw hN (by decide))))
 · (refine ⟨k + 1,⟨?_,?_⟩,bX hX hN [(0,2)] ?_ ?_⟩;(try any_goals dsimp only);(repeat' (first|(with_reducible first|exact bP _|exact bQ|exact bR|refine bS ?_ ?_|refine bT ?_ ?_|exact ay _|exact bN _|exact ao _|rfl|exact aS _ _|refine aA ?_|exact bO _|refine aW ?_)|refine bU rfl ?_ ?_|exact aT hN _ rfl rfl rfl|exact aU hN _ rfl rfl rfl|exact aB hN _ rfl rfl rfl (Or.inr rfl)|(refine aV hN _ rfl rfl (by first|exact Or.inr rfl|exact Or.inl rfl) ?_;first|exact aN _|exact aO _)|refine aC hN rfl ?_|refine aD hN rfl rfl ?_|exact az hN _ rfl rfl|exact aE hN rfl rfl rfl rfl|(with_reducible first|refine aR ?_|refine bF ?_|refine bH ?_|refine bI ?_|refine bG ?_|refine bE ?_)));(try (any_goals (first|(with_reducible rfl)|(refine ah ?_;omega)))))
   exact fv (by assumption)
 · (refine ⟨k + 1,⟨?_,?_⟩,bX hX hN [] ?_ ?_⟩;(try any_goals dsimp only);(repeat' (first|(with_reducible first|exact bP _|exact bQ|exact bR|refine bS ?_ ?_|refine bT ?_ ?_|exact ay _|exact bN _|exact ao _|rfl|exact aS _ _|refine aA ?_|exact bO _|refine aW ?_)|refine bU rfl ?_ ?_|exact aT hN _ rfl rfl rfl|exact aU hN _ rfl rfl rfl|exact aB hN _ rfl rfl rfl (Or.inr rfl)|(refine aV hN _ rfl rfl (by first|exact Or.inr rfl|exact Or.inl rfl) ?_;first|exact aN _|exact aO _)|refine aC hN rfl ?_|refine aD hN rfl rfl ?_|exact az hN _ rfl rfl|exact aE hN rfl rfl rfl rfl|(with_reducible first|refine aR ?_|refine bF ?_|refine bH ?_|refine bI ?_|refine bG ?_|refine bE ?_)));(try (any_goals (first|(with_reducible rfl)|(refine ah ?_;omega)))))
   exact fN fun h=>h (by assumption)
 · (refine dj hN (i:=0) (.inr rfl) (by first|rfl|(simp (disch:=first|decide|omega|(simp only [List.length_cons,List.length_nil];omega)) only [cj,cn,cu,cy,go_sem,beq_self_eq_true,↓aj,↓ak hN,am hN,reduceIte,reduceCtorEq,Nat.reduceAdd,Nat.reduceLT,Nat.reduceLeDiff,Nat.reduceEqDiff,Nat.reduceSub];rfl)) rfl ?_ rfl)
   rw [show k = a.length by omega]
end Go.Proofs.Ytfaefmabjjndeaa
