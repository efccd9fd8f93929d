/-
  Binary search in a set; what is in one set and not in another one.
-/
import Derived.Test.YtfaefmabjjndeaaZrKf
import Derived.Test.YtfaefmabjjndeaaZrCb
import Derived.Test.YtfaefmabjjndeaaZrAt2
namespace Go.Proofs.Ytfaefmabjjndeaa
set_option linter.unusedVariables false
set_option linter.unusedSimpArgs false
open Go.RowKit
attribute [local irreducible] aF cL Aw Le
def dE (x : Int) : List Int → Nat
 | [] => 0
 | o :: os => if o < x then dE x os + 1 else 0
theorem ot (x : Int) : ∀ os,dE x os ≤ os.length
 | [] => Nat.le_refl _
 | o :: os => by
   unfold dE
   split
   · exact Nat.succ_le_succ (ot x os)
   · exact Nat.zero_le _
theorem ep {x : Int} : ∀ {os : List Int},os.Pairwise (· < ·) → ∀ i,i < os.length → (gi os i < x ↔ i < dE x os)
 | [], _, i, h => absurd h (Nat.not_lt_zero _)
 | o :: os, hp, i, h => by
   rw [List.pairwise_cons] at hp
   unfold dE
   rcases i with _|i
   · show o < x ↔ _
     split
     · rename_i e;exact ⟨fun _=>Nat.succ_pos _,fun _=>e⟩
     · rename_i e;exact ⟨fun h=>absurd h e,fun h=>absurd h (Nat.not_lt_zero _)⟩
   · have hi : i < os.length:=by simpa using h
     show gi os i < x ↔ _
     have ih:=ep (x:=x) hp.2 i hi
     split
     · rw [ih];omega
     · rename_i e
       have:=hp.1 _ (cZ hi)
       exact ⟨fun h=>absurd h (by omega),fun h=>absurd h (Nat.not_lt_zero _)⟩
theorem jq {xs : List Int} {m : Int} (h : ck xs m) : xs.Pairwise (· < ·):=by
 rw [List.pairwise_iff_getElem]
 have key : ∀ d i,i + d + 1 < xs.length → gi xs i < gi xs (i + d + 1):=by
  intro d
  induction d with
  | zero => intro i hi; exact (h (i + 1) hi).2.2 (Nat.succ_pos _)
  | succ d ih =>
    intro i hi
    have h1:=ih i (by omega)
    have h2:=(h (i + d + 1 + 1) (by omega)).2.2 (Nat.succ_pos _)
    rw [show i + d + 1 + 1 - 1 = i + d + 1 by omega] at h2
    rw [show i + (d + 1) + 1 = i + d + 1 + 1 by omega]
    omega
 intro i j hi hj hij
 have:=key (j - i - 1) i (by omega)
 rw [show i + (j - i - 1) + 1 = j by omega] at this
 rwa [dr hi,dr hj] at this
theorem eV {x : Int} {xs : List Int} (h : xs.Pairwise (· < ·)) : x ∈ xs ↔ dE x xs < xs.length ∧ gi xs (dE x xs) = x:=by
 constructor
 · intro hx
   obtain ⟨k,hk,e⟩:=cU hx
   have h1:=ep (x:=x) h k hk
   have h2 : ¬ k < dE x xs:=fun h'=>by have:=h1.2 h';omega
   rcases Nat.lt_or_ge (dE x xs) k with h3|h3
   · have h4:=ep (x:=x) h (dE x xs) (by omega)
     have h5:=List.pairwise_iff_getElem.1 h (dE x xs) k (by omega) hk h3
     rw [← dr (by omega : dE x xs < xs.length),← dr hk] at h5
     have:=h4.1 (by omega)
     omega
   · have : dE x xs = k:=by omega
     rw [this];exact ⟨hk,e⟩
 · rintro ⟨h1,h2⟩;rw [← h2];exact cZ h1
theorem tP {i j : Nat} (h : i + j ≤ 9223372036854775807) : IntKind.i64.wrap (oE .u64 (IntKind.u64.wrap ((i : Int) + (j : Int))) 1) = (((i + j) / 2 : Nat) : Int):=by
 have e1 : IntKind.u64.wrap ((i : Int) + (j : Int)) = ((i + j : Nat) : Int):=by
  simp [IntKind.wrap,IntKind.bits,IntKind.signed];omega
 rw [e1]
 unfold oE
 have e2 : (2 : Int) ^ min (1 : Int).toNat IntKind.u64.bits = 2:=by decide
 rw [e2,Int.fdiv_eq_ediv_of_nonneg _ (by decide)]
 rw [qq (by omega)]
 omega
theorem sx (x : Int) : aF Try.prog 210 [.c (.int .i64 x)] [] (fun _=>.c (.bool false)):=by
 (refine bU aO Try.func210 rfl rfl (by kernel_rfl) fun hp0 ν hX hN=>?_;simp only [cN,Nat.reduceAdd])
 (repeat' (first|(with_reducible first|(refine hK _ _ ?_;clear hK K)|(refine aa _ ?_;clear aa K)|refine bi ?_|refine b8 ?_|refine a9 ?_|refine au ?_|refine aq ?_|refine b9 ?_|refine aI ?_|refine ba ?_|refine ca ?_|refine bc ?_|refine be rfl ?_|refine bj ?_|refine bf ?_|refine cc ?_|refine bg ?_|refine aH ?_|refine n_k ?_|refine bh ?_|(refine ae ?_;clear ae X af Y)|(refine af ?_;clear ae X af Y))|(with_reducible refine bp ?_;first|refine bn rfl ?_|refine bo rfl ?_)|(with_reducible refine a8 ?_;first|refine ax rfl rfl rfl rfl ?_|refine aK rfl rfl rfl ?_|refine bu rfl rfl rfl rfl ?_)|((first|(with_reducible first|refine br rfl rfl fun K hK=>?_|refine bt rfl rfl fun K aa=>?_|refine aJ fun X Y ae af=>?_|refine aL ?_));simp (disch:=first|decide|omega|(simp only [List.length_cons,List.length_nil];omega)) only [go_sem,beq_self_eq_true,↓aj,↓ak hN,am hN,reduceIte,reduceCtorEq,Nat.reduceAdd,Nat.reduceLT,Nat.reduceLeDiff,Nat.reduceEqDiff,Nat.reduceSub])|(with_reducible refine And.intro (fun h=>?_) (fun h=>?_) <;> try (exfalso;omega))|(with_reducible refine bm aO hN rfl ?_ ?_;kernel_rfl)|(with_reducible refine And.intro ?_ ?_)|(refine ah ?_;omega)|(exact bv hN (by decide))))
 all_goals (refine dg (.inr rfl) (by first|rfl|(simp (disch:=first|decide|omega|(simp only [List.length_cons,List.length_nil];omega)) only [ct,cz,cB,cD,go_sem,beq_self_eq_true,↓aj,↓ak hN,am hN,reduceIte,reduceCtorEq,Nat.reduceAdd,Nat.reduceLT,Nat.reduceLeDiff,Nat.reduceEqDiff,Nat.reduceSub];rfl)) ?_)
 all_goals simp
theorem sy (x : Int) : aF Try.prog 213 [.c (.int .i64 x)] [] (fun _=>.c (.bool false)):=by
 (refine bU aO Try.func213 rfl rfl (by kernel_rfl) fun hp0 ν hX hN=>?_;simp only [cN,Nat.reduceAdd])
 (repeat' (first|(with_reducible first|(refine hK _ _ ?_;clear hK K)|(refine aa _ ?_;clear aa K)|refine bi ?_|refine b8 ?_|refine a9 ?_|refine au ?_|refine aq ?_|refine b9 ?_|refine aI ?_|refine ba ?_|refine ca ?_|refine bc ?_|refine be rfl ?_|refine bj ?_|refine bf ?_|refine cc ?_|refine bg ?_|refine aH ?_|refine n_k ?_|refine bh ?_|(refine ae ?_;clear ae X af Y)|(refine af ?_;clear ae X af Y))|(with_reducible refine bp ?_;first|refine bn rfl ?_|refine bo rfl ?_)|(with_reducible refine a8 ?_;first|refine ax rfl rfl rfl rfl ?_|refine aK rfl rfl rfl ?_|refine bu rfl rfl rfl rfl ?_)|((first|(with_reducible first|refine br rfl rfl fun K hK=>?_|refine bt rfl rfl fun K aa=>?_|refine aJ fun X Y ae af=>?_|refine aL ?_));simp (disch:=first|decide|omega|(simp only [List.length_cons,List.length_nil];omega)) only [go_sem,beq_self_eq_true,↓aj,↓ak hN,am hN,reduceIte,reduceCtorEq,Nat.reduceAdd,Nat.reduceLT,Nat.reduceLeDiff,Nat.reduceEqDiff,Nat.reduceSub])|(with_reducible refine And.intro (fun h=>?_) (fun h=>?_) <;> try (exfalso;omega))|(with_reducible refine bm aO hN rfl ?_ ?_;kernel_rfl)|(with_reducible refine And.intro ?_ ?_)|(refine ah ?_;omega)|(exact bv hN (by decide))))
 all_goals (refine dg (.inr rfl) (by first|rfl|(simp (disch:=first|decide|omega|(simp only [List.length_cons,List.length_nil];omega)) only [ct,cz,cB,cD,go_sem,beq_self_eq_true,↓aj,↓ak hN,am hN,reduceIte,reduceCtorEq,Nat.reduceAdd,Nat.reduceLT,Nat.reduceLeDiff,Nat.reduceEqDiff,Nat.reduceSub];rfl)) ?_)
 all_goals simp
theorem pf (x y : Int) : aF Try.prog 212 [.c (.int .i64 x),.c (.int .i64 y)] [] (fun _=>.c (.bool (decide (x < y)))):=by
 (refine bU aO Try.func212 rfl rfl (by kernel_rfl) fun hp0 ν hX hN=>?_;simp only [cN,Nat.reduceAdd])
 (repeat' (first|(with_reducible first|(refine hK _ _ ?_;clear hK K)|(refine aa _ ?_;clear aa K)|refine bi ?_|refine b8 ?_|refine a9 ?_|refine au ?_|refine aq ?_|refine b9 ?_|refine aI ?_|refine ba ?_|refine ca ?_|refine bc ?_|refine be rfl ?_|refine bj ?_|refine bf ?_|refine cc ?_|refine bg ?_|refine aH ?_|refine n_k ?_|refine bh ?_|(refine ae ?_;clear ae X af Y)|(refine af ?_;clear ae X af Y))|(with_reducible refine bp ?_;first|refine bn rfl ?_|refine bo rfl ?_)|(with_reducible refine a8 ?_;first|refine ax rfl rfl rfl rfl ?_|refine aK rfl rfl rfl ?_|refine bu rfl rfl rfl rfl ?_)|((first|(with_reducible first|refine br rfl rfl fun K hK=>?_|refine bt rfl rfl fun K aa=>?_|refine aJ fun X Y ae af=>?_|refine aL ?_)|(with_reducible refine a8 ?_;refine bC rfl rfl fun X Y ae af=>?_));simp (disch:=first|decide|omega|(simp only [List.length_cons,List.length_nil];omega)) only [go_sem,beq_self_eq_true,↓aj,↓ak hN,am hN,reduceIte,reduceCtorEq,Nat.reduceAdd,Nat.reduceLT,Nat.reduceLeDiff,Nat.reduceEqDiff,Nat.reduceSub])|(with_reducible refine And.intro (fun h=>?_) (fun h=>?_) <;> try (exfalso;omega))|(with_reducible refine bm aO hN rfl ?_ ?_;kernel_rfl)|(refine bB (sx ?_) ?_ rfl (fun _=>rfl) ?_)|(with_reducible first|exact aG|refine ap ?_ ?_|exact cA _|refine bz ?_|exact aY _|exact b7 _ _|refine bZ ?_|exact aW _)|exact bA hN rfl rfl|(refine bY hN rfl ?_;first|exact aM _|exact aN _)|exact aX rfl rfl rfl|(simp only [bJ,List.map_nil])|(with_reducible refine ci ?_)|(with_reducible refine And.intro ?_ ?_)|(refine ah ?_;omega)|(exact bv hN (by decide))))
 all_goals (refine dg (.inr rfl) (by first|rfl|(simp (disch:=first|decide|omega|(simp only [List.length_cons,List.length_nil];omega)) only [ct,cz,cB,cD,go_sem,beq_self_eq_true,↓aj,↓ak hN,am hN,reduceIte,reduceCtorEq,Nat.reduceAdd,Nat.reduceLT,Nat.reduceLeDiff,Nat.reduceEqDiff,Nat.reduceSub];rfl)) ?_)
 all_goals simp [*]
theorem mu (xs : List Int) (x : Int) (hx : xs.Pairwise (· < ·)) (hl : xs.length ≤ 1048576) : aF Try.prog 172 [.c (.I xs),.c (.int .i64 x)] [] (fun _=>.tup [.c (.int .i64 (dE x xs)),.c (.bool (tf (x ∈ xs)))]):=by
 have hpl:=ot x xs
 (refine bU aO Try.func172 rfl rfl (by kernel_rfl) fun hp0 ν hX hN=>?_;simp only [cN,Nat.reduceAdd])
 (repeat' (first|(with_reducible first|(refine hK _ _ ?_;clear hK K)|(refine aa _ ?_;clear aa K)|refine bi ?_|refine b8 ?_|refine a9 ?_|refine au ?_|refine aq ?_|refine b9 ?_|refine aI ?_|refine ba ?_|refine ca ?_|refine bc ?_|refine be rfl ?_|refine bj ?_|refine bf ?_|refine cc ?_|refine bg ?_|refine aH ?_|refine n_k ?_|refine bh ?_|(refine ae ?_;clear ae X af Y)|(refine af ?_;clear ae X af Y))|(with_reducible refine bp ?_;first|refine bn rfl ?_|refine bo rfl ?_)|(with_reducible refine a8 ?_;first|refine ax rfl rfl rfl rfl ?_|refine aK rfl rfl rfl ?_|refine bu rfl rfl rfl rfl ?_)|((first|(with_reducible first|refine br rfl rfl fun K hK=>?_|refine bt rfl rfl fun K aa=>?_|refine aJ fun X Y ae af=>?_|refine aL ?_)|(with_reducible refine a8 ?_;refine bC rfl rfl fun X Y ae af=>?_));simp (disch:=first|decide|omega|(simp only [List.length_cons,List.length_nil];omega)) only [go_sem,beq_self_eq_true,↓aj,↓ak hN,am hN,reduceIte,reduceCtorEq,Nat.reduceAdd,Nat.reduceLT,Nat.reduceLeDiff,Nat.reduceEqDiff,Nat.reduceSub])|(with_reducible refine And.intro (fun h=>?_) (fun h=>?_) <;> try (exfalso;omega))|(with_reducible refine bm aO hN rfl ?_ ?_;kernel_rfl)|(with_reducible refine And.intro ?_ ?_)|(refine ah ?_;omega)|(exact bv hN (by decide))))
 (refine co (fun (y : Nat × Nat)=>(tmL [(7,.c (.int .i64 y.1)),(8,.c (.int .i64 y.2)),(6,.c (.int .i64 xs.length)),(0,.c (.I xs)),(1,.c (.int .i64 x))],hpL hp0 ν [])) (fun (y : Nat × Nat)=>y.1 ≤ dE x xs ∧ dE x xs ≤ y.2 ∧ y.2 ≤ xs.length) (fun (y : Nat × Nat)=>y.2 - y.1) ⟨(0,xs.length),?_,bT hX hN [] ?_ ?_⟩ ?_;(repeat' (first|(with_reducible first|exact bM _|exact bN|exact bO|refine bP ?_ ?_|refine bQ ?_ ?_|exact ay _|exact bK _|exact ao _|rfl|exact aQ _ _|refine aA ?_|exact bL _|refine aU ?_)|refine bR rfl ?_ ?_|exact aR hN _ rfl rfl rfl|exact aS hN _ rfl rfl rfl|exact aB hN _ rfl rfl rfl (Or.inr rfl)|(refine aT hN _ rfl rfl (by first|exact Or.inr rfl|exact Or.inl rfl) ?_;first|exact aM _|exact aN _)|refine aC hN rfl ?_|refine aD hN rfl rfl ?_|exact az hN _ rfl rfl|exact aE hN rfl rfl rfl rfl|(with_reducible first|refine aP ?_|refine bF ?_|refine bG ?_|refine bH ?_|refine bD ?_|refine bE ?_)));(try (any_goals (first|(with_reducible rfl)|(refine ah ?_;omega)))))
 rintro ⟨i,j⟩ ⟨h1,h2,h3⟩
 dsimp only at h1 h2 h3 ⊢
 have hm:=tP (i:=i) (j:=j) (by omega)
 (repeat' (first|(with_reducible first|(refine hK _ _ ?_;clear hK K)|(refine aa _ ?_;clear aa K)|refine bi ?_|refine b8 ?_|refine a9 ?_|refine au ?_|refine aq ?_|refine b9 ?_|refine aI ?_|refine ba ?_|refine ca ?_|refine bc ?_|refine be rfl ?_|refine bj ?_|refine bf ?_|refine cc ?_|refine bg ?_|refine aH ?_|refine n_k ?_|refine bh ?_|(refine ae ?_;clear ae X af Y)|(refine af ?_;clear ae X af Y))|(with_reducible refine bp ?_;first|refine bn rfl ?_|refine bo rfl ?_)|(with_reducible refine a8 ?_;first|refine ax rfl rfl rfl rfl ?_|refine aK rfl rfl rfl ?_|refine bu rfl rfl rfl rfl ?_)|((first|(with_reducible first|refine br rfl rfl fun K hK=>?_|refine bt rfl rfl fun K aa=>?_|refine aJ fun X Y ae af=>?_|refine aL ?_)|(with_reducible refine a8 ?_;refine bC rfl rfl fun X Y ae af=>?_));simp (disch:=first|decide|omega|(simp only [List.length_cons,List.length_nil];omega)) only [go_sem,beq_self_eq_true,↓aj,↓ak hN,am hN,reduceIte,reduceCtorEq,Nat.reduceAdd,Nat.reduceLT,Nat.reduceLeDiff,Nat.reduceEqDiff,Nat.reduceSub])|(with_reducible refine And.intro (fun h=>?_) (fun h=>?_) <;> try (exfalso;omega))|(with_reducible refine bm aO hN rfl ?_ ?_;kernel_rfl)|(rw [hm])|(refine bB (pf ?_ ?_) ?_ rfl (fun _=>rfl) ?_)|(refine bB (sy ?_) ?_ rfl (fun _=>rfl) ?_)|(with_reducible first|exact aG|refine ap ?_ ?_|exact cA _|refine bz ?_|exact aY _|exact b7 _ _|refine bZ ?_|exact aW _)|exact bA hN rfl rfl|(refine bY hN rfl ?_;first|exact aM _|exact aN _)|exact aX rfl rfl rfl|(simp only [bJ,List.map_nil])|(with_reducible refine ci ?_)|(with_reducible refine And.intro ?_ ?_)|(refine ah ?_;omega)|(exact bv hN (by decide))))
 · have h4:=(ep hx ((i + j) / 2) (by omega)).1 (by assumption)
   (refine ⟨((i + j) / 2 + 1,j),⟨?_,?_⟩,bT hX hN [] ?_ ?_⟩;(try any_goals dsimp only);(repeat' (first|(with_reducible first|exact bM _|exact bN|exact bO|refine bP ?_ ?_|refine bQ ?_ ?_|exact ay _|exact bK _|exact ao _|rfl|exact aQ _ _|refine aA ?_|exact bL _|refine aU ?_)|refine bR rfl ?_ ?_|exact aR hN _ rfl rfl rfl|exact aS hN _ rfl rfl rfl|exact aB hN _ rfl rfl rfl (Or.inr rfl)|(refine aT hN _ rfl rfl (by first|exact Or.inr rfl|exact Or.inl rfl) ?_;first|exact aM _|exact aN _)|refine aC hN rfl ?_|refine aD hN rfl rfl ?_|exact az hN _ rfl rfl|exact aE hN rfl rfl rfl rfl|(with_reducible first|refine aP ?_|refine bF ?_|refine bG ?_|refine bH ?_|refine bD ?_|refine bE ?_)));(try (any_goals (first|(with_reducible rfl)|(refine ah ?_;omega)))))
 · have h4 : ¬ (i + j) / 2 < dE x xs:=fun h=>absurd ((ep hx ((i + j) / 2) (by omega)).2 h) (by assumption)
   (refine ⟨(i,(i + j) / 2),⟨?_,?_⟩,bT hX hN [] ?_ ?_⟩;(try any_goals dsimp only);(repeat' (first|(with_reducible first|exact bM _|exact bN|exact bO|refine bP ?_ ?_|refine bQ ?_ ?_|exact ay _|exact bK _|exact ao _|rfl|exact aQ _ _|refine aA ?_|exact bL _|refine aU ?_)|refine bR rfl ?_ ?_|exact aR hN _ rfl rfl rfl|exact aS hN _ rfl rfl rfl|exact aB hN _ rfl rfl rfl (Or.inr rfl)|(refine aT hN _ rfl rfl (by first|exact Or.inr rfl|exact Or.inl rfl) ?_;first|exact aM _|exact aN _)|refine aC hN rfl ?_|refine aD hN rfl rfl ?_|exact az hN _ rfl rfl|exact aE hN rfl rfl rfl rfl|(with_reducible first|refine aP ?_|refine bF ?_|refine bG ?_|refine bH ?_|refine bD ?_|refine bE ?_)));(try (any_goals (first|(with_reducible rfl)|(refine ah ?_;omega)))))
 · have e : i = dE x xs:=by omega
   have hm : x ∈ xs:=(eV hx).2 ⟨by omega,by rw [← e];assumption⟩
   (refine d7 hN [] (by decide) (.inr rfl) (by first|exact cF rfl rfl|exact cw hN rfl rfl rfl rfl|exact cm hN rfl rfl rfl rfl rfl|(simp (disch:=first|decide|omega|(simp only [List.length_cons,List.length_nil];omega)) only [ct,cz,cB,cD,go_sem,beq_self_eq_true,↓aj,↓ak hN,am hN,reduceIte,reduceCtorEq,Nat.reduceAdd,Nat.reduceLT,Nat.reduceLeDiff,Nat.reduceEqDiff,Nat.reduceSub];rfl)|rfl) ?_ fun νs hνs=>?_;(repeat' (first|exact Gone.nil|(refine Gone.cons rfl rfl ?_ ?_)|(with_reducible refine dx ?_)|(with_reducible refine dw ?_)|(with_reducible refine SVs.cons ?_ ?_)|(with_reducible exact SVs.nil)|(simp only [List.drop,List.take])|(simp (disch:=first|decide|omega) only [↓aj,reduceIte,reduceCtorEq,Nat.reduceEqDiff])|(with_reducible exact fU _)|(with_reducible exact du _)|(exact dv rfl rfl rfl)|(exact dS 0 (by simp) rfl rfl)|(refine d6 hN rfl (dy hN (by decide)) ?_)|(with_reducible refine d5 ?_)|(with_reducible rfl)|(with_reducible refine bF ?_)|(with_reducible refine bG ?_)|(with_reducible refine bH ?_)|(with_reducible refine bD ?_)|(with_reducible refine bE ?_)|(refine ah ?_;omega))))
   rw [bX hm]
 · have e : i = dE x xs:=by omega
   have hm : ¬ x ∈ xs:=fun h=>by
    have h5:=((eV hx).1 h).2
    rw [← e] at h5
    have h6 : (gi xs i == x) = false:=by assumption
    rw [h5] at h6
    simp at h6
   (refine d7 hN [] (by decide) (.inr rfl) (by first|exact cF rfl rfl|exact cw hN rfl rfl rfl rfl|exact cm hN rfl rfl rfl rfl rfl|(simp (disch:=first|decide|omega|(simp only [List.length_cons,List.length_nil];omega)) only [ct,cz,cB,cD,go_sem,beq_self_eq_true,↓aj,↓ak hN,am hN,reduceIte,reduceCtorEq,Nat.reduceAdd,Nat.reduceLT,Nat.reduceLeDiff,Nat.reduceEqDiff,Nat.reduceSub];rfl)|rfl) ?_ fun νs hνs=>?_;(repeat' (first|exact Gone.nil|(refine Gone.cons rfl rfl ?_ ?_)|(with_reducible refine dx ?_)|(with_reducible refine dw ?_)|(with_reducible refine SVs.cons ?_ ?_)|(with_reducible exact SVs.nil)|(simp only [List.drop,List.take])|(simp (disch:=first|decide|omega) only [↓aj,reduceIte,reduceCtorEq,Nat.reduceEqDiff])|(with_reducible exact fU _)|(with_reducible exact du _)|(exact dv rfl rfl rfl)|(exact dS 0 (by simp) rfl rfl)|(refine d6 hN rfl (dy hN (by decide)) ?_)|(with_reducible refine d5 ?_)|(with_reducible rfl)|(with_reducible refine bF ?_)|(with_reducible refine bG ?_)|(with_reducible refine bH ?_)|(with_reducible refine bD ?_)|(with_reducible refine bE ?_)|(refine ah ?_;omega))))
   rw [aZ hm]
 · have e : i = dE x xs:=by omega
   have hm : ¬ x ∈ xs:=fun h=>by have:=((eV hx).1 h).1;omega
   (refine d7 hN [] (by decide) (.inr rfl) (by first|exact cF rfl rfl|exact cw hN rfl rfl rfl rfl|exact cm hN rfl rfl rfl rfl rfl|(simp (disch:=first|decide|omega|(simp only [List.length_cons,List.length_nil];omega)) only [ct,cz,cB,cD,go_sem,beq_self_eq_true,↓aj,↓ak hN,am hN,reduceIte,reduceCtorEq,Nat.reduceAdd,Nat.reduceLT,Nat.reduceLeDiff,Nat.reduceEqDiff,Nat.reduceSub];rfl)|rfl) ?_ fun νs hνs=>?_;(repeat' (first|exact Gone.nil|(refine Gone.cons rfl rfl ?_ ?_)|(with_reducible refine dx ?_)|(with_reducible refine dw ?_)|(with_reducible refine SVs.cons ?_ ?_)|(with_reducible exact SVs.nil)|(simp only [List.drop,List.take])|(simp (disch:=first|decide|omega) only [↓aj,reduceIte,reduceCtorEq,Nat.reduceEqDiff])|(with_reducible exact fU _)|(with_reducible exact du _)|(exact dv rfl rfl rfl)|(exact dS 0 (by simp) rfl rfl)|(refine d6 hN rfl (dy hN (by decide)) ?_)|(with_reducible refine d5 ?_)|(with_reducible rfl)|(with_reducible refine bF ?_)|(with_reducible refine bG ?_)|(with_reducible refine bH ?_)|(with_reducible refine bD ?_)|(with_reducible refine bE ?_)|(refine ah ?_;omega))))
   rw [aZ hm]
theorem pg (a b : List Int) (ha : a.length ≤ 1048576) (hb : b.Pairwise (· < ·)) (hbl : b.length ≤ 1048576) : aF Try.prog 115 [.c (.I a),.c (.I b)] [.arr 2 .yes (.I (fi (fun x=>¬ x ∈ b) a a.length))] (fun ns=>.sl (ns.getD 0 0)):=by
 (refine bU aO Try.func115 rfl rfl (by kernel_rfl) fun hp0 ν hX hN=>?_;simp only [cN,Nat.reduceAdd])
 (repeat' (first|(with_reducible first|(refine hK _ _ ?_;clear hK K)|(refine aa _ ?_;clear aa K)|refine bi ?_|refine b8 ?_|refine a9 ?_|refine au ?_|refine aq ?_|refine b9 ?_|refine aI ?_|refine ba ?_|refine ca ?_|refine bc ?_|refine be rfl ?_|refine bj ?_|refine bf ?_|refine cc ?_|refine bg ?_|refine aH ?_|refine n_k ?_|refine bh ?_|(refine ae ?_;clear ae X af Y)|(refine af ?_;clear ae X af Y))|(with_reducible refine bp ?_;first|refine bn rfl ?_|refine bo rfl ?_)|(with_reducible refine a8 ?_;first|refine ax rfl rfl rfl rfl ?_|refine aK rfl rfl rfl ?_|refine bu rfl rfl rfl rfl ?_)|((first|(with_reducible first|refine br rfl rfl fun K hK=>?_|refine bt rfl rfl fun K aa=>?_|refine aJ fun X Y ae af=>?_|refine aL ?_));simp (disch:=first|decide|omega|(simp only [List.length_cons,List.length_nil];omega)) only [go_sem,beq_self_eq_true,↓aj,↓ak hN,am hN,reduceIte,reduceCtorEq,Nat.reduceAdd,Nat.reduceLT,Nat.reduceLeDiff,Nat.reduceEqDiff,Nat.reduceSub])|(with_reducible refine And.intro (fun h=>?_) (fun h=>?_) <;> try (exfalso;omega))|(with_reducible refine bm aO hN rfl ?_ ?_;kernel_rfl)|(with_reducible refine And.intro ?_ ?_)|(refine ah ?_;omega)|(exact bv hN (by decide))))
 (refine co (fun (k : Nat)=>(tmL [(13,.c (.int .i64 k)),(12,.c (.int .i64 a.length)),(11,.c (.I a)),(5,.sl (ν 0)),(1,.c (.I b))],hpL hp0 ν [.arr 2 .yes (.I (fi (fun x=>¬ x ∈ b) a k))])) (fun (k : Nat)=>k ≤ a.length) (fun (k : Nat)=>a.length - k) ⟨0,?_,bT hX hN [] ?_ ?_⟩ ?_;(repeat' (first|(with_reducible first|exact bM _|exact bN|exact bO|refine bP ?_ ?_|refine bQ ?_ ?_|exact ay _|exact bK _|exact ao _|rfl|exact aQ _ _|refine aA ?_|exact bL _|refine aU ?_)|refine bR rfl ?_ ?_|exact aR hN _ rfl rfl rfl|exact aS hN _ rfl rfl rfl|exact aB hN _ rfl rfl rfl (Or.inr rfl)|(refine aT hN _ rfl rfl (by first|exact Or.inr rfl|exact Or.inl rfl) ?_;first|exact aM _|exact aN _)|refine aC hN rfl ?_|refine aD hN rfl rfl ?_|exact az hN _ rfl rfl|exact aE hN rfl rfl rfl rfl|(with_reducible first|refine aP ?_|refine bF ?_|refine bG ?_|refine bH ?_|refine bD ?_|refine bE ?_)));(try (any_goals (first|(with_reducible rfl)|(refine ah ?_;omega)))))
 · rfl
 intro k hk
 have hfl:=g0 (fun x=>¬ x ∈ b) a k
 (repeat' (first|(with_reducible first|(refine hK _ _ ?_;clear hK K)|(refine aa _ ?_;clear aa K)|refine bi ?_|refine b8 ?_|refine a9 ?_|refine au ?_|refine aq ?_|refine b9 ?_|refine aI ?_|refine ba ?_|refine ca ?_|refine bc ?_|refine be rfl ?_|refine bj ?_|refine bf ?_|refine cc ?_|refine bg ?_|refine aH ?_|refine n_k ?_|refine bh ?_|(refine ae ?_;clear ae X af Y)|(refine af ?_;clear ae X af Y))|(with_reducible refine bp ?_;first|refine bn rfl ?_|refine bo rfl ?_)|(with_reducible refine a8 ?_;first|refine ax rfl rfl rfl rfl ?_|refine aK rfl rfl rfl ?_|refine bu rfl rfl rfl rfl ?_)|((first|(with_reducible first|refine br rfl rfl fun K hK=>?_|refine bt rfl rfl fun K aa=>?_|refine aJ fun X Y ae af=>?_|refine aL ?_));simp (disch:=first|decide|omega|(simp only [List.length_cons,List.length_nil];omega)) only [go_sem,beq_self_eq_true,↓aj,↓ak hN,am hN,reduceIte,reduceCtorEq,Nat.reduceAdd,Nat.reduceLT,Nat.reduceLeDiff,Nat.reduceEqDiff,Nat.reduceSub])|(with_reducible refine And.intro (fun h=>?_) (fun h=>?_) <;> try (exfalso;omega))|(with_reducible refine bm aO hN rfl ?_ ?_;kernel_rfl)|(refine bB (mu b ?_ hb hbl) ?_ rfl (fun _=>rfl) ?_)|(with_reducible first|exact aG|refine ap ?_ ?_|exact cA _|refine bz ?_|exact aY _|exact b7 _ _|refine bZ ?_|exact aW _)|exact bA hN rfl rfl|(refine bY hN rfl ?_;first|exact aM _|exact aN _)|exact aX rfl rfl rfl|(simp only [bJ,List.map_nil])|(with_reducible refine ci ?_)|(with_reducible refine And.intro ?_ ?_)|(refine ah ?_;omega)|(exact bv hN (by decide))))
 · (refine ⟨k + 1,⟨?_,?_⟩,bT hX hN [(0,2)] ?_ ?_⟩;(try any_goals dsimp only);(repeat' (first|(with_reducible first|exact bM _|exact bN|exact bO|refine bP ?_ ?_|refine bQ ?_ ?_|exact ay _|exact bK _|exact ao _|rfl|exact aQ _ _|refine aA ?_|exact bL _|refine aU ?_)|refine bR rfl ?_ ?_|exact aR hN _ rfl rfl rfl|exact aS hN _ rfl rfl rfl|exact aB hN _ rfl rfl rfl (Or.inr rfl)|(refine aT hN _ rfl rfl (by first|exact Or.inr rfl|exact Or.inl rfl) ?_;first|exact aM _|exact aN _)|refine aC hN rfl ?_|refine aD hN rfl rfl ?_|exact az hN _ rfl rfl|exact aE hN rfl rfl rfl rfl|(with_reducible first|refine aP ?_|refine bF ?_|refine bG ?_|refine bH ?_|refine bD ?_|refine bE ?_)));(try (any_goals (first|(with_reducible rfl)|(refine ah ?_;omega)))))
   exact fm (by assumption)
 · (refine ⟨k + 1,⟨?_,?_⟩,bT hX hN [] ?_ ?_⟩;(try any_goals dsimp only);(repeat' (first|(with_reducible first|exact bM _|exact bN|exact bO|refine bP ?_ ?_|refine bQ ?_ ?_|exact ay _|exact bK _|exact ao _|rfl|exact aQ _ _|refine aA ?_|exact bL _|refine aU ?_)|refine bR rfl ?_ ?_|exact aR hN _ rfl rfl rfl|exact aS hN _ rfl rfl rfl|exact aB hN _ rfl rfl rfl (Or.inr rfl)|(refine aT hN _ rfl rfl (by first|exact Or.inr rfl|exact Or.inl rfl) ?_;first|exact aM _|exact aN _)|refine aC hN rfl ?_|refine aD hN rfl rfl ?_|exact az hN _ rfl rfl|exact aE hN rfl rfl rfl rfl|(with_reducible first|refine aP ?_|refine bF ?_|refine bG ?_|refine bH ?_|refine bD ?_|refine bE ?_)));(try (any_goals (first|(with_reducible rfl)|(refine ah ?_;omega)))))
   exact fJ fun h=>h (by assumption)
 · (refine dj hN (i:=0) (.inr rfl) (by first|rfl|(simp (disch:=first|decide|omega|(simp only [List.length_cons,List.length_nil];omega)) only [ct,cz,cB,cD,go_sem,beq_self_eq_true,↓aj,↓ak hN,am hN,reduceIte,reduceCtorEq,Nat.reduceAdd,Nat.reduceLT,Nat.reduceLeDiff,Nat.reduceEqDiff,Nat.reduceSub];rfl)) rfl ?_ rfl)
   rw [show k = a.length by omega]
end Go.Proofs.Ytfaefmabjjndeaa
