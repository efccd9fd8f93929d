/-
  Binary search in a set; what is in one set and not in another one.
-/
import Derived.Test.YthjamlponejffaaZrKf
import Derived.Test.YthjamlponejffaaZrCb
import Derived.Test.YthjamlponejffaaZrAt2
namespace Go.Proofs.Ythjamlponejffaa
set_option linter.unusedVariables false
set_option linter.unusedSimpArgs false
open Go.RowKit
attribute [local irreducible] aw cu Aw Le
def eg (x : Int) : List Int → Nat
 | [] => 0
 | o :: os => if o < x then eg x os + 1 else 0
theorem nC (x : Int) : ∀ os,eg x os ≤ os.length
 | [] => Nat.le_refl _
 | o :: os => by
   unfold eg
   split
   · exact Nat.succ_le_succ (nC x os)
   · exact Nat.zero_le _
theorem fa {x : Int} : ∀ {os : List Int},os.Pairwise (· < ·) → ∀ i,i < os.length → (gi os i < x ↔ i < eg x os)
 | [], _, i, h => absurd h (Nat.not_lt_zero _)
 | o :: os, hp, i, h => by
   rw [List.pairwise_cons] at hp
   unfold eg
   rcases i with _|i
   · show o < x ↔ _
     split
     · rename_i e;exact ⟨fun _=>Nat.succ_pos _,fun _=>e⟩
     · rename_i e;exact ⟨fun h=>absurd h e,fun h=>absurd h (Nat.not_lt_zero _)⟩
   · have hi : i < os.length:=by simpa using h
     show gi os i < x ↔ _
     have ih:=fa (x:=x) hp.2 i hi
     split
     · rw [ih];omega
     · rename_i e
       have:=hp.1 _ (cy hi)
       exact ⟨fun h=>absurd h (by omega),fun h=>absurd h (Nat.not_lt_zero _)⟩
theorem i4 {x : Int} {xs : List Int} (h : xs.Pairwise (· < ·)) : x ∈ xs ↔ eg x xs < xs.length ∧ gi xs (eg x xs) = x:=by
 constructor
 · intro hx
   obtain ⟨k,hk,e⟩:=cG hx
   have h1:=fa (x:=x) h k hk
   have h2 : ¬ k < eg x xs:=fun h'=>by have:=h1.2 h';omega
   rcases Nat.lt_or_ge (eg x xs) k with h3|h3
   · have h4:=fa (x:=x) h (eg x xs) (by omega)
     have h5:=List.pairwise_iff_getElem.1 h (eg x xs) k (by omega) hk h3
     rw [← dz (by omega : eg x xs < xs.length),← dz hk] at h5
     have:=h4.1 (by omega)
     omega
   · have : eg x xs = k:=by omega
     rw [this];exact ⟨hk,e⟩
 · rintro ⟨h1,h2⟩;rw [← h2];exact cy h1
theorem sZ {i j : Nat} (h : i + j ≤ 9223372036854775807) : IntKind.i64.wrap (qv .u64 (IntKind.u64.wrap ((i : Int) + (j : Int))) 1) = (((i + j) / 2 : Nat) : Int):=by
 have e1 : IntKind.u64.wrap ((i : Int) + (j : Int)) = ((i + j : Nat) : Int):=by
  simp [IntKind.wrap,IntKind.bits,IntKind.signed];omega
 rw [e1]
 unfold qv
 have e2 : (2 : Int) ^ min (1 : Int).toNat IntKind.u64.bits = 2:=by decide
 rw [e2,Int.fdiv_eq_ediv_of_nonneg _ (by decide)]
 rw [q8 (by omega)]
 omega
theorem rm (x : Int) : aw Try.prog 134 [.c (.int .i64 x)] [] (fun _=>.c (.bool false)):=by
 (refine aV aS Try.func134 rfl rfl (by kernel_rfl) fun hp0 ν hX hN=>?_;simp only [ca,Nat.reduceAdd])
 (repeat' (first|(with_reducible first|(apply hK;clear hK K)|refine stZ ?_|refine aX rfl ?_|((first|apply ae|apply af);clear ae X af Y))|(with_reducible refine a8 ?_;first|refine aY rfl ?_|refine aZ rfl ?_)|((with_reducible first|((first|refine bc ?_|refine bd ?_);intro K hK)|(refine aC ?_;intro X Y ae af)|refine aD ?_);simp (disch:=first|decide|omega|(simp only [List.length_cons,List.length_nil];omega)) only [go_sem,↓ak hN,an hN,reduceIte,reduceCtorEq,Nat.reduceAdd,Nat.reduceLT,Nat.reduceLeDiff,Nat.reduceEqDiff,Nat.reduceSub])|(with_reducible refine And.intro (fun h=>?_) (fun h=>?_) <;> try (exfalso;omega))|(with_reducible refine ba aS hN ?_)|(with_reducible refine And.intro ?_ ?_)|(refine am ?_;omega)|(exact a9 hN (by decide))))
 all_goals (refine ch (.inr rfl) (by first|rfl|(simp (disch:=first|decide|omega|(simp only [List.length_cons,List.length_nil];omega)) only [bH,bM,bP,bQ,go_sem,beq_self_eq_true,↓ax,↓ak hN,an hN,reduceIte,reduceCtorEq,Nat.reduceAdd,Nat.reduceLT,Nat.reduceLeDiff,Nat.reduceEqDiff,Nat.reduceSub];rfl)) ?_)
 all_goals simp
theorem rn (x : Int) : aw Try.prog 129 [.c (.int .i64 x)] [] (fun _=>.c (.bool false)):=by
 (refine aV aS Try.func129 rfl rfl (by kernel_rfl) fun hp0 ν hX hN=>?_;simp only [ca,Nat.reduceAdd])
 (repeat' (first|(with_reducible first|(apply hK;clear hK K)|refine stZ ?_|refine aX rfl ?_|((first|apply ae|apply af);clear ae X af Y))|(with_reducible refine a8 ?_;first|refine aY rfl ?_|refine aZ rfl ?_)|((with_reducible first|((first|refine bc ?_|refine bd ?_);intro K hK)|(refine aC ?_;intro X Y ae af)|refine aD ?_);simp (disch:=first|decide|omega|(simp only [List.length_cons,List.length_nil];omega)) only [go_sem,↓ak hN,an hN,reduceIte,reduceCtorEq,Nat.reduceAdd,Nat.reduceLT,Nat.reduceLeDiff,Nat.reduceEqDiff,Nat.reduceSub])|(with_reducible refine And.intro (fun h=>?_) (fun h=>?_) <;> try (exfalso;omega))|(with_reducible refine ba aS hN ?_)|(with_reducible refine And.intro ?_ ?_)|(refine am ?_;omega)|(exact a9 hN (by decide))))
 all_goals (refine ch (.inr rfl) (by first|rfl|(simp (disch:=first|decide|omega|(simp only [List.length_cons,List.length_nil];omega)) only [bH,bM,bP,bQ,go_sem,beq_self_eq_true,↓ax,↓ak hN,an hN,reduceIte,reduceCtorEq,Nat.reduceAdd,Nat.reduceLT,Nat.reduceLeDiff,Nat.reduceEqDiff,Nat.reduceSub];rfl)) ?_)
 all_goals simp
theorem oA (x y : Int) : aw Try.prog 128 [.c (.int .i64 x),.c (.int .i64 y)] [] (fun _=>.c (.bool (decide (x < y)))):=by
 (refine aV aS Try.func128 rfl rfl (by kernel_rfl) fun hp0 ν hX hN=>?_;simp only [ca,Nat.reduceAdd])
 (repeat' (first|(with_reducible first|(apply hK;clear hK K)|refine stZ ?_|refine aX rfl ?_|((first|apply ae|apply af);clear ae X af Y))|(with_reducible refine a8 ?_;first|refine aY rfl ?_|refine aZ rfl ?_)|(with_reducible refine bz ?_;first|refine be rfl rfl rfl rfl ?_|refine bv rfl rfl rfl ?_|refine bN rfl rfl rfl rfl ?_)|((first|(with_reducible first|((first|refine bc ?_|refine bd ?_);intro K hK)|(refine aC ?_;intro X Y ae af)|refine aD ?_)|(with_reducible refine bz ?_;refine bf rfl rfl fun X Y ae af=>?_));simp (disch:=first|decide|omega|(simp only [List.length_cons,List.length_nil];omega)) only [go_sem,↓ak hN,an hN,reduceIte,reduceCtorEq,Nat.reduceAdd,Nat.reduceLT,Nat.reduceLeDiff,Nat.reduceEqDiff,Nat.reduceSub])|(with_reducible refine And.intro (fun h=>?_) (fun h=>?_) <;> try (exfalso;omega))|(with_reducible refine ba aS hN ?_)|(refine aB (rm ?_) ?_ rfl (fun _=>rfl) ?_)|(with_reducible first|exact au|refine ap ?_ ?_|exact bF _|refine aH ?_|exact aJ _|exact bi _ _|refine bh ?_|exact aF _)|exact aI hN rfl rfl|(refine bg hN rfl ?_;first|exact aP _|exact aQ _)|exact aG rfl rfl rfl|(simp only [aT,List.map_nil])|(with_reducible refine bC ?_)|(with_reducible refine And.intro ?_ ?_)|(refine am ?_;omega)|(exact a9 hN (by decide))))
 all_goals (refine ch (.inr rfl) (by first|rfl|(simp (disch:=first|decide|omega|(simp only [List.length_cons,List.length_nil];omega)) only [bH,bM,bP,bQ,go_sem,beq_self_eq_true,↓ax,↓ak hN,an hN,reduceIte,reduceCtorEq,Nat.reduceAdd,Nat.reduceLT,Nat.reduceLeDiff,Nat.reduceEqDiff,Nat.reduceSub];rfl)) ?_)
 all_goals simp [*]
theorem ly (xs : List Int) (x : Int) (hx : xs.Pairwise (· < ·)) (hl : xs.length ≤ 1048576) : aw Try.prog 120 [.c (.I xs),.c (.int .i64 x)] [] (fun _=>.tup [.c (.int .i64 (eg x xs)),.c (.bool (tf (x ∈ xs)))]):=by
 have hpl:=nC x xs
 (refine aV aS Try.func120 rfl rfl (by kernel_rfl) fun hp0 ν hX hN=>?_;simp only [ca,Nat.reduceAdd])
 (repeat' (first|(with_reducible first|(apply hK;clear hK K)|refine stZ ?_|refine aX rfl ?_|((first|apply ae|apply af);clear ae X af Y))|(with_reducible refine a8 ?_;first|refine aY rfl ?_|refine aZ rfl ?_)|(with_reducible refine bz ?_;first|refine be rfl rfl rfl rfl ?_|refine bv rfl rfl rfl ?_|refine bN rfl rfl rfl rfl ?_)|((first|(with_reducible first|((first|refine bc ?_|refine bd ?_);intro K hK)|(refine aC ?_;intro X Y ae af)|refine aD ?_)|(with_reducible refine bz ?_;refine bf rfl rfl fun X Y ae af=>?_));simp (disch:=first|decide|omega|(simp only [List.length_cons,List.length_nil];omega)) only [go_sem,↓ak hN,an hN,reduceIte,reduceCtorEq,Nat.reduceAdd,Nat.reduceLT,Nat.reduceLeDiff,Nat.reduceEqDiff,Nat.reduceSub])|(with_reducible refine And.intro (fun h=>?_) (fun h=>?_) <;> try (exfalso;omega))|(with_reducible refine ba aS hN ?_)|(with_reducible refine And.intro ?_ ?_)|(refine am ?_;omega)|(exact a9 hN (by decide))))
 (refine ce (fun (y : Nat × Nat)=>(tmL [(7,.c (.int .i64 y.1)),(8,.c (.int .i64 y.2)),(6,.c (.int .i64 xs.length)),(0,.c (.I xs)),(1,.c (.int .i64 x))],hpL hp0 ν [])) (fun (y : Nat × Nat)=>y.1 ≤ eg x xs ∧ eg x xs ≤ y.2 ∧ y.2 ≤ xs.length) (fun (y : Nat × Nat)=>y.2 - y.1) ⟨(0,xs.length),?_,bI hX hN [] ?_ ?_⟩ ?_;(repeat' (first|(with_reducible first|exact clZ|refine bJ ?_ ?_|refine bK ?_ ?_|rfl|refine suZ ?_)|refine bL rfl ?_ ?_|exact bo hN _ rfl rfl rfl|exact bp hN _ rfl rfl rfl|exact aL hN _ rfl rfl rfl (Or.inr rfl)|(refine br hN _ rfl rfl (by first|exact Or.inr rfl|exact Or.inl rfl) ?_;first|exact aP _|exact aQ _)|refine aM hN rfl ?_|refine aN hN rfl rfl ?_|exact aK hN _ rfl rfl|exact aO hN rfl rfl rfl rfl|(with_reducible first|refine stZ ?_|refine bn ?_)));(try (any_goals (first|(with_reducible rfl)|(refine am ?_;omega)))))
 rintro ⟨i,j⟩ ⟨h1,h2,h3⟩
 dsimp only at h1 h2 h3 ⊢
 have hm:=sZ (i:=i) (j:=j) (by omega)
 (repeat' (first|(with_reducible first|(apply hK;clear hK K)|refine stZ ?_|refine aX rfl ?_|((first|apply ae|apply af);clear ae X af Y))|(with_reducible refine a8 ?_;first|refine aY rfl ?_|refine aZ rfl ?_)|(with_reducible refine bz ?_;first|refine be rfl rfl rfl rfl ?_|refine bv rfl rfl rfl ?_|refine bN rfl rfl rfl rfl ?_)|((first|(with_reducible first|((first|refine bc ?_|refine bd ?_);intro K hK)|(refine aC ?_;intro X Y ae af)|refine aD ?_)|(with_reducible refine bz ?_;refine bf rfl rfl fun X Y ae af=>?_));simp (disch:=first|decide|omega|(simp only [List.length_cons,List.length_nil];omega)) only [go_sem,↓ak hN,an hN,reduceIte,reduceCtorEq,Nat.reduceAdd,Nat.reduceLT,Nat.reduceLeDiff,Nat.reduceEqDiff,Nat.reduceSub])|(with_reducible refine And.intro (fun h=>?_) (fun h=>?_) <;> try (exfalso;omega))|(with_reducible refine ba aS hN ?_)|(rw [hm])|(refine aB (oA ?_ ?_) ?_ rfl (fun _=>rfl) ?_)|(refine aB (rn ?_) ?_ rfl (fun _=>rfl) ?_)|(with_reducible first|exact au|refine ap ?_ ?_|exact bF _|refine aH ?_|exact aJ _|exact bi _ _|refine bh ?_|exact aF _)|exact aI hN rfl rfl|(refine bg hN rfl ?_;first|exact aP _|exact aQ _)|exact aG rfl rfl rfl|(simp only [aT,List.map_nil])|(with_reducible refine bC ?_)|(with_reducible refine And.intro ?_ ?_)|(refine am ?_;omega)|(exact a9 hN (by decide))))
 · have h4:=(fa hx ((i + j) / 2) (by omega)).1 (by assumption)
   (refine ⟨((i + j) / 2 + 1,j),⟨?_,?_⟩,bI hX hN [] ?_ ?_⟩;(try any_goals dsimp only);(repeat' (first|(with_reducible first|exact clZ|refine bJ ?_ ?_|refine bK ?_ ?_|rfl|refine suZ ?_)|refine bL rfl ?_ ?_|exact bo hN _ rfl rfl rfl|exact bp hN _ rfl rfl rfl|exact aL hN _ rfl rfl rfl (Or.inr rfl)|(refine br hN _ rfl rfl (by first|exact Or.inr rfl|exact Or.inl rfl) ?_;first|exact aP _|exact aQ _)|refine aM hN rfl ?_|refine aN hN rfl rfl ?_|exact aK hN _ rfl rfl|exact aO hN rfl rfl rfl rfl|(with_reducible first|refine stZ ?_|refine bn ?_)));(try (any_goals (first|(with_reducible rfl)|(refine am ?_;omega)))))
 · have h4 : ¬ (i + j) / 2 < eg x xs:=fun h=>absurd ((fa hx ((i + j) / 2) (by omega)).2 h) (by assumption)
   (refine ⟨(i,(i + j) / 2),⟨?_,?_⟩,bI hX hN [] ?_ ?_⟩;(try any_goals dsimp only);(repeat' (first|(with_reducible first|exact clZ|refine bJ ?_ ?_|refine bK ?_ ?_|rfl|refine suZ ?_)|refine bL rfl ?_ ?_|exact bo hN _ rfl rfl rfl|exact bp hN _ rfl rfl rfl|exact aL hN _ rfl rfl rfl (Or.inr rfl)|(refine br hN _ rfl rfl (by first|exact Or.inr rfl|exact Or.inl rfl) ?_;first|exact aP _|exact aQ _)|refine aM hN rfl ?_|refine aN hN rfl rfl ?_|exact aK hN _ rfl rfl|exact aO hN rfl rfl rfl rfl|(with_reducible first|refine stZ ?_|refine bn ?_)));(try (any_goals (first|(with_reducible rfl)|(refine am ?_;omega)))))
 · have e : i = eg x xs:=by omega
   have hm : x ∈ xs:=(i4 hx).2 ⟨by omega,by rw [← e];assumption⟩
   (refine iN hN [] (by decide) (.inr rfl) (by first|exact dI rfl rfl|exact cX hN rfl rfl rfl rfl|exact cH hN rfl rfl rfl rfl rfl|(simp (disch:=first|decide|omega|(simp only [List.length_cons,List.length_nil];omega)) only [bH,bM,bP,bQ,go_sem,beq_self_eq_true,↓ax,↓ak hN,an hN,reduceIte,reduceCtorEq,Nat.reduceAdd,Nat.reduceLT,Nat.reduceLeDiff,Nat.reduceEqDiff,Nat.reduceSub];rfl)|rfl) ?_ fun νs hνs=>?_;(repeat' (first|exact Gone.nil|(refine Gone.cons rfl rfl ?_ ?_)|(with_reducible refine fO ?_)|(with_reducible refine fN ?_)|(with_reducible refine SVs.cons ?_ ?_)|(with_reducible exact SVs.nil)|(simp only [List.drop,List.take])|(simp (disch:=first|decide|omega) only [↓ax,reduceIte,reduceCtorEq,Nat.reduceEqDiff])|(with_reducible exact my _)|(with_reducible exact fL _)|(exact fM rfl rfl rfl)|(exact iM 0 (by simp) rfl rfl)|(refine iL hN rfl (fP hN (by decide)) ?_)|(with_reducible refine iK ?_)|(with_reducible rfl)|(with_reducible refine mz ?_)|(with_reducible refine mA ?_)|(with_reducible refine mB ?_)|(with_reducible refine mC ?_)|(with_reducible refine kr ?_)|(refine am ?_;omega))))
   rw [aA hm]
 · have e : i = eg x xs:=by omega
   have hm : ¬ x ∈ xs:=fun h=>by
    have h5:=((i4 hx).1 h).2
    rw [← e] at h5
    have h6 : (gi xs i == x) = false:=by assumption
    rw [h5] at h6
    simp at h6
   (refine iN hN [] (by decide) (.inr rfl) (by first|exact dI rfl rfl|exact cX hN rfl rfl rfl rfl|exact cH hN rfl rfl rfl rfl rfl|(simp (disch:=first|decide|omega|(simp only [List.length_cons,List.length_nil];omega)) only [bH,bM,bP,bQ,go_sem,beq_self_eq_true,↓ax,↓ak hN,an hN,reduceIte,reduceCtorEq,Nat.reduceAdd,Nat.reduceLT,Nat.reduceLeDiff,Nat.reduceEqDiff,Nat.reduceSub];rfl)|rfl) ?_ fun νs hνs=>?_;(repeat' (first|exact Gone.nil|(refine Gone.cons rfl rfl ?_ ?_)|(with_reducible refine fO ?_)|(with_reducible refine fN ?_)|(with_reducible refine SVs.cons ?_ ?_)|(with_reducible exact SVs.nil)|(simp only [List.drop,List.take])|(simp (disch:=first|decide|omega) only [↓ax,reduceIte,reduceCtorEq,Nat.reduceEqDiff])|(with_reducible exact my _)|(with_reducible exact fL _)|(exact fM rfl rfl rfl)|(exact iM 0 (by simp) rfl rfl)|(refine iL hN rfl (fP hN (by decide)) ?_)|(with_reducible refine iK ?_)|(with_reducible rfl)|(with_reducible refine mz ?_)|(with_reducible refine mA ?_)|(with_reducible refine mB ?_)|(with_reducible refine mC ?_)|(with_reducible refine kr ?_)|(refine am ?_;omega))))
   rw [aq hm]
 · have e : i = eg x xs:=by omega
   have hm : ¬ x ∈ xs:=fun h=>by have:=((i4 hx).1 h).1;omega
   (refine iN hN [] (by decide) (.inr rfl) (by first|exact dI rfl rfl|exact cX hN rfl rfl rfl rfl|exact cH hN rfl rfl rfl rfl rfl|(simp (disch:=first|decide|omega|(simp only [List.length_cons,List.length_nil];omega)) only [bH,bM,bP,bQ,go_sem,beq_self_eq_true,↓ax,↓ak hN,an hN,reduceIte,reduceCtorEq,Nat.reduceAdd,Nat.reduceLT,Nat.reduceLeDiff,Nat.reduceEqDiff,Nat.reduceSub];rfl)|rfl) ?_ fun νs hνs=>?_;(repeat' (first|exact Gone.nil|(refine Gone.cons rfl rfl ?_ ?_)|(with_reducible refine fO ?_)|(with_reducible refine fN ?_)|(with_reducible refine SVs.cons ?_ ?_)|(with_reducible exact SVs.nil)|(simp only [List.drop,List.take])|(simp (disch:=first|decide|omega) only [↓ax,reduceIte,reduceCtorEq,Nat.reduceEqDiff])|(with_reducible exact my _)|(with_reducible exact fL _)|(exact fM rfl rfl rfl)|(exact iM 0 (by simp) rfl rfl)|(refine iL hN rfl (fP hN (by decide)) ?_)|(with_reducible refine iK ?_)|(with_reducible rfl)|(with_reducible refine mz ?_)|(with_reducible refine mA ?_)|(with_reducible refine mB ?_)|(with_reducible refine mC ?_)|(with_reducible refine kr ?_)|(refine am ?_;omega))))
   rw [aq hm]
theorem oB (a b : List Int) (ha : a.length ≤ 1048576) (hb : b.Pairwise (· < ·)) (hbl : b.length ≤ 1048576) : aw Try.prog 95 [.c (.I a),.c (.I b)] [.arr 2 .yes (.I (dK (fun x=>¬ x ∈ b) a a.length))] (fun ns=>.sl (ns.getD 0 0)):=by
 (refine aV aS Try.func95 rfl rfl (by kernel_rfl) fun hp0 ν hX hN=>?_;simp only [ca,Nat.reduceAdd])
 (repeat' (first|(with_reducible first|(apply hK;clear hK K)|refine stZ ?_|refine aX rfl ?_|((first|apply ae|apply af);clear ae X af Y))|(with_reducible refine a8 ?_;first|refine aY rfl ?_|refine aZ rfl ?_)|((with_reducible first|((first|refine bc ?_|refine bd ?_);intro K hK)|(refine aC ?_;intro X Y ae af)|refine aD ?_);simp (disch:=first|decide|omega|(simp only [List.length_cons,List.length_nil];omega)) only [go_sem,↓ak hN,an hN,reduceIte,reduceCtorEq,Nat.reduceAdd,Nat.reduceLT,Nat.reduceLeDiff,Nat.reduceEqDiff,Nat.reduceSub])|(with_reducible refine And.intro (fun h=>?_) (fun h=>?_) <;> try (exfalso;omega))|(with_reducible refine ba aS hN ?_)|(with_reducible refine And.intro ?_ ?_)|(refine am ?_;omega)|(exact a9 hN (by decide))))
 (refine ce (fun (k : Nat)=>(tmL [(13,.c (.int .i64 k)),(12,.c (.int .i64 a.length)),(11,.c (.I a)),(5,.sl (ν 0)),(1,.c (.I b))],hpL hp0 ν [.arr 2 .yes (.I (dK (fun x=>¬ x ∈ b) a k))])) (fun (k : Nat)=>k ≤ a.length) (fun (k : Nat)=>a.length - k) ⟨0,?_,bI hX hN [] ?_ ?_⟩ ?_;(repeat' (first|(with_reducible first|exact clZ|refine bJ ?_ ?_|refine bK ?_ ?_|rfl|refine suZ ?_)|refine bL rfl ?_ ?_|exact bo hN _ rfl rfl rfl|exact bp hN _ rfl rfl rfl|exact aL hN _ rfl rfl rfl (Or.inr rfl)|(refine br hN _ rfl rfl (by first|exact Or.inr rfl|exact Or.inl rfl) ?_;first|exact aP _|exact aQ _)|refine aM hN rfl ?_|refine aN hN rfl rfl ?_|exact aK hN _ rfl rfl|exact aO hN rfl rfl rfl rfl|(with_reducible first|refine stZ ?_|refine bn ?_)));(try (any_goals (first|(with_reducible rfl)|(refine am ?_;omega)))))
 · rfl
 intro k hk
 have hfl:=iv (fun x=>¬ x ∈ b) a k
 (repeat' (first|(with_reducible first|(apply hK;clear hK K)|refine stZ ?_|refine aX rfl ?_|((first|apply ae|apply af);clear ae X af Y))|(with_reducible refine a8 ?_;first|refine aY rfl ?_|refine aZ rfl ?_)|((with_reducible first|((first|refine bc ?_|refine bd ?_);intro K hK)|(refine aC ?_;intro X Y ae af)|refine aD ?_);simp (disch:=first|decide|omega|(simp only [List.length_cons,List.length_nil];omega)) only [go_sem,↓ak hN,an hN,reduceIte,reduceCtorEq,Nat.reduceAdd,Nat.reduceLT,Nat.reduceLeDiff,Nat.reduceEqDiff,Nat.reduceSub])|(with_reducible refine And.intro (fun h=>?_) (fun h=>?_) <;> try (exfalso;omega))|(with_reducible refine ba aS hN ?_)|(refine aB (ly b ?_ hb hbl) ?_ rfl (fun _=>rfl) ?_)|(with_reducible first|exact au|refine ap ?_ ?_|exact bF _|refine aH ?_|exact aJ _|exact bi _ _|refine bh ?_|exact aF _)|exact aI hN rfl rfl|(refine bg hN rfl ?_;first|exact aP _|exact aQ _)|exact aG rfl rfl rfl|(simp only [aT,List.map_nil])|(with_reducible refine bC ?_)|(with_reducible refine And.intro ?_ ?_)|(refine am ?_;omega)|(exact a9 hN (by decide))))
 · (refine ⟨k + 1,⟨?_,?_⟩,bI hX hN [(0,2)] ?_ ?_⟩;(try any_goals dsimp only);(repeat' (first|(with_reducible first|exact clZ|refine bJ ?_ ?_|refine bK ?_ ?_|rfl|refine suZ ?_)|refine bL rfl ?_ ?_|exact bo hN _ rfl rfl rfl|exact bp hN _ rfl rfl rfl|exact aL hN _ rfl rfl rfl (Or.inr rfl)|(refine br hN _ rfl rfl (by first|exact Or.inr rfl|exact Or.inl rfl) ?_;first|exact aP _|exact aQ _)|refine aM hN rfl ?_|refine aN hN rfl rfl ?_|exact aK hN _ rfl rfl|exact aO hN rfl rfl rfl rfl|(with_reducible first|refine stZ ?_|refine bn ?_)));(try (any_goals (first|(with_reducible rfl)|(refine am ?_;omega)))))
   exact df (by assumption)
 · (refine ⟨k + 1,⟨?_,?_⟩,bI hX hN [] ?_ ?_⟩;(try any_goals dsimp only);(repeat' (first|(with_reducible first|exact clZ|refine bJ ?_ ?_|refine bK ?_ ?_|rfl|refine suZ ?_)|refine bL rfl ?_ ?_|exact bo hN _ rfl rfl rfl|exact bp hN _ rfl rfl rfl|exact aL hN _ rfl rfl rfl (Or.inr rfl)|(refine br hN _ rfl rfl (by first|exact Or.inr rfl|exact Or.inl rfl) ?_;first|exact aP _|exact aQ _)|refine aM hN rfl ?_|refine aN hN rfl rfl ?_|exact aK hN _ rfl rfl|exact aO hN rfl rfl rfl rfl|(with_reducible first|refine stZ ?_|refine bn ?_)));(try (any_goals (first|(with_reducible rfl)|(refine am ?_;omega)))))
   exact du fun h=>h (by assumption)
 · (refine ct hN (i:=0) (.inr rfl) (by first|rfl|(simp (disch:=first|decide|omega|(simp only [List.length_cons,List.length_nil];omega)) only [bH,bM,bP,bQ,go_sem,beq_self_eq_true,↓ax,↓ak hN,an hN,reduceIte,reduceCtorEq,Nat.reduceAdd,Nat.reduceLT,Nat.reduceLeDiff,Nat.reduceEqDiff,Nat.reduceSub];rfl)) rfl ?_ rfl)
   rw [show k = a.length by omega]
end Go.Proofs.Ythjamlponejffaa
