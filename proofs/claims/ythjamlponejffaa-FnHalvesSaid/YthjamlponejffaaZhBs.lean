/-
  Binary search in a set; what is in one set and not in another one.
-/
import Derived.Test.YthjamlponejffaaZhKf
import Derived.Test.YthjamlponejffaaZhCb
import Derived.Test.YthjamlponejffaaZhAt2
namespace Go.Proofs.Ythjamlponejffaa
set_option linter.unusedVariables false
set_option linter.unusedSimpArgs false
open Go.RowKit
attribute [local irreducible] ap b7 Aw Le
def fu (x : Int) : List Int → Nat
 | [] => 0
 | o :: os => if o < x then fu x os + 1 else 0
theorem pt (x : Int) : ∀ os,fu x os ≤ os.length
 | [] => Nat.le_refl _
 | o :: os => by
   unfold fu
   split
   · exact Nat.succ_le_succ (pt x os)
   · exact Nat.zero_le _
theorem gu {x : Int} : ∀ {os : List Int},os.Pairwise (· < ·) → ∀ i,i < os.length → (gi os i < x ↔ i < fu x os)
 | [], _, i, h => absurd h (Nat.not_lt_zero _)
 | o :: os, hp, i, h => by
   rw [List.pairwise_cons] at hp
   unfold fu
   rcases i with _|i
   · show o < x ↔ _
     split
     · rename_i e;exact ⟨fun _=>Nat.succ_pos _,fun _=>e⟩
     · rename_i e;exact ⟨fun h=>absurd h e,fun h=>absurd h (Nat.not_lt_zero _)⟩
   · have hi : i < os.length:=by simpa using h
     show gi os i < x ↔ _
     have ih:=gu (x:=x) hp.2 i hi
     split
     · rw [ih];omega
     · rename_i e
       have:=hp.1 _ (cy hi)
       exact ⟨fun h=>absurd h (by omega),fun h=>absurd h (Nat.not_lt_zero _)⟩
theorem j7 {x : Int} {xs : List Int} (h : xs.Pairwise (· < ·)) : x ∈ xs ↔ fu x xs < xs.length ∧ gi xs (fu x xs) = x:=by
 constructor
 · intro hx
   obtain ⟨k,hk,e⟩:=ck hx
   have h1:=gu (x:=x) h k hk
   have h2 : ¬ k < fu x xs:=fun h'=>by have:=h1.2 h';omega
   rcases Nat.lt_or_ge (fu x xs) k with h3|h3
   · have h4:=gu (x:=x) h (fu x xs) (by omega)
     have h5:=List.pairwise_iff_getElem.1 h (fu x xs) k (by omega) hk h3
     rw [← dC (by omega : fu x xs < xs.length),← dC hk] at h5
     have:=h4.1 (by omega)
     omega
   · have : fu x xs = k:=by omega
     rw [this];exact ⟨hk,e⟩
 · rintro ⟨h1,h2⟩;rw [← h2];exact cy h1
theorem wh {i j : Nat} (h : i + j ≤ 9223372036854775807) : IntKind.i64.wrap (pS .u64 (IntKind.u64.wrap ((i : Int) + (j : Int))) 1) = (((i + j) / 2 : Nat) : Int):=by
 have e1 : IntKind.u64.wrap ((i : Int) + (j : Int)) = ((i + j : Nat) : Int):=by
  simp [IntKind.wrap,IntKind.bits,IntKind.signed];omega
 rw [e1]
 unfold pS
 have e2 : (2 : Int) ^ min (1 : Int).toNat IntKind.u64.bits = 2:=by decide
 rw [e2,Int.fdiv_eq_ediv_of_nonneg _ (by decide)]
 rw [ql (by omega)]
 omega
theorem uv (x : Int) : ap Try.prog 134 [.c (.int .i64 x)] [] (fun _=>.c (.bool false)):=by
 (refine bf aI Try.func134 rfl rfl (by kernel_rfl) fun hp0 ν hX hN=>?_;simp only [bW,Nat.reduceAdd])
 (repeat' (first|(with_reducible first|(apply hK;clear hK K)|refine stZ ?_|refine aT rfl ?_|((first|apply ae|apply af);clear ae X af Y))|(with_reducible refine aW ?_;first|refine aU rfl ?_|refine aV rfl ?_)|((with_reducible first|((first|refine aZ ?_|refine a8 ?_);intro K hK)|(refine aE ?_;intro X Y ae af)|refine aF ?_);simp (disch:=first|decide|omega|(simp only [List.length_cons,List.length_nil];omega)) only [go_sem,↓aj hN,ak hN,reduceIte,reduceCtorEq,Nat.reduceAdd,Nat.reduceLT,Nat.reduceLeDiff,Nat.reduceEqDiff,Nat.reduceSub])|(with_reducible refine And.intro (fun h=>?_) (fun h=>?_) <;> try (exfalso;omega))|(with_reducible refine aY aI hN ?_)|(with_reducible refine And.intro ?_ ?_)|(refine ah ?_;omega)|(exact aX hN (by decide))))
 all_goals (refine bX (.inr rfl) (by first|rfl|(simp (disch:=first|decide|omega|(simp only [List.length_cons,List.length_nil];omega)) only [bG,bK,bN,bO,go_sem,beq_self_eq_true,↓ao,↓aj hN,ak hN,reduceIte,reduceCtorEq,Nat.reduceAdd,Nat.reduceLT,Nat.reduceLeDiff,Nat.reduceEqDiff,Nat.reduceSub];rfl)) ?_)
 all_goals simp
theorem uw (x : Int) : ap Try.prog 129 [.c (.int .i64 x)] [] (fun _=>.c (.bool false)):=by
 (refine bf aI Try.func129 rfl rfl (by kernel_rfl) fun hp0 ν hX hN=>?_;simp only [bW,Nat.reduceAdd])
 (repeat' (first|(with_reducible first|(apply hK;clear hK K)|refine stZ ?_|refine aT rfl ?_|((first|apply ae|apply af);clear ae X af Y))|(with_reducible refine aW ?_;first|refine aU rfl ?_|refine aV rfl ?_)|((with_reducible first|((first|refine aZ ?_|refine a8 ?_);intro K hK)|(refine aE ?_;intro X Y ae af)|refine aF ?_);simp (disch:=first|decide|omega|(simp only [List.length_cons,List.length_nil];omega)) only [go_sem,↓aj hN,ak hN,reduceIte,reduceCtorEq,Nat.reduceAdd,Nat.reduceLT,Nat.reduceLeDiff,Nat.reduceEqDiff,Nat.reduceSub])|(with_reducible refine And.intro (fun h=>?_) (fun h=>?_) <;> try (exfalso;omega))|(with_reducible refine aY aI hN ?_)|(with_reducible refine And.intro ?_ ?_)|(refine ah ?_;omega)|(exact aX hN (by decide))))
 all_goals (refine bX (.inr rfl) (by first|rfl|(simp (disch:=first|decide|omega|(simp only [List.length_cons,List.length_nil];omega)) only [bG,bK,bN,bO,go_sem,beq_self_eq_true,↓ao,↓aj hN,ak hN,reduceIte,reduceCtorEq,Nat.reduceAdd,Nat.reduceLT,Nat.reduceLeDiff,Nat.reduceEqDiff,Nat.reduceSub];rfl)) ?_)
 all_goals simp
theorem qG (x y : Int) : ap Try.prog 128 [.c (.int .i64 x),.c (.int .i64 y)] [] (fun _=>.c (.bool (decide (x < y)))):=by
 (refine bf aI Try.func128 rfl rfl (by kernel_rfl) fun hp0 ν hX hN=>?_;simp only [bW,Nat.reduceAdd])
 (repeat' (first|(with_reducible first|(apply hK;clear hK K)|refine stZ ?_|refine aT rfl ?_|((first|apply ae|apply af);clear ae X af Y))|(with_reducible refine aW ?_;first|refine aU rfl ?_|refine aV rfl ?_)|(with_reducible refine bv ?_;first|refine bd rfl rfl rfl rfl ?_|refine bt rfl rfl rfl ?_|refine bI rfl rfl rfl rfl ?_)|((first|(with_reducible first|((first|refine aZ ?_|refine a8 ?_);intro K hK)|(refine aE ?_;intro X Y ae af)|refine aF ?_)|(with_reducible refine bv ?_;refine be rfl rfl fun X Y ae af=>?_));simp (disch:=first|decide|omega|(simp only [List.length_cons,List.length_nil];omega)) only [go_sem,↓aj hN,ak hN,reduceIte,reduceCtorEq,Nat.reduceAdd,Nat.reduceLT,Nat.reduceLeDiff,Nat.reduceEqDiff,Nat.reduceSub])|(with_reducible refine And.intro (fun h=>?_) (fun h=>?_) <;> try (exfalso;omega))|(with_reducible refine aY aI hN ?_)|(refine aB (uv ?_) ?_ rfl (fun _=>rfl) ?_)|(with_reducible first|exact aq|refine am ?_ ?_|exact bH _|refine aM ?_|exact aL _|exact bj _ _|refine bi ?_|exact aJ _)|exact aN hN rfl rfl|(refine bh hN rfl ?_;first|exact aC _|exact aD _)|exact aK rfl rfl rfl|(simp only [ba,List.map_nil])|(with_reducible refine bu ?_)|(with_reducible refine And.intro ?_ ?_)|(refine ah ?_;omega)|(exact aX hN (by decide))))
 all_goals (refine bX (.inr rfl) (by first|rfl|(simp (disch:=first|decide|omega|(simp only [List.length_cons,List.length_nil];omega)) only [bG,bK,bN,bO,go_sem,beq_self_eq_true,↓ao,↓aj hN,ak hN,reduceIte,reduceCtorEq,Nat.reduceAdd,Nat.reduceLT,Nat.reduceLeDiff,Nat.reduceEqDiff,Nat.reduceSub];rfl)) ?_)
 all_goals simp [*]
theorem mX (xs : List Int) (x : Int) (hx : xs.Pairwise (· < ·)) (hl : xs.length ≤ 1048576) : ap Try.prog 120 [.c (.I xs),.c (.int .i64 x)] [] (fun _=>.tup [.c (.int .i64 (fu x xs)),.c (.bool (tf (x ∈ xs)))]):=by
 have hpl:=pt x xs
 (refine bf aI Try.func120 rfl rfl (by kernel_rfl) fun hp0 ν hX hN=>?_;simp only [bW,Nat.reduceAdd])
 (repeat' (first|(with_reducible first|(apply hK;clear hK K)|refine stZ ?_|refine aT rfl ?_|((first|apply ae|apply af);clear ae X af Y))|(with_reducible refine aW ?_;first|refine aU rfl ?_|refine aV rfl ?_)|(with_reducible refine bv ?_;first|refine bd rfl rfl rfl rfl ?_|refine bt rfl rfl rfl ?_|refine bI rfl rfl rfl rfl ?_)|((first|(with_reducible first|((first|refine aZ ?_|refine a8 ?_);intro K hK)|(refine aE ?_;intro X Y ae af)|refine aF ?_)|(with_reducible refine bv ?_;refine be rfl rfl fun X Y ae af=>?_));simp (disch:=first|decide|omega|(simp only [List.length_cons,List.length_nil];omega)) only [go_sem,↓aj hN,ak hN,reduceIte,reduceCtorEq,Nat.reduceAdd,Nat.reduceLT,Nat.reduceLeDiff,Nat.reduceEqDiff,Nat.reduceSub])|(with_reducible refine And.intro (fun h=>?_) (fun h=>?_) <;> try (exfalso;omega))|(with_reducible refine aY aI hN ?_)|(with_reducible refine And.intro ?_ ?_)|(refine ah ?_;omega)|(exact aX hN (by decide))))
 (refine bT (fun (y : Nat × Nat)=>(tmL [(7,.c (.int .i64 y.1)),(8,.c (.int .i64 y.2)),(6,.c (.int .i64 xs.length)),(0,.c (.I xs)),(1,.c (.int .i64 x))],hpL hp0 ν [])) (fun (y : Nat × Nat)=>y.1 ≤ fu x xs ∧ fu x xs ≤ y.2 ∧ y.2 ≤ xs.length) (fun (y : Nat × Nat)=>y.2 - y.1) ⟨(0,xs.length),?_,bB hX hN [] ?_ ?_⟩ ?_;(repeat' (first|(with_reducible first|exact clZ|refine bw ?_ ?_|refine bz ?_ ?_|rfl|refine suZ ?_)|refine bA rfl ?_ ?_|exact aP hN _ rfl rfl rfl|exact aQ hN _ rfl rfl rfl|exact ax hN _ rfl rfl rfl (Or.inr rfl)|(refine aR hN _ rfl rfl (by first|exact Or.inr rfl|exact Or.inl rfl) ?_;first|exact aC _|exact aD _)|refine ay hN rfl ?_|refine az hN rfl rfl ?_|exact au hN _ rfl rfl|exact aA hN rfl rfl rfl rfl|(with_reducible first|refine stZ ?_|refine aO ?_)));(try (any_goals (first|(with_reducible rfl)|(refine ah ?_;omega)))))
 rintro ⟨i,j⟩ ⟨h1,h2,h3⟩
 dsimp only at h1 h2 h3 ⊢
 have hm:=wh (i:=i) (j:=j) (by omega)
 (repeat' (first|(with_reducible first|(apply hK;clear hK K)|refine stZ ?_|refine aT rfl ?_|((first|apply ae|apply af);clear ae X af Y))|(with_reducible refine aW ?_;first|refine aU rfl ?_|refine aV rfl ?_)|(with_reducible refine bv ?_;first|refine bd rfl rfl rfl rfl ?_|refine bt rfl rfl rfl ?_|refine bI rfl rfl rfl rfl ?_)|((first|(with_reducible first|((first|refine aZ ?_|refine a8 ?_);intro K hK)|(refine aE ?_;intro X Y ae af)|refine aF ?_)|(with_reducible refine bv ?_;refine be rfl rfl fun X Y ae af=>?_));simp (disch:=first|decide|omega|(simp only [List.length_cons,List.length_nil];omega)) only [go_sem,↓aj hN,ak hN,reduceIte,reduceCtorEq,Nat.reduceAdd,Nat.reduceLT,Nat.reduceLeDiff,Nat.reduceEqDiff,Nat.reduceSub])|(with_reducible refine And.intro (fun h=>?_) (fun h=>?_) <;> try (exfalso;omega))|(with_reducible refine aY aI hN ?_)|(rw [hm])|(refine aB (qG ?_ ?_) ?_ rfl (fun _=>rfl) ?_)|(refine aB (uw ?_) ?_ rfl (fun _=>rfl) ?_)|(with_reducible first|exact aq|refine am ?_ ?_|exact bH _|refine aM ?_|exact aL _|exact bj _ _|refine bi ?_|exact aJ _)|exact aN hN rfl rfl|(refine bh hN rfl ?_;first|exact aC _|exact aD _)|exact aK rfl rfl rfl|(simp only [ba,List.map_nil])|(with_reducible refine bu ?_)|(with_reducible refine And.intro ?_ ?_)|(refine ah ?_;omega)|(exact aX hN (by decide))))
 · have h4:=(gu hx ((i + j) / 2) (by omega)).1 (by assumption)
   (refine ⟨((i + j) / 2 + 1,j),⟨?_,?_⟩,bB hX hN [] ?_ ?_⟩;(try any_goals dsimp only);(repeat' (first|(with_reducible first|exact clZ|refine bw ?_ ?_|refine bz ?_ ?_|rfl|refine suZ ?_)|refine bA rfl ?_ ?_|exact aP hN _ rfl rfl rfl|exact aQ hN _ rfl rfl rfl|exact ax hN _ rfl rfl rfl (Or.inr rfl)|(refine aR hN _ rfl rfl (by first|exact Or.inr rfl|exact Or.inl rfl) ?_;first|exact aC _|exact aD _)|refine ay hN rfl ?_|refine az hN rfl rfl ?_|exact au hN _ rfl rfl|exact aA hN rfl rfl rfl rfl|(with_reducible first|refine stZ ?_|refine aO ?_)));(try (any_goals (first|(with_reducible rfl)|(refine ah ?_;omega)))))
 · have h4 : ¬ (i + j) / 2 < fu x xs:=fun h=>absurd ((gu hx ((i + j) / 2) (by omega)).2 h) (by assumption)
   (refine ⟨(i,(i + j) / 2),⟨?_,?_⟩,bB hX hN [] ?_ ?_⟩;(try any_goals dsimp only);(repeat' (first|(with_reducible first|exact clZ|refine bw ?_ ?_|refine bz ?_ ?_|rfl|refine suZ ?_)|refine bA rfl ?_ ?_|exact aP hN _ rfl rfl rfl|exact aQ hN _ rfl rfl rfl|exact ax hN _ rfl rfl rfl (Or.inr rfl)|(refine aR hN _ rfl rfl (by first|exact Or.inr rfl|exact Or.inl rfl) ?_;first|exact aC _|exact aD _)|refine ay hN rfl ?_|refine az hN rfl rfl ?_|exact au hN _ rfl rfl|exact aA hN rfl rfl rfl rfl|(with_reducible first|refine stZ ?_|refine aO ?_)));(try (any_goals (first|(with_reducible rfl)|(refine ah ?_;omega)))))
 · have e : i = fu x xs:=by omega
   have hm : x ∈ xs:=(j7 hx).2 ⟨by omega,by rw [← e];assumption⟩
   (refine dY hN [] (by decide) (.inr rfl) (by first|exact bZ rfl rfl|exact bU hN rfl rfl rfl rfl|exact bQ hN rfl rfl rfl rfl rfl|(simp (disch:=first|decide|omega|(simp only [List.length_cons,List.length_nil];omega)) only [bG,bK,bN,bO,go_sem,beq_self_eq_true,↓ao,↓aj hN,ak hN,reduceIte,reduceCtorEq,Nat.reduceAdd,Nat.reduceLT,Nat.reduceLeDiff,Nat.reduceEqDiff,Nat.reduceSub];rfl)|rfl) ?_ fun νs hνs=>?_;(repeat' (first|exact Gone.nil|(refine Gone.cons rfl rfl ?_ ?_)|(with_reducible refine di ?_)|(with_reducible refine dh ?_)|(with_reducible refine SVs.cons ?_ ?_)|(with_reducible exact SVs.nil)|(simp only [List.drop,List.take])|(simp (disch:=first|decide|omega) only [↓ao,reduceIte,reduceCtorEq,Nat.reduceEqDiff])|(with_reducible exact ge _)|(with_reducible exact df _)|(exact dg rfl rfl rfl)|(exact dI 0 (by simp) rfl rfl)|(refine dW hN rfl (dj hN (by decide)) ?_)|(with_reducible refine dV ?_)|(with_reducible rfl)|(with_reducible refine gj ?_)|(with_reducible refine gl ?_)|(with_reducible refine gm ?_)|(with_reducible refine fV ?_)|(with_reducible refine fK ?_)|(refine ah ?_;omega))))
   rw [bc hm]
 · have e : i = fu x xs:=by omega
   have hm : ¬ x ∈ xs:=fun h=>by
    have h5:=((j7 hx).1 h).2
    rw [← e] at h5
    have h6 : (gi xs i == x) = false:=by assumption
    rw [h5] at h6
    simp at h6
   (refine dY hN [] (by decide) (.inr rfl) (by first|exact bZ rfl rfl|exact bU hN rfl rfl rfl rfl|exact bQ hN rfl rfl rfl rfl rfl|(simp (disch:=first|decide|omega|(simp only [List.length_cons,List.length_nil];omega)) only [bG,bK,bN,bO,go_sem,beq_self_eq_true,↓ao,↓aj hN,ak hN,reduceIte,reduceCtorEq,Nat.reduceAdd,Nat.reduceLT,Nat.reduceLeDiff,Nat.reduceEqDiff,Nat.reduceSub];rfl)|rfl) ?_ fun νs hνs=>?_;(repeat' (first|exact Gone.nil|(refine Gone.cons rfl rfl ?_ ?_)|(with_reducible refine di ?_)|(with_reducible refine dh ?_)|(with_reducible refine SVs.cons ?_ ?_)|(with_reducible exact SVs.nil)|(simp only [List.drop,List.take])|(simp (disch:=first|decide|omega) only [↓ao,reduceIte,reduceCtorEq,Nat.reduceEqDiff])|(with_reducible exact ge _)|(with_reducible exact df _)|(exact dg rfl rfl rfl)|(exact dI 0 (by simp) rfl rfl)|(refine dW hN rfl (dj hN (by decide)) ?_)|(with_reducible refine dV ?_)|(with_reducible rfl)|(with_reducible refine gj ?_)|(with_reducible refine gl ?_)|(with_reducible refine gm ?_)|(with_reducible refine fV ?_)|(with_reducible refine fK ?_)|(refine ah ?_;omega))))
   rw [aH hm]
 · have e : i = fu x xs:=by omega
   have hm : ¬ x ∈ xs:=fun h=>by have:=((j7 hx).1 h).1;omega
   (refine dY hN [] (by decide) (.inr rfl) (by first|exact bZ rfl rfl|exact bU hN rfl rfl rfl rfl|exact bQ hN rfl rfl rfl rfl rfl|(simp (disch:=first|decide|omega|(simp only [List.length_cons,List.length_nil];omega)) only [bG,bK,bN,bO,go_sem,beq_self_eq_true,↓ao,↓aj hN,ak hN,reduceIte,reduceCtorEq,Nat.reduceAdd,Nat.reduceLT,Nat.reduceLeDiff,Nat.reduceEqDiff,Nat.reduceSub];rfl)|rfl) ?_ fun νs hνs=>?_;(repeat' (first|exact Gone.nil|(refine Gone.cons rfl rfl ?_ ?_)|(with_reducible refine di ?_)|(with_reducible refine dh ?_)|(with_reducible refine SVs.cons ?_ ?_)|(with_reducible exact SVs.nil)|(simp only [List.drop,List.take])|(simp (disch:=first|decide|omega) only [↓ao,reduceIte,reduceCtorEq,Nat.reduceEqDiff])|(with_reducible exact ge _)|(with_reducible exact df _)|(exact dg rfl rfl rfl)|(exact dI 0 (by simp) rfl rfl)|(refine dW hN rfl (dj hN (by decide)) ?_)|(with_reducible refine dV ?_)|(with_reducible rfl)|(with_reducible refine gj ?_)|(with_reducible refine gl ?_)|(with_reducible refine gm ?_)|(with_reducible refine fV ?_)|(with_reducible refine fK ?_)|(refine ah ?_;omega))))
   rw [aH hm]
theorem qH (a b : List Int) (ha : a.length ≤ 1048576) (hb : b.Pairwise (· < ·)) (hbl : b.length ≤ 1048576) : ap Try.prog 95 [.c (.I a),.c (.I b)] [.arr 2 .yes (.I (dB (fun x=>¬ x ∈ b) a a.length))] (fun ns=>.sl (ns.getD 0 0)):=by
 (refine bf aI Try.func95 rfl rfl (by kernel_rfl) fun hp0 ν hX hN=>?_;simp only [bW,Nat.reduceAdd])
 (repeat' (first|(with_reducible first|(apply hK;clear hK K)|refine stZ ?_|refine aT rfl ?_|((first|apply ae|apply af);clear ae X af Y))|(with_reducible refine aW ?_;first|refine aU rfl ?_|refine aV rfl ?_)|((with_reducible first|((first|refine aZ ?_|refine a8 ?_);intro K hK)|(refine aE ?_;intro X Y ae af)|refine aF ?_);simp (disch:=first|decide|omega|(simp only [List.length_cons,List.length_nil];omega)) only [go_sem,↓aj hN,ak hN,reduceIte,reduceCtorEq,Nat.reduceAdd,Nat.reduceLT,Nat.reduceLeDiff,Nat.reduceEqDiff,Nat.reduceSub])|(with_reducible refine And.intro (fun h=>?_) (fun h=>?_) <;> try (exfalso;omega))|(with_reducible refine aY aI hN ?_)|(with_reducible refine And.intro ?_ ?_)|(refine ah ?_;omega)|(exact aX hN (by decide))))
 (refine bT (fun (k : Nat)=>(tmL [(13,.c (.int .i64 k)),(12,.c (.int .i64 a.length)),(11,.c (.I a)),(5,.sl (ν 0)),(1,.c (.I b))],hpL hp0 ν [.arr 2 .yes (.I (dB (fun x=>¬ x ∈ b) a k))])) (fun (k : Nat)=>k ≤ a.length) (fun (k : Nat)=>a.length - k) ⟨0,?_,bB hX hN [] ?_ ?_⟩ ?_;(repeat' (first|(with_reducible first|exact clZ|refine bw ?_ ?_|refine bz ?_ ?_|rfl|refine suZ ?_)|refine bA rfl ?_ ?_|exact aP hN _ rfl rfl rfl|exact aQ hN _ rfl rfl rfl|exact ax hN _ rfl rfl rfl (Or.inr rfl)|(refine aR hN _ rfl rfl (by first|exact Or.inr rfl|exact Or.inl rfl) ?_;first|exact aC _|exact aD _)|refine ay hN rfl ?_|refine az hN rfl rfl ?_|exact au hN _ rfl rfl|exact aA hN rfl rfl rfl rfl|(with_reducible first|refine stZ ?_|refine aO ?_)));(try (any_goals (first|(with_reducible rfl)|(refine ah ?_;omega)))))
 · rfl
 intro k hk
 have hfl:=fg (fun x=>¬ x ∈ b) a k
 (repeat' (first|(with_reducible first|(apply hK;clear hK K)|refine stZ ?_|refine aT rfl ?_|((first|apply ae|apply af);clear ae X af Y))|(with_reducible refine aW ?_;first|refine aU rfl ?_|refine aV rfl ?_)|((with_reducible first|((first|refine aZ ?_|refine a8 ?_);intro K hK)|(refine aE ?_;intro X Y ae af)|refine aF ?_);simp (disch:=first|decide|omega|(simp only [List.length_cons,List.length_nil];omega)) only [go_sem,↓aj hN,ak hN,reduceIte,reduceCtorEq,Nat.reduceAdd,Nat.reduceLT,Nat.reduceLeDiff,Nat.reduceEqDiff,Nat.reduceSub])|(with_reducible refine And.intro (fun h=>?_) (fun h=>?_) <;> try (exfalso;omega))|(with_reducible refine aY aI hN ?_)|(refine aB (mX b ?_ hb hbl) ?_ rfl (fun _=>rfl) ?_)|(with_reducible first|exact aq|refine am ?_ ?_|exact bH _|refine aM ?_|exact aL _|exact bj _ _|refine bi ?_|exact aJ _)|exact aN hN rfl rfl|(refine bh hN rfl ?_;first|exact aC _|exact aD _)|exact aK rfl rfl rfl|(simp only [ba,List.map_nil])|(with_reducible refine bu ?_)|(with_reducible refine And.intro ?_ ?_)|(refine ah ?_;omega)|(exact aX hN (by decide))))
 · (refine ⟨k + 1,⟨?_,?_⟩,bB hX hN [(0,2)] ?_ ?_⟩;(try any_goals dsimp only);(repeat' (first|(with_reducible first|exact clZ|refine bw ?_ ?_|refine bz ?_ ?_|rfl|refine suZ ?_)|refine bA rfl ?_ ?_|exact aP hN _ rfl rfl rfl|exact aQ hN _ rfl rfl rfl|exact ax hN _ rfl rfl rfl (Or.inr rfl)|(refine aR hN _ rfl rfl (by first|exact Or.inr rfl|exact Or.inl rfl) ?_;first|exact aC _|exact aD _)|refine ay hN rfl ?_|refine az hN rfl rfl ?_|exact au hN _ rfl rfl|exact aA hN rfl rfl rfl rfl|(with_reducible first|refine stZ ?_|refine aO ?_)));(try (any_goals (first|(with_reducible rfl)|(refine ah ?_;omega)))))
   exact c9 (by assumption)
 · (refine ⟨k + 1,⟨?_,?_⟩,bB hX hN [] ?_ ?_⟩;(try any_goals dsimp only);(repeat' (first|(with_reducible first|exact clZ|refine bw ?_ ?_|refine bz ?_ ?_|rfl|refine suZ ?_)|refine bA rfl ?_ ?_|exact aP hN _ rfl rfl rfl|exact aQ hN _ rfl rfl rfl|exact ax hN _ rfl rfl rfl (Or.inr rfl)|(refine aR hN _ rfl rfl (by first|exact Or.inr rfl|exact Or.inl rfl) ?_;first|exact aC _|exact aD _)|refine ay hN rfl ?_|refine az hN rfl rfl ?_|exact au hN _ rfl rfl|exact aA hN rfl rfl rfl rfl|(with_reducible first|refine stZ ?_|refine aO ?_)));(try (any_goals (first|(with_reducible rfl)|(refine ah ?_;omega)))))
   exact dl fun h=>h (by assumption)
 · (refine cR hN (i:=0) (.inr rfl) (by first|rfl|(simp (disch:=first|decide|omega|(simp only [List.length_cons,List.length_nil];omega)) only [bG,bK,bN,bO,go_sem,beq_self_eq_true,↓ao,↓aj hN,ak hN,reduceIte,reduceCtorEq,Nat.reduceAdd,Nat.reduceLT,Nat.reduceLeDiff,Nat.reduceEqDiff,Nat.reduceSub];rfl)) rfl ?_ rfl)
   rw [show k = a.length by omega]
end Go.Proofs.Ythjamlponejffaa
