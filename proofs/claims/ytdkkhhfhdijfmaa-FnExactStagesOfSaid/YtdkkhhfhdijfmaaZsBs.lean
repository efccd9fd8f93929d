/-
  Binary search in a set; what is in one set and not in another one.
-/
import Derived.Test.YtdkkhhfhdijfmaaZsKf
import Derived.Test.YtdkkhhfhdijfmaaZsCb
import Derived.Test.YtdkkhhfhdijfmaaZsAt2
namespace Go.Proofs.Ytdkkhhfhdijfmaa
set_option linter.unusedVariables false
set_option linter.unusedSimpArgs false
open Go.RowKit
attribute [local irreducible] ay b9 Aw Le
def eR (x : Int) : List Int → Nat
 | [] => 0
 | o :: os => if o < x then eR x os + 1 else 0
theorem oE (x : Int) : ∀ os,eR x os ≤ os.length
 | [] => Nat.le_refl _
 | o :: os => by
   unfold eR
   split
   · exact Nat.succ_le_succ (oE x os)
   · exact Nat.zero_le _
theorem fT {x : Int} : ∀ {os : List Int},os.Pairwise (· < ·) → ∀ i,i < os.length → (gi os i < x ↔ i < eR x os)
 | [], _, i, h => absurd h (Nat.not_lt_zero _)
 | o :: os, hp, i, h => by
   rw [List.pairwise_cons] at hp
   unfold eR
   rcases i with _|i
   · show o < x ↔ _
     split
     · rename_i e;exact ⟨fun _=>Nat.succ_pos _,fun _=>e⟩
     · rename_i e;exact ⟨fun h=>absurd h e,fun h=>absurd h (Nat.not_lt_zero _)⟩
   · have hi : i < os.length:=by simpa using h
     show gi os i < x ↔ _
     have ih:=fT (x:=x) hp.2 i hi
     split
     · rw [ih];omega
     · rename_i e
       have:=hp.1 _ (db hi)
       exact ⟨fun h=>absurd h (by omega),fun h=>absurd h (Nat.not_lt_zero _)⟩
theorem ls {xs : List Int} {m : Int} (h : cu xs m) : xs.Pairwise (· < ·):=by
 rw [List.pairwise_iff_getElem]
 have key : ∀ d i,i + d + 1 < xs.length → gi xs i < gi xs (i + d + 1):=by
  intro d
  induction d with
  | zero => intro i hi; exact (h (i + 1) hi).2.2 (Nat.succ_pos _)
  | succ d ih =>
    intro i hi
    have h1:=ih i (by omega)
    have h2:=(h (i + d + 1 + 1) (by omega)).2.2 (Nat.succ_pos _)
    rw [show i + d + 1 + 1 - 1 = i + d + 1 by omega] at h2
    rw [show i + (d + 1) + 1 = i + d + 1 + 1 by omega]
    omega
 intro i j hi hj hij
 have:=key (j - i - 1) i (by omega)
 rw [show i + (j - i - 1) + 1 = j by omega] at this
 rwa [dq hi,dq hj] at this
theorem jN {x : Int} {xs : List Int} (h : xs.Pairwise (· < ·)) : x ∈ xs ↔ eR x xs < xs.length ∧ gi xs (eR x xs) = x:=by
 constructor
 · intro hx
   obtain ⟨k,hk,e⟩:=d4 hx
   have h1:=fT (x:=x) h k hk
   have h2 : ¬ k < eR x xs:=fun h'=>by have:=h1.2 h';omega
   rcases Nat.lt_or_ge (eR x xs) k with h3|h3
   · have h4:=fT (x:=x) h (eR x xs) (by omega)
     have h5:=List.pairwise_iff_getElem.1 h (eR x xs) k (by omega) hk h3
     rw [← dq (by omega : eR x xs < xs.length),← dq hk] at h5
     have:=h4.1 (by omega)
     omega
   · have : eR x xs = k:=by omega
     rw [this];exact ⟨hk,e⟩
 · rintro ⟨h1,h2⟩;rw [← h2];exact db h1
theorem t9 {i j : Nat} (h : i + j ≤ 9223372036854775807) : IntKind.i64.wrap (rA .u64 (IntKind.u64.wrap ((i : Int) + (j : Int))) 1) = (((i + j) / 2 : Nat) : Int):=by
 have e1 : IntKind.u64.wrap ((i : Int) + (j : Int)) = ((i + j : Nat) : Int):=by
  simp [IntKind.wrap,IntKind.bits,IntKind.signed];omega
 rw [e1]
 unfold rA
 have e2 : (2 : Int) ^ min (1 : Int).toNat IntKind.u64.bits = 2:=by decide
 rw [e2,Int.fdiv_eq_ediv_of_nonneg _ (by decide)]
 rw [vG (by omega)]
 omega
theorem sG (x : Int) : ay Try.prog 80 [.c (.int .i64 x)] [] (fun _=>.c (.bool false)):=by
 (refine bv aE Try.func80 rfl rfl (by kernel_rfl) fun hp0 ν hX hN=>?_;simp only [co,Nat.reduceAdd])
 (repeat' (first|(with_reducible first|(apply hK;clear hK K)|refine stZ ?_|refine aQ rfl ?_|((first|apply ae|apply af);clear ae X af Y))|(with_reducible refine aT ?_;first|refine aR rfl ?_|refine aS rfl ?_)|((with_reducible first|((first|refine aW ?_|refine aX ?_);intro K hK)|(refine aC ?_;intro X Y ae af)|refine aD ?_);simp (disch:=first|decide|omega|(simp only [List.length_cons,List.length_nil];omega)) only [go_sem,↓aj hN,am hN,reduceIte,reduceCtorEq,Nat.reduceAdd,Nat.reduceLT,Nat.reduceLeDiff,Nat.reduceEqDiff,Nat.reduceSub])|(with_reducible refine And.intro (fun h=>?_) (fun h=>?_) <;> try (exfalso;omega))|(with_reducible refine aV aE hN ?_)|(with_reducible refine And.intro ?_ ?_)|(refine ah ?_;omega)|(exact aU hN (by decide))))
 all_goals (refine cU (.inr rfl) (by first|rfl|(simp (disch:=first|decide|omega|(simp only [List.length_cons,List.length_nil];omega)) only [bS,bV,bW,b7,go_sem,beq_self_eq_true,↓az,↓aj hN,am hN,reduceIte,reduceCtorEq,Nat.reduceAdd,Nat.reduceLT,Nat.reduceLeDiff,Nat.reduceEqDiff,Nat.reduceSub];rfl)) ?_)
 all_goals simp
theorem sH (x : Int) : ay Try.prog 78 [.c (.int .i64 x)] [] (fun _=>.c (.bool false)):=by
 (refine bv aE Try.func78 rfl rfl (by kernel_rfl) fun hp0 ν hX hN=>?_;simp only [co,Nat.reduceAdd])
 (repeat' (first|(with_reducible first|(apply hK;clear hK K)|refine stZ ?_|refine aQ rfl ?_|((first|apply ae|apply af);clear ae X af Y))|(with_reducible refine aT ?_;first|refine aR rfl ?_|refine aS rfl ?_)|((with_reducible first|((first|refine aW ?_|refine aX ?_);intro K hK)|(refine aC ?_;intro X Y ae af)|refine aD ?_);simp (disch:=first|decide|omega|(simp only [List.length_cons,List.length_nil];omega)) only [go_sem,↓aj hN,am hN,reduceIte,reduceCtorEq,Nat.reduceAdd,Nat.reduceLT,Nat.reduceLeDiff,Nat.reduceEqDiff,Nat.reduceSub])|(with_reducible refine And.intro (fun h=>?_) (fun h=>?_) <;> try (exfalso;omega))|(with_reducible refine aV aE hN ?_)|(with_reducible refine And.intro ?_ ?_)|(refine ah ?_;omega)|(exact aU hN (by decide))))
 all_goals (refine cU (.inr rfl) (by first|rfl|(simp (disch:=first|decide|omega|(simp only [List.length_cons,List.length_nil];omega)) only [bS,bV,bW,b7,go_sem,beq_self_eq_true,↓az,↓aj hN,am hN,reduceIte,reduceCtorEq,Nat.reduceAdd,Nat.reduceLT,Nat.reduceLeDiff,Nat.reduceEqDiff,Nat.reduceSub];rfl)) ?_)
 all_goals simp
theorem pp (x y : Int) : ay Try.prog 77 [.c (.int .i64 x),.c (.int .i64 y)] [] (fun _=>.c (.bool (decide (x < y)))):=by
 (refine bv aE Try.func77 rfl rfl (by kernel_rfl) fun hp0 ν hX hN=>?_;simp only [co,Nat.reduceAdd])
 (repeat' (first|(with_reducible first|(apply hK;clear hK K)|refine stZ ?_|refine aQ rfl ?_|((first|apply ae|apply af);clear ae X af Y))|(with_reducible refine aT ?_;first|refine aR rfl ?_|refine aS rfl ?_)|(with_reducible refine bh ?_;first|refine aM rfl rfl rfl rfl ?_|refine bf rfl rfl rfl ?_|refine bB rfl rfl rfl rfl ?_)|((first|(with_reducible first|((first|refine aW ?_|refine aX ?_);intro K hK)|(refine aC ?_;intro X Y ae af)|refine aD ?_)|(with_reducible refine bh ?_;refine aN rfl rfl fun X Y ae af=>?_));simp (disch:=first|decide|omega|(simp only [List.length_cons,List.length_nil];omega)) only [go_sem,↓aj hN,am hN,reduceIte,reduceCtorEq,Nat.reduceAdd,Nat.reduceLT,Nat.reduceLeDiff,Nat.reduceEqDiff,Nat.reduceSub])|(with_reducible refine And.intro (fun h=>?_) (fun h=>?_) <;> try (exfalso;omega))|(with_reducible refine aV aE hN ?_)|(refine bd (sG ?_) ?_ rfl (fun _=>rfl) ?_)|(with_reducible first|exact aA|refine ax ?_ ?_|exact bP _|refine a9 ?_|exact bc _|exact bA _ _|refine bz ?_|exact aZ _)|exact ba hN rfl rfl|(refine bw hN rfl ?_;first|exact aF _|exact aG _)|exact a8 rfl rfl rfl|(simp only [bt,List.map_nil])|(with_reducible refine bN ?_)|(with_reducible refine And.intro ?_ ?_)|(refine ah ?_;omega)|(exact aU hN (by decide))))
 all_goals (refine cU (.inr rfl) (by first|rfl|(simp (disch:=first|decide|omega|(simp only [List.length_cons,List.length_nil];omega)) only [bS,bV,bW,b7,go_sem,beq_self_eq_true,↓az,↓aj hN,am hN,reduceIte,reduceCtorEq,Nat.reduceAdd,Nat.reduceLT,Nat.reduceLeDiff,Nat.reduceEqDiff,Nat.reduceSub];rfl)) ?_)
 all_goals simp [*]
theorem mq (xs : List Int) (x : Int) (hx : xs.Pairwise (· < ·)) (hl : xs.length ≤ 1048576) : ay Try.prog 74 [.c (.I xs),.c (.int .i64 x)] [] (fun _=>.tup [.c (.int .i64 (eR x xs)),.c (.bool (tf (x ∈ xs)))]):=by
 have hpl:=oE x xs
 (refine bv aE Try.func74 rfl rfl (by kernel_rfl) fun hp0 ν hX hN=>?_;simp only [co,Nat.reduceAdd])
 (repeat' (first|(with_reducible first|(apply hK;clear hK K)|refine stZ ?_|refine aQ rfl ?_|((first|apply ae|apply af);clear ae X af Y))|(with_reducible refine aT ?_;first|refine aR rfl ?_|refine aS rfl ?_)|(with_reducible refine bh ?_;first|refine aM rfl rfl rfl rfl ?_|refine bf rfl rfl rfl ?_|refine bB rfl rfl rfl rfl ?_)|((first|(with_reducible first|((first|refine aW ?_|refine aX ?_);intro K hK)|(refine aC ?_;intro X Y ae af)|refine aD ?_)|(with_reducible refine bh ?_;refine aN rfl rfl fun X Y ae af=>?_));simp (disch:=first|decide|omega|(simp only [List.length_cons,List.length_nil];omega)) only [go_sem,↓aj hN,am hN,reduceIte,reduceCtorEq,Nat.reduceAdd,Nat.reduceLT,Nat.reduceLeDiff,Nat.reduceEqDiff,Nat.reduceSub])|(with_reducible refine And.intro (fun h=>?_) (fun h=>?_) <;> try (exfalso;omega))|(with_reducible refine aV aE hN ?_)|(with_reducible refine And.intro ?_ ?_)|(refine ah ?_;omega)|(exact aU hN (by decide))))
 (refine bM (fun (y : Nat × Nat)=>(tmL [(7,.c (.int .i64 y.1)),(8,.c (.int .i64 y.2)),(6,.c (.int .i64 xs.length)),(0,.c (.I xs)),(1,.c (.int .i64 x))],hpL hp0 ν [])) (fun (y : Nat × Nat)=>y.1 ≤ eR x xs ∧ eR x xs ≤ y.2 ∧ y.2 ≤ xs.length) (fun (y : Nat × Nat)=>y.2 - y.1) ⟨(0,xs.length),?_,bj hX hN [] ?_ ?_⟩ ?_;(repeat' (first|(with_reducible first|exact clZ|refine bm ?_ ?_|refine bn ?_ ?_|rfl|refine suZ ?_)|refine bo rfl ?_ ?_|exact aJ hN _ rfl rfl rfl|exact aK hN _ rfl rfl rfl|exact ap hN _ rfl rfl rfl (Or.inr rfl)|(refine aL hN _ rfl rfl (by first|exact Or.inr rfl|exact Or.inl rfl) ?_;first|exact aF _|exact aG _)|refine aq hN rfl ?_|refine au hN rfl rfl ?_|exact ao hN _ rfl rfl|exact aw hN rfl rfl rfl rfl|(with_reducible first|refine stZ ?_|refine aI ?_)));(try (any_goals (first|(with_reducible rfl)|(refine ah ?_;omega)))))
 rintro ⟨i,j⟩ ⟨h1,h2,h3⟩
 dsimp only at h1 h2 h3 ⊢
 have hm:=t9 (i:=i) (j:=j) (by omega)
 (repeat' (first|(with_reducible first|(apply hK;clear hK K)|refine stZ ?_|refine aQ rfl ?_|((first|apply ae|apply af);clear ae X af Y))|(with_reducible refine aT ?_;first|refine aR rfl ?_|refine aS rfl ?_)|(with_reducible refine bh ?_;first|refine aM rfl rfl rfl rfl ?_|refine bf rfl rfl rfl ?_|refine bB rfl rfl rfl rfl ?_)|((first|(with_reducible first|((first|refine aW ?_|refine aX ?_);intro K hK)|(refine aC ?_;intro X Y ae af)|refine aD ?_)|(with_reducible refine bh ?_;refine aN rfl rfl fun X Y ae af=>?_));simp (disch:=first|decide|omega|(simp only [List.length_cons,List.length_nil];omega)) only [go_sem,↓aj hN,am hN,reduceIte,reduceCtorEq,Nat.reduceAdd,Nat.reduceLT,Nat.reduceLeDiff,Nat.reduceEqDiff,Nat.reduceSub])|(with_reducible refine And.intro (fun h=>?_) (fun h=>?_) <;> try (exfalso;omega))|(with_reducible refine aV aE hN ?_)|(rw [hm])|(refine bd (pp ?_ ?_) ?_ rfl (fun _=>rfl) ?_)|(refine bd (sH ?_) ?_ rfl (fun _=>rfl) ?_)|(with_reducible first|exact aA|refine ax ?_ ?_|exact bP _|refine a9 ?_|exact bc _|exact bA _ _|refine bz ?_|exact aZ _)|exact ba hN rfl rfl|(refine bw hN rfl ?_;first|exact aF _|exact aG _)|exact a8 rfl rfl rfl|(simp only [bt,List.map_nil])|(with_reducible refine bN ?_)|(with_reducible refine And.intro ?_ ?_)|(refine ah ?_;omega)|(exact aU hN (by decide))))
 · have h4:=(fT hx ((i + j) / 2) (by omega)).1 (by assumption)
   (refine ⟨((i + j) / 2 + 1,j),⟨?_,?_⟩,bj hX hN [] ?_ ?_⟩;(try any_goals dsimp only);(repeat' (first|(with_reducible first|exact clZ|refine bm ?_ ?_|refine bn ?_ ?_|rfl|refine suZ ?_)|refine bo rfl ?_ ?_|exact aJ hN _ rfl rfl rfl|exact aK hN _ rfl rfl rfl|exact ap hN _ rfl rfl rfl (Or.inr rfl)|(refine aL hN _ rfl rfl (by first|exact Or.inr rfl|exact Or.inl rfl) ?_;first|exact aF _|exact aG _)|refine aq hN rfl ?_|refine au hN rfl rfl ?_|exact ao hN _ rfl rfl|exact aw hN rfl rfl rfl rfl|(with_reducible first|refine stZ ?_|refine aI ?_)));(try (any_goals (first|(with_reducible rfl)|(refine ah ?_;omega)))))
 · have h4 : ¬ (i + j) / 2 < eR x xs:=fun h=>absurd ((fT hx ((i + j) / 2) (by omega)).2 h) (by assumption)
   (refine ⟨(i,(i + j) / 2),⟨?_,?_⟩,bj hX hN [] ?_ ?_⟩;(try any_goals dsimp only);(repeat' (first|(with_reducible first|exact clZ|refine bm ?_ ?_|refine bn ?_ ?_|rfl|refine suZ ?_)|refine bo rfl ?_ ?_|exact aJ hN _ rfl rfl rfl|exact aK hN _ rfl rfl rfl|exact ap hN _ rfl rfl rfl (Or.inr rfl)|(refine aL hN _ rfl rfl (by first|exact Or.inr rfl|exact Or.inl rfl) ?_;first|exact aF _|exact aG _)|refine aq hN rfl ?_|refine au hN rfl rfl ?_|exact ao hN _ rfl rfl|exact aw hN rfl rfl rfl rfl|(with_reducible first|refine stZ ?_|refine aI ?_)));(try (any_goals (first|(with_reducible rfl)|(refine ah ?_;omega)))))
 · have e : i = eR x xs:=by omega
   have hm : x ∈ xs:=(jN hx).2 ⟨by omega,by rw [← e];assumption⟩
   (refine dL hN [] (by decide) (.inr rfl) (by first|exact cr rfl rfl|exact b8 hN rfl rfl rfl rfl|exact bR hN rfl rfl rfl rfl rfl|(simp (disch:=first|decide|omega|(simp only [List.length_cons,List.length_nil];omega)) only [bS,bV,bW,b7,go_sem,beq_self_eq_true,↓az,↓aj hN,am hN,reduceIte,reduceCtorEq,Nat.reduceAdd,Nat.reduceLT,Nat.reduceLeDiff,Nat.reduceEqDiff,Nat.reduceSub];rfl)|rfl) ?_ fun νs hνs=>?_;(repeat' (first|exact Gone.nil|(refine Gone.cons rfl rfl ?_ ?_)|(with_reducible refine cZ ?_)|(with_reducible refine cY ?_)|(with_reducible refine SVs.cons ?_ ?_)|(with_reducible exact SVs.nil)|(simp only [List.drop,List.take])|(simp (disch:=first|decide|omega) only [↓az,reduceIte,reduceCtorEq,Nat.reduceEqDiff])|(with_reducible exact fM _)|(with_reducible exact cW _)|(exact cX rfl rfl rfl)|(exact cx 0 (by simp) rfl rfl)|(refine dK hN rfl (c7 hN (by decide)) ?_)|(with_reducible refine dJ ?_)|(with_reducible rfl)|(with_reducible refine fN ?_)|(with_reducible refine fO ?_)|(with_reducible refine fP ?_)|(with_reducible refine fo ?_)|(with_reducible refine fQ ?_)|(refine ah ?_;omega))))
   rw [bg hm]
 · have e : i = eR x xs:=by omega
   have hm : ¬ x ∈ xs:=fun h=>by
    have h5:=((jN hx).1 h).2
    rw [← e] at h5
    have h6 : (gi xs i == x) = false:=by assumption
    rw [h5] at h6
    simp at h6
   (refine dL hN [] (by decide) (.inr rfl) (by first|exact cr rfl rfl|exact b8 hN rfl rfl rfl rfl|exact bR hN rfl rfl rfl rfl rfl|(simp (disch:=first|decide|omega|(simp only [List.length_cons,List.length_nil];omega)) only [bS,bV,bW,b7,go_sem,beq_self_eq_true,↓az,↓aj hN,am hN,reduceIte,reduceCtorEq,Nat.reduceAdd,Nat.reduceLT,Nat.reduceLeDiff,Nat.reduceEqDiff,Nat.reduceSub];rfl)|rfl) ?_ fun νs hνs=>?_;(repeat' (first|exact Gone.nil|(refine Gone.cons rfl rfl ?_ ?_)|(with_reducible refine cZ ?_)|(with_reducible refine cY ?_)|(with_reducible refine SVs.cons ?_ ?_)|(with_reducible exact SVs.nil)|(simp only [List.drop,List.take])|(simp (disch:=first|decide|omega) only [↓az,reduceIte,reduceCtorEq,Nat.reduceEqDiff])|(with_reducible exact fM _)|(with_reducible exact cW _)|(exact cX rfl rfl rfl)|(exact cx 0 (by simp) rfl rfl)|(refine dK hN rfl (c7 hN (by decide)) ?_)|(with_reducible refine dJ ?_)|(with_reducible rfl)|(with_reducible refine fN ?_)|(with_reducible refine fO ?_)|(with_reducible refine fP ?_)|(with_reducible refine fo ?_)|(with_reducible refine fQ ?_)|(refine ah ?_;omega))))
   rw [aB hm]
 · have e : i = eR x xs:=by omega
   have hm : ¬ x ∈ xs:=fun h=>by have:=((jN hx).1 h).1;omega
   (refine dL hN [] (by decide) (.inr rfl) (by first|exact cr rfl rfl|exact b8 hN rfl rfl rfl rfl|exact bR hN rfl rfl rfl rfl rfl|(simp (disch:=first|decide|omega|(simp only [List.length_cons,List.length_nil];omega)) only [bS,bV,bW,b7,go_sem,beq_self_eq_true,↓az,↓aj hN,am hN,reduceIte,reduceCtorEq,Nat.reduceAdd,Nat.reduceLT,Nat.reduceLeDiff,Nat.reduceEqDiff,Nat.reduceSub];rfl)|rfl) ?_ fun νs hνs=>?_;(repeat' (first|exact Gone.nil|(refine Gone.cons rfl rfl ?_ ?_)|(with_reducible refine cZ ?_)|(with_reducible refine cY ?_)|(with_reducible refine SVs.cons ?_ ?_)|(with_reducible exact SVs.nil)|(simp only [List.drop,List.take])|(simp (disch:=first|decide|omega) only [↓az,reduceIte,reduceCtorEq,Nat.reduceEqDiff])|(with_reducible exact fM _)|(with_reducible exact cW _)|(exact cX rfl rfl rfl)|(exact cx 0 (by simp) rfl rfl)|(refine dK hN rfl (c7 hN (by decide)) ?_)|(with_reducible refine dJ ?_)|(with_reducible rfl)|(with_reducible refine fN ?_)|(with_reducible refine fO ?_)|(with_reducible refine fP ?_)|(with_reducible refine fo ?_)|(with_reducible refine fQ ?_)|(refine ah ?_;omega))))
   rw [aB hm]
theorem kz (a b : List Int) (ha : a.length ≤ 1048576) (hb : b.Pairwise (· < ·)) (hbl : b.length ≤ 1048576) : ay Try.prog 60 [.c (.I a),.c (.I b)] [.arr 2 .yes (.I (e8 (fun x=>¬ x ∈ b) a a.length))] (fun ns=>.sl (ns.getD 0 0)):=by
 (refine bv aE Try.func60 rfl rfl (by kernel_rfl) fun hp0 ν hX hN=>?_;simp only [co,Nat.reduceAdd])
 (repeat' (first|(with_reducible first|(apply hK;clear hK K)|refine stZ ?_|refine aQ rfl ?_|((first|apply ae|apply af);clear ae X af Y))|(with_reducible refine aT ?_;first|refine aR rfl ?_|refine aS rfl ?_)|((with_reducible first|((first|refine aW ?_|refine aX ?_);intro K hK)|(refine aC ?_;intro X Y ae af)|refine aD ?_);simp (disch:=first|decide|omega|(simp only [List.length_cons,List.length_nil];omega)) only [go_sem,↓aj hN,am hN,reduceIte,reduceCtorEq,Nat.reduceAdd,Nat.reduceLT,Nat.reduceLeDiff,Nat.reduceEqDiff,Nat.reduceSub])|(with_reducible refine And.intro (fun h=>?_) (fun h=>?_) <;> try (exfalso;omega))|(with_reducible refine aV aE hN ?_)|(with_reducible refine And.intro ?_ ?_)|(refine ah ?_;omega)|(exact aU hN (by decide))))
 (refine bM (fun (k : Nat)=>(tmL [(13,.c (.int .i64 k)),(12,.c (.int .i64 a.length)),(11,.c (.I a)),(5,.sl (ν 0)),(1,.c (.I b))],hpL hp0 ν [.arr 2 .yes (.I (e8 (fun x=>¬ x ∈ b) a k))])) (fun (k : Nat)=>k ≤ a.length) (fun (k : Nat)=>a.length - k) ⟨0,?_,bj hX hN [] ?_ ?_⟩ ?_;(repeat' (first|(with_reducible first|exact clZ|refine bm ?_ ?_|refine bn ?_ ?_|rfl|refine suZ ?_)|refine bo rfl ?_ ?_|exact aJ hN _ rfl rfl rfl|exact aK hN _ rfl rfl rfl|exact ap hN _ rfl rfl rfl (Or.inr rfl)|(refine aL hN _ rfl rfl (by first|exact Or.inr rfl|exact Or.inl rfl) ?_;first|exact aF _|exact aG _)|refine aq hN rfl ?_|refine au hN rfl rfl ?_|exact ao hN _ rfl rfl|exact aw hN rfl rfl rfl rfl|(with_reducible first|refine stZ ?_|refine aI ?_)));(try (any_goals (first|(with_reducible rfl)|(refine ah ?_;omega)))))
 · rfl
 intro k hk
 have hfl:=lL (fun x=>¬ x ∈ b) a k
 (repeat' (first|(with_reducible first|(apply hK;clear hK K)|refine stZ ?_|refine aQ rfl ?_|((first|apply ae|apply af);clear ae X af Y))|(with_reducible refine aT ?_;first|refine aR rfl ?_|refine aS rfl ?_)|((with_reducible first|((first|refine aW ?_|refine aX ?_);intro K hK)|(refine aC ?_;intro X Y ae af)|refine aD ?_);simp (disch:=first|decide|omega|(simp only [List.length_cons,List.length_nil];omega)) only [go_sem,↓aj hN,am hN,reduceIte,reduceCtorEq,Nat.reduceAdd,Nat.reduceLT,Nat.reduceLeDiff,Nat.reduceEqDiff,Nat.reduceSub])|(with_reducible refine And.intro (fun h=>?_) (fun h=>?_) <;> try (exfalso;omega))|(with_reducible refine aV aE hN ?_)|(refine bd (mq b ?_ hb hbl) ?_ rfl (fun _=>rfl) ?_)|(with_reducible first|exact aA|refine ax ?_ ?_|exact bP _|refine a9 ?_|exact bc _|exact bA _ _|refine bz ?_|exact aZ _)|exact ba hN rfl rfl|(refine bw hN rfl ?_;first|exact aF _|exact aG _)|exact a8 rfl rfl rfl|(simp only [bt,List.map_nil])|(with_reducible refine bN ?_)|(with_reducible refine And.intro ?_ ?_)|(refine ah ?_;omega)|(exact aU hN (by decide))))
 · (refine ⟨k + 1,⟨?_,?_⟩,bj hX hN [(0,2)] ?_ ?_⟩;(try any_goals dsimp only);(repeat' (first|(with_reducible first|exact clZ|refine bm ?_ ?_|refine bn ?_ ?_|rfl|refine suZ ?_)|refine bo rfl ?_ ?_|exact aJ hN _ rfl rfl rfl|exact aK hN _ rfl rfl rfl|exact ap hN _ rfl rfl rfl (Or.inr rfl)|(refine aL hN _ rfl rfl (by first|exact Or.inr rfl|exact Or.inl rfl) ?_;first|exact aF _|exact aG _)|refine aq hN rfl ?_|refine au hN rfl rfl ?_|exact ao hN _ rfl rfl|exact aw hN rfl rfl rfl rfl|(with_reducible first|refine stZ ?_|refine aI ?_)));(try (any_goals (first|(with_reducible rfl)|(refine ah ?_;omega)))))
   exact fA (by assumption)
 · (refine ⟨k + 1,⟨?_,?_⟩,bj hX hN [] ?_ ?_⟩;(try any_goals dsimp only);(repeat' (first|(with_reducible first|exact clZ|refine bm ?_ ?_|refine bn ?_ ?_|rfl|refine suZ ?_)|refine bo rfl ?_ ?_|exact aJ hN _ rfl rfl rfl|exact aK hN _ rfl rfl rfl|exact ap hN _ rfl rfl rfl (Or.inr rfl)|(refine aL hN _ rfl rfl (by first|exact Or.inr rfl|exact Or.inl rfl) ?_;first|exact aF _|exact aG _)|refine aq hN rfl ?_|refine au hN rfl rfl ?_|exact ao hN _ rfl rfl|exact aw hN rfl rfl rfl rfl|(with_reducible first|refine stZ ?_|refine aI ?_)));(try (any_goals (first|(with_reducible rfl)|(refine ah ?_;omega)))))
   exact fZ fun h=>h (by assumption)
 · (refine cV hN (i:=0) (.inr rfl) (by first|rfl|(simp (disch:=first|decide|omega|(simp only [List.length_cons,List.length_nil];omega)) only [bS,bV,bW,b7,go_sem,beq_self_eq_true,↓az,↓aj hN,am hN,reduceIte,reduceCtorEq,Nat.reduceAdd,Nat.reduceLT,Nat.reduceLeDiff,Nat.reduceEqDiff,Nat.reduceSub];rfl)) rfl ?_ rfl)
   rw [show k = a.length by omega]
end Go.Proofs.Ytdkkhhfhdijfmaa
