/-
  Traps: the vertices by which a set is none.
-/
import Derived.Test.YthjamlponejffaaZhE13
import Derived.Test.YthjamlponejffaaZhG3
namespace Go.Proofs.Ythjamlponejffaa
set_option linter.unusedVariables false
set_option linter.unusedSimpArgs false
open Go.RowKit
attribute [local irreducible] ap b7 Aw Le
theorem sS {p : Int → Prop} {xs : List Int} : ∀ k,k ≤ xs.length → (dB p xs k = [] ↔ ∀ j,j < k → ¬ p (gi xs j)):=by
 intro k
 induction k with
 | zero => intro _; exact ⟨fun _ j h => absurd h (Nat.not_lt_zero _), fun _ => rfl⟩
 | succ k ih =>
   intro hk
   by_cases h : p (gi xs k)
   · rw [c9 h]
     exact ⟨fun e=>absurd e (by simp),fun e=>absurd h (e k (by omega))⟩
   · rw [dl h,ih (by omega)]
     exact ⟨fun e=>d5 e h,fun e j hj=>e j (by omega)⟩
theorem qQ (g : Gm) (n : Nat) (hg : GmOk g n) (inn : List Bool) (hi : inn.length = n) (who : Int) (ht : PG.Total (cO g n) (fun v=>gb inn v = true)) : ap Try.prog 124 [gmA g,.c (.B inn),.c (.int .i64 who)] [] (fun _=>.c (.bool (tf (∀ v,gb inn v = true → (PG.Won (cO g n) 0 (fun v=>gb inn v = true) v ↔ who = 0))))):=by
 have hle:=hg.le
 have hw:=pC g n hg _ inn hi (Nat.lt_succ_self _) ht
 obtain ⟨win,hwin⟩ : ∃ win,win = mks n (PG.Won (cO g n) 0 (fun v=>gb inn v = true)):=⟨_,rfl⟩
 have hwl : win.length = n:=by rw [hwin,ep]
 rw [← hwin] at hw
 (refine bf aI Try.func124 rfl rfl (by kernel_rfl) fun hp0 ν hX hN=>?_;simp only [bW,Nat.reduceAdd])
 (repeat' (first|(with_reducible first|(apply hK;clear hK K)|refine stZ ?_|refine aT rfl ?_|((first|apply ae|apply af);clear ae X af Y))|(with_reducible refine aW ?_;first|refine aU rfl ?_|refine aV rfl ?_)|(with_reducible refine bv ?_;first|refine bd rfl rfl rfl rfl ?_|refine bt rfl rfl rfl ?_|refine bI rfl rfl rfl rfl ?_)|((first|(with_reducible first|((first|refine aZ ?_|refine a8 ?_);intro K hK)|(refine aE ?_;intro X Y ae af)|refine aF ?_)|(with_reducible refine bv ?_;refine be rfl rfl fun X Y ae af=>?_));simp (disch:=first|decide|omega|(simp only [List.length_cons,List.length_nil];omega)) only [go_sem,↓aj hN,ak hN,reduceIte,reduceCtorEq,Nat.reduceAdd,Nat.reduceLT,Nat.reduceLeDiff,Nat.reduceEqDiff,Nat.reduceSub])|(with_reducible refine And.intro (fun h=>?_) (fun h=>?_) <;> try (exfalso;omega))|(with_reducible refine aY aI hN ?_)|(refine aB hw ?_ rfl (fun _=>rfl) ?_)|(with_reducible first|exact aq|refine am ?_ ?_|exact bH _|refine aM ?_|exact aL _|exact bj _ _|refine bi ?_|exact aJ _)|exact aN hN rfl rfl|(refine bh hN rfl ?_;first|exact aC _|exact aD _)|exact aK rfl rfl rfl|(simp only [ba,List.map_nil])|(with_reducible refine bu ?_)|(with_reducible refine And.intro ?_ ?_)|(refine ah ?_;omega)|(exact aX hN (by decide))))
 (refine bT (fun (k : Nat)=>(tmL [(8,.c (.int .i64 k)),(7,.sl (ν 1)),(3,.ad (ν 0) 0),(1,.c (.B inn)),(2,.c (.int .i64 who))],hpL hp0 ν [.dead,.arr 4 .yes (.B win)])) (fun (k : Nat)=>k ≤ n ∧ ∀ v,v < k → gb inn v = true → (gb win v == (who == 0)) = true) (fun (k : Nat)=>n - k) ⟨0,?_,bB hX hN [] ?_ ?_⟩ ?_;(repeat' (first|(with_reducible first|exact clZ|refine bw ?_ ?_|refine bz ?_ ?_|rfl|refine suZ ?_)|refine bA rfl ?_ ?_|exact aP hN _ rfl rfl rfl|exact aQ hN _ rfl rfl rfl|exact ax hN _ rfl rfl rfl (Or.inr rfl)|(refine aR hN _ rfl rfl (by first|exact Or.inr rfl|exact Or.inl rfl) ?_;first|exact aC _|exact aD _)|refine ay hN rfl ?_|refine az hN rfl rfl ?_|exact au hN _ rfl rfl|exact aA hN rfl rfl rfl rfl|(with_reducible first|refine stZ ?_|refine aO ?_)));(try (any_goals (first|(with_reducible rfl)|(refine ah ?_;omega)))))
 · exact ⟨Nat.zero_le _,fun j hj=>absurd hj (Nat.not_lt_zero _)⟩
 rintro k ⟨hk,ho⟩
 have key : ∀ v,v < n → ((gb win v == (who == 0)) = true ↔ (PG.Won (cO g n) 0 (fun v=>gb inn v = true) v ↔ who = 0)):=fun v hv=>by
  rw [hwin,fb _ hv]
  by_cases h1 : PG.Won (cO g n) 0 (fun v=>gb inn v = true) v <;> by_cases h2 : who = 0
  · rw [bc h1];simp [h1,h2]
  · rw [bc h1];simp [h1,h2]
  · rw [aH h1];simp [h1,h2]
  · rw [aH h1];simp [h1,h2]
 (repeat' (first|(with_reducible first|(apply hK;clear hK K)|refine stZ ?_|refine aT rfl ?_|((first|apply ae|apply af);clear ae X af Y))|(with_reducible refine aW ?_;first|refine aU rfl ?_|refine aV rfl ?_)|(with_reducible refine bv ?_;first|refine bd rfl rfl rfl rfl ?_|refine bt rfl rfl rfl ?_|refine bI rfl rfl rfl rfl ?_)|((first|(with_reducible first|((first|refine aZ ?_|refine a8 ?_);intro K hK)|(refine aE ?_;intro X Y ae af)|refine aF ?_)|(with_reducible refine bv ?_;refine be rfl rfl fun X Y ae af=>?_));simp (disch:=first|decide|omega|(simp only [List.length_cons,List.length_nil];omega)) only [go_sem,↓aj hN,ak hN,reduceIte,reduceCtorEq,Nat.reduceAdd,Nat.reduceLT,Nat.reduceLeDiff,Nat.reduceEqDiff,Nat.reduceSub])|(with_reducible refine And.intro (fun h=>?_) (fun h=>?_) <;> try (exfalso;omega))|(with_reducible refine aY aI hN ?_)|(with_reducible refine And.intro ?_ ?_)|(refine ah ?_;omega)|(exact aX hN (by decide))))
 · have hb : (gb win k == (who == 0)) = false:=by assumption
   (refine bX (.inr rfl) (by first|rfl|(simp (disch:=first|decide|omega|(simp only [List.length_cons,List.length_nil];omega)) only [bG,bK,bN,bO,go_sem,beq_self_eq_true,↓ao,↓aj hN,ak hN,reduceIte,reduceCtorEq,Nat.reduceAdd,Nat.reduceLT,Nat.reduceLeDiff,Nat.reduceEqDiff,Nat.reduceSub];rfl)) ?_)
   refine congrArg C.bool (aH fun e=>?_).symm
   rw [(key k (by omega)).2 (e k (by assumption))] at hb
   cases hb
 · have hb : gb win k = (who == 0):=by assumption
   (refine ⟨k + 1,⟨?_,?_⟩,bB hX hN [] ?_ ?_⟩;(try any_goals dsimp only);(repeat' (first|(with_reducible first|exact clZ|refine bw ?_ ?_|refine bz ?_ ?_|rfl|refine suZ ?_)|refine bA rfl ?_ ?_|exact aP hN _ rfl rfl rfl|exact aQ hN _ rfl rfl rfl|exact ax hN _ rfl rfl rfl (Or.inr rfl)|(refine aR hN _ rfl rfl (by first|exact Or.inr rfl|exact Or.inl rfl) ?_;first|exact aC _|exact aD _)|refine ay hN rfl ?_|refine az hN rfl rfl ?_|exact au hN _ rfl rfl|exact aA hN rfl rfl rfl rfl|(with_reducible first|refine stZ ?_|refine aO ?_)));(try (any_goals (first|(with_reducible rfl)|(refine ah ?_;omega)))))
   exact ⟨by omega,d5 ho fun _=>by rw [hb];exact beq_self_eq_true _⟩
 · have hb : gb inn k = false:=by assumption
   (refine ⟨k + 1,⟨?_,?_⟩,bB hX hN [] ?_ ?_⟩;(try any_goals dsimp only);(repeat' (first|(with_reducible first|exact clZ|refine bw ?_ ?_|refine bz ?_ ?_|rfl|refine suZ ?_)|refine bA rfl ?_ ?_|exact aP hN _ rfl rfl rfl|exact aQ hN _ rfl rfl rfl|exact ax hN _ rfl rfl rfl (Or.inr rfl)|(refine aR hN _ rfl rfl (by first|exact Or.inr rfl|exact Or.inl rfl) ?_;first|exact aC _|exact aD _)|refine ay hN rfl ?_|refine az hN rfl rfl ?_|exact au hN _ rfl rfl|exact aA hN rfl rfl rfl rfl|(with_reducible first|refine stZ ?_|refine aO ?_)));(try (any_goals (first|(with_reducible rfl)|(refine ah ?_;omega)))))
   exact ⟨by omega,d5 ho fun e=>absurd e (po hb)⟩
 · (refine bX (.inr rfl) (by first|rfl|(simp (disch:=first|decide|omega|(simp only [List.length_cons,List.length_nil];omega)) only [bG,bK,bN,bO,go_sem,beq_self_eq_true,↓ao,↓aj hN,ak hN,reduceIte,reduceCtorEq,Nat.reduceAdd,Nat.reduceLT,Nat.reduceLeDiff,Nat.reduceEqDiff,Nat.reduceSub];rfl)) ?_)
   exact congrArg C.bool (bc fun v hv=>(key v (by have:=iA hv;omega)).1 (ho v (by have:=iA hv;omega) hv)).symm
end Go.Proofs.Ythjamlponejffaa
