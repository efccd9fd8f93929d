/-
  Traps: the vertices by which a set is none.
-/
import Derived.Test.YtfaefmabjjndeaaZrE13
import Derived.Test.YtfaefmabjjndeaaZrG3
namespace Go.Proofs.Ytfaefmabjjndeaa
set_option linter.unusedVariables false
set_option linter.unusedSimpArgs false
open Go.RowKit
attribute [local irreducible] aF cL Aw Le
theorem pb (g : Gm) (n : Nat) (hg : GmOk g n) (inn : List Bool) (hi : inn.length = n) (who : Int) (ht : PG.Total (dk g n) (fun v=>gb inn v = true)) : aF Try.prog 203 [gmA g,.c (.B inn),.c (.int .i64 who)] [] (fun _=>.c (.bool (tf (∀ v,gb inn v = true → (PG.Won (dk g n) 0 (fun v=>gb inn v = true) v ↔ who = 0))))):=by
 have hle:=hg.le
 have hw:=oh g n hg _ inn hi (Nat.lt_succ_self _) ht
 obtain ⟨win,hwin⟩ : ∃ win,win = mks n (PG.Won (dk g n) 0 (fun v=>gb inn v = true)):=⟨_,rfl⟩
 have hwl : win.length = n:=by rw [hwin,eZ]
 rw [← hwin] at hw
 (refine bU aO Try.func203 rfl rfl (by kernel_rfl) fun hp0 ν hX hN=>?_;simp only [cN,Nat.reduceAdd])
 (repeat' (first|(with_reducible first|(refine hK _ _ ?_;clear hK K)|(refine aa _ ?_;clear aa K)|refine bi ?_|refine b8 ?_|refine a9 ?_|refine au ?_|refine aq ?_|refine b9 ?_|refine aI ?_|refine ba ?_|refine ca ?_|refine bc ?_|refine be rfl ?_|refine bj ?_|refine bf ?_|refine cc ?_|refine bg ?_|refine aH ?_|refine n_k ?_|refine bh ?_|(refine ae ?_;clear ae X af Y)|(refine af ?_;clear ae X af Y))|(with_reducible refine bp ?_;first|refine bn rfl ?_|refine bo rfl ?_)|(with_reducible refine a8 ?_;first|refine ax rfl rfl rfl rfl ?_|refine aK rfl rfl rfl ?_|refine bu rfl rfl rfl rfl ?_)|((first|(with_reducible first|refine br rfl rfl fun K hK=>?_|refine bt rfl rfl fun K aa=>?_|refine aJ fun X Y ae af=>?_|refine aL ?_)|(with_reducible refine a8 ?_;refine bC rfl rfl fun X Y ae af=>?_));simp (disch:=first|decide|omega|(simp only [List.length_cons,List.length_nil];omega)) only [go_sem,beq_self_eq_true,↓aj,↓ak hN,am hN,reduceIte,reduceCtorEq,Nat.reduceAdd,Nat.reduceLT,Nat.reduceLeDiff,Nat.reduceEqDiff,Nat.reduceSub])|(with_reducible refine And.intro (fun h=>?_) (fun h=>?_) <;> try (exfalso;omega))|(with_reducible refine bm aO hN rfl ?_ ?_;kernel_rfl)|(refine bB hw ?_ rfl (fun _=>rfl) ?_)|(with_reducible first|exact aG|refine ap ?_ ?_|exact cA _|refine bz ?_|exact aY _|exact b7 _ _|refine bZ ?_|exact aW _)|exact bA hN rfl rfl|(refine bY hN rfl ?_;first|exact aM _|exact aN _)|exact aX rfl rfl rfl|(simp only [bJ,List.map_nil])|(with_reducible refine ci ?_)|(with_reducible refine And.intro ?_ ?_)|(refine ah ?_;omega)|(exact bv hN (by decide))))
 (refine co (fun (k : Nat)=>(tmL [(8,.c (.int .i64 k)),(7,.sl (ν 1)),(3,.ad (ν 0) 0),(1,.c (.B inn)),(2,.c (.int .i64 who))],hpL hp0 ν [.dead,.arr 4 .yes (.B win)])) (fun (k : Nat)=>k ≤ n ∧ ∀ v,v < k → gb inn v = true → (gb win v == (who == 0)) = true) (fun (k : Nat)=>n - k) ⟨0,?_,bT hX hN [] ?_ ?_⟩ ?_;(repeat' (first|(with_reducible first|exact bM _|exact bN|exact bO|refine bP ?_ ?_|refine bQ ?_ ?_|exact ay _|exact bK _|exact ao _|rfl|exact aQ _ _|refine aA ?_|exact bL _|refine aU ?_)|refine bR rfl ?_ ?_|exact aR hN _ rfl rfl rfl|exact aS hN _ rfl rfl rfl|exact aB hN _ rfl rfl rfl (Or.inr rfl)|(refine aT hN _ rfl rfl (by first|exact Or.inr rfl|exact Or.inl rfl) ?_;first|exact aM _|exact aN _)|refine aC hN rfl ?_|refine aD hN rfl rfl ?_|exact az hN _ rfl rfl|exact aE hN rfl rfl rfl rfl|(with_reducible first|refine aP ?_|refine bF ?_|refine bG ?_|refine bH ?_|refine bD ?_|refine bE ?_)));(try (any_goals (first|(with_reducible rfl)|(refine ah ?_;omega)))))
 · exact ⟨Nat.zero_le _,fun j hj=>absurd hj (Nat.not_lt_zero _)⟩
 rintro k ⟨hk,ho⟩
 have key : ∀ v,v < n → ((gb win v == (who == 0)) = true ↔ (PG.Won (dk g n) 0 (fun v=>gb inn v = true) v ↔ who = 0)):=fun v hv=>by
  rw [hwin,fI _ hv]
  by_cases h1 : PG.Won (dk g n) 0 (fun v=>gb inn v = true) v <;> by_cases h2 : who = 0
  · rw [bX h1];simp [h1,h2]
  · rw [bX h1];simp [h1,h2]
  · rw [aZ h1];simp [h1,h2]
  · rw [aZ h1];simp [h1,h2]
 (repeat' (first|(with_reducible first|(refine hK _ _ ?_;clear hK K)|(refine aa _ ?_;clear aa K)|refine bi ?_|refine b8 ?_|refine a9 ?_|refine au ?_|refine aq ?_|refine b9 ?_|refine aI ?_|refine ba ?_|refine ca ?_|refine bc ?_|refine be rfl ?_|refine bj ?_|refine bf ?_|refine cc ?_|refine bg ?_|refine aH ?_|refine n_k ?_|refine bh ?_|(refine ae ?_;clear ae X af Y)|(refine af ?_;clear ae X af Y))|(with_reducible refine bp ?_;first|refine bn rfl ?_|refine bo rfl ?_)|(with_reducible refine a8 ?_;first|refine ax rfl rfl rfl rfl ?_|refine aK rfl rfl rfl ?_|refine bu rfl rfl rfl rfl ?_)|((first|(with_reducible first|refine br rfl rfl fun K hK=>?_|refine bt rfl rfl fun K aa=>?_|refine aJ fun X Y ae af=>?_|refine aL ?_)|(with_reducible refine a8 ?_;refine bC rfl rfl fun X Y ae af=>?_));simp (disch:=first|decide|omega|(simp only [List.length_cons,List.length_nil];omega)) only [go_sem,beq_self_eq_true,↓aj,↓ak hN,am hN,reduceIte,reduceCtorEq,Nat.reduceAdd,Nat.reduceLT,Nat.reduceLeDiff,Nat.reduceEqDiff,Nat.reduceSub])|(with_reducible refine And.intro (fun h=>?_) (fun h=>?_) <;> try (exfalso;omega))|(with_reducible refine bm aO hN rfl ?_ ?_;kernel_rfl)|(with_reducible refine And.intro ?_ ?_)|(refine ah ?_;omega)|(exact bv hN (by decide))))
 · have hb : (gb win k == (who == 0)) = false:=by assumption
   (refine dg (.inr rfl) (by first|rfl|(simp (disch:=first|decide|omega|(simp only [List.length_cons,List.length_nil];omega)) only [ct,cz,cB,cD,go_sem,beq_self_eq_true,↓aj,↓ak hN,am hN,reduceIte,reduceCtorEq,Nat.reduceAdd,Nat.reduceLT,Nat.reduceLeDiff,Nat.reduceEqDiff,Nat.reduceSub];rfl)) ?_)
   refine congrArg C.bool (aZ fun e=>?_).symm
   rw [(key k (by omega)).2 (e k (by assumption))] at hb
   cases hb
 · have hb : gb win k = (who == 0):=by assumption
   (refine ⟨k + 1,⟨?_,?_⟩,bT hX hN [] ?_ ?_⟩;(try any_goals dsimp only);(repeat' (first|(with_reducible first|exact bM _|exact bN|exact bO|refine bP ?_ ?_|refine bQ ?_ ?_|exact ay _|exact bK _|exact ao _|rfl|exact aQ _ _|refine aA ?_|exact bL _|refine aU ?_)|refine bR rfl ?_ ?_|exact aR hN _ rfl rfl rfl|exact aS hN _ rfl rfl rfl|exact aB hN _ rfl rfl rfl (Or.inr rfl)|(refine aT hN _ rfl rfl (by first|exact Or.inr rfl|exact Or.inl rfl) ?_;first|exact aM _|exact aN _)|refine aC hN rfl ?_|refine aD hN rfl rfl ?_|exact az hN _ rfl rfl|exact aE hN rfl rfl rfl rfl|(with_reducible first|refine aP ?_|refine bF ?_|refine bG ?_|refine bH ?_|refine bD ?_|refine bE ?_)));(try (any_goals (first|(with_reducible rfl)|(refine ah ?_;omega)))))
   exact ⟨by omega,fA ho fun _=>by rw [hb];exact beq_self_eq_true _⟩
 · have hb : gb inn k = false:=by assumption
   (refine ⟨k + 1,⟨?_,?_⟩,bT hX hN [] ?_ ?_⟩;(try any_goals dsimp only);(repeat' (first|(with_reducible first|exact bM _|exact bN|exact bO|refine bP ?_ ?_|refine bQ ?_ ?_|exact ay _|exact bK _|exact ao _|rfl|exact aQ _ _|refine aA ?_|exact bL _|refine aU ?_)|refine bR rfl ?_ ?_|exact aR hN _ rfl rfl rfl|exact aS hN _ rfl rfl rfl|exact aB hN _ rfl rfl rfl (Or.inr rfl)|(refine aT hN _ rfl rfl (by first|exact Or.inr rfl|exact Or.inl rfl) ?_;first|exact aM _|exact aN _)|refine aC hN rfl ?_|refine aD hN rfl rfl ?_|exact az hN _ rfl rfl|exact aE hN rfl rfl rfl rfl|(with_reducible first|refine aP ?_|refine bF ?_|refine bG ?_|refine bH ?_|refine bD ?_|refine bE ?_)));(try (any_goals (first|(with_reducible rfl)|(refine ah ?_;omega)))))
   exact ⟨by omega,fA ho fun e=>absurd e (od hb)⟩
 · (refine dg (.inr rfl) (by first|rfl|(simp (disch:=first|decide|omega|(simp only [List.length_cons,List.length_nil];omega)) only [ct,cz,cB,cD,go_sem,beq_self_eq_true,↓aj,↓ak hN,am hN,reduceIte,reduceCtorEq,Nat.reduceAdd,Nat.reduceLT,Nat.reduceLeDiff,Nat.reduceEqDiff,Nat.reduceSub];rfl)) ?_)
   exact congrArg C.bool (bX fun v hv=>(key v (by have:=iu hv;omega)).1 (ho v (by have:=iu hv;omega) hv)).symm
end Go.Proofs.Ytfaefmabjjndeaa
