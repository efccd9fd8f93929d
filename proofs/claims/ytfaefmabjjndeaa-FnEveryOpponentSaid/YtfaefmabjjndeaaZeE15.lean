/-
  Traps: the vertices by which a set is none.
-/
import Derived.Test.YtfaefmabjjndeaaZeE13
import Derived.Test.YtfaefmabjjndeaaZeG3
namespace Go.Proofs.Ytfaefmabjjndeaa
set_option linter.unusedVariables false
set_option linter.unusedSimpArgs false
open Go.RowKit
attribute [local irreducible] aL cQ Aw Le
theorem tp {p : Int → Prop} {xs : List Int} : ∀ k,k ≤ xs.length → (kW p xs k = [] ↔ ∀ j,j < k → ¬ p (gi xs j)):=by
 intro k
 induction k with
 | zero => intro _; exact ⟨fun _ j h => absurd h (Nat.not_lt_zero _), fun _ => rfl⟩
 | succ k ih =>
   intro hk
   by_cases h : p (gi xs k)
   · rw [iG h]
     exact ⟨fun e=>absurd e (by simp),fun e=>absurd h (e k (by omega))⟩
   · rw [gV h,ih (by omega)]
     exact ⟨fun e=>dm e h,fun e j hj=>e j (by omega)⟩
theorem rp (g : Gm) (n : Nat) (hg : GmOk g n) (inn : List Bool) (hi : inn.length = n) (who : Int) (ht : PG.Total (cI g n) (fun v=>gb inn v = true)) : aL Try.prog 203 [gmA g,.c (.B inn),.c (.int .i64 who)] [] (fun _=>.c (.bool (tf (∀ v,gb inn v = true → (PG.Won (cI g n) 0 (fun v=>gb inn v = true) v ↔ who = 0))))):=by
 have hle:=hg.le
 have hw:=qa g n hg _ inn hi (Nat.lt_succ_self _) ht
 obtain ⟨win,hwin⟩ : ∃ win,win = mks n (PG.Won (cI g n) 0 (fun v=>gb inn v = true)):=⟨_,rfl⟩
 have hwl : win.length = n:=by rw [hwin,cK]
 rw [← hwin] at hw
 (refine bK aK Try.func203 rfl rfl (by kernel_rfl) fun hp0 ν hX hN=>?_;simp only [cG,Nat.reduceAdd])
 (repeat' (first|(with_reducible first|(refine hK _ _ ?_;clear hK K)|(refine aa _ ?_;clear aa K)|refine bh ?_|refine bX ?_|refine a9 ?_|refine aq ?_|refine ap ?_|refine bY ?_|refine aG ?_|refine ba ?_|refine bZ ?_|refine bc ?_|refine bd rfl ?_|refine bi ?_|refine be ?_|refine b7 ?_|refine bf ?_|refine aF ?_|refine n_k ?_|refine bg ?_|(refine ae ?_;clear ae X af Y)|(refine af ?_;clear ae X af Y))|(with_reducible refine bo ?_;first|refine bm rfl ?_|refine bn rfl ?_)|(with_reducible refine aQ ?_;first|refine au rfl rfl rfl rfl ?_|refine aI rfl rfl rfl ?_|refine bt rfl rfl rfl rfl ?_)|((first|(with_reducible first|refine bp rfl rfl fun K hK=>?_|refine br rfl rfl fun K aa=>?_|refine aH fun X Y ae af=>?_|refine aJ ?_)|(with_reducible refine aQ ?_;refine aW rfl rfl fun X Y ae af=>?_));simp (disch:=first|decide|omega|(simp only [List.length_cons,List.length_nil];omega)) only [go_sem,beq_self_eq_true,↓aj,↓ak hN,am hN,reduceIte,reduceCtorEq,Nat.reduceAdd,Nat.reduceLT,Nat.reduceLeDiff,Nat.reduceEqDiff,Nat.reduceSub])|(with_reducible refine And.intro (fun h=>?_) (fun h=>?_) <;> try (exfalso;omega))|(with_reducible refine bj aK hN rfl ?_ ?_;kernel_rfl)|(refine aO hw ?_ rfl (fun _=>rfl) ?_)|(with_reducible first|exact ax|refine ao ?_ ?_|exact cg _|refine bv ?_|exact a8 _|exact bJ _ _|refine bI ?_|exact aY _)|exact bw hN rfl rfl|(refine bG hN rfl ?_;first|exact aM _|exact aN _)|exact aZ rfl rfl rfl|(simp only [bW,List.map_nil])|(with_reducible refine b8 ?_)|(with_reducible refine And.intro ?_ ?_)|(refine ah ?_;omega)|(exact bu hN (by decide))))
 (refine cj (fun (k : Nat)=>(tmL [(8,.c (.int .i64 k)),(7,.sl (ν 1)),(3,.ad (ν 0) 0),(1,.c (.B inn)),(2,.c (.int .i64 who))],hpL hp0 ν [.dead,.arr 4 .yes (.B win)])) (fun (k : Nat)=>k ≤ n ∧ ∀ v,v < k → gb inn v = true → (gb win v == (who == 0)) = true) (fun (k : Nat)=>n - k) ⟨0,?_,bU hX hN [] ?_ ?_⟩ ?_;(repeat' (first|(with_reducible first|exact bN _|exact bO|exact bP|refine bQ ?_ ?_|refine bR ?_ ?_|exact ay _|exact bL _|exact an _|rfl|exact aS _ _|refine aA ?_|exact bM _|refine aV ?_)|refine bS rfl ?_ ?_|exact aT hN _ rfl rfl rfl|exact aU hN _ rfl rfl rfl|exact aB hN _ rfl rfl rfl (Or.inr rfl)|(refine aP hN _ rfl rfl (by first|exact Or.inr rfl|exact Or.inl rfl) ?_;first|exact aM _|exact aN _)|refine aC hN rfl ?_|refine aD hN rfl rfl ?_|exact az hN _ rfl rfl|exact aE hN rfl rfl rfl rfl|(with_reducible first|refine aR ?_|refine bA ?_|refine bC ?_|refine bD ?_|refine bB ?_|refine bz ?_)));(try (any_goals (first|(with_reducible rfl)|(refine ah ?_;omega)))))
 · exact ⟨Nat.zero_le _,fun j hj=>absurd hj (Nat.not_lt_zero _)⟩
 rintro k ⟨hk,ho⟩
 have key : ∀ v,v < n → ((gb win v == (who == 0)) = true ↔ (PG.Won (cI g n) 0 (fun v=>gb inn v = true) v ↔ who = 0)):=fun v hv=>by
  rw [hwin,dU _ hv]
  by_cases h1 : PG.Won (cI g n) 0 (fun v=>gb inn v = true) v <;> by_cases h2 : who = 0
  · rw [bV h1];simp [h1,h2]
  · rw [bV h1];simp [h1,h2]
  · rw [aX h1];simp [h1,h2]
  · rw [aX h1];simp [h1,h2]
 (repeat' (first|(with_reducible first|(refine hK _ _ ?_;clear hK K)|(refine aa _ ?_;clear aa K)|refine bh ?_|refine bX ?_|refine a9 ?_|refine aq ?_|refine ap ?_|refine bY ?_|refine aG ?_|refine ba ?_|refine bZ ?_|refine bc ?_|refine bd rfl ?_|refine bi ?_|refine be ?_|refine b7 ?_|refine bf ?_|refine aF ?_|refine n_k ?_|refine bg ?_|(refine ae ?_;clear ae X af Y)|(refine af ?_;clear ae X af Y))|(with_reducible refine bo ?_;first|refine bm rfl ?_|refine bn rfl ?_)|(with_reducible refine aQ ?_;first|refine au rfl rfl rfl rfl ?_|refine aI rfl rfl rfl ?_|refine bt rfl rfl rfl rfl ?_)|((first|(with_reducible first|refine bp rfl rfl fun K hK=>?_|refine br rfl rfl fun K aa=>?_|refine aH fun X Y ae af=>?_|refine aJ ?_)|(with_reducible refine aQ ?_;refine aW rfl rfl fun X Y ae af=>?_));simp (disch:=first|decide|omega|(simp only [List.length_cons,List.length_nil];omega)) only [go_sem,beq_self_eq_true,↓aj,↓ak hN,am hN,reduceIte,reduceCtorEq,Nat.reduceAdd,Nat.reduceLT,Nat.reduceLeDiff,Nat.reduceEqDiff,Nat.reduceSub])|(with_reducible refine And.intro (fun h=>?_) (fun h=>?_) <;> try (exfalso;omega))|(with_reducible refine bj aK hN rfl ?_ ?_;kernel_rfl)|(with_reducible refine And.intro ?_ ?_)|(refine ah ?_;omega)|(exact bu hN (by decide))))
 · have hb : (gb win k == (who == 0)) = false:=by assumption
   (refine cC (.inr rfl) (by first|rfl|(simp (disch:=first|decide|omega|(simp only [List.length_cons,List.length_nil];omega)) only [ci,cu,cw,cx,go_sem,beq_self_eq_true,↓aj,↓ak hN,am hN,reduceIte,reduceCtorEq,Nat.reduceAdd,Nat.reduceLT,Nat.reduceLeDiff,Nat.reduceEqDiff,Nat.reduceSub];rfl)) ?_)
   refine congrArg C.bool (aX fun e=>?_).symm
   rw [(key k (by omega)).2 (e k (by assumption))] at hb
   cases hb
 · have hb : gb win k = (who == 0):=by assumption
   (refine ⟨k + 1,⟨?_,?_⟩,bU hX hN [] ?_ ?_⟩;(try any_goals dsimp only);(repeat' (first|(with_reducible first|exact bN _|exact bO|exact bP|refine bQ ?_ ?_|refine bR ?_ ?_|exact ay _|exact bL _|exact an _|rfl|exact aS _ _|refine aA ?_|exact bM _|refine aV ?_)|refine bS rfl ?_ ?_|exact aT hN _ rfl rfl rfl|exact aU hN _ rfl rfl rfl|exact aB hN _ rfl rfl rfl (Or.inr rfl)|(refine aP hN _ rfl rfl (by first|exact Or.inr rfl|exact Or.inl rfl) ?_;first|exact aM _|exact aN _)|refine aC hN rfl ?_|refine aD hN rfl rfl ?_|exact az hN _ rfl rfl|exact aE hN rfl rfl rfl rfl|(with_reducible first|refine aR ?_|refine bA ?_|refine bC ?_|refine bD ?_|refine bB ?_|refine bz ?_)));(try (any_goals (first|(with_reducible rfl)|(refine ah ?_;omega)))))
   exact ⟨by omega,dm ho fun _=>by rw [hb];exact beq_self_eq_true _⟩
 · have hb : gb inn k = false:=by assumption
   (refine ⟨k + 1,⟨?_,?_⟩,bU hX hN [] ?_ ?_⟩;(try any_goals dsimp only);(repeat' (first|(with_reducible first|exact bN _|exact bO|exact bP|refine bQ ?_ ?_|refine bR ?_ ?_|exact ay _|exact bL _|exact an _|rfl|exact aS _ _|refine aA ?_|exact bM _|refine aV ?_)|refine bS rfl ?_ ?_|exact aT hN _ rfl rfl rfl|exact aU hN _ rfl rfl rfl|exact aB hN _ rfl rfl rfl (Or.inr rfl)|(refine aP hN _ rfl rfl (by first|exact Or.inr rfl|exact Or.inl rfl) ?_;first|exact aM _|exact aN _)|refine aC hN rfl ?_|refine aD hN rfl rfl ?_|exact az hN _ rfl rfl|exact aE hN rfl rfl rfl rfl|(with_reducible first|refine aR ?_|refine bA ?_|refine bC ?_|refine bD ?_|refine bB ?_|refine bz ?_)));(try (any_goals (first|(with_reducible rfl)|(refine ah ?_;omega)))))
   exact ⟨by omega,dm ho fun e=>absurd e (lO hb)⟩
 · (refine cC (.inr rfl) (by first|rfl|(simp (disch:=first|decide|omega|(simp only [List.length_cons,List.length_nil];omega)) only [ci,cu,cw,cx,go_sem,beq_self_eq_true,↓aj,↓ak hN,am hN,reduceIte,reduceCtorEq,Nat.reduceAdd,Nat.reduceLT,Nat.reduceLeDiff,Nat.reduceEqDiff,Nat.reduceSub];rfl)) ?_)
   exact congrArg C.bool (bV fun v hv=>(key v (by have:=e9 hv;omega)).1 (ho v (by have:=e9 hv;omega) hv)).symm
theorem uH {xs : List Int} {n : Nat} (h : db xs n) : Bnd xs n:=fun k hk=>⟨(h k hk).1,(h k hk).2.1⟩
theorem tq {bs : List Bool} : ∀ k,cW bs k = [] ↔ ∀ v,v < k → ¬ gb bs v = true:=by
 intro k
 induction k with
 | zero => exact ⟨fun _ v h => absurd h (Nat.not_lt_zero _), fun _ => rfl⟩
 | succ k ih =>
   rw [cW]
   by_cases h : gb bs k = true
   · rw [if_pos h]
     exact ⟨fun e=>absurd e (by simp),fun e=>absurd h (e k (by omega))⟩
   · rw [if_neg h,List.append_nil,ih]
     exact ⟨fun e=>dm e h,fun e v hv=>e v (by omega)⟩
theorem tt {g : Pa} (hg : PaOk g) {xs : List Int} (hx : kw g.ar xs) {i : Int} (hi : i = 0 ∨ i = 1) : (fX g xs (1 - i)).length = 0 ↔ ∀ v : Nat,(v : Int) ∈ xs → PG.Won (pgP g) i (fun v=>(v : Int) ∈ xs) v:=by
 have hl:=hg.len
 have hB:=uH hx.1
 have hS : ∀ v : Nat,(v : Int) ∈ xs → v < g.prio.length:=fun v hv=>by
  obtain ⟨k,hk,e⟩:=cX hv
  have:=hB k hk;omega
 rw [List.length_eq_zero_iff,fX,tq]
 have hn:=fun v=>iY (P:=pgP g) jF hS (gO hg hx) hi v
 constructor
 · intro h v hv
   have h1:=h v (hS v hv)
   rw [dU _ (hS v hv),gt,hn] at h1
   exact Classical.byContradiction fun h2=>h1 ⟨hv,h2⟩
 · intro h v hv
   rw [dU _ hv,gt,hn]
   exact fun h1=>h1.2 (h v h1.1)
end Go.Proofs.Ytfaefmabjjndeaa
