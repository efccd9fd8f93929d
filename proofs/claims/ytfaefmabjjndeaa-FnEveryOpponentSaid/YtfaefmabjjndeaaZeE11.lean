/-
  The program's recursive solver.
-/
import Derived.Test.YtfaefmabjjndeaaZeE10
import Derived.Test.YtfaefmabjjndeaaZeE9
import Derived.Test.YtfaefmabjjndeaaZeCe
import Derived.Test.YtfaefmabjjndeaaZeFc
namespace Go.Proofs.Ytfaefmabjjndeaa
set_option linter.unusedVariables false
set_option linter.unusedSimpArgs false
open Go.RowKit
attribute [local irreducible] aL cQ Aw Le
theorem re {pr xs ys : List Int} : ∀ {k : Nat},k ≤ xs.length → dG pr (xs ++ ys) k = dG pr xs k:=by
 intro k
 induction k with
 | zero => intro _; rfl
 | succ k ih =>
   intro h
   show max (dG pr (xs ++ ys) k) _ = max (dG pr xs k) _
   rw [ih (by omega)]
   have : gi (xs ++ ys) k = gi xs k:=by simp [gi,List.getD_eq_getElem?_getD,List.getElem?_append_left (show k < xs.length by omega)]
   rw [this]
theorem rf {pr : List Int} {bs : List Bool} : ∀ {k : Nat},dG pr (cW bs k) (cW bs k).length = dV pr bs k:=by
 intro k
 induction k with
 | zero => rfl
 | succ k ih =>
   rw [cW,dV]
   split
   · rw [List.length_append]
     show max (dG pr (cW bs k ++ [(k : Int)]) (cW bs k).length) (gi pr (gi (cW bs k ++ [(k : Int)]) (cW bs k).length).toNat) = _
     rw [re (Nat.le_refl _),ih,eU]
     rfl
   · rw [List.append_nil];exact ih
def ld (pr : List Int) (bs : List Bool) (n : Nat) : Int:=if dV pr bs n < 0 then 0 else (dV pr bs n).tmod 2
def ixB (p : Bool) : List Bool → Nat → Int
 | [], _ => -1
 | x :: xs, k => if x = p then k else ixB p xs (k + 1)
theorem uC (p : Bool) (xs : List Bool) (k : Nat) : 0 ≤ ixB p xs k ↔ p ∈ xs:=by
 induction xs generalizing k with
 | nil => simp [ixB]
 | cons x xs ih =>
   simp only [ixB]
   split
   · rename_i h;simp [h]
   · rename_i h
     rw [ih,List.mem_cons]
     exact ⟨.inr,fun h'=>h'.resolve_left fun e=>h e.symm⟩
theorem qb {xs : List Bool} {k : Nat} (h : k < xs.length) : xs.drop k = gb xs k :: xs.drop (k + 1):=by
 rw [List.drop_eq_getElem_cons h]
 refine congrArg (· :: _) ?_
 rw [gb,List.getD_eq_getElem?_getD,List.getElem?_eq_getElem h];rfl
theorem sZ (xs : List Bool) (hl : xs.length ≤ 1048576) (p : Bool) :
  aL Try.prog 233 [.c (.B xs),.c (.bool p)] [] (fun _=>.c (.int .i64 (ixB p xs 0))):=by
 (refine bK aK Try.func233 rfl rfl (by kernel_rfl) fun hp0 ν hX hN=>?_;simp only [cG,Nat.reduceAdd])
 (repeat' (first|(with_reducible first|(refine hK _ _ ?_;clear hK K)|(refine aa _ ?_;clear aa K)|refine bh ?_|refine bX ?_|refine a9 ?_|refine aq ?_|refine ap ?_|refine bY ?_|refine aG ?_|refine ba ?_|refine bZ ?_|refine bc ?_|refine bd rfl ?_|refine bi ?_|refine be ?_|refine b7 ?_|refine bf ?_|refine aF ?_|refine n_k ?_|refine bg ?_|(refine ae ?_;clear ae X af Y)|(refine af ?_;clear ae X af Y))|(with_reducible refine bo ?_;first|refine bm rfl ?_|refine bn rfl ?_)|(with_reducible refine aQ ?_;first|refine au rfl rfl rfl rfl ?_|refine aI rfl rfl rfl ?_|refine bt rfl rfl rfl rfl ?_)|((first|(with_reducible first|refine bp rfl rfl fun K hK=>?_|refine br rfl rfl fun K aa=>?_|refine aH fun X Y ae af=>?_|refine aJ ?_));simp (disch:=first|decide|omega|(simp only [List.length_cons,List.length_nil];omega)) only [go_sem,beq_self_eq_true,↓aj,↓ak hN,am hN,reduceIte,reduceCtorEq,Nat.reduceAdd,Nat.reduceLT,Nat.reduceLeDiff,Nat.reduceEqDiff,Nat.reduceSub])|(with_reducible refine And.intro (fun h=>?_) (fun h=>?_) <;> try (exfalso;omega))|(with_reducible refine bj aK hN rfl ?_ ?_;kernel_rfl)|(with_reducible refine And.intro ?_ ?_)|(refine ah ?_;omega)|(exact bu hN (by decide))))
 (refine cj (fun (k : Nat)=>(tmL [(8,.c (.int .i64 k)),(7,.c (.int .i64 xs.length)),(0,.c (.B xs)),(1,.c (.bool p))],hpL hp0 ν [])) (fun (k : Nat)=>k ≤ xs.length ∧ ixB p xs 0 = ixB p (xs.drop k) k) (fun (k : Nat)=>xs.length - k) ⟨0,?_,bU hX hN [] ?_ ?_⟩ ?_;(repeat' (first|(with_reducible first|exact bN _|exact bO|exact bP|refine bQ ?_ ?_|refine bR ?_ ?_|exact ay _|exact bL _|exact an _|rfl|exact aS _ _|refine aA ?_|exact bM _|refine aV ?_)|refine bS rfl ?_ ?_|exact aT hN _ rfl rfl rfl|exact aU hN _ rfl rfl rfl|exact aB hN _ rfl rfl rfl (Or.inr rfl)|(refine aP hN _ rfl rfl (by first|exact Or.inr rfl|exact Or.inl rfl) ?_;first|exact aM _|exact aN _)|refine aC hN rfl ?_|refine aD hN rfl rfl ?_|exact az hN _ rfl rfl|exact aE hN rfl rfl rfl rfl|(with_reducible first|refine aR ?_|refine bA ?_|refine bC ?_|refine bD ?_|refine bB ?_|refine bz ?_)));(try (any_goals (first|(with_reducible rfl)|(refine ah ?_;omega)))))
 · exact ⟨Nat.zero_le _,rfl⟩
 intro k hk
 obtain ⟨hk,he⟩:=hk
 (repeat' (first|(with_reducible first|(refine hK _ _ ?_;clear hK K)|(refine aa _ ?_;clear aa K)|refine bh ?_|refine bX ?_|refine a9 ?_|refine aq ?_|refine ap ?_|refine bY ?_|refine aG ?_|refine ba ?_|refine bZ ?_|refine bc ?_|refine bd rfl ?_|refine bi ?_|refine be ?_|refine b7 ?_|refine bf ?_|refine aF ?_|refine n_k ?_|refine bg ?_|(refine ae ?_;clear ae X af Y)|(refine af ?_;clear ae X af Y))|(with_reducible refine bo ?_;first|refine bm rfl ?_|refine bn rfl ?_)|(with_reducible refine aQ ?_;first|refine au rfl rfl rfl rfl ?_|refine aI rfl rfl rfl ?_|refine bt rfl rfl rfl rfl ?_)|((first|(with_reducible first|refine bp rfl rfl fun K hK=>?_|refine br rfl rfl fun K aa=>?_|refine aH fun X Y ae af=>?_|refine aJ ?_));simp (disch:=first|decide|omega|(simp only [List.length_cons,List.length_nil];omega)) only [go_sem,beq_self_eq_true,↓aj,↓ak hN,am hN,reduceIte,reduceCtorEq,Nat.reduceAdd,Nat.reduceLT,Nat.reduceLeDiff,Nat.reduceEqDiff,Nat.reduceSub])|(with_reducible refine And.intro (fun h=>?_) (fun h=>?_) <;> try (exfalso;omega))|(with_reducible refine bj aK hN rfl ?_ ?_;kernel_rfl)|(with_reducible refine And.intro ?_ ?_)|(refine ah ?_;omega)|(exact bu hN (by decide))))
 · (refine cC (.inr rfl) (by first|rfl|(simp (disch:=first|decide|omega|(simp only [List.length_cons,List.length_nil];omega)) only [ci,cu,cw,cx,go_sem,beq_self_eq_true,↓aj,↓ak hN,am hN,reduceIte,reduceCtorEq,Nat.reduceAdd,Nat.reduceLT,Nat.reduceLeDiff,Nat.reduceEqDiff,Nat.reduceSub];rfl)) ?_)
   rw [he,qb (by omega),ixB,if_pos (Eq.symm (by assumption))]
 · (refine ⟨k + 1,⟨?_,?_⟩,bU hX hN [] ?_ ?_⟩;(try any_goals dsimp only);(repeat' (first|(with_reducible first|exact bN _|exact bO|exact bP|refine bQ ?_ ?_|refine bR ?_ ?_|exact ay _|exact bL _|exact an _|rfl|exact aS _ _|refine aA ?_|exact bM _|refine aV ?_)|refine bS rfl ?_ ?_|exact aT hN _ rfl rfl rfl|exact aU hN _ rfl rfl rfl|exact aB hN _ rfl rfl rfl (Or.inr rfl)|(refine aP hN _ rfl rfl (by first|exact Or.inr rfl|exact Or.inl rfl) ?_;first|exact aM _|exact aN _)|refine aC hN rfl ?_|refine aD hN rfl rfl ?_|exact az hN _ rfl rfl|exact aE hN rfl rfl rfl rfl|(with_reducible first|refine aR ?_|refine bA ?_|refine bC ?_|refine bD ?_|refine bB ?_|refine bz ?_)));(try (any_goals (first|(with_reducible rfl)|(refine ah ?_;omega)))))
   exact ⟨by omega,by rw [he,qb (by omega),ixB,if_neg fun e=>beq_eq_false_iff_ne.1 (show (p == gb xs k) = false by assumption) e.symm]⟩
 · (refine cC (.inr rfl) (by first|rfl|(simp (disch:=first|decide|omega|(simp only [List.length_cons,List.length_nil];omega)) only [ci,cu,cw,cx,go_sem,beq_self_eq_true,↓aj,↓ak hN,am hN,reduceIte,reduceCtorEq,Nat.reduceAdd,Nat.reduceLT,Nat.reduceLeDiff,Nat.reduceEqDiff,Nat.reduceSub];rfl)) ?_)
   rw [he,List.drop_eq_nil_of_le (by omega)];rfl
theorem fJ (xs : List Bool) (hl : xs.length ≤ 1048576) (p : Bool) :
  aL Try.prog 219 [.c (.B xs),.c (.bool p)] [] (fun _=>.c (.bool (tf (p ∈ xs)))):=by
 (refine bK aK Try.func219 rfl rfl (by kernel_rfl) fun hp0 ν hX hN=>?_;simp only [cG,Nat.reduceAdd])
 (repeat' (first|(with_reducible first|(refine hK _ _ ?_;clear hK K)|(refine aa _ ?_;clear aa K)|refine bh ?_|refine bX ?_|refine a9 ?_|refine aq ?_|refine ap ?_|refine bY ?_|refine aG ?_|refine ba ?_|refine bZ ?_|refine bc ?_|refine bd rfl ?_|refine bi ?_|refine be ?_|refine b7 ?_|refine bf ?_|refine aF ?_|refine n_k ?_|refine bg ?_|(refine ae ?_;clear ae X af Y)|(refine af ?_;clear ae X af Y))|(with_reducible refine bo ?_;first|refine bm rfl ?_|refine bn rfl ?_)|(with_reducible refine aQ ?_;first|refine au rfl rfl rfl rfl ?_|refine aI rfl rfl rfl ?_|refine bt rfl rfl rfl rfl ?_)|((first|(with_reducible first|refine bp rfl rfl fun K hK=>?_|refine br rfl rfl fun K aa=>?_|refine aH fun X Y ae af=>?_|refine aJ ?_));simp (disch:=first|decide|omega|(simp only [List.length_cons,List.length_nil];omega)) only [go_sem,beq_self_eq_true,↓aj,↓ak hN,am hN,reduceIte,reduceCtorEq,Nat.reduceAdd,Nat.reduceLT,Nat.reduceLeDiff,Nat.reduceEqDiff,Nat.reduceSub])|(with_reducible refine And.intro (fun h=>?_) (fun h=>?_) <;> try (exfalso;omega))|(with_reducible refine bj aK hN rfl ?_ ?_;kernel_rfl)|(refine aO (sZ xs hl p) ?_ rfl (fun _=>rfl) ?_)|(with_reducible first|exact ax|refine ao ?_ ?_|exact cg _|refine bv ?_|exact a8 _|exact bJ _ _|refine bI ?_|exact aY _)|exact bw hN rfl rfl|(refine bG hN rfl ?_;first|exact aM _|exact aN _)|exact aZ rfl rfl rfl|(simp only [bW,List.map_nil])|(with_reducible refine b8 ?_)|(with_reducible refine And.intro ?_ ?_)|(refine ah ?_;omega)|(exact bu hN (by decide))))
 (refine cC (.inr rfl) (by first|rfl|(simp (disch:=first|decide|omega|(simp only [List.length_cons,List.length_nil];omega)) only [ci,cu,cw,cx,go_sem,beq_self_eq_true,↓aj,↓ak hN,am hN,reduceIte,reduceCtorEq,Nat.reduceAdd,Nat.reduceLT,Nat.reduceLeDiff,Nat.reduceEqDiff,Nat.reduceSub];rfl)) ?_)
 have:=uC p xs 0
 rw [← this]
 by_cases h : 0 ≤ ixB p xs 0
 · rw [bV h];simp [h]
 · rw [aX h];simp [h]
theorem iB {xs : List Bool} : true ∈ xs ↔ ∃ v,gb xs v = true:=by
 constructor
 · intro h
   obtain ⟨i,hi,e⟩:=List.mem_iff_getElem.1 h
   exact ⟨i,by rw [gb,List.getD_eq_getElem?_getD,List.getElem?_eq_getElem hi,← e];rfl⟩
 · rintro ⟨v,h⟩
   have hv:=e9 h
   rw [gb,List.getD_eq_getElem?_getD,List.getElem?_eq_getElem hv] at h
   exact List.mem_iff_getElem.2 ⟨v,hv,h⟩
theorem s5 {p q : Nat → Prop} : ∀ {k : Nat},(∀ t,t < k → q t → p t) → num q k ≤ num p k:=by
 intro k
 induction k with
 | zero => intro _; exact Nat.le_refl _
 | succ k ih =>
   intro h
   have:=ih fun t ht=>h t (by omega)
   by_cases hq : q k
   · rw [du hq,du (h k (by omega) hq)];omega
   · rw [en hq]
     by_cases hp : p k
     · rw [du hp];omega
     · rw [en hp];exact this
theorem qc (pr : List Int) (bs : List Bool) (n : Nat) : ld pr bs n = 0 ∨ ld pr bs n = 1:=by
 rw [ld]
 split
 · exact .inl rfl
 · rename_i h
   have : (dV pr bs n).tmod 2 = dV pr bs n % 2:=Int.tmod_eq_emod_of_nonneg (by omega)
   omega
theorem v7 {xs : List Bool} (h : ¬ true ∈ xs) (v : Nat) : gb xs v = false:=by
 cases e : gb xs v
 · rfl
 · exact absurd (iB.2 ⟨v,e⟩) h
theorem iY {P : PG.Gm} {n : Nat} (hf : PG.Fin P n) {S : Nat → Prop} (hS : ∀ v,S v → v < n) (ht : PG.Total P S) {i : Int} (hi : i = 0 ∨ i = 1) (v : Nat) : PG.Won P (1 - i) S v ↔ PG.Diff S (PG.Won P i S) v:=by
 refine ⟨fun h=>?_,fun ⟨h,h'⟩=>?_⟩
 · have hv:=PG.won_in h
   refine ⟨hv,?_⟩
   rcases hi with rfl|rfl
   · exact (PG.won_not hf hS ht hv).1 h
   · exact fun h1=>(PG.won_not hf hS ht hv).1 h1 h
 · rcases hi with rfl|rfl
   · exact (PG.won_not hf hS ht h).2 h'
   · exact Classical.byContradiction fun h0=>h' ((PG.won_not hf hS ht h).2 h0)
section
variable {P : PG.Gm} {n : Nat} {now : List Bool} {top who : Int} {T R : Nat → Prop} {L aw now2 : List Bool}
theorem s6 (hf : PG.Fin P n) (hnl : now.length = n) (hS : ∀ v,gb now v = true → v < n) (ht : PG.Total P fun v=>gb now v = true) (hd : top % 2 = who)
  (hT : ∀ v,gb now v = true → T v → P.prio v = top) (hm : ∀ v,gb now v = true → P.prio v ≤ top)
  (hL : ∀ v,gb L v = true ↔ PG.Won P (1 - who) (PG.Diff (fun v=>gb now v = true) (PG.Attr P who (fun v=>gb now v = true) T)) v)
  (hR : ∀ v,R v ↔ PG.Won P who (fun v=>gb now v = true) v) (hno : ¬ true ∈ L) : now = mks n R:=by
 have hall:=PG.win_all hf hS ht hd hT hm fun v h=>hno (iB.2 ⟨v,(hL v).2 h⟩)
 refine eu hnl fun v hv=>gl ?_
 rw [hR v,hall v]
theorem s7 (hf : PG.Fin P n) (hnl : now.length = n) (hS : ∀ v,gb now v = true → v < n) (ht : PG.Total P fun v=>gb now v = true) (hi : who = 0 ∨ who = 1)
  (hL : ∀ v,gb L v = true ↔ PG.Won P (1 - who) (PG.Diff (fun v=>gb now v = true) (PG.Attr P who (fun v=>gb now v = true) T)) v)
  (haw : aw = mks n (PG.Attr P (1 - who) (fun v=>gb now v = true) (fun v=>gb L v = true))) (h2 : now2 = cO now.length fun i=>gb now i && !gb aw i)
  (hR : ∀ v,R v ↔ PG.Won P who (fun v=>gb now v = true) v) : (∀ v,R v ↔ PG.Won P who (fun v=>gb now2 v = true) v):=by
 intro v
 rw [hR v,(PG.win_some hf hS ht hi hL v).1,iX hnl haw h2]
theorem s8 (hl : now2.length = n) (hR : ∀ v,R v ↔ PG.Won P who (fun v=>gb now2 v = true) v) (hno : ¬ true ∈ now2) : now2 = mks n R:=by
 refine eu hl fun v hv=>gl ⟨fun h=>?_,fun h=>?_⟩
 · rw [v7 hno] at h;cases h
 · exact PG.won_in ((hR v).1 h)
theorem s9 (hnl : now.length = n) (hf : PG.Fin P n) (ht : PG.Total P fun v=>gb now v = true) (hS : ∀ v,gb now v = true → v < n)
  (haw : aw = mks n (PG.Attr P (1 - who) (fun v=>gb now v = true) (fun v=>gb L v = true))) (h2 : now2 = cO now.length fun i=>gb now i && !gb aw i)
  (hL : ∀ v,gb L v = true → gb now v = true) (hmem : true ∈ L) :
  now2.length = n ∧ (∀ v,gb now2 v = true → gb now v = true) ∧ PG.Total P (fun v=>gb now2 v = true) ∧ num (fun v=>gb now2 v = true) n < num (fun v=>gb now v = true) n:=by
 have e:=iX hnl haw h2
 refine ⟨by rw [h2,cU,hnl],fun v h=>((kz hnl haw h2 v).1 h).1,by rw [e];exact PG.total_diff hf ht,?_⟩
 rw [e]
 obtain ⟨v,hv⟩:=iB.1 hmem
 exact kb (fun t _ h=>h.1) ⟨v,hS v (hL v hv),hL v hv,fun h=>h.2 (PG.attr_goal (hL v hv) hv)⟩
end
set_option maxHeartbeats 8000000 in
theorem xm (g : Gm) (n : Nat) (hg : GmOk g n) (hpk : ∀ v,v < n → gi g.pick v < 0) : ∀ (N : Nat) (inn : List Bool),inn.length = n → num (fun v=>gb inn v = true) n < N → PG.Total (cI g n) (fun v=>gb inn v = true) →
  aL Try.prog 195 [soA g,.c (.B inn)] [] (fun _=>.tup [.c (.B (mks n (PG.Won (cI g n) (ld g.prio inn n) (fun v=>gb inn v = true)))),.c (.int .i64 (ld g.prio inn n))]):=by
 intro N
 induction N with
 | zero => intro inn _ h; omega
 | succ N ih =>
   intro inn hi hNN ht
   have hle:=hg.le
   have hgp:=hg.prio
   have hS : ∀ v,gb inn v = true → v < n:=fun v h=>by have:=e9 h;omega
   have hf : PG.Fin (cI g n) n:=fun v u h=>h.2.1
   have hlb:=fy inn n
   have hBnd : Bnd (cW inn n) (Pa.mk ⟨g.own,g.nxt⟩ g.prio).prio.length:=fun k hk=>by
    obtain ⟨v,h1,h2,h3⟩:=dR.1 (dI hk)
    show 0 ≤ gi (cW inn n) k ∧ gi (cW inn n) k < (g.prio.length : Int)
    rw [h2];omega
   have hlst:=gL inn (by omega)
   rw [hi] at hlst
   have htop:=pV ⟨⟨g.own,g.nxt⟩,g.prio⟩ (cW inn n) hBnd
   rw [rf] at htop
   have hpr0 : ∀ v,gb inn v = true → 0 ≤ gi g.prio v:=fun v h=>(hg.p1 v (hS v h)).1
   (refine bK aK Try.func195 rfl rfl (by kernel_rfl) fun hp0 ν hX hN=>?_;simp only [cG,Nat.reduceAdd])
   (repeat' (first|(with_reducible first|(refine hK _ _ ?_;clear hK K)|(refine aa _ ?_;clear aa K)|refine bh ?_|refine bX ?_|refine a9 ?_|refine aq ?_|refine ap ?_|refine bY ?_|refine aG ?_|refine ba ?_|refine bZ ?_|refine bc ?_|refine bd rfl ?_|refine bi ?_|refine be ?_|refine b7 ?_|refine bf ?_|refine aF ?_|refine n_k ?_|refine bg ?_|(refine ae ?_;clear ae X af Y)|(refine af ?_;clear ae X af Y))|(with_reducible refine bo ?_;first|refine bm rfl ?_|refine bn rfl ?_)|(with_reducible refine aQ ?_;first|refine au rfl rfl rfl rfl ?_|refine aI rfl rfl rfl ?_|refine bt rfl rfl rfl rfl ?_)|((first|(with_reducible first|refine bp rfl rfl fun K hK=>?_|refine br rfl rfl fun K aa=>?_|refine aH fun X Y ae af=>?_|refine aJ ?_)|(with_reducible refine aQ ?_;refine aW rfl rfl fun X Y ae af=>?_));simp (disch:=first|decide|omega|(simp only [List.length_cons,List.length_nil];omega)) only [go_sem,beq_self_eq_true,↓aj,↓ak hN,am hN,reduceIte,reduceCtorEq,Nat.reduceAdd,Nat.reduceLT,Nat.reduceLeDiff,Nat.reduceEqDiff,Nat.reduceSub])|(with_reducible refine And.intro (fun h=>?_) (fun h=>?_) <;> try (exfalso;omega))|(with_reducible refine bj aK hN rfl ?_ ?_;kernel_rfl)|(refine aO (hlst) ?_ rfl (fun _=>rfl) ?_)|(refine aO (htop) ?_ rfl (fun _=>rfl) ?_)|(with_reducible first|exact ax|refine ao ?_ ?_|exact cg _|refine bv ?_|exact a8 _|exact bJ _ _|refine bI ?_|exact aY _)|exact bw hN rfl rfl|(refine bG hN rfl ?_;first|exact aM _|exact aN _)|exact aZ rfl rfl rfl|(simp only [bW,List.map_nil])|(with_reducible refine b8 ?_)|(with_reducible refine And.intro ?_ ?_)|(refine ah ?_;omega)|(exact bu hN (by decide))))
   · have h0 : (cW inn n).length = 0:=by omega
     rw [gM,fl] at h0
     have htn : dV g.prio inn n < 0:=(ky hpr0).2 fun v hv=>by simpa using h0 v hv
     (refine d8 hN [] (by decide) (.inr rfl) (by first|exact cL rfl rfl|exact cF hN rfl rfl rfl rfl|exact cy hN rfl rfl rfl rfl rfl|(simp (disch:=first|decide|omega|(simp only [List.length_cons,List.length_nil];omega)) only [ci,cu,cw,cx,go_sem,beq_self_eq_true,↓aj,↓ak hN,am hN,reduceIte,reduceCtorEq,Nat.reduceAdd,Nat.reduceLT,Nat.reduceLeDiff,Nat.reduceEqDiff,Nat.reduceSub];rfl)|rfl) ?_ fun νs hνs=>?_;(repeat' (first|exact Gone.nil|(refine Gone.cons rfl rfl ?_ ?_)|(with_reducible refine dA ?_)|(with_reducible refine dz ?_)|(with_reducible refine SVs.cons ?_ ?_)|(with_reducible exact SVs.nil)|(simp only [List.drop,List.take])|(simp (disch:=first|decide|omega) only [↓aj,reduceIte,reduceCtorEq,Nat.reduceEqDiff])|(with_reducible exact fw _)|(with_reducible exact dw _)|(exact dx rfl rfl rfl)|(exact dy 0 (by simp) rfl rfl)|(refine d7 hN rfl (dB hN (by decide)) ?_)|(with_reducible refine d6 ?_)|(with_reducible rfl)|(with_reducible refine bA ?_)|(with_reducible refine bC ?_)|(with_reducible refine bD ?_)|(with_reducible refine bB ?_)|(with_reducible refine bz ?_)|(refine ah ?_;omega))))
     · refine eu hi fun v hv=>?_
       rw [aX fun h=>h0 v hv (PG.won_in h)]
       simpa using h0 v hv
     · rw [ld,if_pos htn]
   have hne : ∃ v,v < n ∧ gb inn v = true:=by
    refine Classical.byContradiction fun h=>?_
    have : num (fun v=>gb inn v = true) n = 0:=fl.2 fun v hv h'=>h ⟨v,hv,h'⟩
    rw [← gM] at this
    have hx:=beq_eq_false_iff_ne.1 (show ((↑(cW inn n).length : Int) == 0) = false by assumption)
    omega
   have htop0 : 0 ≤ dV g.prio inn n:=by
    rcases Int.lt_or_le (dV g.prio inn n) 0 with h|h
    · obtain ⟨v,hv,h'⟩:=hne
      rw [(ky hpr0).1 h v hv] at h';cases h'
    · exact h
   have hwm : ld g.prio inn n = (dV g.prio inn n).tmod 2:=by rw [ld,if_neg (by omega)]
   have hvtop : ∃ v,v < n ∧ gb inn v = true ∧ gi g.prio v = dV g.prio inn n:=by
    rcases (j2 (pr:=g.prio) (bs:=inn) (k:=n)).2 with h|h
    · omega
    · exact h
   have hletop : ∀ v,gb inn v = true → gi g.prio v ≤ dV g.prio inn n:=fun v h=>(j2 (pr:=g.prio) (bs:=inn) (k:=n)).1 v (hS v h) h
   rw [hwm]
   clear hlst htop hBnd hlb
   generalize htop : dV g.prio inn n = top at *
   have htm : top.tmod 2 = top % 2:=Int.tmod_eq_emod_of_nonneg htop0
   have hi01 : top.tmod 2 = 0 ∨ top.tmod 2 = 1:=by omega
   generalize hwho : top.tmod 2 = who at *
   (refine cj (fun (now : List Bool)=>(tmL [(9,.c (.B now)),(8,.c (.int .i64 who)),(7,.c (.int .i64 top)),(0,soA g),(1,.c (.B inn))],hpL hp0 ν [.dead,.dead,.dead])) (fun (now : List Bool)=>now.length = n ∧ (∀ v,gb now v = true → gb inn v = true) ∧ PG.Total (cI g n) (fun v=>gb now v = true) ∧ (∀ v,PG.Won (cI g n) who (fun v=>gb inn v = true) v ↔ PG.Won (cI g n) who (fun v=>gb now v = true) v) ∧ (now = inn ∨ num (fun v=>gb now v = true) n < num (fun v=>gb inn v = true) n)) (fun (now : List Bool)=>num (fun v=>gb now v = true) n) ⟨inn,?_,bU hX hN [] ?_ ?_⟩ ?_;(repeat' (first|(with_reducible first|exact bN _|exact bO|exact bP|refine bQ ?_ ?_|refine bR ?_ ?_|exact ay _|exact bL _|exact an _|rfl|exact aS _ _|refine aA ?_|exact bM _|refine aV ?_)|refine bS rfl ?_ ?_|exact aT hN _ rfl rfl rfl|exact aU hN _ rfl rfl rfl|exact aB hN _ rfl rfl rfl (Or.inr rfl)|(refine aP hN _ rfl rfl (by first|exact Or.inr rfl|exact Or.inl rfl) ?_;first|exact aM _|exact aN _)|refine aC hN rfl ?_|refine aD hN rfl rfl ?_|exact az hN _ rfl rfl|exact aE hN rfl rfl rfl rfl|(with_reducible first|refine aR ?_|refine bA ?_|refine bC ?_|refine bD ?_|refine bB ?_|refine bz ?_)));(try (any_goals (first|(with_reducible rfl)|(refine ah ?_;omega)))))
   · exact ⟨hi,fun v h=>h,ht,fun v=>Iff.rfl,.inl rfl⟩
   intro now hnow
   obtain ⟨hnl,hsub,htn,hwon,hsm⟩:=hnow
   (repeat' (first|(with_reducible first|(refine hK _ _ ?_;clear hK K)|(refine aa _ ?_;clear aa K)|refine bh ?_|refine bX ?_|refine a9 ?_|refine aq ?_|refine ap ?_|refine bY ?_|refine aG ?_|refine ba ?_|refine bZ ?_|refine bc ?_|refine bd rfl ?_|refine bi ?_|refine be ?_|refine b7 ?_|refine bf ?_|refine aF ?_|refine n_k ?_|refine bg ?_|(refine ae ?_;clear ae X af Y)|(refine af ?_;clear ae X af Y))|(with_reducible refine bo ?_;first|refine bm rfl ?_|refine bn rfl ?_)|(with_reducible refine aQ ?_;first|refine au rfl rfl rfl rfl ?_|refine aI rfl rfl rfl ?_|refine bt rfl rfl rfl rfl ?_)|((first|(with_reducible first|refine bp rfl rfl fun K hK=>?_|refine br rfl rfl fun K aa=>?_|refine aH fun X Y ae af=>?_|refine aJ ?_)|(with_reducible refine aQ ?_;refine aW rfl rfl fun X Y ae af=>?_));simp (disch:=first|decide|omega|(simp only [List.length_cons,List.length_nil];omega)) only [go_sem,beq_self_eq_true,↓aj,↓ak hN,am hN,reduceIte,reduceCtorEq,Nat.reduceAdd,Nat.reduceLT,Nat.reduceLeDiff,Nat.reduceEqDiff,Nat.reduceSub])|(with_reducible refine And.intro (fun h=>?_) (fun h=>?_) <;> try (exfalso;omega))|(with_reducible refine bj aK hN rfl ?_ ?_;kernel_rfl)|(with_reducible refine And.intro ?_ ?_)|(refine ah ?_;omega)|(exact bu hN (by decide))))
   (refine cj (fun (k : Nat)=>(tmL [(38,.c (.int .i64 k)),(37,.c (.int .i64 n)),(10,.sl (ν 3)),(9,.c (.B now)),(8,.c (.int .i64 who)),(7,.c (.int .i64 top)),(0,soA g),(1,.c (.B inn))],hpL hp0 ν [.dead,.dead,.dead,.arr 4 .yes (.B (cO n fun v=>if v < k then gb now v && gi g.prio v == top else false))])) (fun (k : Nat)=>k ≤ n) (fun (k : Nat)=>n - k) ⟨0,?_,bU hX hN [] ?_ ?_⟩ ?_;(repeat' (first|(with_reducible first|exact bN _|exact bO|exact bP|refine bQ ?_ ?_|refine bR ?_ ?_|exact ay _|exact bL _|exact an _|rfl|exact aS _ _|refine aA ?_|exact bM _|refine aV ?_)|refine bS rfl ?_ ?_|exact aT hN _ rfl rfl rfl|exact aU hN _ rfl rfl rfl|exact aB hN _ rfl rfl rfl (Or.inr rfl)|(refine aP hN _ rfl rfl (by first|exact Or.inr rfl|exact Or.inl rfl) ?_;first|exact aM _|exact aN _)|refine aC hN rfl ?_|refine aD hN rfl rfl ?_|exact az hN _ rfl rfl|exact aE hN rfl rfl rfl rfl|(with_reducible first|refine aR ?_|refine bA ?_|refine bC ?_|refine bD ?_|refine bB ?_|refine bz ?_)));(try (any_goals (first|(with_reducible rfl)|(refine ah ?_;omega)))))
   · rw [hi];exact dF n fun v=>gb now v && gi g.prio v == top
   intro k hk
   (repeat' (first|(with_reducible first|(refine hK _ _ ?_;clear hK K)|(refine aa _ ?_;clear aa K)|refine bh ?_|refine bX ?_|refine a9 ?_|refine aq ?_|refine ap ?_|refine bY ?_|refine aG ?_|refine ba ?_|refine bZ ?_|refine bc ?_|refine bd rfl ?_|refine bi ?_|refine be ?_|refine b7 ?_|refine bf ?_|refine aF ?_|refine n_k ?_|refine bg ?_|(refine ae ?_;clear ae X af Y)|(refine af ?_;clear ae X af Y))|(with_reducible refine bo ?_;first|refine bm rfl ?_|refine bn rfl ?_)|(with_reducible refine aQ ?_;first|refine au rfl rfl rfl rfl ?_|refine aI rfl rfl rfl ?_|refine bt rfl rfl rfl rfl ?_)|((first|(with_reducible first|refine bp rfl rfl fun K hK=>?_|refine br rfl rfl fun K aa=>?_|refine aH fun X Y ae af=>?_|refine aJ ?_)|(with_reducible refine aQ ?_;refine aW rfl rfl fun X Y ae af=>?_));simp (disch:=first|decide|omega|(simp only [List.length_cons,List.length_nil];omega)) only [go_sem,beq_self_eq_true,↓aj,↓ak hN,am hN,reduceIte,reduceCtorEq,Nat.reduceAdd,Nat.reduceLT,Nat.reduceLeDiff,Nat.reduceEqDiff,Nat.reduceSub])|(with_reducible refine And.intro (fun h=>?_) (fun h=>?_) <;> try (exfalso;omega))|(with_reducible refine bj aK hN rfl ?_ ?_;kernel_rfl)|(with_reducible refine And.intro ?_ ?_)|(refine ah ?_;omega)|(exact bu hN (by decide))))
   · (refine ⟨k + 1,⟨?_,?_⟩,bU hX hN [] ?_ ?_⟩;(try any_goals dsimp only);(repeat' (first|(with_reducible first|exact bN _|exact bO|exact bP|refine bQ ?_ ?_|refine bR ?_ ?_|exact ay _|exact bL _|exact an _|rfl|exact aS _ _|refine aA ?_|exact bM _|refine aV ?_)|refine bS rfl ?_ ?_|exact aT hN _ rfl rfl rfl|exact aU hN _ rfl rfl rfl|exact aB hN _ rfl rfl rfl (Or.inr rfl)|(refine aP hN _ rfl rfl (by first|exact Or.inr rfl|exact Or.inl rfl) ?_;first|exact aM _|exact aN _)|refine aC hN rfl ?_|refine aD hN rfl rfl ?_|exact az hN _ rfl rfl|exact aE hN rfl rfl rfl rfl|(with_reducible first|refine aR ?_|refine bA ?_|refine bC ?_|refine bD ?_|refine bB ?_|refine bz ?_)));(try (any_goals (first|(with_reducible rfl)|(refine ah ?_;omega)))))
     exact eE (f:=fun v=>gb now v && gi g.prio v == top) (d:=fun _=>false) (by omega) (by simp [*])
   · (refine ⟨k + 1,⟨?_,?_⟩,bU hX hN [] ?_ ?_⟩;(try any_goals dsimp only);(repeat' (first|(with_reducible first|exact bN _|exact bO|exact bP|refine bQ ?_ ?_|refine bR ?_ ?_|exact ay _|exact bL _|exact an _|rfl|exact aS _ _|refine aA ?_|exact bM _|refine aV ?_)|refine bS rfl ?_ ?_|exact aT hN _ rfl rfl rfl|exact aU hN _ rfl rfl rfl|exact aB hN _ rfl rfl rfl (Or.inr rfl)|(refine aP hN _ rfl rfl (by first|exact Or.inr rfl|exact Or.inl rfl) ?_;first|exact aM _|exact aN _)|refine aC hN rfl ?_|refine aD hN rfl rfl ?_|exact az hN _ rfl rfl|exact aE hN rfl rfl rfl rfl|(with_reducible first|refine aR ?_|refine bA ?_|refine bC ?_|refine bD ?_|refine bB ?_|refine bz ?_)));(try (any_goals (first|(with_reducible rfl)|(refine ah ?_;omega)))))
     exact eE (f:=fun v=>gb now v && gi g.prio v == top) (d:=fun _=>false) (by omega) (by simp [*])
   have hgoal : (cO n fun v=>if v < k then gb now v && gi g.prio v == top else false) = cO n fun v=>gb now v && gi g.prio v == top:=dS (by omega)
   rw [hgoal]
   clear hgoal
   obtain ⟨goal,hgo⟩ : ∃ goal,goal = cO n fun v=>gb now v && gi g.prio v == top:=⟨_,rfl⟩
   rw [← hgo]
   have hglen : goal.length = n:=by rw [hgo,cU]
   have hgoalv : ∀ v,gb goal v = true ↔ gb now v = true ∧ gi g.prio v = top:=fun v=>by
    rcases Nat.lt_or_ge v n with h|h
    · rw [hgo,dn _ h];simp
    · refine ⟨fun h'=>?_,fun h'=>?_⟩
      · have:=e9 h';omega
      · have:=e9 h'.1;omega
   have hSn : ∀ v,gb now v = true → v < n:=fun v h=>hS v (hsub v h)
   obtain ⟨At,hAt⟩ : ∃ At,At = mks n (PG.Attr (cI g n) who (fun v=>gb now v = true) (fun v=>gb goal v = true)):=⟨_,rfl⟩
   have hAl : At.length = n:=by rw [hAt,cK]
   obtain ⟨rest,hrest⟩ : ∃ rest,rest = cO now.length fun i=>gb now i && !gb At i:=⟨_,rfl⟩
   have hrl : rest.length = n:=by rw [hrest,cU,hnl]
   have hatt:=sX g n hg hpk now goal hnl hglen (fun v h=>((hgoalv v).1 h).1) who htn
   rw [← hAt] at hatt
   have hless:=hY now At (by omega) (by omega)
   rw [← hrest] at hless
   (repeat' (first|(with_reducible refine jm 14 ?_)|(with_reducible first|(refine hK _ _ ?_;clear hK K)|(refine aa _ ?_;clear aa K)|refine bh ?_|refine bX ?_|refine a9 ?_|refine aq ?_|refine ap ?_|refine bY ?_|refine aG ?_|refine ba ?_|refine bZ ?_|refine bc ?_|refine bd rfl ?_|refine bi ?_|refine be ?_|refine b7 ?_|refine bf ?_|refine aF ?_|refine n_k ?_|refine bg ?_|(refine ae ?_;clear ae X af Y)|(refine af ?_;clear ae X af Y))|(with_reducible refine bo ?_;first|refine bm rfl ?_|refine bn rfl ?_)|(with_reducible refine aQ ?_;first|refine au rfl rfl rfl rfl ?_|refine aI rfl rfl rfl ?_|refine bt rfl rfl rfl rfl ?_)|((first|(with_reducible first|refine bp rfl rfl fun K hK=>?_|refine br rfl rfl fun K aa=>?_|refine aH fun X Y ae af=>?_|refine aJ ?_)|(with_reducible refine aQ ?_;refine aW rfl rfl fun X Y ae af=>?_));simp (disch:=first|decide|omega|(simp only [List.length_cons,List.length_nil];omega)) only [go_sem,beq_self_eq_true,↓aj,↓ak hN,am hN,reduceIte,reduceCtorEq,Nat.reduceAdd,Nat.reduceLT,Nat.reduceLeDiff,Nat.reduceEqDiff,Nat.reduceSub])|(with_reducible refine And.intro (fun h=>?_) (fun h=>?_) <;> try (exfalso;omega))|(with_reducible refine bj aK hN rfl ?_ ?_;kernel_rfl)|(refine aO hatt ?_ rfl (fun _=>rfl) ?_)|(refine aO hless ?_ rfl (fun _=>rfl) ?_)|(with_reducible first|exact ax|refine ao ?_ ?_|exact cg _|refine bv ?_|exact a8 _|exact bJ _ _|refine bI ?_|exact aY _)|exact bw hN rfl rfl|(refine bG hN rfl ?_;first|exact aM _|exact aN _)|exact aZ rfl rfl rfl|(simp only [bW,List.map_nil])|(with_reducible refine b8 ?_)|(with_reducible refine And.intro ?_ ?_)|(refine ah ?_;omega)|(exact bu hN (by decide))))
   (refine uy (bU (L':=[.dead,.dead,.dead,.dead,.dead,.dead]) (l:=[(12,.c (.B rest)),(9,.c (.B now)),(8,.c (.int .i64 who)),(7,.c (.int .i64 top)),(0,soA g),(1,.c (.B inn))]) hX hN [] ?_ ?_) ?_;(repeat' (first|(with_reducible first|exact bN _|exact bO|exact bP|refine bQ ?_ ?_|refine bR ?_ ?_|exact ay _|exact bL _|exact an _|rfl|exact aS _ _|refine aA ?_|exact bM _|refine aV ?_)|refine bS rfl ?_ ?_|exact aT hN _ rfl rfl rfl|exact aU hN _ rfl rfl rfl|exact aB hN _ rfl rfl rfl (Or.inr rfl)|(refine aP hN _ rfl rfl (by first|exact Or.inr rfl|exact Or.inl rfl) ?_;first|exact aM _|exact aN _)|refine aC hN rfl ?_|refine aD hN rfl rfl ?_|exact az hN _ rfl rfl|exact aE hN rfl rfl rfl rfl|(with_reducible first|refine aR ?_|refine bA ?_|refine bC ?_|refine bD ?_|refine bB ?_|refine bz ?_)));(try (any_goals (first|(with_reducible rfl)|(refine ah ?_;omega)))))
   have hrestP:=iX hnl hAt hrest
   have hihr : num (fun v=>gb rest v = true) n < N ∧ PG.Total (cI g n) (fun v=>gb rest v = true):=by
    rw [hrestP]
    refine ⟨?_,PG.total_diff hf htn⟩
    rcases hsm with rfl|hsm
    · obtain ⟨v,a,b,c⟩:=hvtop
      have:=kb (p:=fun v=>gb now v = true) (q:=PG.Diff (fun v=>gb now v = true) (PG.Attr (cI g n) who (fun v=>gb now v = true) (fun v=>gb goal v = true))) (k:=n) (fun t _ h=>h.1) ⟨v,a,b,fun h=>h.2 (PG.attr_goal b ((hgoalv v).2 ⟨b,c⟩))⟩
      omega
    · have:=s5 (p:=fun v=>gb now v = true) (q:=PG.Diff (fun v=>gb now v = true) (PG.Attr (cI g n) who (fun v=>gb now v = true) (fun v=>gb goal v = true))) (k:=n) (fun t _ h=>h.1)
      omega
   have hrn : ∀ v,gb rest v = true → v < n:=fun v h=>by have:=e9 h;omega
   have hlow:=ih rest hrl hihr.1 hihr.2
   have hwr:=qc g.prio rest n
   generalize ld g.prio rest n = wr at hlow hwr
   obtain ⟨wins,hwi⟩ : ∃ wins,wins = mks n (PG.Won (cI g n) wr (fun v=>gb rest v = true)):=⟨_,rfl⟩
   have hwl : wins.length = n:=by rw [hwi,cK]
   have hwv : ∀ v,gb wins v = true ↔ PG.Won (cI g n) wr (fun v=>gb rest v = true) v:=fun v=>by
    rcases Nat.lt_or_ge v n with h|h
    · rw [hwi,dU _ h];exact gt
    · refine ⟨fun h'=>?_,fun h'=>?_⟩
      · have:=e9 h';omega
      · have:=hrn v (PG.won_in h');omega
   rw [← hwi] at hlow
   obtain ⟨lost1,hl1⟩ : ∃ lost1,lost1 = cO rest.length fun i=>gb rest i && !gb wins i:=⟨_,rfl⟩
   have hl1l : lost1.length = n:=by rw [hl1,cU,hrl]
   have hless1:=hY rest wins (by omega) (by omega)
   rw [← hl1] at hless1
   have hTp : ∀ v,gb now v = true → gb goal v = true → (cI g n).prio v = top:=fun v a b=>by rw [iW hg (hSn v a)];exact ((hgoalv v).1 b).2
   have hm : ∀ v,gb now v = true → (cI g n).prio v ≤ top:=fun v a=>by rw [iW hg (hSn v a)];exact hletop v (hsub v a)
   have hd : top % 2 = who:=by omega
   have hLin : ∀ L : List Bool,(∀ v,gb L v = true ↔ PG.Won (cI g n) (1 - who) (PG.Diff (fun v=>gb now v = true) (PG.Attr (cI g n) who (fun v=>gb now v = true) (fun v=>gb goal v = true))) v) → ∀ v,gb L v = true → gb now v = true:=fun L hL v h=>(PG.won_in ((hL v).1 h)).1
   have hLy : wr = who → ∀ v,gb lost1 v = true ↔ PG.Won (cI g n) (1 - who) (PG.Diff (fun v=>gb now v = true) (PG.Attr (cI g n) who (fun v=>gb now v = true) (fun v=>gb goal v = true))) v:=fun e v=>by
    rw [← hrestP,iY hf hrn hihr.2 hi01,kz hrl (X:=PG.Won (cI g n) wr (fun v=>gb rest v = true)) hwi hl1,e]
   have hLn : ¬ wr = who → ∀ v,gb wins v = true ↔ PG.Won (cI g n) (1 - who) (PG.Diff (fun v=>gb now v = true) (PG.Attr (cI g n) who (fun v=>gb now v = true) (fun v=>gb goal v = true))) v:=fun e v=>by
    rw [← hrestP,hwv,show wr = 1 - who by omega]
   clear hgoalv hAt hAl hrest hwi hwv
   have key : ∀ L : List Bool,L.length = n → (∀ v,gb L v = true ↔ PG.Won (cI g n) (1 - who) (PG.Diff (fun v=>gb now v = true) (PG.Attr (cI g n) who (fun v=>gb now v = true) (fun v=>gb goal v = true))) v) → ∃ aw now2 : List Bool,
     aw.length = n ∧ now2.length = n ∧
     aL Try.prog 218 [soA g,.c (.int .i64 (1 - who)),.c (.B now),.c (.B L)] [.arr 4 .yes (.B aw)] (fun ns=>.sl (ns.getD 0 0)) ∧
     aL Try.prog 197 [.c (.B now),.c (.B aw)] [.arr 4 .yes (.B now2)] (fun ns=>.sl (ns.getD 0 0)) ∧
     (¬ true ∈ L → now = mks n (PG.Won (cI g n) who (fun v=>gb inn v = true))) ∧
     (¬ true ∈ now2 → now2 = mks n (PG.Won (cI g n) who (fun v=>gb inn v = true))) ∧
     (true ∈ L → (now2.length = n ∧ (∀ v,gb now2 v = true → gb inn v = true) ∧ PG.Total (cI g n) (fun v=>gb now2 v = true) ∧ (∀ v,PG.Won (cI g n) who (fun v=>gb inn v = true) v ↔ PG.Won (cI g n) who (fun v=>gb now2 v = true) v) ∧ (now2 = inn ∨ num (fun v=>gb now2 v = true) n < num (fun v=>gb inn v = true) n)) ∧ num (fun v=>gb now2 v = true) n < num (fun v=>gb now v = true) n):=fun L hLl hL=>by
    obtain ⟨aw,haw⟩ : ∃ aw,aw = mks n (PG.Attr (cI g n) (1 - who) (fun v=>gb now v = true) (fun v=>gb L v = true)):=⟨_,rfl⟩
    obtain ⟨now2,hn2⟩ : ∃ now2,now2 = cO now.length fun i=>gb now i && !gb aw i:=⟨_,rfl⟩
    have hal : aw.length = n:=by rw [haw,cK]
    have hnl2 : now2.length = n:=by rw [hn2,cU,hnl]
    have h2:=s7 hf hnl hSn htn hi01 hL haw hn2 hwon
    have hLi:=hLin L hL
    refine ⟨aw,now2,hal,hnl2,?_,?_,s6 hf hnl hSn htn hd hTp hm hL hwon,s8 hnl2 h2,fun hmem=>?_⟩
    · rw [haw];exact sX g n hg hpk now L hnl hLl hLi (1 - who) htn
    · rw [hn2];exact hY now aw (by omega) (by omega)
    · obtain ⟨a,b,c,d⟩:=s9 hnl hf htn hSn haw hn2 hLi hmem
      refine ⟨⟨a,fun v h=>hsub v (b v h),c,h2,.inr ?_⟩,d⟩
      rcases hsm with rfl|hsm
      · exact d
      · omega
   by_cases hww : wr = who
   · obtain ⟨aw,now2,hal,hnl2,c1,c2,f1,f2,f3⟩:=key lost1 hl1l (hLy hww)
     subst hww
     (repeat' (first|(with_reducible refine jm 20 ?_)|(with_reducible first|(refine hK _ _ ?_;clear hK K)|(refine aa _ ?_;clear aa K)|refine bh ?_|refine bX ?_|refine a9 ?_|refine aq ?_|refine ap ?_|refine bY ?_|refine aG ?_|refine ba ?_|refine bZ ?_|refine bc ?_|refine bd rfl ?_|refine bi ?_|refine be ?_|refine b7 ?_|refine bf ?_|refine aF ?_|refine n_k ?_|refine bg ?_|(refine ae ?_;clear ae X af Y)|(refine af ?_;clear ae X af Y))|(with_reducible refine bo ?_;first|refine bm rfl ?_|refine bn rfl ?_)|(with_reducible refine aQ ?_;first|refine au rfl rfl rfl rfl ?_|refine aI rfl rfl rfl ?_|refine bt rfl rfl rfl rfl ?_)|((first|(with_reducible first|refine bp rfl rfl fun K hK=>?_|refine br rfl rfl fun K aa=>?_|refine aH fun X Y ae af=>?_|refine aJ ?_)|(with_reducible refine aQ ?_;refine aW rfl rfl fun X Y ae af=>?_));simp (disch:=first|decide|omega|(simp only [List.length_cons,List.length_nil];omega)) only [go_sem,beq_self_eq_true,↓aj,↓ak hN,am hN,reduceIte,reduceCtorEq,Nat.reduceAdd,Nat.reduceLT,Nat.reduceLeDiff,Nat.reduceEqDiff,Nat.reduceSub])|(with_reducible refine And.intro (fun h=>?_) (fun h=>?_) <;> try (exfalso;omega))|(with_reducible refine bj aK hN rfl ?_ ?_;kernel_rfl)|(refine dQ (hlow) ?_ rfl rfl ?_)|(refine aO hless1 ?_ rfl (fun _=>rfl) ?_)|(refine aO (fJ lost1 (by omega) true) ?_ rfl (fun _=>rfl) ?_)|(with_reducible first|exact ax|refine ao ?_ ?_|exact cg _|refine bv ?_|exact a8 _|exact bJ _ _|refine bI ?_|exact aY _)|exact bw hN rfl rfl|(refine bG hN rfl ?_;first|exact aM _|exact aN _)|exact aZ rfl rfl rfl|(simp only [bW,List.map_nil])|(with_reducible refine b8 ?_)|(with_reducible refine And.intro ?_ ?_)|(refine ah ?_;omega)|(exact bu hN (by decide))))
     · have e1:=f1 (by assumption)
       (refine d8 hN [] (by decide) (.inr rfl) (by first|exact cL rfl rfl|exact cF hN rfl rfl rfl rfl|exact cy hN rfl rfl rfl rfl rfl|(simp (disch:=first|decide|omega|(simp only [List.length_cons,List.length_nil];omega)) only [ci,cu,cw,cx,go_sem,beq_self_eq_true,↓aj,↓ak hN,am hN,reduceIte,reduceCtorEq,Nat.reduceAdd,Nat.reduceLT,Nat.reduceLeDiff,Nat.reduceEqDiff,Nat.reduceSub];rfl)|rfl) ?_ fun νs hνs=>?_;(repeat' (first|exact Gone.nil|(refine Gone.cons rfl rfl ?_ ?_)|(with_reducible refine dA ?_)|(with_reducible refine dz ?_)|(with_reducible refine SVs.cons ?_ ?_)|(with_reducible exact SVs.nil)|(simp only [List.drop,List.take])|(simp (disch:=first|decide|omega) only [↓aj,reduceIte,reduceCtorEq,Nat.reduceEqDiff])|(with_reducible exact fw _)|(with_reducible exact dw _)|(exact dx rfl rfl rfl)|(exact dy 0 (by simp) rfl rfl)|(refine d7 hN rfl (dB hN (by decide)) ?_)|(with_reducible refine d6 ?_)|(with_reducible rfl)|(with_reducible refine bA ?_)|(with_reducible refine bC ?_)|(with_reducible refine bD ?_)|(with_reducible refine bB ?_)|(with_reducible refine bz ?_)|(refine ah ?_;omega))))
     unfold ux
     (repeat' (first|(with_reducible first|(refine hK _ _ ?_;clear hK K)|(refine aa _ ?_;clear aa K)|refine bh ?_|refine bX ?_|refine a9 ?_|refine aq ?_|refine ap ?_|refine bY ?_|refine aG ?_|refine ba ?_|refine bZ ?_|refine bc ?_|refine bd rfl ?_|refine bi ?_|refine be ?_|refine b7 ?_|refine bf ?_|refine aF ?_|refine n_k ?_|refine bg ?_|(refine ae ?_;clear ae X af Y)|(refine af ?_;clear ae X af Y))|(with_reducible refine bo ?_;first|refine bm rfl ?_|refine bn rfl ?_)|(with_reducible refine aQ ?_;first|refine au rfl rfl rfl rfl ?_|refine aI rfl rfl rfl ?_|refine bt rfl rfl rfl rfl ?_)|((first|(with_reducible first|refine bp rfl rfl fun K hK=>?_|refine br rfl rfl fun K aa=>?_|refine aH fun X Y ae af=>?_|refine aJ ?_)|(with_reducible refine aQ ?_;refine aW rfl rfl fun X Y ae af=>?_));simp (disch:=first|decide|omega|(simp only [List.length_cons,List.length_nil];omega)) only [go_sem,beq_self_eq_true,↓aj,↓ak hN,am hN,reduceIte,reduceCtorEq,Nat.reduceAdd,Nat.reduceLT,Nat.reduceLeDiff,Nat.reduceEqDiff,Nat.reduceSub])|(with_reducible refine And.intro (fun h=>?_) (fun h=>?_) <;> try (exfalso;omega))|(with_reducible refine bj aK hN rfl ?_ ?_;kernel_rfl)|(refine aO c1 ?_ rfl (fun _=>rfl) ?_)|(refine aO c2 ?_ rfl (fun _=>rfl) ?_)|(refine aO (fJ now2 (by omega) true) ?_ rfl (fun _=>rfl) ?_)|(with_reducible first|exact ax|refine ao ?_ ?_|exact cg _|refine bv ?_|exact a8 _|exact bJ _ _|refine bI ?_|exact aY _)|exact bw hN rfl rfl|(refine bG hN rfl ?_;first|exact aM _|exact aN _)|exact aZ rfl rfl rfl|(simp only [bW,List.map_nil])|(with_reducible refine b8 ?_)|(with_reducible refine And.intro ?_ ?_)|(refine ah ?_;omega)|(exact bu hN (by decide))))
     · have e2:=f2 (by assumption)
       (refine d8 hN [] (by decide) (.inr rfl) (by first|exact cL rfl rfl|exact cF hN rfl rfl rfl rfl|exact cy hN rfl rfl rfl rfl rfl|(simp (disch:=first|decide|omega|(simp only [List.length_cons,List.length_nil];omega)) only [ci,cu,cw,cx,go_sem,beq_self_eq_true,↓aj,↓ak hN,am hN,reduceIte,reduceCtorEq,Nat.reduceAdd,Nat.reduceLT,Nat.reduceLeDiff,Nat.reduceEqDiff,Nat.reduceSub];rfl)|rfl) ?_ fun νs hνs=>?_;(repeat' (first|exact Gone.nil|(refine Gone.cons rfl rfl ?_ ?_)|(with_reducible refine dA ?_)|(with_reducible refine dz ?_)|(with_reducible refine SVs.cons ?_ ?_)|(with_reducible exact SVs.nil)|(simp only [List.drop,List.take])|(simp (disch:=first|decide|omega) only [↓aj,reduceIte,reduceCtorEq,Nat.reduceEqDiff])|(with_reducible exact fw _)|(with_reducible exact dw _)|(exact dx rfl rfl rfl)|(exact dy 0 (by simp) rfl rfl)|(refine d7 hN rfl (dB hN (by decide)) ?_)|(with_reducible refine d6 ?_)|(with_reducible rfl)|(with_reducible refine bA ?_)|(with_reducible refine bC ?_)|(with_reducible refine bD ?_)|(with_reducible refine bB ?_)|(with_reducible refine bz ?_)|(refine ah ?_;omega))))
     · have e3:=f3 (by assumption)
       (refine ⟨now2,⟨?_,?_⟩,bU hX hN [(0,8)] ?_ ?_⟩;(try any_goals dsimp only);(repeat' (first|(with_reducible first|exact bN _|exact bO|exact bP|refine bQ ?_ ?_|refine bR ?_ ?_|exact ay _|exact bL _|exact an _|rfl|exact aS _ _|refine aA ?_|exact bM _|refine aV ?_)|refine bS rfl ?_ ?_|exact aT hN _ rfl rfl rfl|exact aU hN _ rfl rfl rfl|exact aB hN _ rfl rfl rfl (Or.inr rfl)|(refine aP hN _ rfl rfl (by first|exact Or.inr rfl|exact Or.inl rfl) ?_;first|exact aM _|exact aN _)|refine aC hN rfl ?_|refine aD hN rfl rfl ?_|exact az hN _ rfl rfl|exact aE hN rfl rfl rfl rfl|(with_reducible first|refine aR ?_|refine bA ?_|refine bC ?_|refine bD ?_|refine bB ?_|refine bz ?_)));(try (any_goals (first|(with_reducible rfl)|(refine ah ?_;omega)))))
       · exact e3.1
       · exact aP hN 0 rfl rfl (Or.inr rfl) (fN.unn _)
   · obtain ⟨aw,now2,hal,hnl2,c1,c2,f1,f2,f3⟩:=key wins hwl (hLn hww)
     (repeat' (first|(with_reducible refine jm 20 ?_)|(with_reducible first|(refine hK _ _ ?_;clear hK K)|(refine aa _ ?_;clear aa K)|refine bh ?_|refine bX ?_|refine a9 ?_|refine aq ?_|refine ap ?_|refine bY ?_|refine aG ?_|refine ba ?_|refine bZ ?_|refine bc ?_|refine bd rfl ?_|refine bi ?_|refine be ?_|refine b7 ?_|refine bf ?_|refine aF ?_|refine n_k ?_|refine bg ?_|(refine ae ?_;clear ae X af Y)|(refine af ?_;clear ae X af Y))|(with_reducible refine bo ?_;first|refine bm rfl ?_|refine bn rfl ?_)|(with_reducible refine aQ ?_;first|refine au rfl rfl rfl rfl ?_|refine aI rfl rfl rfl ?_|refine bt rfl rfl rfl rfl ?_)|((first|(with_reducible first|refine bp rfl rfl fun K hK=>?_|refine br rfl rfl fun K aa=>?_|refine aH fun X Y ae af=>?_|refine aJ ?_)|(with_reducible refine aQ ?_;refine aW rfl rfl fun X Y ae af=>?_));simp (disch:=first|decide|omega|(simp only [List.length_cons,List.length_nil];omega)) only [go_sem,beq_self_eq_true,↓aj,↓ak hN,am hN,reduceIte,reduceCtorEq,Nat.reduceAdd,Nat.reduceLT,Nat.reduceLeDiff,Nat.reduceEqDiff,Nat.reduceSub])|(with_reducible refine And.intro (fun h=>?_) (fun h=>?_) <;> try (exfalso;omega))|(with_reducible refine bj aK hN rfl ?_ ?_;kernel_rfl)|(refine dQ (hlow) ?_ rfl rfl ?_)|(refine aO (fJ wins (by omega) true) ?_ rfl (fun _=>rfl) ?_)|(with_reducible first|exact ax|refine ao ?_ ?_|exact cg _|refine bv ?_|exact a8 _|exact bJ _ _|refine bI ?_|exact aY _)|exact bw hN rfl rfl|(refine bG hN rfl ?_;first|exact aM _|exact aN _)|exact aZ rfl rfl rfl|(simp only [bW,List.map_nil])|(with_reducible refine b8 ?_)|(with_reducible refine And.intro ?_ ?_)|(refine ah ?_;omega)|(exact bu hN (by decide))))
     · have e1:=f1 (by assumption)
       (refine d8 hN [] (by decide) (.inr rfl) (by first|exact cL rfl rfl|exact cF hN rfl rfl rfl rfl|exact cy hN rfl rfl rfl rfl rfl|(simp (disch:=first|decide|omega|(simp only [List.length_cons,List.length_nil];omega)) only [ci,cu,cw,cx,go_sem,beq_self_eq_true,↓aj,↓ak hN,am hN,reduceIte,reduceCtorEq,Nat.reduceAdd,Nat.reduceLT,Nat.reduceLeDiff,Nat.reduceEqDiff,Nat.reduceSub];rfl)|rfl) ?_ fun νs hνs=>?_;(repeat' (first|exact Gone.nil|(refine Gone.cons rfl rfl ?_ ?_)|(with_reducible refine dA ?_)|(with_reducible refine dz ?_)|(with_reducible refine SVs.cons ?_ ?_)|(with_reducible exact SVs.nil)|(simp only [List.drop,List.take])|(simp (disch:=first|decide|omega) only [↓aj,reduceIte,reduceCtorEq,Nat.reduceEqDiff])|(with_reducible exact fw _)|(with_reducible exact dw _)|(exact dx rfl rfl rfl)|(exact dy 0 (by simp) rfl rfl)|(refine d7 hN rfl (dB hN (by decide)) ?_)|(with_reducible refine d6 ?_)|(with_reducible rfl)|(with_reducible refine bA ?_)|(with_reducible refine bC ?_)|(with_reducible refine bD ?_)|(with_reducible refine bB ?_)|(with_reducible refine bz ?_)|(refine ah ?_;omega))))
     unfold ux
     (repeat' (first|(with_reducible first|(refine hK _ _ ?_;clear hK K)|(refine aa _ ?_;clear aa K)|refine bh ?_|refine bX ?_|refine a9 ?_|refine aq ?_|refine ap ?_|refine bY ?_|refine aG ?_|refine ba ?_|refine bZ ?_|refine bc ?_|refine bd rfl ?_|refine bi ?_|refine be ?_|refine b7 ?_|refine bf ?_|refine aF ?_|refine n_k ?_|refine bg ?_|(refine ae ?_;clear ae X af Y)|(refine af ?_;clear ae X af Y))|(with_reducible refine bo ?_;first|refine bm rfl ?_|refine bn rfl ?_)|(with_reducible refine aQ ?_;first|refine au rfl rfl rfl rfl ?_|refine aI rfl rfl rfl ?_|refine bt rfl rfl rfl rfl ?_)|((first|(with_reducible first|refine bp rfl rfl fun K hK=>?_|refine br rfl rfl fun K aa=>?_|refine aH fun X Y ae af=>?_|refine aJ ?_)|(with_reducible refine aQ ?_;refine aW rfl rfl fun X Y ae af=>?_));simp (disch:=first|decide|omega|(simp only [List.length_cons,List.length_nil];omega)) only [go_sem,beq_self_eq_true,↓aj,↓ak hN,am hN,reduceIte,reduceCtorEq,Nat.reduceAdd,Nat.reduceLT,Nat.reduceLeDiff,Nat.reduceEqDiff,Nat.reduceSub])|(with_reducible refine And.intro (fun h=>?_) (fun h=>?_) <;> try (exfalso;omega))|(with_reducible refine bj aK hN rfl ?_ ?_;kernel_rfl)|(refine aO c1 ?_ rfl (fun _=>rfl) ?_)|(refine aO c2 ?_ rfl (fun _=>rfl) ?_)|(refine aO (fJ now2 (by omega) true) ?_ rfl (fun _=>rfl) ?_)|(with_reducible first|exact ax|refine ao ?_ ?_|exact cg _|refine bv ?_|exact a8 _|exact bJ _ _|refine bI ?_|exact aY _)|exact bw hN rfl rfl|(refine bG hN rfl ?_;first|exact aM _|exact aN _)|exact aZ rfl rfl rfl|(simp only [bW,List.map_nil])|(with_reducible refine b8 ?_)|(with_reducible refine And.intro ?_ ?_)|(refine ah ?_;omega)|(exact bu hN (by decide))))
     · have e2:=f2 (by assumption)
       (refine d8 hN [] (by decide) (.inr rfl) (by first|exact cL rfl rfl|exact cF hN rfl rfl rfl rfl|exact cy hN rfl rfl rfl rfl rfl|(simp (disch:=first|decide|omega|(simp only [List.length_cons,List.length_nil];omega)) only [ci,cu,cw,cx,go_sem,beq_self_eq_true,↓aj,↓ak hN,am hN,reduceIte,reduceCtorEq,Nat.reduceAdd,Nat.reduceLT,Nat.reduceLeDiff,Nat.reduceEqDiff,Nat.reduceSub];rfl)|rfl) ?_ fun νs hνs=>?_;(repeat' (first|exact Gone.nil|(refine Gone.cons rfl rfl ?_ ?_)|(with_reducible refine dA ?_)|(with_reducible refine dz ?_)|(with_reducible refine SVs.cons ?_ ?_)|(with_reducible exact SVs.nil)|(simp only [List.drop,List.take])|(simp (disch:=first|decide|omega) only [↓aj,reduceIte,reduceCtorEq,Nat.reduceEqDiff])|(with_reducible exact fw _)|(with_reducible exact dw _)|(exact dx rfl rfl rfl)|(exact dy 0 (by simp) rfl rfl)|(refine d7 hN rfl (dB hN (by decide)) ?_)|(with_reducible refine d6 ?_)|(with_reducible rfl)|(with_reducible refine bA ?_)|(with_reducible refine bC ?_)|(with_reducible refine bD ?_)|(with_reducible refine bB ?_)|(with_reducible refine bz ?_)|(refine ah ?_;omega))))
     · have e3:=f3 (by assumption)
       (refine ⟨now2,⟨?_,?_⟩,bU hX hN [(0,7)] ?_ ?_⟩;(try any_goals dsimp only);(repeat' (first|(with_reducible first|exact bN _|exact bO|exact bP|refine bQ ?_ ?_|refine bR ?_ ?_|exact ay _|exact bL _|exact an _|rfl|exact aS _ _|refine aA ?_|exact bM _|refine aV ?_)|refine bS rfl ?_ ?_|exact aT hN _ rfl rfl rfl|exact aU hN _ rfl rfl rfl|exact aB hN _ rfl rfl rfl (Or.inr rfl)|(refine aP hN _ rfl rfl (by first|exact Or.inr rfl|exact Or.inl rfl) ?_;first|exact aM _|exact aN _)|refine aC hN rfl ?_|refine aD hN rfl rfl ?_|exact az hN _ rfl rfl|exact aE hN rfl rfl rfl rfl|(with_reducible first|refine aR ?_|refine bA ?_|refine bC ?_|refine bD ?_|refine bB ?_|refine bz ?_)));(try (any_goals (first|(with_reducible rfl)|(refine ah ?_;omega)))))
       · exact e3.1
       · exact aP hN 0 rfl rfl (Or.inr rfl) (fN.unn _)
end Go.Proofs.Ytfaefmabjjndeaa
