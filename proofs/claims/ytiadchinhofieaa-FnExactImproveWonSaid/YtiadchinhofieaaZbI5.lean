/-
  The program's worth of a play, and its play by successors.
-/
import Derived.Test.YtiadchinhofieaaZbI4
import Derived.Test.YtiadchinhofieaaZbT2
import Derived.Test.YtiadchinhofieaaZbV1
import Derived.Test.YtiadchinhofieaaZbShelf2
import Derived.Test.YtiadchinhofieaaZbAt2
import Derived.Test.YtiadchinhofieaaZbR9
namespace Go.Proofs.Ytiadchinhofieaa
set_option linter.unusedVariables false
set_option linter.unusedSimpArgs false
open Go.RowKit
attribute [local irreducible] bp cR Aw Le
noncomputable def dL (g : Pa) (L : List Int) : Nat → Int
 | 0 => gi L 0
 | k + 1 => if tf (Hv g (gi L k) (dL g L k)) then gi L k else dL g L k
section
variable {g : Pa} {L : List Int}
theorem i8 {k : Nat} (h : Hv g (gi L k) (dL g L k)) : dL g L (k + 1) = gi L k:=by
 show (if tf _ then _ else _) = _;rw [aO h,gh]
theorem jY {k : Nat} (h : ¬ Hv g (gi L k) (dL g L k)) : dL g L (k + 1) = dL g L k:=by
 show (if tf _ then _ else _) = _;rw [aB h,fD]
theorem jZ (hL : 0 < L.length) : ∀ k,k ≤ L.length → ∃ j,j < L.length ∧ dL g L k = gi L j:=by
 intro k
 induction k with
 | zero => exact fun _ => ⟨0, hL, rfl⟩
 | succ k ih =>
   intro hk
   by_cases c : Hv g (gi L k) (dL g L k)
   · exact ⟨k,by omega,i8 c⟩
   · rw [jY c];exact ih (by omega)
theorem sj : ∀ k j,j < k → ¬ Hv g (gi L j) (dL g L k):=by
 intro k
 induction k with
 | zero => exact fun j h => absurd h (Nat.not_lt_zero _)
 | succ k ih =>
   intro j hj
   by_cases c : Hv g (gi L k) (dL g L k)
   · rw [i8 c]
     by_cases e : j = k
     · subst e;exact fun h=>d7 h h
     · exact fun h=>ih j (by omega) (fP h c)
   · rw [jY c]
     by_cases e : j = k
     · subst e;exact c
     · exact ih j (by omega)
end
theorem sk {g : Pa} {f : Nat → Nat} (hf : ∀ x,x < g.prio.length → f x < g.prio.length) {v : Nat} (hv : v < g.prio.length) :
  0 < (dJ (itF f v) g.prio.length).length ∧ (fB (itF f v) g.prio.length ++ dJ (itF f v) g.prio.length).length ≤ g.prio.length ∧ Bnd (fB (itF f v) g.prio.length ++ dJ (itF f v) g.prio.length) g.prio.length ∧
  dL g (dJ (itF f v) g.prio.length) (dJ (itF f v) g.prio.length).length = (hdF g f v : Nat) ∧ wyF g f v < (fB (itF f v) g.prio.length ++ dJ (itF f v) g.prio.length).length ∧
  gi (fB (itF f v) g.prio.length ++ dJ (itF f v) g.prio.length) (wyF g f v) = (hdF g f v : Nat) ∧ (∀ j,j < wyF g f v → gi (fB (itF f v) g.prio.length ++ dJ (itF f v) g.prio.length) j ≠ (hdF g f v : Nat)) ∧
  srt (dS (fun x=>Hv g x (hdF g f v : Nat)) (fB (itF f v) g.prio.length ++ dJ (itF f v) g.prio.length) (wyF g f v)) = lst (OvP g f v) g.prio.length:=by
 have hlt:=fun k=>d9 hf hv k
 obtain ⟨e1,_,e2,e3⟩:=md hlt
 obtain ⟨_,_,hdist⟩:=ly hlt g.prio.length 0 (by omega) fun i j _ h=>absurd h (Nat.not_lt_zero _)
 change ∀ i j,i < j → j < eH (itF f v) g.prio.length → itF f v i ≠ itF f v j at hdist
 have hat:=fun j hj=>rH hlt (j:=j) hj
 have hll:=qj hlt
 have h2 : fB (itF f v) g.prio.length ++ dJ (itF f v) g.prio.length = dZ (itF f v) (eH (itF f v) g.prio.length):=List.take_append_drop _ _
 rw [h2]
 generalize dJ (itF f v) g.prio.length = L at *
 generalize eH (itF f v) g.prio.length = e at *
 generalize atA (itF f v) g.prio.length = a at *
 clear h2
 have hper : itF f (itF f v a) (e - a) = itF f v a:=by rw [← cM,show a + (e - a) = e by omega];exact e3.symm
 have hW : ∀ j,j < e → gi (dZ (itF f v) e) j = (itF f v j : Nat):=fun j hj=>dA _ hj
 have hL0 : 0 < L.length:=by omega
 have hhd : dL g L L.length = (hdF g f v : Nat):=by
  obtain ⟨j,j1,j2⟩:=jZ (g:=g) hL0 _ (Nat.le_refl _)
  have jm:=sj (g:=g) (L:=L) L.length
  rw [hat j (by omega)] at j2
  rw [j2] at jm ⊢
  have hin : ∀ m,∃ r,r < L.length ∧ itF f (itF f v a) m = itF f v (a + r):=fun m=>by
   obtain ⟨r,r1,r2⟩:=i4 hper (by omega) m
   exact ⟨r,by omega,by rw [r2,cM]⟩
  have : hdF g f v = itF f v (a + j):=by
   refine kD ⟨⟨_,rfl⟩,⟨e - a,by omega,?_⟩,fun m=>?_⟩
   · rw [← cM,show a + j + (e - a) = a + (e - a + j) by omega,cM f v a,cM f (itF f v a),hper,← cM]
   · rw [← cM,Nat.add_assoc,cM]
     obtain ⟨r,r1,r2⟩:=hin (j + m)
     rw [r2]
     have:=jm r r1
     rw [hat r (by omega)] at this
     exact this
  rw [this]
 obtain ⟨w1,w2⟩:=gP hf hv
 have hwe : wyF g f v < e:=by
  obtain ⟨j,j1,j2⟩:=jZ (g:=g) hL0 _ (Nat.le_refl _)
  rw [hhd,hat j (by omega)] at j2
  rcases Nat.lt_or_ge (wyF g f v) e with h|h
  · exact h
  · exact absurd (show itF f v (a + j) = hdF g f v by omega) (w2 _ (by omega))
 refine ⟨hL0,by rw [d8];exact e1,fun k hk=>?_,hhd,by rw [d8];exact hwe,by rw [hW _ hwe,w1],fun j hj=>?_,?_⟩
 · rw [d8] at hk
   rw [hW k hk]
   have:=hlt k
   omega
 · rw [hW j (by omega)]
   have:=w2 j hj
   omega
 · have hm : ∀ x,x ∈ dS (fun x=>Hv g x (hdF g f v : Nat)) (dZ (itF f v) e) (wyF g f v) ↔ ∃ j,j < wyF g f v ∧ (itF f v j : Int) = x ∧ Hv g x (hdF g f v : Nat):=fun x=>by
    rw [eY _ (by rw [d8];omega)]
    constructor
    · rintro ⟨j,q1,q2,q3⟩;exact ⟨j,q1,by rw [← hW j (by omega)];exact q2,q3⟩
    · rintro ⟨j,q1,q2,q3⟩;exact ⟨j,q1,by rw [hW j (by omega)];exact q2,q3⟩
   have nd : ∀ k,k ≤ wyF g f v → (dS (fun x=>Hv g x (hdF g f v : Nat)) (dZ (itF f v) e) k).Nodup:=by
    intro k
    induction k with
    | zero => exact fun _ => List.nodup_nil
    | succ k ih =>
      intro hk
      by_cases c : Hv g (gi (dZ (itF f v) e) k) (hdF g f v : Nat)
      · rw [eC c,List.nodup_append]
        refine ⟨ih (by omega),by simp,fun x hx y hy e=>?_⟩
        rw [List.mem_singleton] at hy
        subst e;subst hy
        obtain ⟨j,q1,q2,_⟩:=(eY _ (by rw [d8];omega)).1 hx
        rw [hW j (by omega),hW k (by omega)] at q2
        exact hdist j k q1 (by omega) (by omega)
      · rw [fv c];exact ih (by omega)
   have h3 : (srt (dS (fun x=>Hv g x (hdF g f v : Nat)) (dZ (itF f v) e) (wyF g f v))).Nodup:=(List.mergeSort_perm _ _).nodup_iff.2 (nd _ (Nat.le_refl _))
   refine mb _ _ (((vw _).and h3).imp fun h=>by omega) (jv (fl _ _)) fun x=>?_
   rw [po,hm,fu]
   constructor
   · rintro ⟨j,q1,q2,q3⟩
     exact ⟨itF f v j,hlt j,⟨by rw [q2];exact q3,j,q1,rfl⟩,q2.symm⟩
   · rintro ⟨y,_,⟨q3,j,q1,q2⟩,q4⟩
     exact ⟨j,q1,by rw [q2,q4],by rw [q4];exact q3⟩
set_option maxHeartbeats 1000000 in
theorem ox (g : Pa) (hg : PaOk g) (S L : List Int) (hL : 0 < L.length) (hlen : (S ++ L).length ≤ 256) (hB : Bnd (S ++ L) g.prio.length) (d : Nat) (hd : d < (S ++ L).length) (hdh : gi (S ++ L) d = dL g L L.length) (hdn : ∀ j,j < d → gi (S ++ L) j ≠ dL g L L.length) :
  bp Try.prog 86 [paA g,.agg [.c (.I S),.c (.I L)]] [.arr 2 .may (.I (srt (dS (fun x=>Hv g x (dL g L L.length)) (S ++ L) d)))] (fun ns=>.agg [.c (.int .i64 (dL g L L.length)),.sl (ns.getD 0 0),.c (.int .i64 d)]):=by
 have hl:=hg.len
 have hle:=hg.ar.le
 have hsl : (S ++ L).length = S.length + L.length:=List.length_append
 have hBL : ∀ k,k < L.length → fF g.prio.length (gi L k):=fun k hk=>by
  have:=hB (S.length + k) (by omega)
  have e : gi (S ++ L) (S.length + k) = gi L k:=by simp only [gi,List.getD_eq_getElem?_getD,List.getElem?_append_right (Nat.le_add_right _ _),Nat.add_sub_cancel_left]
  rw [e] at this
  exact this
 have hVh : ∀ k,k ≤ L.length → fF g.prio.length (dL g L k):=fun k hk=>by
  obtain ⟨j,j1,j2⟩:=jZ (g:=g) hL k hk
  rw [j2];exact hBL j j1
 have hfl:=kg (fun x=>Hv g x (dL g L L.length)) (S ++ L)
 have hso:=tC (dS (fun x=>Hv g x (dL g L L.length)) (S ++ L) d) (by have:=hfl d;omega) .may rfl
 (refine bU aH Try.func86 rfl rfl (by kernel_rfl) fun hp0 ν hX hN=>?_;simp only [cJ,Nat.reduceAdd])
 (repeat' (first|(with_reducible first|(refine hK _ _ ?_;clear hK K)|(refine aa _ ?_;clear aa K)|(refine ab _ _ _ ?_;clear ab K)|(refine ac _ _ ?_;clear ac K)|refine aY ?_|refine bF ?_|refine aR ?_|refine ay ?_|refine ax ?_|refine bG ?_|refine aD ?_|refine aS ?_|refine bH ?_|refine aT ?_|refine aU rfl ?_|refine aZ ?_|refine aV ?_|refine bI ?_|refine aW ?_|refine aC ?_|refine n_k ?_|refine aX ?_|(refine ae ?_;clear ae X af Y)|(refine af ?_;clear ae X af Y))|(with_reducible refine be ?_;first|refine bc rfl ?_|refine bd rfl ?_)|(with_reducible refine aQ ?_;first|refine az rfl rfl rfl rfl ?_|refine aF rfl rfl rfl ?_|refine bh rfl rfl rfl rfl ?_)|(with_reducible refine bP ?_;first|refine bj rfl rfl rfl rfl ?_|refine bB rfl rfl rfl ?_|refine bS rfl rfl rfl rfl ?_|refine bT hN (by apply Exists.intro;apply And.intro;(repeat' (first|apply FtI.nil|apply FI.nil|apply FI.cons|apply FtI.cons));kernel_rfl) ?_)|((first|(with_reducible first|refine bf rfl rfl fun K hK=>?_|refine bQ rfl rfl fun K ab=>?_|refine bg rfl rfl fun K aa=>?_|refine bR rfl rfl fun K ac=>?_|refine aE fun X Y ae af=>?_|refine aG ?_));simp (disch:=first|decide|omega|(simp only [List.length_cons,List.length_nil];omega)) only [go_sem,beq_self_eq_true,↓ag,↓ak hN,an hN,reduceIte,reduceCtorEq,Nat.reduceAdd,Nat.reduceLT,Nat.reduceLeDiff,Nat.reduceEqDiff,Nat.reduceSub])|(with_reducible refine And.intro (fun h=>?_) (fun h=>?_) <;> try (exfalso;omega))|(with_reducible refine ba aH hN rfl ?_ ?_;kernel_rfl)|(with_reducible refine bm aH hN rfl ?_ ?_ ?_ ?_;(kernel_rfl);(kernel_rfl);(kernel_rfl))|(with_reducible refine And.intro ?_ ?_)|(refine aj ?_;omega)|(exact bi hN (by decide))))
 (refine cK (fun (k : Nat)=>(tmL [(18,.c (.int .i64 k)),(17,.c (.int .i64 L.length)),(16,.c (.I L)),(5,.ad (ν 3) 0),(4,.ad (ν 2) 0),(2,.ad (ν 0) 0),(3,.ad (ν 1) 0)],hpL hp0 ν [.box [.c (.I g.ar.own),.c (.R g.ar.nxt),.c (.I g.prio)],.box [.c (.I S),.c (.I L)],.box [.c (.int .i64 0),.c .nul,.c (.int .i64 0)],.box [.c (.int .i64 (dL g L k)),.c .nul,.c (.int .i64 0)]])) (fun (k : Nat)=>k ≤ L.length) (fun (k : Nat)=>L.length - k) ⟨0,?_,ce hX hN [] ?_ ?_⟩ ?_;(repeat' (first|(with_reducible first|exact cf _|exact cg|exact ci|refine cj ?_ ?_|refine ck ?_ ?_|exact bt _|exact b9 _|exact aP _|rfl|exact bK _ _|refine bv ?_|exact cc _|refine bO ?_)|refine cm rfl ?_ ?_|exact bL hN _ rfl rfl rfl|exact bM hN _ rfl rfl rfl|exact bw hN _ rfl rfl rfl (Or.inr rfl)|(refine bN hN _ rfl rfl (by first|exact Or.inr rfl|exact Or.inl rfl) ?_;first|exact aI _|exact aJ _)|refine bx hN rfl ?_|refine bz hN rfl rfl ?_|exact bu hN _ rfl rfl|exact br hN rfl rfl rfl rfl|(with_reducible first|refine bJ ?_|refine bX ?_|refine bY ?_|refine bZ ?_|refine b7 ?_|refine bW ?_)));(try (any_goals (first|(with_reducible rfl)|(refine aj ?_;omega)))))
 · rfl
 intro k hk
 by_cases hkl : k < L.length
 · have c1:=dk g (gi L k) (dL g L k) (hBL k hkl) (hVh k hk)
   by_cases hh : Hv g (gi L k) (dL g L k)
   · rw [aO hh] at c1
     (repeat' (first|(with_reducible first|(refine hK _ _ ?_;clear hK K)|(refine aa _ ?_;clear aa K)|(refine ab _ _ _ ?_;clear ab K)|(refine ac _ _ ?_;clear ac K)|refine aY ?_|refine bF ?_|refine aR ?_|refine ay ?_|refine ax ?_|refine bG ?_|refine aD ?_|refine aS ?_|refine bH ?_|refine aT ?_|refine aU rfl ?_|refine aZ ?_|refine aV ?_|refine bI ?_|refine aW ?_|refine aC ?_|refine n_k ?_|refine aX ?_|(refine ae ?_;clear ae X af Y)|(refine af ?_;clear ae X af Y))|(with_reducible refine be ?_;first|refine bc rfl ?_|refine bd rfl ?_)|(with_reducible refine aQ ?_;first|refine az rfl rfl rfl rfl ?_|refine aF rfl rfl rfl ?_|refine bh rfl rfl rfl rfl ?_)|(with_reducible refine bP ?_;first|refine bj rfl rfl rfl rfl ?_|refine bB rfl rfl rfl ?_|refine bS rfl rfl rfl rfl ?_|refine bT hN (by apply Exists.intro;apply And.intro;(repeat' (first|apply FtI.nil|apply FI.nil|apply FI.cons|apply FtI.cons));kernel_rfl) ?_)|((first|(with_reducible first|refine bf rfl rfl fun K hK=>?_|refine bQ rfl rfl fun K ab=>?_|refine bg rfl rfl fun K aa=>?_|refine bR rfl rfl fun K ac=>?_|refine aE fun X Y ae af=>?_|refine aG ?_));simp (disch:=first|decide|omega|(simp only [List.length_cons,List.length_nil];omega)) only [go_sem,beq_self_eq_true,↓ag,↓ak hN,an hN,reduceIte,reduceCtorEq,Nat.reduceAdd,Nat.reduceLT,Nat.reduceLeDiff,Nat.reduceEqDiff,Nat.reduceSub])|(with_reducible refine And.intro (fun h=>?_) (fun h=>?_) <;> try (exfalso;omega))|(with_reducible refine ba aH hN rfl ?_ ?_;kernel_rfl)|(with_reducible refine bm aH hN rfl ?_ ?_ ?_ ?_;(kernel_rfl);(kernel_rfl);(kernel_rfl))|(refine aK (c1) ?_ rfl (fun _=>rfl) ?_;focus ((repeat' (first|(with_reducible first|exact am|refine ah ?_ ?_|exact bA _|refine au ?_|exact aq _|exact aN _ _|refine aM ?_|exact ao _)|exact aw hN rfl rfl|(refine aL hN rfl ?_;first|exact aI _|exact aJ _)|exact ap rfl rfl rfl));done))|(with_reducible first|exact am|refine ah ?_ ?_|exact bA _|refine au ?_|exact aq _|exact aN _ _|refine aM ?_|exact ao _)|exact aw hN rfl rfl|(refine aL hN rfl ?_;first|exact aI _|exact aJ _)|exact ap rfl rfl rfl|(simp only [bE,List.map_nil])|(with_reducible refine bC ?_)|(with_reducible refine And.intro ?_ ?_)|(refine aj ?_;omega)|(exact bi hN (by decide))))
     (refine ⟨k + 1,⟨?_,?_⟩,ce hX hN [] ?_ ?_⟩;(try any_goals dsimp only);(repeat' (first|(with_reducible first|exact cf _|exact cg|exact ci|refine cj ?_ ?_|refine ck ?_ ?_|exact bt _|exact b9 _|exact aP _|rfl|exact bK _ _|refine bv ?_|exact cc _|refine bO ?_)|refine cm rfl ?_ ?_|exact bL hN _ rfl rfl rfl|exact bM hN _ rfl rfl rfl|exact bw hN _ rfl rfl rfl (Or.inr rfl)|(refine bN hN _ rfl rfl (by first|exact Or.inr rfl|exact Or.inl rfl) ?_;first|exact aI _|exact aJ _)|refine bx hN rfl ?_|refine bz hN rfl rfl ?_|exact bu hN _ rfl rfl|exact br hN rfl rfl rfl rfl|(with_reducible first|refine bJ ?_|refine bX ?_|refine bY ?_|refine bZ ?_|refine b7 ?_|refine bW ?_)));(try (any_goals (first|(with_reducible rfl)|(refine aj ?_;omega)))))
     exact (i8 hh).symm
   · rw [aB hh] at c1
     (repeat' (first|(with_reducible first|(refine hK _ _ ?_;clear hK K)|(refine aa _ ?_;clear aa K)|(refine ab _ _ _ ?_;clear ab K)|(refine ac _ _ ?_;clear ac K)|refine aY ?_|refine bF ?_|refine aR ?_|refine ay ?_|refine ax ?_|refine bG ?_|refine aD ?_|refine aS ?_|refine bH ?_|refine aT ?_|refine aU rfl ?_|refine aZ ?_|refine aV ?_|refine bI ?_|refine aW ?_|refine aC ?_|refine n_k ?_|refine aX ?_|(refine ae ?_;clear ae X af Y)|(refine af ?_;clear ae X af Y))|(with_reducible refine be ?_;first|refine bc rfl ?_|refine bd rfl ?_)|(with_reducible refine aQ ?_;first|refine az rfl rfl rfl rfl ?_|refine aF rfl rfl rfl ?_|refine bh rfl rfl rfl rfl ?_)|(with_reducible refine bP ?_;first|refine bj rfl rfl rfl rfl ?_|refine bB rfl rfl rfl ?_|refine bS rfl rfl rfl rfl ?_|refine bT hN (by apply Exists.intro;apply And.intro;(repeat' (first|apply FtI.nil|apply FI.nil|apply FI.cons|apply FtI.cons));kernel_rfl) ?_)|((first|(with_reducible first|refine bf rfl rfl fun K hK=>?_|refine bQ rfl rfl fun K ab=>?_|refine bg rfl rfl fun K aa=>?_|refine bR rfl rfl fun K ac=>?_|refine aE fun X Y ae af=>?_|refine aG ?_));simp (disch:=first|decide|omega|(simp only [List.length_cons,List.length_nil];omega)) only [go_sem,beq_self_eq_true,↓ag,↓ak hN,an hN,reduceIte,reduceCtorEq,Nat.reduceAdd,Nat.reduceLT,Nat.reduceLeDiff,Nat.reduceEqDiff,Nat.reduceSub])|(with_reducible refine And.intro (fun h=>?_) (fun h=>?_) <;> try (exfalso;omega))|(with_reducible refine ba aH hN rfl ?_ ?_;kernel_rfl)|(with_reducible refine bm aH hN rfl ?_ ?_ ?_ ?_;(kernel_rfl);(kernel_rfl);(kernel_rfl))|(refine aK (c1) ?_ rfl (fun _=>rfl) ?_;focus ((repeat' (first|(with_reducible first|exact am|refine ah ?_ ?_|exact bA _|refine au ?_|exact aq _|exact aN _ _|refine aM ?_|exact ao _)|exact aw hN rfl rfl|(refine aL hN rfl ?_;first|exact aI _|exact aJ _)|exact ap rfl rfl rfl));done))|(with_reducible first|exact am|refine ah ?_ ?_|exact bA _|refine au ?_|exact aq _|exact aN _ _|refine aM ?_|exact ao _)|exact aw hN rfl rfl|(refine aL hN rfl ?_;first|exact aI _|exact aJ _)|exact ap rfl rfl rfl|(simp only [bE,List.map_nil])|(with_reducible refine bC ?_)|(with_reducible refine And.intro ?_ ?_)|(refine aj ?_;omega)|(exact bi hN (by decide))))
     (refine ⟨k + 1,⟨?_,?_⟩,ce hX hN [] ?_ ?_⟩;(try any_goals dsimp only);(repeat' (first|(with_reducible first|exact cf _|exact cg|exact ci|refine cj ?_ ?_|refine ck ?_ ?_|exact bt _|exact b9 _|exact aP _|rfl|exact bK _ _|refine bv ?_|exact cc _|refine bO ?_)|refine cm rfl ?_ ?_|exact bL hN _ rfl rfl rfl|exact bM hN _ rfl rfl rfl|exact bw hN _ rfl rfl rfl (Or.inr rfl)|(refine bN hN _ rfl rfl (by first|exact Or.inr rfl|exact Or.inl rfl) ?_;first|exact aI _|exact aJ _)|refine bx hN rfl ?_|refine bz hN rfl rfl ?_|exact bu hN _ rfl rfl|exact br hN rfl rfl rfl rfl|(with_reducible first|refine bJ ?_|refine bX ?_|refine bY ?_|refine bZ ?_|refine b7 ?_|refine bW ?_)));(try (any_goals (first|(with_reducible rfl)|(refine aj ?_;omega)))))
     exact (jY hh).symm
 · obtain rfl : k = L.length:=by omega
   have hVl:=hVh L.length hk
   generalize dL g L L.length = hw at *
   (repeat' (first|(with_reducible first|(refine hK _ _ ?_;clear hK K)|(refine aa _ ?_;clear aa K)|(refine ab _ _ _ ?_;clear ab K)|(refine ac _ _ ?_;clear ac K)|refine aY ?_|refine bF ?_|refine aR ?_|refine ay ?_|refine ax ?_|refine bG ?_|refine aD ?_|refine aS ?_|refine bH ?_|refine aT ?_|refine aU rfl ?_|refine aZ ?_|refine aV ?_|refine bI ?_|refine aW ?_|refine aC ?_|refine n_k ?_|refine aX ?_|(refine ae ?_;clear ae X af Y)|(refine af ?_;clear ae X af Y))|(with_reducible refine be ?_;first|refine bc rfl ?_|refine bd rfl ?_)|(with_reducible refine aQ ?_;first|refine az rfl rfl rfl rfl ?_|refine aF rfl rfl rfl ?_|refine bh rfl rfl rfl rfl ?_)|(with_reducible refine bP ?_;first|refine bj rfl rfl rfl rfl ?_|refine bB rfl rfl rfl ?_|refine bS rfl rfl rfl rfl ?_|refine bT hN (by apply Exists.intro;apply And.intro;(repeat' (first|apply FtI.nil|apply FI.nil|apply FI.cons|apply FtI.cons));kernel_rfl) ?_)|((first|(with_reducible first|refine bf rfl rfl fun K hK=>?_|refine bQ rfl rfl fun K ab=>?_|refine bg rfl rfl fun K aa=>?_|refine bR rfl rfl fun K ac=>?_|refine aE fun X Y ae af=>?_|refine aG ?_));simp (disch:=first|decide|omega|(simp only [List.length_cons,List.length_nil];omega)) only [go_sem,beq_self_eq_true,↓ag,↓ak hN,an hN,reduceIte,reduceCtorEq,Nat.reduceAdd,Nat.reduceLT,Nat.reduceLeDiff,Nat.reduceEqDiff,Nat.reduceSub])|(with_reducible refine And.intro (fun h=>?_) (fun h=>?_) <;> try (exfalso;omega))|(with_reducible refine ba aH hN rfl ?_ ?_;kernel_rfl)|(with_reducible refine bm aH hN rfl ?_ ?_ ?_ ?_;(kernel_rfl);(kernel_rfl);(kernel_rfl))|(with_reducible refine And.intro ?_ ?_)|(refine aj ?_;omega)|(exact bi hN (by decide))))
   (refine cK (fun (i : Nat)=>(tmL [(38,.c (.int .i64 i)),(37,.c (.int .i64 (S ++ L).length)),(36,.sl (ν 6)),(5,.ad (ν 3) 0),(4,.ad (ν 2) 0),(2,.ad (ν 0) 0)],hpL hp0 ν [.box [.c (.I g.ar.own),.c (.R g.ar.nxt),.c (.I g.prio)],.box [.c (.I S),.c (.I L)],.box [.c (.int .i64 0),.c .nul,.c (.int .i64 0)],.box [.c (.int .i64 hw),.sl (ν 7),.c (.int .i64 i)],.dead,.dead,.arr 2 .yes (.I (S ++ L)),.arr 2 .may (.I (dS (fun x=>Hv g x hw) (S ++ L) i))])) (fun (i : Nat)=>i ≤ d) (fun (i : Nat)=>d - i) ⟨0,?_,ce hX hN [] ?_ ?_⟩ ?_;(repeat' (first|(with_reducible first|exact cf _|exact cg|exact ci|refine cj ?_ ?_|refine ck ?_ ?_|exact bt _|exact b9 _|exact aP _|rfl|exact bK _ _|refine bv ?_|exact cc _|refine bO ?_)|refine cm rfl ?_ ?_|exact bL hN _ rfl rfl rfl|exact bM hN _ rfl rfl rfl|exact bw hN _ rfl rfl rfl (Or.inr rfl)|(refine bN hN _ rfl rfl (by first|exact Or.inr rfl|exact Or.inl rfl) ?_;first|exact aI _|exact aJ _)|refine bx hN rfl ?_|refine bz hN rfl rfl ?_|exact bu hN _ rfl rfl|exact br hN rfl rfl rfl rfl|(with_reducible first|refine bJ ?_|refine bX ?_|refine bY ?_|refine bZ ?_|refine b7 ?_|refine bW ?_)));(try (any_goals (first|(with_reducible rfl)|(refine aj ?_;omega)))))
   intro i hi
   have hfi:=hfl i
   by_cases hid : i < d
   · have c1:=dk g (gi (S ++ L) i) hw (hB i (by omega)) hVl
     have hne:=hdn i hid
     by_cases hh : Hv g (gi (S ++ L) i) hw
     · rw [aO hh] at c1
       (repeat' (first|(with_reducible first|(refine hK _ _ ?_;clear hK K)|(refine aa _ ?_;clear aa K)|(refine ab _ _ _ ?_;clear ab K)|(refine ac _ _ ?_;clear ac K)|refine aY ?_|refine bF ?_|refine aR ?_|refine ay ?_|refine ax ?_|refine bG ?_|refine aD ?_|refine aS ?_|refine bH ?_|refine aT ?_|refine aU rfl ?_|refine aZ ?_|refine aV ?_|refine bI ?_|refine aW ?_|refine aC ?_|refine n_k ?_|refine aX ?_|(refine ae ?_;clear ae X af Y)|(refine af ?_;clear ae X af Y))|(with_reducible refine be ?_;first|refine bc rfl ?_|refine bd rfl ?_)|(with_reducible refine aQ ?_;first|refine az rfl rfl rfl rfl ?_|refine aF rfl rfl rfl ?_|refine bh rfl rfl rfl rfl ?_)|(with_reducible refine bP ?_;first|refine bj rfl rfl rfl rfl ?_|refine bB rfl rfl rfl ?_|refine bS rfl rfl rfl rfl ?_|refine bT hN (by apply Exists.intro;apply And.intro;(repeat' (first|apply FtI.nil|apply FI.nil|apply FI.cons|apply FtI.cons));kernel_rfl) ?_)|((first|(with_reducible first|refine bf rfl rfl fun K hK=>?_|refine bQ rfl rfl fun K ab=>?_|refine bg rfl rfl fun K aa=>?_|refine bR rfl rfl fun K ac=>?_|refine aE fun X Y ae af=>?_|refine aG ?_));simp (disch:=first|decide|omega|(simp only [List.length_cons,List.length_nil];omega)) only [go_sem,beq_self_eq_true,↓ag,↓ak hN,an hN,reduceIte,reduceCtorEq,Nat.reduceAdd,Nat.reduceLT,Nat.reduceLeDiff,Nat.reduceEqDiff,Nat.reduceSub])|(with_reducible refine And.intro (fun h=>?_) (fun h=>?_) <;> try (exfalso;omega))|(with_reducible refine ba aH hN rfl ?_ ?_;kernel_rfl)|(with_reducible refine bm aH hN rfl ?_ ?_ ?_ ?_;(kernel_rfl);(kernel_rfl);(kernel_rfl))|(refine aK (c1) ?_ rfl (fun _=>rfl) ?_;focus ((repeat' (first|(with_reducible first|exact am|refine ah ?_ ?_|exact bA _|refine au ?_|exact aq _|exact aN _ _|refine aM ?_|exact ao _)|exact aw hN rfl rfl|(refine aL hN rfl ?_;first|exact aI _|exact aJ _)|exact ap rfl rfl rfl));done))|(with_reducible first|exact am|refine ah ?_ ?_|exact bA _|refine au ?_|exact aq _|exact aN _ _|refine aM ?_|exact ao _)|exact aw hN rfl rfl|(refine aL hN rfl ?_;first|exact aI _|exact aJ _)|exact ap rfl rfl rfl|(simp only [bE,List.map_nil])|(with_reducible refine bC ?_)|(with_reducible refine And.intro ?_ ?_)|(refine aj ?_;omega)|(exact bi hN (by decide))))
       (refine ⟨i + 1,⟨?_,?_⟩,ce hX hN [(7,9)] ?_ ?_⟩;(try any_goals dsimp only);(repeat' (first|(with_reducible first|exact cf _|exact cg|exact ci|refine cj ?_ ?_|refine ck ?_ ?_|exact bt _|exact b9 _|exact aP _|rfl|exact bK _ _|refine bv ?_|exact cc _|refine bO ?_)|refine cm rfl ?_ ?_|exact bL hN _ rfl rfl rfl|exact bM hN _ rfl rfl rfl|exact bw hN _ rfl rfl rfl (Or.inr rfl)|(refine bN hN _ rfl rfl (by first|exact Or.inr rfl|exact Or.inl rfl) ?_;first|exact aI _|exact aJ _)|refine bx hN rfl ?_|refine bz hN rfl rfl ?_|exact bu hN _ rfl rfl|exact br hN rfl rfl rfl rfl|(with_reducible first|refine bJ ?_|refine bX ?_|refine bY ?_|refine bZ ?_|refine b7 ?_|refine bW ?_)));(try (any_goals (first|(with_reducible rfl)|(refine aj ?_;omega)))))
       first|exact eC hh|exact (eC hh).symm
     · rw [aB hh] at c1
       (repeat' (first|(with_reducible first|(refine hK _ _ ?_;clear hK K)|(refine aa _ ?_;clear aa K)|(refine ab _ _ _ ?_;clear ab K)|(refine ac _ _ ?_;clear ac K)|refine aY ?_|refine bF ?_|refine aR ?_|refine ay ?_|refine ax ?_|refine bG ?_|refine aD ?_|refine aS ?_|refine bH ?_|refine aT ?_|refine aU rfl ?_|refine aZ ?_|refine aV ?_|refine bI ?_|refine aW ?_|refine aC ?_|refine n_k ?_|refine aX ?_|(refine ae ?_;clear ae X af Y)|(refine af ?_;clear ae X af Y))|(with_reducible refine be ?_;first|refine bc rfl ?_|refine bd rfl ?_)|(with_reducible refine aQ ?_;first|refine az rfl rfl rfl rfl ?_|refine aF rfl rfl rfl ?_|refine bh rfl rfl rfl rfl ?_)|(with_reducible refine bP ?_;first|refine bj rfl rfl rfl rfl ?_|refine bB rfl rfl rfl ?_|refine bS rfl rfl rfl rfl ?_|refine bT hN (by apply Exists.intro;apply And.intro;(repeat' (first|apply FtI.nil|apply FI.nil|apply FI.cons|apply FtI.cons));kernel_rfl) ?_)|((first|(with_reducible first|refine bf rfl rfl fun K hK=>?_|refine bQ rfl rfl fun K ab=>?_|refine bg rfl rfl fun K aa=>?_|refine bR rfl rfl fun K ac=>?_|refine aE fun X Y ae af=>?_|refine aG ?_));simp (disch:=first|decide|omega|(simp only [List.length_cons,List.length_nil];omega)) only [go_sem,beq_self_eq_true,↓ag,↓ak hN,an hN,reduceIte,reduceCtorEq,Nat.reduceAdd,Nat.reduceLT,Nat.reduceLeDiff,Nat.reduceEqDiff,Nat.reduceSub])|(with_reducible refine And.intro (fun h=>?_) (fun h=>?_) <;> try (exfalso;omega))|(with_reducible refine ba aH hN rfl ?_ ?_;kernel_rfl)|(with_reducible refine bm aH hN rfl ?_ ?_ ?_ ?_;(kernel_rfl);(kernel_rfl);(kernel_rfl))|(refine aK (c1) ?_ rfl (fun _=>rfl) ?_;focus ((repeat' (first|(with_reducible first|exact am|refine ah ?_ ?_|exact bA _|refine au ?_|exact aq _|exact aN _ _|refine aM ?_|exact ao _)|exact aw hN rfl rfl|(refine aL hN rfl ?_;first|exact aI _|exact aJ _)|exact ap rfl rfl rfl));done))|(with_reducible first|exact am|refine ah ?_ ?_|exact bA _|refine au ?_|exact aq _|exact aN _ _|refine aM ?_|exact ao _)|exact aw hN rfl rfl|(refine aL hN rfl ?_;first|exact aI _|exact aJ _)|exact ap rfl rfl rfl|(simp only [bE,List.map_nil])|(with_reducible refine bC ?_)|(with_reducible refine And.intro ?_ ?_)|(refine aj ?_;omega)|(exact bi hN (by decide))))
       (refine ⟨i + 1,⟨?_,?_⟩,ce hX hN [] ?_ ?_⟩;(try any_goals dsimp only);(repeat' (first|(with_reducible first|exact cf _|exact cg|exact ci|refine cj ?_ ?_|refine ck ?_ ?_|exact bt _|exact b9 _|exact aP _|rfl|exact bK _ _|refine bv ?_|exact cc _|refine bO ?_)|refine cm rfl ?_ ?_|exact bL hN _ rfl rfl rfl|exact bM hN _ rfl rfl rfl|exact bw hN _ rfl rfl rfl (Or.inr rfl)|(refine bN hN _ rfl rfl (by first|exact Or.inr rfl|exact Or.inl rfl) ?_;first|exact aI _|exact aJ _)|refine bx hN rfl ?_|refine bz hN rfl rfl ?_|exact bu hN _ rfl rfl|exact br hN rfl rfl rfl rfl|(with_reducible first|refine bJ ?_|refine bX ?_|refine bY ?_|refine bZ ?_|refine b7 ?_|refine bW ?_)));(try (any_goals (first|(with_reducible rfl)|(refine aj ?_;omega)))))
       first|exact fv hh|exact (fv hh).symm
   · obtain rfl : i = d:=by omega
     (repeat' (first|(with_reducible first|(refine hK _ _ ?_;clear hK K)|(refine aa _ ?_;clear aa K)|(refine ab _ _ _ ?_;clear ab K)|(refine ac _ _ ?_;clear ac K)|refine aY ?_|refine bF ?_|refine aR ?_|refine ay ?_|refine ax ?_|refine bG ?_|refine aD ?_|refine aS ?_|refine bH ?_|refine aT ?_|refine aU rfl ?_|refine aZ ?_|refine aV ?_|refine bI ?_|refine aW ?_|refine aC ?_|refine n_k ?_|refine aX ?_|(refine ae ?_;clear ae X af Y)|(refine af ?_;clear ae X af Y))|(with_reducible refine be ?_;first|refine bc rfl ?_|refine bd rfl ?_)|(with_reducible refine aQ ?_;first|refine az rfl rfl rfl rfl ?_|refine aF rfl rfl rfl ?_|refine bh rfl rfl rfl rfl ?_)|(with_reducible refine bP ?_;first|refine bj rfl rfl rfl rfl ?_|refine bB rfl rfl rfl ?_|refine bS rfl rfl rfl rfl ?_|refine bT hN (by apply Exists.intro;apply And.intro;(repeat' (first|apply FtI.nil|apply FI.nil|apply FI.cons|apply FtI.cons));kernel_rfl) ?_)|((first|(with_reducible first|refine bf rfl rfl fun K hK=>?_|refine bQ rfl rfl fun K ab=>?_|refine bg rfl rfl fun K aa=>?_|refine bR rfl rfl fun K ac=>?_|refine aE fun X Y ae af=>?_|refine aG ?_));simp (disch:=first|decide|omega|(simp only [List.length_cons,List.length_nil];omega)) only [go_sem,beq_self_eq_true,↓ag,↓ak hN,an hN,reduceIte,reduceCtorEq,Nat.reduceAdd,Nat.reduceLT,Nat.reduceLeDiff,Nat.reduceEqDiff,Nat.reduceSub])|(with_reducible refine And.intro (fun h=>?_) (fun h=>?_) <;> try (exfalso;omega))|(with_reducible refine ba aH hN rfl ?_ ?_;kernel_rfl)|(with_reducible refine bm aH hN rfl ?_ ?_ ?_ ?_;(kernel_rfl);(kernel_rfl);(kernel_rfl))|(refine rv (hso) hN 7 rfl rfl rfl rfl rfl ?_ ?_ ?_ ?_;(focus (simp [b8,AV.names];done));(focus (intro ν' hν;(repeat' (first|exact ArgMs.nil|refine ArgMs.cons ?_ ?_|exact w6 hν|exact w7 hν|exact yi _|exact w8 (by first|exact aq _|exact ao _|exact ap rfl rfl rfl) rfl|(refine w9 hN rfl ?_ (by decide);first|exact aI _|exact aJ _)|refine uW ?_));done));(focus (first|exact Or.inr ⟨rfl,rfl,fun _=>rfl⟩|exact Or.inl (by simp [b8,AV.names]))))|(with_reducible first|exact am|refine ah ?_ ?_|exact bA _|refine au ?_|exact aq _|exact aN _ _|refine aM ?_|exact ao _)|exact aw hN rfl rfl|(refine aL hN rfl ?_;first|exact aI _|exact aJ _)|exact ap rfl rfl rfl|(simp only [bE,List.map_nil])|(with_reducible refine bC ?_)|(simp (disch:=first|decide|omega|(simp only [List.length_cons,List.length_nil];omega)) only [bE,List.map_cons,List.map_nil,an hN,List.set_cons_zero,List.set_cons_succ])|(with_reducible refine And.intro ?_ ?_)|(refine aj ?_;omega)|(exact bi hN (by decide))))
     all_goals first|(exact absurd hdh (dl (by assumption)))|((refine gK hN [7] (by decide) (.inr rfl) (by first|exact dD rfl rfl|exact dm hN rfl rfl rfl rfl|exact dc hN rfl rfl rfl rfl rfl|(simp (disch:=first|decide|omega|(simp only [List.length_cons,List.length_nil];omega)) only [cy,cB,cD,cE,go_sem,beq_self_eq_true,↓ag,↓ak hN,an hN,reduceIte,reduceCtorEq,Nat.reduceAdd,Nat.reduceLT,Nat.reduceLeDiff,Nat.reduceEqDiff,Nat.reduceSub];rfl)|rfl) ?_ fun νs hνs=>?_;(repeat' (first|exact Gone.nil|(refine Gone.cons rfl rfl ?_ ?_)|(with_reducible refine fh ?_)|(with_reducible refine fg ?_)|(with_reducible refine SVs.cons ?_ ?_)|(with_reducible exact SVs.nil)|(simp only [List.drop,List.take])|(simp (disch:=first|decide|omega) only [↓ag,reduceIte,reduceCtorEq,Nat.reduceEqDiff])|(with_reducible exact kw _)|(with_reducible exact fe _)|(exact ff rfl rfl rfl)|(exact gJ 0 (by simp) rfl rfl)|(refine gI hN rfl (fi hN (by decide)) ?_)|(with_reducible refine gH ?_)|(with_reducible rfl)|(with_reducible refine bX ?_)|(with_reducible refine bY ?_)|(with_reducible refine bZ ?_)|(with_reducible refine b7 ?_)|(with_reducible refine bW ?_)|(refine aj ?_;omega))));done)
set_option maxHeartbeats 1000000 in
theorem qp (n : Nat) (hn : n ≤ 256) (wl : List Int) (hl : wl.length = n) (f : Nat → Nat) (hf : ∀ x,x < n → gi wl x = (f x : Nat) ∧ f x < n) (v : Nat) (hv : v < n) : bp Try.prog 129 [.c (.I wl),.c (.int .i64 v)] [] (fun _=>.agg [.c (.I (fB (itF f v) n)),.c (.I (dJ (itF f v) n))]):=by
 have hlt:=fun k=>d9 (fun x hx=>(hf x hx).2) hv k
 have hend:=md hlt
 have hfx : ∀ k,((itF f v (k + 1) : Nat) : Int) = gi wl (itF f v k):=fun k=>(hf _ (hlt k)).1.symm
 have hf0 : itF f v 0 = v:=rfl
 unfold fB dJ
 clear hf
 generalize itF f v = f at *
 (refine bU aH Try.func129 rfl rfl (by kernel_rfl) fun hp0 ν hX hN=>?_;simp only [cJ,Nat.reduceAdd])
 (repeat' (first|(with_reducible first|(refine hK _ _ ?_;clear hK K)|(refine aa _ ?_;clear aa K)|(refine ab _ _ _ ?_;clear ab K)|(refine ac _ _ ?_;clear ac K)|refine aY ?_|refine bF ?_|refine aR ?_|refine ay ?_|refine ax ?_|refine bG ?_|refine aD ?_|refine aS ?_|refine bH ?_|refine aT ?_|refine aU rfl ?_|refine aZ ?_|refine aV ?_|refine bI ?_|refine aW ?_|refine aC ?_|refine n_k ?_|refine aX ?_|(refine ae ?_;clear ae X af Y)|(refine af ?_;clear ae X af Y))|(with_reducible refine be ?_;first|refine bc rfl ?_|refine bd rfl ?_)|(with_reducible refine aQ ?_;first|refine az rfl rfl rfl rfl ?_|refine aF rfl rfl rfl ?_|refine bh rfl rfl rfl rfl ?_)|(with_reducible refine bP ?_;first|refine bj rfl rfl rfl rfl ?_|refine bB rfl rfl rfl ?_|refine bS rfl rfl rfl rfl ?_|refine bT hN (by apply Exists.intro;apply And.intro;(repeat' (first|apply FtI.nil|apply FI.nil|apply FI.cons|apply FtI.cons));kernel_rfl) ?_)|((first|(with_reducible first|refine bf rfl rfl fun K hK=>?_|refine bQ rfl rfl fun K ab=>?_|refine bg rfl rfl fun K aa=>?_|refine bR rfl rfl fun K ac=>?_|refine aE fun X Y ae af=>?_|refine aG ?_));simp (disch:=first|decide|omega|(simp only [List.length_cons,List.length_nil];omega)) only [go_sem,beq_self_eq_true,↓ag,↓ak hN,an hN,reduceIte,reduceCtorEq,Nat.reduceAdd,Nat.reduceLT,Nat.reduceLeDiff,Nat.reduceEqDiff,Nat.reduceSub])|(with_reducible refine And.intro (fun h=>?_) (fun h=>?_) <;> try (exfalso;omega))|(with_reducible refine ba aH hN rfl ?_ ?_;kernel_rfl)|(with_reducible refine bm aH hN rfl ?_ ?_ ?_ ?_;(kernel_rfl);(kernel_rfl);(kernel_rfl))|(with_reducible refine And.intro ?_ ?_)|(refine aj ?_;omega)|(exact bi hN (by decide))))
 (refine cK (fun (k : Nat)=>(tmL [(5,.sl (ν 1)),(1,.c (.int .i64 (f k : Nat))),(4,.ad (ν 0) 0),(0,.c (.I wl))],hpL hp0 ν [.box [.c .nul,.c .nul],.arr 2 .yes (.I (dZ f k))])) (fun (k : Nat)=>(k ≤ n ∧ ∀ i j,i < j → j < k → f i ≠ f j) ∧ fG f (n - k) k = eH f n) (fun (k : Nat)=>n + 1 - k) ⟨0,?_,ce hX hN [] ?_ ?_⟩ ?_;(repeat' (first|(with_reducible first|exact cf _|exact cg|exact ci|refine cj ?_ ?_|refine ck ?_ ?_|exact bt _|exact b9 _|exact aP _|rfl|exact bK _ _|refine bv ?_|exact cc _|refine bO ?_)|refine cm rfl ?_ ?_|exact bL hN _ rfl rfl rfl|exact bM hN _ rfl rfl rfl|exact bw hN _ rfl rfl rfl (Or.inr rfl)|(refine bN hN _ rfl rfl (by first|exact Or.inr rfl|exact Or.inl rfl) ?_;first|exact aI _|exact aJ _)|refine bx hN rfl ?_|refine bz hN rfl rfl ?_|exact bu hN _ rfl rfl|exact br hN rfl rfl rfl rfl|(with_reducible first|refine bJ ?_|refine bX ?_|refine bY ?_|refine bZ ?_|refine b7 ?_|refine bW ?_)));(try (any_goals (first|(with_reducible rfl)|(refine aj ?_;omega)))))
 · exact ⟨⟨Nat.zero_le _,fun i j _ h=>absurd h (Nat.not_lt_zero _)⟩,rfl⟩
 · rfl
 rintro k ⟨⟨hk,hd⟩,hF⟩
 have hwl:=d8 f k
 have hfk:=hlt k
 by_cases hit : ∃ j,j < k ∧ f j = f k
 · rw [kB hit] at hF
   rw [← hF] at hend ⊢
   obtain ⟨_,e1,e2,_⟩:=hend
   have c4:=dU (dZ f k) (f k)
   rw [aO (mc.2 hit)] at c4
   have c5:=tF (dZ f k) (f k)
   rw [e1] at c5
   generalize atA f n = p at *
   (repeat' (first|(with_reducible refine fE 6 ?_)|(with_reducible first|(refine hK _ _ ?_;clear hK K)|(refine aa _ ?_;clear aa K)|(refine ab _ _ _ ?_;clear ab K)|(refine ac _ _ ?_;clear ac K)|refine aY ?_|refine bF ?_|refine aR ?_|refine ay ?_|refine ax ?_|refine bG ?_|refine aD ?_|refine aS ?_|refine bH ?_|refine aT ?_|refine aU rfl ?_|refine aZ ?_|refine aV ?_|refine bI ?_|refine aW ?_|refine aC ?_|refine n_k ?_|refine aX ?_|(refine ae ?_;clear ae X af Y)|(refine af ?_;clear ae X af Y))|(with_reducible refine be ?_;first|refine bc rfl ?_|refine bd rfl ?_)|(with_reducible refine aQ ?_;first|refine az rfl rfl rfl rfl ?_|refine aF rfl rfl rfl ?_|refine bh rfl rfl rfl rfl ?_)|(with_reducible refine bP ?_;first|refine bj rfl rfl rfl rfl ?_|refine bB rfl rfl rfl ?_|refine bS rfl rfl rfl rfl ?_|refine bT hN (by apply Exists.intro;apply And.intro;(repeat' (first|apply FtI.nil|apply FI.nil|apply FI.cons|apply FtI.cons));kernel_rfl) ?_)|((first|(with_reducible first|refine bf rfl rfl fun K hK=>?_|refine bQ rfl rfl fun K ab=>?_|refine bg rfl rfl fun K aa=>?_|refine bR rfl rfl fun K ac=>?_|refine aE fun X Y ae af=>?_|refine aG ?_));simp (disch:=first|decide|omega|(simp only [List.length_cons,List.length_nil];omega)) only [go_sem,beq_self_eq_true,↓ag,↓ak hN,an hN,reduceIte,reduceCtorEq,Nat.reduceAdd,Nat.reduceLT,Nat.reduceLeDiff,Nat.reduceEqDiff,Nat.reduceSub])|(with_reducible refine And.intro (fun h=>?_) (fun h=>?_) <;> try (exfalso;omega))|(with_reducible refine ba aH hN rfl ?_ ?_;kernel_rfl)|(with_reducible refine bm aH hN rfl ?_ ?_ ?_ ?_;(kernel_rfl);(kernel_rfl);(kernel_rfl))|((first|refine aK (c4) ?_ rfl (fun _=>rfl) ?_|refine aK (c5) ?_ rfl (fun _=>rfl) ?_);focus ((repeat' (first|(with_reducible first|exact am|refine ah ?_ ?_|exact bA _|refine au ?_|exact aq _|exact aN _ _|refine aM ?_|exact ao _)|exact aw hN rfl rfl|(refine aL hN rfl ?_;first|exact aI _|exact aJ _)|exact ap rfl rfl rfl));done))|(with_reducible first|exact am|refine ah ?_ ?_|exact bA _|refine au ?_|exact aq _|exact aN _ _|refine aM ?_|exact ao _)|exact aw hN rfl rfl|(refine aL hN rfl ?_;first|exact aI _|exact aJ _)|exact ap rfl rfl rfl|(simp only [bE,List.map_nil])|(with_reducible refine bC ?_)|(with_reducible refine And.intro ?_ ?_)|(refine aj ?_;omega)|(exact bi hN (by decide))))
   have t1 : (List.drop (Int.toNat 0) (List.take p (dZ f k))).length = p:=by simp;omega
   have t2 : (List.drop p (List.take (dZ f k).length (dZ f k))).length = k - p:=by simp;omega
   have t3 : List.drop p (List.take (dZ f k).length (dZ f k)) = List.drop p (dZ f k):=by rw [List.take_length]
   (refine kT (ce (L':=[.box [.c .nul,.c .nul],.dead]) (l:=[(5,.c (.I (dZ f k))),(6,.c (.int .i64 p)),(4,.ad (ν 0) 0)]) hX hN [] ?_ ?_) ?_;(repeat' (first|(with_reducible first|exact cf _|exact cg|exact ci|refine cj ?_ ?_|refine ck ?_ ?_|exact bt _|exact b9 _|exact aP _|rfl|exact bK _ _|refine bv ?_|exact cc _|refine bO ?_)|refine cm rfl ?_ ?_|exact bL hN _ rfl rfl rfl|exact bM hN _ rfl rfl rfl|exact bw hN _ rfl rfl rfl (Or.inr rfl)|(refine bN hN _ rfl rfl (by first|exact Or.inr rfl|exact Or.inl rfl) ?_;first|exact aI _|exact aJ _)|refine bx hN rfl ?_|refine bz hN rfl rfl ?_|exact bu hN _ rfl rfl|exact br hN rfl rfl rfl rfl|(with_reducible first|refine bJ ?_|refine bX ?_|refine bY ?_|refine bZ ?_|refine b7 ?_|refine bW ?_)));(try (any_goals (first|(with_reducible rfl)|(refine aj ?_;omega)))))
   (repeat' (first|(with_reducible first|(refine hK _ _ ?_;clear hK K)|(refine aa _ ?_;clear aa K)|(refine ab _ _ _ ?_;clear ab K)|(refine ac _ _ ?_;clear ac K)|refine aY ?_|refine bF ?_|refine aR ?_|refine ay ?_|refine ax ?_|refine bG ?_|refine aD ?_|refine aS ?_|refine bH ?_|refine aT ?_|refine aU rfl ?_|refine aZ ?_|refine aV ?_|refine bI ?_|refine aW ?_|refine aC ?_|refine n_k ?_|refine aX ?_|(refine ae ?_;clear ae X af Y)|(refine af ?_;clear ae X af Y))|(with_reducible refine be ?_;first|refine bc rfl ?_|refine bd rfl ?_)|(with_reducible refine aQ ?_;first|refine az rfl rfl rfl rfl ?_|refine aF rfl rfl rfl ?_|refine bh rfl rfl rfl rfl ?_)|(with_reducible refine bP ?_;first|refine bj rfl rfl rfl rfl ?_|refine bB rfl rfl rfl ?_|refine bS rfl rfl rfl rfl ?_|refine bT hN (by apply Exists.intro;apply And.intro;(repeat' (first|apply FtI.nil|apply FI.nil|apply FI.cons|apply FtI.cons));kernel_rfl) ?_)|((first|(with_reducible first|refine bf rfl rfl fun K hK=>?_|refine bQ rfl rfl fun K ab=>?_|refine bg rfl rfl fun K aa=>?_|refine bR rfl rfl fun K ac=>?_|refine aE fun X Y ae af=>?_|refine aG ?_));simp (disch:=first|decide|omega|(simp only [List.length_cons,List.length_nil];omega)) only [go_sem,beq_self_eq_true,↓ag,↓ak hN,an hN,reduceIte,reduceCtorEq,Nat.reduceAdd,Nat.reduceLT,Nat.reduceLeDiff,Nat.reduceEqDiff,Nat.reduceSub])|(with_reducible refine And.intro (fun h=>?_) (fun h=>?_) <;> try (exfalso;omega))|(with_reducible refine ba aH hN rfl ?_ ?_;kernel_rfl)|(with_reducible refine bm aH hN rfl ?_ ?_ ?_ ?_;(kernel_rfl);(kernel_rfl);(kernel_rfl))|(with_reducible refine And.intro ?_ ?_)|(refine aj ?_;omega)|(exact bi hN (by decide))))
   (refine gK hN [] (by decide) (.inr rfl) (by first|exact dD rfl rfl|exact dm hN rfl rfl rfl rfl|exact dc hN rfl rfl rfl rfl rfl|(simp (disch:=first|decide|omega|(simp only [List.length_cons,List.length_nil];omega)) only [cy,cB,cD,cE,go_sem,beq_self_eq_true,↓ag,↓ak hN,an hN,reduceIte,reduceCtorEq,Nat.reduceAdd,Nat.reduceLT,Nat.reduceLeDiff,Nat.reduceEqDiff,Nat.reduceSub];rfl)|rfl) ?_ fun νs hνs=>?_;(repeat' (first|exact Gone.nil|(refine Gone.cons rfl rfl ?_ ?_)|(with_reducible refine fh ?_)|(with_reducible refine fg ?_)|(with_reducible refine SVs.cons ?_ ?_)|(with_reducible exact SVs.nil)|(simp only [List.drop,List.take])|(simp (disch:=first|decide|omega) only [↓ag,reduceIte,reduceCtorEq,Nat.reduceEqDiff])|(with_reducible exact kw _)|(with_reducible exact fe _)|(exact ff rfl rfl rfl)|(exact gJ 0 (by simp) rfl rfl)|(refine gI hN rfl (fi hN (by decide)) ?_)|(with_reducible refine gH ?_)|(with_reducible rfl)|(with_reducible refine bX ?_)|(with_reducible refine bY ?_)|(with_reducible refine bZ ?_)|(with_reducible refine b7 ?_)|(with_reducible refine bW ?_)|(refine aj ?_;omega))))
   all_goals first|rfl|rw [t3]
 · have c4:=dU (dZ f k) (f k)
   rw [aB (mt mc.1 hit)] at c4
   have hkn : k < n:=by
    have:=jU hlt (ig hd hit)
    omega
   rw [show n - k = (n - (k + 1)) + 1 by omega,jF hit] at hF
   have hx:=hfx k
   (repeat' (first|(with_reducible first|(refine hK _ _ ?_;clear hK K)|(refine aa _ ?_;clear aa K)|(refine ab _ _ _ ?_;clear ab K)|(refine ac _ _ ?_;clear ac K)|refine aY ?_|refine bF ?_|refine aR ?_|refine ay ?_|refine ax ?_|refine bG ?_|refine aD ?_|refine aS ?_|refine bH ?_|refine aT ?_|refine aU rfl ?_|refine aZ ?_|refine aV ?_|refine bI ?_|refine aW ?_|refine aC ?_|refine n_k ?_|refine aX ?_|(refine ae ?_;clear ae X af Y)|(refine af ?_;clear ae X af Y))|(with_reducible refine be ?_;first|refine bc rfl ?_|refine bd rfl ?_)|(with_reducible refine aQ ?_;first|refine az rfl rfl rfl rfl ?_|refine aF rfl rfl rfl ?_|refine bh rfl rfl rfl rfl ?_)|(with_reducible refine bP ?_;first|refine bj rfl rfl rfl rfl ?_|refine bB rfl rfl rfl ?_|refine bS rfl rfl rfl rfl ?_|refine bT hN (by apply Exists.intro;apply And.intro;(repeat' (first|apply FtI.nil|apply FI.nil|apply FI.cons|apply FtI.cons));kernel_rfl) ?_)|((first|(with_reducible first|refine bf rfl rfl fun K hK=>?_|refine bQ rfl rfl fun K ab=>?_|refine bg rfl rfl fun K aa=>?_|refine bR rfl rfl fun K ac=>?_|refine aE fun X Y ae af=>?_|refine aG ?_));simp (disch:=first|decide|omega|(simp only [List.length_cons,List.length_nil];omega)) only [go_sem,beq_self_eq_true,↓ag,↓ak hN,an hN,reduceIte,reduceCtorEq,Nat.reduceAdd,Nat.reduceLT,Nat.reduceLeDiff,Nat.reduceEqDiff,Nat.reduceSub])|(with_reducible refine And.intro (fun h=>?_) (fun h=>?_) <;> try (exfalso;omega))|(with_reducible refine ba aH hN rfl ?_ ?_;kernel_rfl)|(with_reducible refine bm aH hN rfl ?_ ?_ ?_ ?_;(kernel_rfl);(kernel_rfl);(kernel_rfl))|(refine aK (c4) ?_ rfl (fun _=>rfl) ?_;focus ((repeat' (first|(with_reducible first|exact am|refine ah ?_ ?_|exact bA _|refine au ?_|exact aq _|exact aN _ _|refine aM ?_|exact ao _)|exact aw hN rfl rfl|(refine aL hN rfl ?_;first|exact aI _|exact aJ _)|exact ap rfl rfl rfl));done))|(with_reducible first|exact am|refine ah ?_ ?_|exact bA _|refine au ?_|exact aq _|exact aN _ _|refine aM ?_|exact ao _)|exact aw hN rfl rfl|(refine aL hN rfl ?_;first|exact aI _|exact aJ _)|exact ap rfl rfl rfl|(simp only [bE,List.map_nil])|(with_reducible refine bC ?_)|(with_reducible refine And.intro ?_ ?_)|(refine aj ?_;omega)|(exact bi hN (by decide))))
   (refine ⟨k + 1,⟨?_,?_⟩,ce hX hN [(1,3)] ?_ ?_⟩;(try any_goals dsimp only);(repeat' (first|(with_reducible first|exact cf _|exact cg|exact ci|refine cj ?_ ?_|refine ck ?_ ?_|exact bt _|exact b9 _|exact aP _|rfl|exact bK _ _|refine bv ?_|exact cc _|refine bO ?_)|refine cm rfl ?_ ?_|exact bL hN _ rfl rfl rfl|exact bM hN _ rfl rfl rfl|exact bw hN _ rfl rfl rfl (Or.inr rfl)|(refine bN hN _ rfl rfl (by first|exact Or.inr rfl|exact Or.inl rfl) ?_;first|exact aI _|exact aJ _)|refine bx hN rfl ?_|refine bz hN rfl rfl ?_|exact bu hN _ rfl rfl|exact br hN rfl rfl rfl rfl|(with_reducible first|refine bJ ?_|refine bX ?_|refine bY ?_|refine bZ ?_|refine b7 ?_|refine bW ?_)));(try (any_goals (first|(with_reducible rfl)|(refine aj ?_;omega)))))
   · exact ⟨⟨by omega,ig hd hit⟩,hF⟩
   · exact si f k
end Go.Proofs.Ytiadchinhofieaa
