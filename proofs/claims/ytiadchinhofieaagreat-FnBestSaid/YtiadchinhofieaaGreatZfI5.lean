/-
  The program's worth of a play, and its play by successors.
-/
import Derived.Test.YtiadchinhofieaaGreatZfI4
import Derived.Test.YtiadchinhofieaaGreatZfT2
import Derived.Test.YtiadchinhofieaaGreatZfV2
import Derived.Test.YtiadchinhofieaaGreatZfShelf2
import Derived.Test.YtiadchinhofieaaGreatZfAt2
import Derived.Test.YtiadchinhofieaaGreatZfR9
namespace Go.Proofs.YtiadchinhofieaaGreat
set_option linter.unusedVariables false
set_option linter.unusedSimpArgs false
open Go.RowKit
attribute [local irreducible] aO ck Aw Le
noncomputable def dI (g : Pa) (L : List Int) : Nat → Int
 | 0 => gi L 0
 | k + 1 => if tf (Hv g (gi L k) (dI g L k)) then gi L k else dI g L k
section
variable {g : Pa} {L : List Int}
theorem jK {k : Nat} (h : Hv g (gi L k) (dI g L k)) : dI g L (k + 1) = gi L k:=by
 show (if tf _ then _ else _) = _;rw [aP h,fO]
theorem kQ {k : Nat} (h : ¬ Hv g (gi L k) (dI g L k)) : dI g L (k + 1) = dI g L k:=by
 show (if tf _ then _ else _) = _;rw [aq h,fu]
theorem kR (hL : 0 < L.length) : ∀ k,k ≤ L.length → ∃ j,j < L.length ∧ dI g L k = gi L j:=by
 intro k
 induction k with
 | zero => exact fun _ => ⟨0, hL, rfl⟩
 | succ k ih =>
   intro hk
   by_cases c : Hv g (gi L k) (dI g L k)
   · exact ⟨k,by omega,jK c⟩
   · rw [kQ c];exact ih (by omega)
theorem vA : ∀ k j,j < k → ¬ Hv g (gi L j) (dI g L k):=by
 intro k
 induction k with
 | zero => exact fun j h => absurd h (Nat.not_lt_zero _)
 | succ k ih =>
   intro j hj
   by_cases c : Hv g (gi L k) (dI g L k)
   · rw [jK c]
     by_cases e : j = k
     · subst e;exact fun h=>ef h h
     · exact fun h=>ih j (by omega) (gx h c)
   · rw [kQ c]
     by_cases e : j = k
     · subst e;exact c
     · exact ih j (by omega)
end
theorem vB {g : Pa} {f : Nat → Nat} (hf : ∀ x,x < g.prio.length → f x < g.prio.length) {v : Nat} (hv : v < g.prio.length) :
  0 < (dF (itF f v) g.prio.length).length ∧ (fZ (itF f v) g.prio.length ++ dF (itF f v) g.prio.length).length ≤ g.prio.length ∧ Bnd (fZ (itF f v) g.prio.length ++ dF (itF f v) g.prio.length) g.prio.length ∧
  dI g (dF (itF f v) g.prio.length) (dF (itF f v) g.prio.length).length = (hdF g f v : Nat) ∧ wyF g f v < (fZ (itF f v) g.prio.length ++ dF (itF f v) g.prio.length).length ∧
  gi (fZ (itF f v) g.prio.length ++ dF (itF f v) g.prio.length) (wyF g f v) = (hdF g f v : Nat) ∧ (∀ j,j < wyF g f v → gi (fZ (itF f v) g.prio.length ++ dF (itF f v) g.prio.length) j ≠ (hdF g f v : Nat)) ∧
  srt (dO (fun x=>Hv g x (hdF g f v : Nat)) (fZ (itF f v) g.prio.length ++ dF (itF f v) g.prio.length) (wyF g f v)) = lst (OvP g f v) g.prio.length:=by
 have hlt:=fun k=>en hf hv k
 obtain ⟨e1,_,e2,e3⟩:=nO hlt
 obtain ⟨_,_,hdist⟩:=mI hlt g.prio.length 0 (by omega) fun i j _ h=>absurd h (Nat.not_lt_zero _)
 change ∀ i j,i < j → j < eS (itF f v) g.prio.length → itF f v i ≠ itF f v j at hdist
 have hat:=fun j hj=>uW hlt (j:=j) hj
 have hll:=s4 hlt
 have h2 : fZ (itF f v) g.prio.length ++ dF (itF f v) g.prio.length = dW (itF f v) (eS (itF f v) g.prio.length):=List.take_append_drop _ _
 rw [h2]
 generalize dF (itF f v) g.prio.length = L at *
 generalize eS (itF f v) g.prio.length = e at *
 generalize atA (itF f v) g.prio.length = a at *
 clear h2
 have hper : itF f (itF f v a) (e - a) = itF f v a:=by rw [← cg,show a + (e - a) = e by omega];exact e3.symm
 have hW : ∀ j,j < e → gi (dW (itF f v) e) j = (itF f v j : Nat):=fun j hj=>cU _ hj
 have hL0 : 0 < L.length:=by omega
 have hhd : dI g L L.length = (hdF g f v : Nat):=by
  obtain ⟨j,j1,j2⟩:=kR (g:=g) hL0 _ (Nat.le_refl _)
  have jm:=vA (g:=g) (L:=L) L.length
  rw [hat j (by omega)] at j2
  rw [j2] at jm ⊢
  have hin : ∀ m,∃ r,r < L.length ∧ itF f (itF f v a) m = itF f v (a + r):=fun m=>by
   obtain ⟨r,r1,r2⟩:=jE hper (by omega) m
   exact ⟨r,by omega,by rw [r2,cg]⟩
  have : hdF g f v = itF f v (a + j):=by
   refine lM ⟨⟨_,rfl⟩,⟨e - a,by omega,?_⟩,fun m=>?_⟩
   · rw [← cg,show a + j + (e - a) = a + (e - a + j) by omega,cg f v a,cg f (itF f v a),hper,← cg]
   · rw [← cg,Nat.add_assoc,cg]
     obtain ⟨r,r1,r2⟩:=hin (j + m)
     rw [r2]
     have:=jm r r1
     rw [hat r (by omega)] at this
     exact this
  rw [this]
 obtain ⟨w1,w2⟩:=io hf hv
 have hwe : wyF g f v < e:=by
  obtain ⟨j,j1,j2⟩:=kR (g:=g) hL0 _ (Nat.le_refl _)
  rw [hhd,hat j (by omega)] at j2
  rcases Nat.lt_or_ge (wyF g f v) e with h|h
  · exact h
  · exact absurd (show itF f v (a + j) = hdF g f v by omega) (w2 _ (by omega))
 refine ⟨hL0,by rw [eg];exact e1,fun k hk=>?_,hhd,by rw [eg];exact hwe,by rw [hW _ hwe,w1],fun j hj=>?_,?_⟩
 · rw [eg] at hk
   rw [hW k hk]
   have:=hlt k
   omega
 · rw [hW j (by omega)]
   have:=w2 j hj
   omega
 · have hm : ∀ x,x ∈ dO (fun x=>Hv g x (hdF g f v : Nat)) (dW (itF f v) e) (wyF g f v) ↔ ∃ j,j < wyF g f v ∧ (itF f v j : Int) = x ∧ Hv g x (hdF g f v : Nat):=fun x=>by
    rw [fi _ (by rw [eg];omega)]
    constructor
    · rintro ⟨j,q1,q2,q3⟩;exact ⟨j,q1,by rw [← hW j (by omega)];exact q2,q3⟩
    · rintro ⟨j,q1,q2,q3⟩;exact ⟨j,q1,by rw [hW j (by omega)];exact q2,q3⟩
   have nd : ∀ k,k ≤ wyF g f v → (dO (fun x=>Hv g x (hdF g f v : Nat)) (dW (itF f v) e) k).Nodup:=by
    intro k
    induction k with
    | zero => exact fun _ => List.nodup_nil
    | succ k ih =>
      intro hk
      by_cases c : Hv g (gi (dW (itF f v) e) k) (hdF g f v : Nat)
      · rw [eH c,List.nodup_append]
        refine ⟨ih (by omega),by simp,fun x hx y hy e=>?_⟩
        rw [List.mem_singleton] at hy
        subst e;subst hy
        obtain ⟨j,q1,q2,_⟩:=(fi _ (by rw [eg];omega)).1 hx
        rw [hW j (by omega),hW k (by omega)] at q2
        exact hdist j k q1 (by omega) (by omega)
      · rw [fR c];exact ih (by omega)
   have h3 : (srt (dO (fun x=>Hv g x (hdF g f v : Nat)) (dW (itF f v) e) (wyF g f v))).Nodup:=(List.mergeSort_perm _ _).nodup_iff.2 (nd _ (Nat.le_refl _))
   refine nK _ _ (((yS _).and h3).imp fun h=>by omega) (j5 (fJ _ _)) fun x=>?_
   rw [rW,hm,fQ]
   constructor
   · rintro ⟨j,q1,q2,q3⟩
     exact ⟨itF f v j,hlt j,⟨by rw [q2];exact q3,j,q1,rfl⟩,q2.symm⟩
   · rintro ⟨y,_,⟨q3,j,q1,q2⟩,q4⟩
     exact ⟨j,q1,by rw [q2,q4],by rw [q4];exact q3⟩
set_option maxHeartbeats 1000000 in
theorem q8 (g : Pa) (hg : PaOk g) (S L : List Int) (hL : 0 < L.length) (hlen : (S ++ L).length ≤ 256) (hB : Bnd (S ++ L) g.prio.length) (d : Nat) (hd : d < (S ++ L).length) (hdh : gi (S ++ L) d = dI g L L.length) (hdn : ∀ j,j < d → gi (S ++ L) j ≠ dI g L L.length) :
  aO Tryz.prog 41 [paA g,.agg [.c (.I S),.c (.I L)]] [.arr 2 .may (.I (srt (dO (fun x=>Hv g x (dI g L L.length)) (S ++ L) d)))] (fun ns=>.agg [.c (.int .i64 (dI g L L.length)),.sl (ns.getD 0 0),.c (.int .i64 d)]):=by
 have hl:=hg.len
 have hle:=hg.ar.le
 have hsl : (S ++ L).length = S.length + L.length:=List.length_append
 have hBL : ∀ k,k < L.length → fP g.prio.length (gi L k):=fun k hk=>by
  have:=hB (S.length + k) (by omega)
  have e : gi (S ++ L) (S.length + k) = gi L k:=by simp only [gi,List.getD_eq_getElem?_getD,List.getElem?_append_right (Nat.le_add_right _ _),Nat.add_sub_cancel_left]
  rw [e] at this
  exact this
 have hVh : ∀ k,k ≤ L.length → fP g.prio.length (dI g L k):=fun k hk=>by
  obtain ⟨j,j1,j2⟩:=kR (g:=g) hL k hk
  rw [j2];exact hBL j j1
 have hfl:=kY (fun x=>Hv g x (dI g L L.length)) (S ++ L)
 have hso:=xi (dO (fun x=>Hv g x (dI g L L.length)) (S ++ L) d) (by have:=hfl d;omega) .may rfl
 (refine bj ap Tryz.func41 rfl rfl (by kernel_rfl) fun hp0 ν hX hN=>?_;simp only [bU,Nat.reduceAdd])
 (repeat' (first|(with_reducible first|(apply hK;clear hK K)|refine stZ ?_|refine aD rfl ?_|((first|apply ae|apply af);clear ae X af Y))|(with_reducible refine aG ?_;first|refine aE rfl ?_|refine aF rfl ?_)|(with_reducible refine ba ?_;refine bd hN ?_)|((with_reducible first|((first|refine aJ ?_|refine bf ?_|refine aK ?_|refine bg ?_);intro K hK)|(refine am ?_;intro X Y ae af)|refine ao ?_);simp (disch:=first|decide|omega|(simp only [List.length_cons,List.length_nil];omega)) only [go_sem,↓aj hN,ak hN,reduceIte,reduceCtorEq,Nat.reduceAdd,Nat.reduceLT,Nat.reduceLeDiff,Nat.reduceEqDiff,Nat.reduceSub])|(with_reducible refine And.intro (fun h=>?_) (fun h=>?_) <;> try (exfalso;omega))|(with_reducible refine aI ap hN ?_)|(with_reducible refine aC ap hN ?_)|(with_reducible refine And.intro ?_ ?_)|(refine ah ?_;omega)|(exact aH hN (by decide))))
 (refine bN (fun (k : Nat)=>(tmL [(18,.c (.int .i64 k)),(17,.c (.int .i64 L.length)),(16,.c (.I L)),(5,.ad (ν 3) 0),(4,.ad (ν 2) 0),(2,.ad (ν 0) 0),(3,.ad (ν 1) 0)],hpL hp0 ν [.box [.c (.I g.ar.own),.c (.R g.ar.nxt),.c (.I g.prio)],.box [.c (.I S),.c (.I L)],.box [.c (.int .i64 0),.c .nul,.c (.int .i64 0)],.box [.c (.int .i64 (dI g L k)),.c .nul,.c (.int .i64 0)]])) (fun (k : Nat)=>k ≤ L.length) (fun (k : Nat)=>L.length - k) ⟨0,?_,bu hX hN [] ?_ ?_⟩ ?_;(repeat' (first|(with_reducible first|exact clZ|refine bn ?_ ?_|refine bo ?_ ?_|rfl|refine suZ ?_)|refine bp rfl ?_ ?_|exact aR hN _ rfl rfl rfl|exact aS hN _ rfl rfl rfl|exact ay hN _ rfl rfl rfl (Or.inr rfl)|(refine aT hN _ rfl rfl (by first|exact Or.inr rfl|exact Or.inl rfl) ?_;first|exact aU _|exact aV _)|refine az hN rfl ?_|refine aA hN rfl rfl ?_|exact ax hN _ rfl rfl|exact au hN rfl rfl rfl rfl|(with_reducible first|refine stZ ?_|refine aQ ?_)));(try (any_goals (first|(with_reducible rfl)|(refine ah ?_;omega)))))
 · rfl
 intro k hk
 by_cases hkl : k < L.length
 · have c1:=dh g (gi L k) (dI g L k) (hBL k hkl) (hVh k hk)
   by_cases hh : Hv g (gi L k) (dI g L k)
   · rw [aP hh] at c1
     (repeat' (first|(with_reducible first|(apply hK;clear hK K)|refine stZ ?_|refine aD rfl ?_|((first|apply ae|apply af);clear ae X af Y))|(with_reducible refine aG ?_;first|refine aE rfl ?_|refine aF rfl ?_)|(with_reducible refine ba ?_;refine bd hN ?_)|((with_reducible first|((first|refine aJ ?_|refine bf ?_|refine aK ?_|refine bg ?_);intro K hK)|(refine am ?_;intro X Y ae af)|refine ao ?_);simp (disch:=first|decide|omega|(simp only [List.length_cons,List.length_nil];omega)) only [go_sem,↓aj hN,ak hN,reduceIte,reduceCtorEq,Nat.reduceAdd,Nat.reduceLT,Nat.reduceLeDiff,Nat.reduceEqDiff,Nat.reduceSub])|(with_reducible refine And.intro (fun h=>?_) (fun h=>?_) <;> try (exfalso;omega))|(with_reducible refine aI ap hN ?_)|(with_reducible refine aC ap hN ?_)|(refine bW (c1) ?_ rfl (fun _=>rfl) ?_;focus ((repeat' (first|(with_reducible first|exact bt|refine bc ?_ ?_|exact cm _|refine bF ?_|exact bB _|exact bT _ _|refine bS ?_|exact bz _)|exact bG hN rfl rfl|(refine bR hN rfl ?_;first|exact aU _|exact aV _)|exact bA rfl rfl rfl));done))|(with_reducible first|exact bt|refine bc ?_ ?_|exact cm _|refine bF ?_|exact bB _|exact bT _ _|refine bS ?_|exact bz _)|exact bG hN rfl rfl|(refine bR hN rfl ?_;first|exact aU _|exact aV _)|exact bA rfl rfl rfl|(simp only [aZ,List.map_nil])|(with_reducible refine aY ?_)|(with_reducible refine And.intro ?_ ?_)|(refine ah ?_;omega)|(exact aH hN (by decide))))
     (refine ⟨k + 1,⟨?_,?_⟩,bu hX hN [] ?_ ?_⟩;(try any_goals dsimp only);(repeat' (first|(with_reducible first|exact clZ|refine bn ?_ ?_|refine bo ?_ ?_|rfl|refine suZ ?_)|refine bp rfl ?_ ?_|exact aR hN _ rfl rfl rfl|exact aS hN _ rfl rfl rfl|exact ay hN _ rfl rfl rfl (Or.inr rfl)|(refine aT hN _ rfl rfl (by first|exact Or.inr rfl|exact Or.inl rfl) ?_;first|exact aU _|exact aV _)|refine az hN rfl ?_|refine aA hN rfl rfl ?_|exact ax hN _ rfl rfl|exact au hN rfl rfl rfl rfl|(with_reducible first|refine stZ ?_|refine aQ ?_)));(try (any_goals (first|(with_reducible rfl)|(refine ah ?_;omega)))))
     exact (jK hh).symm
   · rw [aq hh] at c1
     (repeat' (first|(with_reducible first|(apply hK;clear hK K)|refine stZ ?_|refine aD rfl ?_|((first|apply ae|apply af);clear ae X af Y))|(with_reducible refine aG ?_;first|refine aE rfl ?_|refine aF rfl ?_)|(with_reducible refine ba ?_;refine bd hN ?_)|((with_reducible first|((first|refine aJ ?_|refine bf ?_|refine aK ?_|refine bg ?_);intro K hK)|(refine am ?_;intro X Y ae af)|refine ao ?_);simp (disch:=first|decide|omega|(simp only [List.length_cons,List.length_nil];omega)) only [go_sem,↓aj hN,ak hN,reduceIte,reduceCtorEq,Nat.reduceAdd,Nat.reduceLT,Nat.reduceLeDiff,Nat.reduceEqDiff,Nat.reduceSub])|(with_reducible refine And.intro (fun h=>?_) (fun h=>?_) <;> try (exfalso;omega))|(with_reducible refine aI ap hN ?_)|(with_reducible refine aC ap hN ?_)|(refine bW (c1) ?_ rfl (fun _=>rfl) ?_;focus ((repeat' (first|(with_reducible first|exact bt|refine bc ?_ ?_|exact cm _|refine bF ?_|exact bB _|exact bT _ _|refine bS ?_|exact bz _)|exact bG hN rfl rfl|(refine bR hN rfl ?_;first|exact aU _|exact aV _)|exact bA rfl rfl rfl));done))|(with_reducible first|exact bt|refine bc ?_ ?_|exact cm _|refine bF ?_|exact bB _|exact bT _ _|refine bS ?_|exact bz _)|exact bG hN rfl rfl|(refine bR hN rfl ?_;first|exact aU _|exact aV _)|exact bA rfl rfl rfl|(simp only [aZ,List.map_nil])|(with_reducible refine aY ?_)|(with_reducible refine And.intro ?_ ?_)|(refine ah ?_;omega)|(exact aH hN (by decide))))
     (refine ⟨k + 1,⟨?_,?_⟩,bu hX hN [] ?_ ?_⟩;(try any_goals dsimp only);(repeat' (first|(with_reducible first|exact clZ|refine bn ?_ ?_|refine bo ?_ ?_|rfl|refine suZ ?_)|refine bp rfl ?_ ?_|exact aR hN _ rfl rfl rfl|exact aS hN _ rfl rfl rfl|exact ay hN _ rfl rfl rfl (Or.inr rfl)|(refine aT hN _ rfl rfl (by first|exact Or.inr rfl|exact Or.inl rfl) ?_;first|exact aU _|exact aV _)|refine az hN rfl ?_|refine aA hN rfl rfl ?_|exact ax hN _ rfl rfl|exact au hN rfl rfl rfl rfl|(with_reducible first|refine stZ ?_|refine aQ ?_)));(try (any_goals (first|(with_reducible rfl)|(refine ah ?_;omega)))))
     exact (kQ hh).symm
 · obtain rfl : k = L.length:=by omega
   have hVl:=hVh L.length hk
   generalize dI g L L.length = hw at *
   (repeat' (first|(with_reducible first|(apply hK;clear hK K)|refine stZ ?_|refine aD rfl ?_|((first|apply ae|apply af);clear ae X af Y))|(with_reducible refine aG ?_;first|refine aE rfl ?_|refine aF rfl ?_)|(with_reducible refine ba ?_;refine bd hN ?_)|((with_reducible first|((first|refine aJ ?_|refine bf ?_|refine aK ?_|refine bg ?_);intro K hK)|(refine am ?_;intro X Y ae af)|refine ao ?_);simp (disch:=first|decide|omega|(simp only [List.length_cons,List.length_nil];omega)) only [go_sem,↓aj hN,ak hN,reduceIte,reduceCtorEq,Nat.reduceAdd,Nat.reduceLT,Nat.reduceLeDiff,Nat.reduceEqDiff,Nat.reduceSub])|(with_reducible refine And.intro (fun h=>?_) (fun h=>?_) <;> try (exfalso;omega))|(with_reducible refine aI ap hN ?_)|(with_reducible refine aC ap hN ?_)|(with_reducible refine And.intro ?_ ?_)|(refine ah ?_;omega)|(exact aH hN (by decide))))
   (refine bN (fun (i : Nat)=>(tmL [(38,.c (.int .i64 i)),(37,.c (.int .i64 (S ++ L).length)),(36,.sl (ν 6)),(5,.ad (ν 3) 0),(4,.ad (ν 2) 0),(2,.ad (ν 0) 0)],hpL hp0 ν [.box [.c (.I g.ar.own),.c (.R g.ar.nxt),.c (.I g.prio)],.box [.c (.I S),.c (.I L)],.box [.c (.int .i64 0),.c .nul,.c (.int .i64 0)],.box [.c (.int .i64 hw),.sl (ν 7),.c (.int .i64 i)],.dead,.dead,.arr 2 .yes (.I (S ++ L)),.arr 2 .may (.I (dO (fun x=>Hv g x hw) (S ++ L) i))])) (fun (i : Nat)=>i ≤ d) (fun (i : Nat)=>d - i) ⟨0,?_,bu hX hN [] ?_ ?_⟩ ?_;(repeat' (first|(with_reducible first|exact clZ|refine bn ?_ ?_|refine bo ?_ ?_|rfl|refine suZ ?_)|refine bp rfl ?_ ?_|exact aR hN _ rfl rfl rfl|exact aS hN _ rfl rfl rfl|exact ay hN _ rfl rfl rfl (Or.inr rfl)|(refine aT hN _ rfl rfl (by first|exact Or.inr rfl|exact Or.inl rfl) ?_;first|exact aU _|exact aV _)|refine az hN rfl ?_|refine aA hN rfl rfl ?_|exact ax hN _ rfl rfl|exact au hN rfl rfl rfl rfl|(with_reducible first|refine stZ ?_|refine aQ ?_)));(try (any_goals (first|(with_reducible rfl)|(refine ah ?_;omega)))))
   intro i hi
   have hfi:=hfl i
   by_cases hid : i < d
   · have c1:=dh g (gi (S ++ L) i) hw (hB i (by omega)) hVl
     have hne:=hdn i hid
     by_cases hh : Hv g (gi (S ++ L) i) hw
     · rw [aP hh] at c1
       (repeat' (first|(with_reducible first|(apply hK;clear hK K)|refine stZ ?_|refine aD rfl ?_|((first|apply ae|apply af);clear ae X af Y))|(with_reducible refine aG ?_;first|refine aE rfl ?_|refine aF rfl ?_)|(with_reducible refine ba ?_;refine bd hN ?_)|((with_reducible first|((first|refine aJ ?_|refine bf ?_|refine aK ?_|refine bg ?_);intro K hK)|(refine am ?_;intro X Y ae af)|refine ao ?_);simp (disch:=first|decide|omega|(simp only [List.length_cons,List.length_nil];omega)) only [go_sem,↓aj hN,ak hN,reduceIte,reduceCtorEq,Nat.reduceAdd,Nat.reduceLT,Nat.reduceLeDiff,Nat.reduceEqDiff,Nat.reduceSub])|(with_reducible refine And.intro (fun h=>?_) (fun h=>?_) <;> try (exfalso;omega))|(with_reducible refine aI ap hN ?_)|(with_reducible refine aC ap hN ?_)|(refine bW (c1) ?_ rfl (fun _=>rfl) ?_;focus ((repeat' (first|(with_reducible first|exact bt|refine bc ?_ ?_|exact cm _|refine bF ?_|exact bB _|exact bT _ _|refine bS ?_|exact bz _)|exact bG hN rfl rfl|(refine bR hN rfl ?_;first|exact aU _|exact aV _)|exact bA rfl rfl rfl));done))|(with_reducible first|exact bt|refine bc ?_ ?_|exact cm _|refine bF ?_|exact bB _|exact bT _ _|refine bS ?_|exact bz _)|exact bG hN rfl rfl|(refine bR hN rfl ?_;first|exact aU _|exact aV _)|exact bA rfl rfl rfl|(simp only [aZ,List.map_nil])|(with_reducible refine aY ?_)|(with_reducible refine And.intro ?_ ?_)|(refine ah ?_;omega)|(exact aH hN (by decide))))
       (refine ⟨i + 1,⟨?_,?_⟩,bu hX hN [(7,9)] ?_ ?_⟩;(try any_goals dsimp only);(repeat' (first|(with_reducible first|exact clZ|refine bn ?_ ?_|refine bo ?_ ?_|rfl|refine suZ ?_)|refine bp rfl ?_ ?_|exact aR hN _ rfl rfl rfl|exact aS hN _ rfl rfl rfl|exact ay hN _ rfl rfl rfl (Or.inr rfl)|(refine aT hN _ rfl rfl (by first|exact Or.inr rfl|exact Or.inl rfl) ?_;first|exact aU _|exact aV _)|refine az hN rfl ?_|refine aA hN rfl rfl ?_|exact ax hN _ rfl rfl|exact au hN rfl rfl rfl rfl|(with_reducible first|refine stZ ?_|refine aQ ?_)));(try (any_goals (first|(with_reducible rfl)|(refine ah ?_;omega)))))
       first|exact eH hh|exact (eH hh).symm
     · rw [aq hh] at c1
       (repeat' (first|(with_reducible first|(apply hK;clear hK K)|refine stZ ?_|refine aD rfl ?_|((first|apply ae|apply af);clear ae X af Y))|(with_reducible refine aG ?_;first|refine aE rfl ?_|refine aF rfl ?_)|(with_reducible refine ba ?_;refine bd hN ?_)|((with_reducible first|((first|refine aJ ?_|refine bf ?_|refine aK ?_|refine bg ?_);intro K hK)|(refine am ?_;intro X Y ae af)|refine ao ?_);simp (disch:=first|decide|omega|(simp only [List.length_cons,List.length_nil];omega)) only [go_sem,↓aj hN,ak hN,reduceIte,reduceCtorEq,Nat.reduceAdd,Nat.reduceLT,Nat.reduceLeDiff,Nat.reduceEqDiff,Nat.reduceSub])|(with_reducible refine And.intro (fun h=>?_) (fun h=>?_) <;> try (exfalso;omega))|(with_reducible refine aI ap hN ?_)|(with_reducible refine aC ap hN ?_)|(refine bW (c1) ?_ rfl (fun _=>rfl) ?_;focus ((repeat' (first|(with_reducible first|exact bt|refine bc ?_ ?_|exact cm _|refine bF ?_|exact bB _|exact bT _ _|refine bS ?_|exact bz _)|exact bG hN rfl rfl|(refine bR hN rfl ?_;first|exact aU _|exact aV _)|exact bA rfl rfl rfl));done))|(with_reducible first|exact bt|refine bc ?_ ?_|exact cm _|refine bF ?_|exact bB _|exact bT _ _|refine bS ?_|exact bz _)|exact bG hN rfl rfl|(refine bR hN rfl ?_;first|exact aU _|exact aV _)|exact bA rfl rfl rfl|(simp only [aZ,List.map_nil])|(with_reducible refine aY ?_)|(with_reducible refine And.intro ?_ ?_)|(refine ah ?_;omega)|(exact aH hN (by decide))))
       (refine ⟨i + 1,⟨?_,?_⟩,bu hX hN [] ?_ ?_⟩;(try any_goals dsimp only);(repeat' (first|(with_reducible first|exact clZ|refine bn ?_ ?_|refine bo ?_ ?_|rfl|refine suZ ?_)|refine bp rfl ?_ ?_|exact aR hN _ rfl rfl rfl|exact aS hN _ rfl rfl rfl|exact ay hN _ rfl rfl rfl (Or.inr rfl)|(refine aT hN _ rfl rfl (by first|exact Or.inr rfl|exact Or.inl rfl) ?_;first|exact aU _|exact aV _)|refine az hN rfl ?_|refine aA hN rfl rfl ?_|exact ax hN _ rfl rfl|exact au hN rfl rfl rfl rfl|(with_reducible first|refine stZ ?_|refine aQ ?_)));(try (any_goals (first|(with_reducible rfl)|(refine ah ?_;omega)))))
       first|exact fR hh|exact (fR hh).symm
   · obtain rfl : i = d:=by omega
     (repeat' (first|(with_reducible first|(apply hK;clear hK K)|refine stZ ?_|refine aD rfl ?_|((first|apply ae|apply af);clear ae X af Y))|(with_reducible refine aG ?_;first|refine aE rfl ?_|refine aF rfl ?_)|(with_reducible refine ba ?_;refine bd hN ?_)|((with_reducible first|((first|refine aJ ?_|refine bf ?_|refine aK ?_|refine bg ?_);intro K hK)|(refine am ?_;intro X Y ae af)|refine ao ?_);simp (disch:=first|decide|omega|(simp only [List.length_cons,List.length_nil];omega)) only [go_sem,↓aj hN,ak hN,reduceIte,reduceCtorEq,Nat.reduceAdd,Nat.reduceLT,Nat.reduceLeDiff,Nat.reduceEqDiff,Nat.reduceSub])|(with_reducible refine And.intro (fun h=>?_) (fun h=>?_) <;> try (exfalso;omega))|(with_reducible refine aI ap hN ?_)|(with_reducible refine aC ap hN ?_)|(refine dm (hso) hN 7 rfl rfl rfl rfl rfl ?_ ?_ ?_ ?_;(focus (simp [bv,AV.names];done));(focus (intro ν' hν;(repeat' (first|exact ArgMs.nil|refine ArgMs.cons ?_ ?_|exact gR hν|exact gS hν|exact jx _|exact i5 (by first|exact bB _|exact bz _|exact bA rfl rfl rfl) rfl|(refine gT hN rfl ?_ (by decide);first|exact aU _|exact aV _)|refine d8 ?_));done));(focus (first|exact Or.inr ⟨rfl,rfl,fun _=>rfl⟩|exact Or.inl (by simp [bv,AV.names]))))|(with_reducible first|exact bt|refine bc ?_ ?_|exact cm _|refine bF ?_|exact bB _|exact bT _ _|refine bS ?_|exact bz _)|exact bG hN rfl rfl|(refine bR hN rfl ?_;first|exact aU _|exact aV _)|exact bA rfl rfl rfl|(simp only [aZ,List.map_nil])|(with_reducible refine aY ?_)|(simp (disch:=first|decide|omega|(simp only [List.length_cons,List.length_nil];omega)) only [aZ,List.map_cons,List.map_nil,ak hN,List.set_cons_zero,List.set_cons_succ])|(with_reducible refine And.intro ?_ ?_)|(refine ah ?_;omega)|(exact aH hN (by decide))))
     all_goals first|(exact absurd hdh (dl (by assumption)))|((refine fA hN [7] (by decide) (.inr rfl) (by first|exact co rfl rfl|exact ce hN rfl rfl rfl rfl|exact bZ hN rfl rfl rfl rfl rfl|(simp (disch:=first|decide|omega|(simp only [List.length_cons,List.length_nil];omega)) only [bI,bJ,bK,bM,go_sem,beq_self_eq_true,↓aB,↓aj hN,ak hN,reduceIte,reduceCtorEq,Nat.reduceAdd,Nat.reduceLT,Nat.reduceLeDiff,Nat.reduceEqDiff,Nat.reduceSub];rfl)|rfl) ?_ fun νs hνs=>?_;(repeat' (first|exact Gone.nil|(refine Gone.cons rfl rfl ?_ ?_)|(with_reducible refine dS ?_)|(with_reducible refine dR ?_)|(with_reducible refine SVs.cons ?_ ?_)|(with_reducible exact SVs.nil)|(simp only [List.drop,List.take])|(simp (disch:=first|decide|omega) only [↓aB,reduceIte,reduceCtorEq,Nat.reduceEqDiff])|(with_reducible exact i4 _)|(with_reducible exact dP _)|(exact dQ rfl rfl rfl)|(exact eJ 0 (by simp) rfl rfl)|(refine fy hN rfl (dT hN (by decide)) ?_)|(with_reducible refine fx ?_)|(with_reducible rfl)|(with_reducible refine i6 ?_)|(with_reducible refine i7 ?_)|(with_reducible refine i8 ?_)|(with_reducible refine iN ?_)|(with_reducible refine eK ?_)|(refine ah ?_;omega))));done)
set_option maxHeartbeats 1000000 in
theorem s6 (n : Nat) (hn : n ≤ 256) (wl : List Int) (hl : wl.length = n) (f : Nat → Nat) (hf : ∀ x,x < n → gi wl x = (f x : Nat) ∧ f x < n) (v : Nat) (hv : v < n) : aO Tryz.prog 42 [.c (.I wl),.c (.int .i64 v)] [] (fun _=>.agg [.c (.I (fZ (itF f v) n)),.c (.I (dF (itF f v) n))]):=by
 have hlt:=fun k=>en (fun x hx=>(hf x hx).2) hv k
 have hend:=nO hlt
 have hfx : ∀ k,((itF f v (k + 1) : Nat) : Int) = gi wl (itF f v k):=fun k=>(hf _ (hlt k)).1.symm
 have hf0 : itF f v 0 = v:=rfl
 unfold fZ dF
 clear hf
 generalize itF f v = f at *
 (refine bj ap Tryz.func42 rfl rfl (by kernel_rfl) fun hp0 ν hX hN=>?_;simp only [bU,Nat.reduceAdd])
 (repeat' (first|(with_reducible first|(apply hK;clear hK K)|refine stZ ?_|refine aD rfl ?_|((first|apply ae|apply af);clear ae X af Y))|(with_reducible refine aG ?_;first|refine aE rfl ?_|refine aF rfl ?_)|(with_reducible refine ba ?_;refine bd hN ?_)|((with_reducible first|((first|refine aJ ?_|refine bf ?_|refine aK ?_|refine bg ?_);intro K hK)|(refine am ?_;intro X Y ae af)|refine ao ?_);simp (disch:=first|decide|omega|(simp only [List.length_cons,List.length_nil];omega)) only [go_sem,↓aj hN,ak hN,reduceIte,reduceCtorEq,Nat.reduceAdd,Nat.reduceLT,Nat.reduceLeDiff,Nat.reduceEqDiff,Nat.reduceSub])|(with_reducible refine And.intro (fun h=>?_) (fun h=>?_) <;> try (exfalso;omega))|(with_reducible refine aI ap hN ?_)|(with_reducible refine aC ap hN ?_)|(with_reducible refine And.intro ?_ ?_)|(refine ah ?_;omega)|(exact aH hN (by decide))))
 (refine bN (fun (k : Nat)=>(tmL [(5,.sl (ν 1)),(1,.c (.int .i64 (f k : Nat))),(4,.ad (ν 0) 0),(0,.c (.I wl))],hpL hp0 ν [.box [.c .nul,.c .nul],.arr 2 .yes (.I (dW f k))])) (fun (k : Nat)=>(k ≤ n ∧ ∀ i j,i < j → j < k → f i ≠ f j) ∧ gd f (n - k) k = eS f n) (fun (k : Nat)=>n + 1 - k) ⟨0,?_,bu hX hN [] ?_ ?_⟩ ?_;(repeat' (first|(with_reducible first|exact clZ|refine bn ?_ ?_|refine bo ?_ ?_|rfl|refine suZ ?_)|refine bp rfl ?_ ?_|exact aR hN _ rfl rfl rfl|exact aS hN _ rfl rfl rfl|exact ay hN _ rfl rfl rfl (Or.inr rfl)|(refine aT hN _ rfl rfl (by first|exact Or.inr rfl|exact Or.inl rfl) ?_;first|exact aU _|exact aV _)|refine az hN rfl ?_|refine aA hN rfl rfl ?_|exact ax hN _ rfl rfl|exact au hN rfl rfl rfl rfl|(with_reducible first|refine stZ ?_|refine aQ ?_)));(try (any_goals (first|(with_reducible rfl)|(refine ah ?_;omega)))))
 · exact ⟨⟨Nat.zero_le _,fun i j _ h=>absurd h (Nat.not_lt_zero _)⟩,rfl⟩
 · rfl
 rintro k ⟨⟨hk,hd⟩,hF⟩
 have hwl:=eg f k
 have hfk:=hlt k
 by_cases hit : ∃ j,j < k ∧ f j = f k
 · rw [lK hit] at hF
   rw [← hF] at hend ⊢
   obtain ⟨_,e1,e2,_⟩:=hend
   have c4:=ew (dW f k) (f k)
   rw [aP (nN.2 hit)] at c4
   have c5:=xh (dW f k) (f k)
   rw [e1] at c5
   generalize atA f n = p at *
   (repeat' (first|(with_reducible refine fw 6 ?_)|(with_reducible first|(apply hK;clear hK K)|refine stZ ?_|refine aD rfl ?_|((first|apply ae|apply af);clear ae X af Y))|(with_reducible refine aG ?_;first|refine aE rfl ?_|refine aF rfl ?_)|(with_reducible refine ba ?_;refine bd hN ?_)|((with_reducible first|((first|refine aJ ?_|refine bf ?_|refine aK ?_|refine bg ?_);intro K hK)|(refine am ?_;intro X Y ae af)|refine ao ?_);simp (disch:=first|decide|omega|(simp only [List.length_cons,List.length_nil];omega)) only [go_sem,↓aj hN,ak hN,reduceIte,reduceCtorEq,Nat.reduceAdd,Nat.reduceLT,Nat.reduceLeDiff,Nat.reduceEqDiff,Nat.reduceSub])|(with_reducible refine And.intro (fun h=>?_) (fun h=>?_) <;> try (exfalso;omega))|(with_reducible refine aI ap hN ?_)|(with_reducible refine aC ap hN ?_)|((first|refine bW (c4) ?_ rfl (fun _=>rfl) ?_|refine bW (c5) ?_ rfl (fun _=>rfl) ?_);focus ((repeat' (first|(with_reducible first|exact bt|refine bc ?_ ?_|exact cm _|refine bF ?_|exact bB _|exact bT _ _|refine bS ?_|exact bz _)|exact bG hN rfl rfl|(refine bR hN rfl ?_;first|exact aU _|exact aV _)|exact bA rfl rfl rfl));done))|(with_reducible first|exact bt|refine bc ?_ ?_|exact cm _|refine bF ?_|exact bB _|exact bT _ _|refine bS ?_|exact bz _)|exact bG hN rfl rfl|(refine bR hN rfl ?_;first|exact aU _|exact aV _)|exact bA rfl rfl rfl|(simp only [aZ,List.map_nil])|(with_reducible refine aY ?_)|(with_reducible refine And.intro ?_ ?_)|(refine ah ?_;omega)|(exact aH hN (by decide))))
   have t1 : (List.drop (Int.toNat 0) (List.take p (dW f k))).length = p:=by simp;omega
   have t2 : (List.drop p (List.take (dW f k).length (dW f k))).length = k - p:=by simp;omega
   have t3 : List.drop p (List.take (dW f k).length (dW f k)) = List.drop p (dW f k):=by rw [List.take_length]
   (refine lm (bu (L':=[.box [.c .nul,.c .nul],.dead]) (l:=[(5,.c (.I (dW f k))),(6,.c (.int .i64 p)),(4,.ad (ν 0) 0)]) hX hN [] ?_ ?_) ?_;(repeat' (first|(with_reducible first|exact clZ|refine bn ?_ ?_|refine bo ?_ ?_|rfl|refine suZ ?_)|refine bp rfl ?_ ?_|exact aR hN _ rfl rfl rfl|exact aS hN _ rfl rfl rfl|exact ay hN _ rfl rfl rfl (Or.inr rfl)|(refine aT hN _ rfl rfl (by first|exact Or.inr rfl|exact Or.inl rfl) ?_;first|exact aU _|exact aV _)|refine az hN rfl ?_|refine aA hN rfl rfl ?_|exact ax hN _ rfl rfl|exact au hN rfl rfl rfl rfl|(with_reducible first|refine stZ ?_|refine aQ ?_)));(try (any_goals (first|(with_reducible rfl)|(refine ah ?_;omega)))))
   (repeat' (first|(with_reducible first|(apply hK;clear hK K)|refine stZ ?_|refine aD rfl ?_|((first|apply ae|apply af);clear ae X af Y))|(with_reducible refine aG ?_;first|refine aE rfl ?_|refine aF rfl ?_)|(with_reducible refine ba ?_;refine bd hN ?_)|((with_reducible first|((first|refine aJ ?_|refine bf ?_|refine aK ?_|refine bg ?_);intro K hK)|(refine am ?_;intro X Y ae af)|refine ao ?_);simp (disch:=first|decide|omega|(simp only [List.length_cons,List.length_nil];omega)) only [go_sem,↓aj hN,ak hN,reduceIte,reduceCtorEq,Nat.reduceAdd,Nat.reduceLT,Nat.reduceLeDiff,Nat.reduceEqDiff,Nat.reduceSub])|(with_reducible refine And.intro (fun h=>?_) (fun h=>?_) <;> try (exfalso;omega))|(with_reducible refine aI ap hN ?_)|(with_reducible refine aC ap hN ?_)|(with_reducible refine And.intro ?_ ?_)|(refine ah ?_;omega)|(exact aH hN (by decide))))
   (refine fA hN [] (by decide) (.inr rfl) (by first|exact co rfl rfl|exact ce hN rfl rfl rfl rfl|exact bZ hN rfl rfl rfl rfl rfl|(simp (disch:=first|decide|omega|(simp only [List.length_cons,List.length_nil];omega)) only [bI,bJ,bK,bM,go_sem,beq_self_eq_true,↓aB,↓aj hN,ak hN,reduceIte,reduceCtorEq,Nat.reduceAdd,Nat.reduceLT,Nat.reduceLeDiff,Nat.reduceEqDiff,Nat.reduceSub];rfl)|rfl) ?_ fun νs hνs=>?_;(repeat' (first|exact Gone.nil|(refine Gone.cons rfl rfl ?_ ?_)|(with_reducible refine dS ?_)|(with_reducible refine dR ?_)|(with_reducible refine SVs.cons ?_ ?_)|(with_reducible exact SVs.nil)|(simp only [List.drop,List.take])|(simp (disch:=first|decide|omega) only [↓aB,reduceIte,reduceCtorEq,Nat.reduceEqDiff])|(with_reducible exact i4 _)|(with_reducible exact dP _)|(exact dQ rfl rfl rfl)|(exact eJ 0 (by simp) rfl rfl)|(refine fy hN rfl (dT hN (by decide)) ?_)|(with_reducible refine fx ?_)|(with_reducible rfl)|(with_reducible refine i6 ?_)|(with_reducible refine i7 ?_)|(with_reducible refine i8 ?_)|(with_reducible refine iN ?_)|(with_reducible refine eK ?_)|(refine ah ?_;omega))))
   all_goals first|rfl|rw [t3]
 · have c4:=ew (dW f k) (f k)
   rw [aq (mt nN.1 hit)] at c4
   have hkn : k < n:=by
    have:=kM hlt (iL hd hit)
    omega
   rw [show n - k = (n - (k + 1)) + 1 by omega,kr hit] at hF
   have hx:=hfx k
   (repeat' (first|(with_reducible first|(apply hK;clear hK K)|refine stZ ?_|refine aD rfl ?_|((first|apply ae|apply af);clear ae X af Y))|(with_reducible refine aG ?_;first|refine aE rfl ?_|refine aF rfl ?_)|(with_reducible refine ba ?_;refine bd hN ?_)|((with_reducible first|((first|refine aJ ?_|refine bf ?_|refine aK ?_|refine bg ?_);intro K hK)|(refine am ?_;intro X Y ae af)|refine ao ?_);simp (disch:=first|decide|omega|(simp only [List.length_cons,List.length_nil];omega)) only [go_sem,↓aj hN,ak hN,reduceIte,reduceCtorEq,Nat.reduceAdd,Nat.reduceLT,Nat.reduceLeDiff,Nat.reduceEqDiff,Nat.reduceSub])|(with_reducible refine And.intro (fun h=>?_) (fun h=>?_) <;> try (exfalso;omega))|(with_reducible refine aI ap hN ?_)|(with_reducible refine aC ap hN ?_)|(refine bW (c4) ?_ rfl (fun _=>rfl) ?_;focus ((repeat' (first|(with_reducible first|exact bt|refine bc ?_ ?_|exact cm _|refine bF ?_|exact bB _|exact bT _ _|refine bS ?_|exact bz _)|exact bG hN rfl rfl|(refine bR hN rfl ?_;first|exact aU _|exact aV _)|exact bA rfl rfl rfl));done))|(with_reducible first|exact bt|refine bc ?_ ?_|exact cm _|refine bF ?_|exact bB _|exact bT _ _|refine bS ?_|exact bz _)|exact bG hN rfl rfl|(refine bR hN rfl ?_;first|exact aU _|exact aV _)|exact bA rfl rfl rfl|(simp only [aZ,List.map_nil])|(with_reducible refine aY ?_)|(with_reducible refine And.intro ?_ ?_)|(refine ah ?_;omega)|(exact aH hN (by decide))))
   (refine ⟨k + 1,⟨?_,?_⟩,bu hX hN [(1,3)] ?_ ?_⟩;(try any_goals dsimp only);(repeat' (first|(with_reducible first|exact clZ|refine bn ?_ ?_|refine bo ?_ ?_|rfl|refine suZ ?_)|refine bp rfl ?_ ?_|exact aR hN _ rfl rfl rfl|exact aS hN _ rfl rfl rfl|exact ay hN _ rfl rfl rfl (Or.inr rfl)|(refine aT hN _ rfl rfl (by first|exact Or.inr rfl|exact Or.inl rfl) ?_;first|exact aU _|exact aV _)|refine az hN rfl ?_|refine aA hN rfl rfl ?_|exact ax hN _ rfl rfl|exact au hN rfl rfl rfl rfl|(with_reducible first|refine stZ ?_|refine aQ ?_)));(try (any_goals (first|(with_reducible rfl)|(refine ah ?_;omega)))))
   · exact ⟨⟨by omega,iL hd hit⟩,hF⟩
   · exact vz f k
end Go.Proofs.YtiadchinhofieaaGreat
