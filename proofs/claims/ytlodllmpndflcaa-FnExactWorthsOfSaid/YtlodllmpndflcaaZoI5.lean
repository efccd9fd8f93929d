/-
  The program's worth of a play, and its play by successors.
-/
import Derived.Test.YtlodllmpndflcaaZoI4
import Derived.Test.YtlodllmpndflcaaZoT2
import Derived.Test.YtlodllmpndflcaaZoV2
import Derived.Test.YtlodllmpndflcaaZoShelf2
import Derived.Test.YtlodllmpndflcaaZoAt2
import Derived.Test.YtlodllmpndflcaaZoR9
namespace Go.Proofs.Ytlodllmpndflcaa
set_option linter.unusedVariables false
set_option linter.unusedSimpArgs false
open Go.RowKit
attribute [local irreducible] ba cM Aw Le
noncomputable def dK (g : Pa) (L : List Int) : Nat → Int
 | 0 => gi L 0
 | k + 1 => if tf (Hv g (gi L k) (dK g L k)) then gi L k else dK g L k
section
variable {g : Pa} {L : List Int}
theorem jg {k : Nat} (h : Hv g (gi L k) (dK g L k)) : dK g L (k + 1) = gi L k:=by
 show (if tf _ then _ else _) = _;rw [aA h,gT]
theorem kL {k : Nat} (h : ¬ Hv g (gi L k) (dK g L k)) : dK g L (k + 1) = dK g L k:=by
 show (if tf _ then _ else _) = _;rw [ao h,fO]
theorem kM (hL : 0 < L.length) : ∀ k,k ≤ L.length → ∃ j,j < L.length ∧ dK g L k = gi L j:=by
 intro k
 induction k with
 | zero => exact fun _ => ⟨0, hL, rfl⟩
 | succ k ih =>
   intro hk
   by_cases c : Hv g (gi L k) (dK g L k)
   · exact ⟨k,by omega,jg c⟩
   · rw [kL c];exact ih (by omega)
theorem qD : ∀ k j,j < k → ¬ Hv g (gi L j) (dK g L k):=by
 intro k
 induction k with
 | zero => exact fun j h => absurd h (Nat.not_lt_zero _)
 | succ k ih =>
   intro j hj
   by_cases c : Hv g (gi L k) (dK g L k)
   · rw [jg c]
     by_cases e : j = k
     · subst e;exact fun h=>gz h h
     · exact fun h=>ih j (by omega) (im h c)
   · rw [kL c]
     by_cases e : j = k
     · subst e;exact c
     · exact ih j (by omega)
end
theorem tG {g : Pa} {f : Nat → Nat} (hf : ∀ x,x < g.prio.length → f x < g.prio.length) {v : Nat} (hv : v < g.prio.length) :
  0 < (cT (itF f v) g.prio.length).length ∧ (eF (itF f v) g.prio.length ++ cT (itF f v) g.prio.length).length ≤ g.prio.length ∧ Bnd (eF (itF f v) g.prio.length ++ cT (itF f v) g.prio.length) g.prio.length ∧
  dK g (cT (itF f v) g.prio.length) (cT (itF f v) g.prio.length).length = (hdF g f v : Nat) ∧ wyF g f v < (eF (itF f v) g.prio.length ++ cT (itF f v) g.prio.length).length ∧
  gi (eF (itF f v) g.prio.length ++ cT (itF f v) g.prio.length) (wyF g f v) = (hdF g f v : Nat) ∧ (∀ j,j < wyF g f v → gi (eF (itF f v) g.prio.length ++ cT (itF f v) g.prio.length) j ≠ (hdF g f v : Nat)) ∧
  srt (da (fun x=>Hv g x (hdF g f v : Nat)) (eF (itF f v) g.prio.length ++ cT (itF f v) g.prio.length) (wyF g f v)) = lst (OvP g f v) g.prio.length:=by
 have hlt:=fun k=>eZ hf hv k
 obtain ⟨e1,_,e2,e3⟩:=kI hlt
 obtain ⟨_,_,hdist⟩:=jY hlt g.prio.length 0 (by omega) fun i j _ h=>absurd h (Nat.not_lt_zero _)
 change ∀ i j,i < j → j < dz (itF f v) g.prio.length → itF f v i ≠ itF f v j at hdist
 have hat:=fun j hj=>qt hlt (j:=j) hj
 have hll:=oL hlt
 have h2 : eF (itF f v) g.prio.length ++ cT (itF f v) g.prio.length = db (itF f v) (dz (itF f v) g.prio.length):=List.take_append_drop _ _
 rw [h2]
 generalize cT (itF f v) g.prio.length = L at *
 generalize dz (itF f v) g.prio.length = e at *
 generalize atA (itF f v) g.prio.length = a at *
 clear h2
 have hper : itF f (itF f v a) (e - a) = itF f v a:=by rw [← bS,show a + (e - a) = e by omega];exact e3.symm
 have hW : ∀ j,j < e → gi (db (itF f v) e) j = (itF f v j : Nat):=fun j hj=>dj _ hj
 have hL0 : 0 < L.length:=by omega
 have hhd : dK g L L.length = (hdF g f v : Nat):=by
  obtain ⟨j,j1,j2⟩:=kM (g:=g) hL0 _ (Nat.le_refl _)
  have jm:=qD (g:=g) (L:=L) L.length
  rw [hat j (by omega)] at j2
  rw [j2] at jm ⊢
  have hin : ∀ m,∃ r,r < L.length ∧ itF f (itF f v a) m = itF f v (a + r):=fun m=>by
   obtain ⟨r,r1,r2⟩:=iH hper (by omega) m
   exact ⟨r,by omega,by rw [r2,bS]⟩
  have : hdF g f v = itF f v (a + j):=by
   refine mD ⟨⟨_,rfl⟩,⟨e - a,by omega,?_⟩,fun m=>?_⟩
   · rw [← bS,show a + j + (e - a) = a + (e - a + j) by omega,bS f v a,bS f (itF f v a),hper,← bS]
   · rw [← bS,Nat.add_assoc,bS]
     obtain ⟨r,r1,r2⟩:=hin (j + m)
     rw [r2]
     have:=jm r r1
     rw [hat r (by omega)] at this
     exact this
  rw [this]
 obtain ⟨w1,w2⟩:=kJ hf hv
 have hwe : wyF g f v < e:=by
  obtain ⟨j,j1,j2⟩:=kM (g:=g) hL0 _ (Nat.le_refl _)
  rw [hhd,hat j (by omega)] at j2
  rcases Nat.lt_or_ge (wyF g f v) e with h|h
  · exact h
  · exact absurd (show itF f v (a + j) = hdF g f v by omega) (w2 _ (by omega))
 refine ⟨hL0,by rw [dg];exact e1,fun k hk=>?_,hhd,by rw [dg];exact hwe,by rw [hW _ hwe,w1],fun j hj=>?_,?_⟩
 · rw [dg] at hk
   rw [hW k hk]
   have:=hlt k
   omega
 · rw [hW j (by omega)]
   have:=w2 j hj
   omega
 · have hm : ∀ x,x ∈ da (fun x=>Hv g x (hdF g f v : Nat)) (db (itF f v) e) (wyF g f v) ↔ ∃ j,j < wyF g f v ∧ (itF f v j : Int) = x ∧ Hv g x (hdF g f v : Nat):=fun x=>by
    rw [eG _ (by rw [dg];omega)]
    constructor
    · rintro ⟨j,q1,q2,q3⟩;exact ⟨j,q1,by rw [← hW j (by omega)];exact q2,q3⟩
    · rintro ⟨j,q1,q2,q3⟩;exact ⟨j,q1,by rw [hW j (by omega)];exact q2,q3⟩
   have nd : ∀ k,k ≤ wyF g f v → (da (fun x=>Hv g x (hdF g f v : Nat)) (db (itF f v) e) k).Nodup:=by
    intro k
    induction k with
    | zero => exact fun _ => List.nodup_nil
    | succ k ih =>
      intro hk
      by_cases c : Hv g (gi (db (itF f v) e) k) (hdF g f v : Nat)
      · rw [dv c,List.nodup_append]
        refine ⟨ih (by omega),by simp,fun x hx y hy e=>?_⟩
        rw [List.mem_singleton] at hy
        subst e;subst hy
        obtain ⟨j,q1,q2,_⟩:=(eG _ (by rw [dg];omega)).1 hx
        rw [hW j (by omega),hW k (by omega)] at q2
        exact hdist j k q1 (by omega) (by omega)
      · rw [d7 c];exact ih (by omega)
   have h3 : (srt (da (fun x=>Hv g x (hdF g f v : Nat)) (db (itF f v) e) (wyF g f v))).Nodup:=(List.mergeSort_perm _ _).nodup_iff.2 (nd _ (Nat.le_refl _))
   refine nA _ _ (((tF _).and h3).imp fun h=>by omega) (kG (dW _ _)) fun x=>?_
   rw [rX,hm,fv]
   constructor
   · rintro ⟨j,q1,q2,q3⟩
     exact ⟨itF f v j,hlt j,⟨by rw [q2];exact q3,j,q1,rfl⟩,q2.symm⟩
   · rintro ⟨y,_,⟨q3,j,q1,q2⟩,q4⟩
     exact ⟨j,q1,by rw [q2,q4],by rw [q4];exact q3⟩
set_option maxHeartbeats 1000000 in
theorem mJ (g : Pa) (hg : PaOk g) (S L : List Int) (hL : 0 < L.length) (hlen : (S ++ L).length ≤ 256) (hB : Bnd (S ++ L) g.prio.length) (d : Nat) (hd : d < (S ++ L).length) (hdh : gi (S ++ L) d = dK g L L.length) (hdn : ∀ j,j < d → gi (S ++ L) j ≠ dK g L L.length) :
  ba Try.prog 40 [paA g,.agg [.c (.I S),.c (.I L)]] [.arr 2 .may (.I (srt (da (fun x=>Hv g x (dK g L L.length)) (S ++ L) d)))] (fun ns=>.agg [.c (.int .i64 (dK g L L.length)),.sl (ns.getD 0 0),.c (.int .i64 d)]):=by
 have hl:=hg.len
 have hle:=hg.ar.le
 have hsl : (S ++ L).length = S.length + L.length:=List.length_append
 have hBL : ∀ k,k < L.length → f4 g.prio.length (gi L k):=fun k hk=>by
  have:=hB (S.length + k) (by omega)
  have e : gi (S ++ L) (S.length + k) = gi L k:=by simp only [gi,List.getD_eq_getElem?_getD,List.getElem?_append_right (Nat.le_add_right _ _),Nat.add_sub_cancel_left]
  rw [e] at this
  exact this
 have hVh : ∀ k,k ≤ L.length → f4 g.prio.length (dK g L k):=fun k hk=>by
  obtain ⟨j,j1,j2⟩:=kM (g:=g) hL k hk
  rw [j2];exact hBL j j1
 have hfl:=iS (fun x=>Hv g x (dK g L L.length)) (S ++ L)
 have hso:=rZ (da (fun x=>Hv g x (dK g L L.length)) (S ++ L) d) (by have:=hfl d;omega) .may rfl
 (refine bA aF Try.func40 rfl rfl (by kernel_rfl) fun hp0 ν hX hN=>?_;simp only [cg,Nat.reduceAdd])
 (repeat' (first|(with_reducible first|(apply hK;clear hK K)|refine stZ ?_|refine aO rfl ?_|((first|apply ae|apply af);clear ae X af Y))|(with_reducible refine aR ?_;first|refine aP rfl ?_|refine aQ rfl ?_)|(with_reducible refine bB ?_;refine bE hN ?_)|((with_reducible first|((first|refine aU ?_|refine bF ?_|refine aV ?_|refine bG ?_);intro K hK)|(refine aC ?_;intro X Y ae af)|refine aD ?_);simp (disch:=first|decide|omega|(simp only [List.length_cons,List.length_nil];omega)) only [go_sem,↓aj hN,an hN,reduceIte,reduceCtorEq,Nat.reduceAdd,Nat.reduceLT,Nat.reduceLeDiff,Nat.reduceEqDiff,Nat.reduceSub])|(with_reducible refine And.intro (fun h=>?_) (fun h=>?_) <;> try (exfalso;omega))|(with_reducible refine aT aF hN ?_)|(with_reducible refine aX aF hN ?_)|(with_reducible refine And.intro ?_ ?_)|(refine ak ?_;omega)|(exact aS hN (by decide))))
 (refine cr (fun (k : Nat)=>(tmL [(18,.c (.int .i64 k)),(17,.c (.int .i64 L.length)),(16,.c (.I L)),(5,.ad (ν 3) 0),(4,.ad (ν 2) 0),(2,.ad (ν 0) 0),(3,.ad (ν 1) 0)],hpL hp0 ν [.box [.c (.I g.ar.own),.c (.R g.ar.nxt),.c (.I g.prio)],.box [.c (.I S),.c (.I L)],.box [.c (.int .i64 0),.c .nul,.c (.int .i64 0)],.box [.c (.int .i64 (dK g L k)),.c .nul,.c (.int .i64 0)]])) (fun (k : Nat)=>k ≤ L.length) (fun (k : Nat)=>L.length - k) ⟨0,?_,bL hX hN [] ?_ ?_⟩ ?_;(repeat' (first|(with_reducible first|exact clZ|refine bM ?_ ?_|refine bN ?_ ?_|rfl|refine suZ ?_)|refine bO rfl ?_ ?_|exact bv hN _ rfl rfl rfl|exact bw hN _ rfl rfl rfl|exact be hN _ rfl rfl rfl (Or.inr rfl)|(refine bx hN _ rfl rfl (by first|exact Or.inr rfl|exact Or.inl rfl) ?_;first|exact aJ _|exact aK _)|refine bf hN rfl ?_|refine bg hN rfl rfl ?_|exact bd hN _ rfl rfl|exact bc hN rfl rfl rfl rfl|(with_reducible first|refine stZ ?_|refine bu ?_)));(try (any_goals (first|(with_reducible rfl)|(refine ak ?_;omega)))))
 · rfl
 intro k hk
 by_cases hkl : k < L.length
 · have c1:=cN g (gi L k) (dK g L k) (hBL k hkl) (hVh k hk)
   by_cases hh : Hv g (gi L k) (dK g L k)
   · rw [aA hh] at c1
     (repeat' (first|(with_reducible first|(apply hK;clear hK K)|refine stZ ?_|refine aO rfl ?_|((first|apply ae|apply af);clear ae X af Y))|(with_reducible refine aR ?_;first|refine aP rfl ?_|refine aQ rfl ?_)|(with_reducible refine bB ?_;refine bE hN ?_)|((with_reducible first|((first|refine aU ?_|refine bF ?_|refine aV ?_|refine bG ?_);intro K hK)|(refine aC ?_;intro X Y ae af)|refine aD ?_);simp (disch:=first|decide|omega|(simp only [List.length_cons,List.length_nil];omega)) only [go_sem,↓aj hN,an hN,reduceIte,reduceCtorEq,Nat.reduceAdd,Nat.reduceLT,Nat.reduceLeDiff,Nat.reduceEqDiff,Nat.reduceSub])|(with_reducible refine And.intro (fun h=>?_) (fun h=>?_) <;> try (exfalso;omega))|(with_reducible refine aT aF hN ?_)|(with_reducible refine aX aF hN ?_)|(refine aE (c1) ?_ rfl (fun _=>rfl) ?_;focus ((repeat' (first|(with_reducible first|exact am|refine ah ?_ ?_|exact aZ _|refine ay ?_|exact ax _|exact aI _ _|refine aH ?_|exact au _)|exact az hN rfl rfl|(refine aG hN rfl ?_;first|exact aJ _|exact aK _)|exact aw rfl rfl rfl));done))|(with_reducible first|exact am|refine ah ?_ ?_|exact aZ _|refine ay ?_|exact ax _|exact aI _ _|refine aH ?_|exact au _)|exact az hN rfl rfl|(refine aG hN rfl ?_;first|exact aJ _|exact aK _)|exact aw rfl rfl rfl|(simp only [aY,List.map_nil])|(with_reducible refine bm ?_)|(with_reducible refine And.intro ?_ ?_)|(refine ak ?_;omega)|(exact aS hN (by decide))))
     (refine ⟨k + 1,⟨?_,?_⟩,bL hX hN [] ?_ ?_⟩;(try any_goals dsimp only);(repeat' (first|(with_reducible first|exact clZ|refine bM ?_ ?_|refine bN ?_ ?_|rfl|refine suZ ?_)|refine bO rfl ?_ ?_|exact bv hN _ rfl rfl rfl|exact bw hN _ rfl rfl rfl|exact be hN _ rfl rfl rfl (Or.inr rfl)|(refine bx hN _ rfl rfl (by first|exact Or.inr rfl|exact Or.inl rfl) ?_;first|exact aJ _|exact aK _)|refine bf hN rfl ?_|refine bg hN rfl rfl ?_|exact bd hN _ rfl rfl|exact bc hN rfl rfl rfl rfl|(with_reducible first|refine stZ ?_|refine bu ?_)));(try (any_goals (first|(with_reducible rfl)|(refine ak ?_;omega)))))
     exact (jg hh).symm
   · rw [ao hh] at c1
     (repeat' (first|(with_reducible first|(apply hK;clear hK K)|refine stZ ?_|refine aO rfl ?_|((first|apply ae|apply af);clear ae X af Y))|(with_reducible refine aR ?_;first|refine aP rfl ?_|refine aQ rfl ?_)|(with_reducible refine bB ?_;refine bE hN ?_)|((with_reducible first|((first|refine aU ?_|refine bF ?_|refine aV ?_|refine bG ?_);intro K hK)|(refine aC ?_;intro X Y ae af)|refine aD ?_);simp (disch:=first|decide|omega|(simp only [List.length_cons,List.length_nil];omega)) only [go_sem,↓aj hN,an hN,reduceIte,reduceCtorEq,Nat.reduceAdd,Nat.reduceLT,Nat.reduceLeDiff,Nat.reduceEqDiff,Nat.reduceSub])|(with_reducible refine And.intro (fun h=>?_) (fun h=>?_) <;> try (exfalso;omega))|(with_reducible refine aT aF hN ?_)|(with_reducible refine aX aF hN ?_)|(refine aE (c1) ?_ rfl (fun _=>rfl) ?_;focus ((repeat' (first|(with_reducible first|exact am|refine ah ?_ ?_|exact aZ _|refine ay ?_|exact ax _|exact aI _ _|refine aH ?_|exact au _)|exact az hN rfl rfl|(refine aG hN rfl ?_;first|exact aJ _|exact aK _)|exact aw rfl rfl rfl));done))|(with_reducible first|exact am|refine ah ?_ ?_|exact aZ _|refine ay ?_|exact ax _|exact aI _ _|refine aH ?_|exact au _)|exact az hN rfl rfl|(refine aG hN rfl ?_;first|exact aJ _|exact aK _)|exact aw rfl rfl rfl|(simp only [aY,List.map_nil])|(with_reducible refine bm ?_)|(with_reducible refine And.intro ?_ ?_)|(refine ak ?_;omega)|(exact aS hN (by decide))))
     (refine ⟨k + 1,⟨?_,?_⟩,bL hX hN [] ?_ ?_⟩;(try any_goals dsimp only);(repeat' (first|(with_reducible first|exact clZ|refine bM ?_ ?_|refine bN ?_ ?_|rfl|refine suZ ?_)|refine bO rfl ?_ ?_|exact bv hN _ rfl rfl rfl|exact bw hN _ rfl rfl rfl|exact be hN _ rfl rfl rfl (Or.inr rfl)|(refine bx hN _ rfl rfl (by first|exact Or.inr rfl|exact Or.inl rfl) ?_;first|exact aJ _|exact aK _)|refine bf hN rfl ?_|refine bg hN rfl rfl ?_|exact bd hN _ rfl rfl|exact bc hN rfl rfl rfl rfl|(with_reducible first|refine stZ ?_|refine bu ?_)));(try (any_goals (first|(with_reducible rfl)|(refine ak ?_;omega)))))
     exact (kL hh).symm
 · obtain rfl : k = L.length:=by omega
   have hVl:=hVh L.length hk
   generalize dK g L L.length = hw at *
   (repeat' (first|(with_reducible first|(apply hK;clear hK K)|refine stZ ?_|refine aO rfl ?_|((first|apply ae|apply af);clear ae X af Y))|(with_reducible refine aR ?_;first|refine aP rfl ?_|refine aQ rfl ?_)|(with_reducible refine bB ?_;refine bE hN ?_)|((with_reducible first|((first|refine aU ?_|refine bF ?_|refine aV ?_|refine bG ?_);intro K hK)|(refine aC ?_;intro X Y ae af)|refine aD ?_);simp (disch:=first|decide|omega|(simp only [List.length_cons,List.length_nil];omega)) only [go_sem,↓aj hN,an hN,reduceIte,reduceCtorEq,Nat.reduceAdd,Nat.reduceLT,Nat.reduceLeDiff,Nat.reduceEqDiff,Nat.reduceSub])|(with_reducible refine And.intro (fun h=>?_) (fun h=>?_) <;> try (exfalso;omega))|(with_reducible refine aT aF hN ?_)|(with_reducible refine aX aF hN ?_)|(with_reducible refine And.intro ?_ ?_)|(refine ak ?_;omega)|(exact aS hN (by decide))))
   (refine cr (fun (i : Nat)=>(tmL [(38,.c (.int .i64 i)),(37,.c (.int .i64 (S ++ L).length)),(36,.sl (ν 6)),(5,.ad (ν 3) 0),(4,.ad (ν 2) 0),(2,.ad (ν 0) 0)],hpL hp0 ν [.box [.c (.I g.ar.own),.c (.R g.ar.nxt),.c (.I g.prio)],.box [.c (.I S),.c (.I L)],.box [.c (.int .i64 0),.c .nul,.c (.int .i64 0)],.box [.c (.int .i64 hw),.sl (ν 7),.c (.int .i64 i)],.dead,.dead,.arr 2 .yes (.I (S ++ L)),.arr 2 .may (.I (da (fun x=>Hv g x hw) (S ++ L) i))])) (fun (i : Nat)=>i ≤ d) (fun (i : Nat)=>d - i) ⟨0,?_,bL hX hN [] ?_ ?_⟩ ?_;(repeat' (first|(with_reducible first|exact clZ|refine bM ?_ ?_|refine bN ?_ ?_|rfl|refine suZ ?_)|refine bO rfl ?_ ?_|exact bv hN _ rfl rfl rfl|exact bw hN _ rfl rfl rfl|exact be hN _ rfl rfl rfl (Or.inr rfl)|(refine bx hN _ rfl rfl (by first|exact Or.inr rfl|exact Or.inl rfl) ?_;first|exact aJ _|exact aK _)|refine bf hN rfl ?_|refine bg hN rfl rfl ?_|exact bd hN _ rfl rfl|exact bc hN rfl rfl rfl rfl|(with_reducible first|refine stZ ?_|refine bu ?_)));(try (any_goals (first|(with_reducible rfl)|(refine ak ?_;omega)))))
   intro i hi
   have hfi:=hfl i
   by_cases hid : i < d
   · have c1:=cN g (gi (S ++ L) i) hw (hB i (by omega)) hVl
     have hne:=hdn i hid
     by_cases hh : Hv g (gi (S ++ L) i) hw
     · rw [aA hh] at c1
       (repeat' (first|(with_reducible first|(apply hK;clear hK K)|refine stZ ?_|refine aO rfl ?_|((first|apply ae|apply af);clear ae X af Y))|(with_reducible refine aR ?_;first|refine aP rfl ?_|refine aQ rfl ?_)|(with_reducible refine bB ?_;refine bE hN ?_)|((with_reducible first|((first|refine aU ?_|refine bF ?_|refine aV ?_|refine bG ?_);intro K hK)|(refine aC ?_;intro X Y ae af)|refine aD ?_);simp (disch:=first|decide|omega|(simp only [List.length_cons,List.length_nil];omega)) only [go_sem,↓aj hN,an hN,reduceIte,reduceCtorEq,Nat.reduceAdd,Nat.reduceLT,Nat.reduceLeDiff,Nat.reduceEqDiff,Nat.reduceSub])|(with_reducible refine And.intro (fun h=>?_) (fun h=>?_) <;> try (exfalso;omega))|(with_reducible refine aT aF hN ?_)|(with_reducible refine aX aF hN ?_)|(refine aE (c1) ?_ rfl (fun _=>rfl) ?_;focus ((repeat' (first|(with_reducible first|exact am|refine ah ?_ ?_|exact aZ _|refine ay ?_|exact ax _|exact aI _ _|refine aH ?_|exact au _)|exact az hN rfl rfl|(refine aG hN rfl ?_;first|exact aJ _|exact aK _)|exact aw rfl rfl rfl));done))|(with_reducible first|exact am|refine ah ?_ ?_|exact aZ _|refine ay ?_|exact ax _|exact aI _ _|refine aH ?_|exact au _)|exact az hN rfl rfl|(refine aG hN rfl ?_;first|exact aJ _|exact aK _)|exact aw rfl rfl rfl|(simp only [aY,List.map_nil])|(with_reducible refine bm ?_)|(with_reducible refine And.intro ?_ ?_)|(refine ak ?_;omega)|(exact aS hN (by decide))))
       (refine ⟨i + 1,⟨?_,?_⟩,bL hX hN [(7,9)] ?_ ?_⟩;(try any_goals dsimp only);(repeat' (first|(with_reducible first|exact clZ|refine bM ?_ ?_|refine bN ?_ ?_|rfl|refine suZ ?_)|refine bO rfl ?_ ?_|exact bv hN _ rfl rfl rfl|exact bw hN _ rfl rfl rfl|exact be hN _ rfl rfl rfl (Or.inr rfl)|(refine bx hN _ rfl rfl (by first|exact Or.inr rfl|exact Or.inl rfl) ?_;first|exact aJ _|exact aK _)|refine bf hN rfl ?_|refine bg hN rfl rfl ?_|exact bd hN _ rfl rfl|exact bc hN rfl rfl rfl rfl|(with_reducible first|refine stZ ?_|refine bu ?_)));(try (any_goals (first|(with_reducible rfl)|(refine ak ?_;omega)))))
       first|exact dv hh|exact (dv hh).symm
     · rw [ao hh] at c1
       (repeat' (first|(with_reducible first|(apply hK;clear hK K)|refine stZ ?_|refine aO rfl ?_|((first|apply ae|apply af);clear ae X af Y))|(with_reducible refine aR ?_;first|refine aP rfl ?_|refine aQ rfl ?_)|(with_reducible refine bB ?_;refine bE hN ?_)|((with_reducible first|((first|refine aU ?_|refine bF ?_|refine aV ?_|refine bG ?_);intro K hK)|(refine aC ?_;intro X Y ae af)|refine aD ?_);simp (disch:=first|decide|omega|(simp only [List.length_cons,List.length_nil];omega)) only [go_sem,↓aj hN,an hN,reduceIte,reduceCtorEq,Nat.reduceAdd,Nat.reduceLT,Nat.reduceLeDiff,Nat.reduceEqDiff,Nat.reduceSub])|(with_reducible refine And.intro (fun h=>?_) (fun h=>?_) <;> try (exfalso;omega))|(with_reducible refine aT aF hN ?_)|(with_reducible refine aX aF hN ?_)|(refine aE (c1) ?_ rfl (fun _=>rfl) ?_;focus ((repeat' (first|(with_reducible first|exact am|refine ah ?_ ?_|exact aZ _|refine ay ?_|exact ax _|exact aI _ _|refine aH ?_|exact au _)|exact az hN rfl rfl|(refine aG hN rfl ?_;first|exact aJ _|exact aK _)|exact aw rfl rfl rfl));done))|(with_reducible first|exact am|refine ah ?_ ?_|exact aZ _|refine ay ?_|exact ax _|exact aI _ _|refine aH ?_|exact au _)|exact az hN rfl rfl|(refine aG hN rfl ?_;first|exact aJ _|exact aK _)|exact aw rfl rfl rfl|(simp only [aY,List.map_nil])|(with_reducible refine bm ?_)|(with_reducible refine And.intro ?_ ?_)|(refine ak ?_;omega)|(exact aS hN (by decide))))
       (refine ⟨i + 1,⟨?_,?_⟩,bL hX hN [] ?_ ?_⟩;(try any_goals dsimp only);(repeat' (first|(with_reducible first|exact clZ|refine bM ?_ ?_|refine bN ?_ ?_|rfl|refine suZ ?_)|refine bO rfl ?_ ?_|exact bv hN _ rfl rfl rfl|exact bw hN _ rfl rfl rfl|exact be hN _ rfl rfl rfl (Or.inr rfl)|(refine bx hN _ rfl rfl (by first|exact Or.inr rfl|exact Or.inl rfl) ?_;first|exact aJ _|exact aK _)|refine bf hN rfl ?_|refine bg hN rfl rfl ?_|exact bd hN _ rfl rfl|exact bc hN rfl rfl rfl rfl|(with_reducible first|refine stZ ?_|refine bu ?_)));(try (any_goals (first|(with_reducible rfl)|(refine ak ?_;omega)))))
       first|exact d7 hh|exact (d7 hh).symm
   · obtain rfl : i = d:=by omega
     (repeat' (first|(with_reducible first|(apply hK;clear hK K)|refine stZ ?_|refine aO rfl ?_|((first|apply ae|apply af);clear ae X af Y))|(with_reducible refine aR ?_;first|refine aP rfl ?_|refine aQ rfl ?_)|(with_reducible refine bB ?_;refine bE hN ?_)|((with_reducible first|((first|refine aU ?_|refine bF ?_|refine aV ?_|refine bG ?_);intro K hK)|(refine aC ?_;intro X Y ae af)|refine aD ?_);simp (disch:=first|decide|omega|(simp only [List.length_cons,List.length_nil];omega)) only [go_sem,↓aj hN,an hN,reduceIte,reduceCtorEq,Nat.reduceAdd,Nat.reduceLT,Nat.reduceLeDiff,Nat.reduceEqDiff,Nat.reduceSub])|(with_reducible refine And.intro (fun h=>?_) (fun h=>?_) <;> try (exfalso;omega))|(with_reducible refine aT aF hN ?_)|(with_reducible refine aX aF hN ?_)|(refine qd (hso) hN 7 rfl rfl rfl rfl rfl ?_ ?_ ?_ ?_;(focus (simp [bp,AV.names];done));(focus (intro ν' hν;(repeat' (first|exact ArgMs.nil|refine ArgMs.cons ?_ ?_|exact vi hν|exact vj hν|exact wV _|exact vm (by first|exact ax _|exact au _|exact aw rfl rfl rfl) rfl|(refine vr hN rfl ?_ (by decide);first|exact aJ _|exact aK _)|refine tp ?_));done));(focus (first|exact Or.inr ⟨rfl,rfl,fun _=>rfl⟩|exact Or.inl (by simp [bp,AV.names]))))|(with_reducible first|exact am|refine ah ?_ ?_|exact aZ _|refine ay ?_|exact ax _|exact aI _ _|refine aH ?_|exact au _)|exact az hN rfl rfl|(refine aG hN rfl ?_;first|exact aJ _|exact aK _)|exact aw rfl rfl rfl|(simp only [aY,List.map_nil])|(with_reducible refine bm ?_)|(simp (disch:=first|decide|omega|(simp only [List.length_cons,List.length_nil];omega)) only [aY,List.map_cons,List.map_nil,an hN,List.set_cons_zero,List.set_cons_succ])|(with_reducible refine And.intro ?_ ?_)|(refine ak ?_;omega)|(exact aS hN (by decide))))
     all_goals first|(exact absurd hdh (cU (by assumption)))|((refine jW hN [7] (by decide) (.inr rfl) (by first|exact eC rfl rfl|exact dM hN rfl rfl rfl rfl|exact dm hN rfl rfl rfl rfl rfl|(simp (disch:=first|decide|omega|(simp only [List.length_cons,List.length_nil];omega)) only [bR,bU,bX,bY,go_sem,beq_self_eq_true,↓aW,↓aj hN,an hN,reduceIte,reduceCtorEq,Nat.reduceAdd,Nat.reduceLT,Nat.reduceLeDiff,Nat.reduceEqDiff,Nat.reduceSub];rfl)|rfl) ?_ fun νs hνs=>?_;(repeat' (first|exact Gone.nil|(refine Gone.cons rfl rfl ?_ ?_)|(with_reducible refine gY ?_)|(with_reducible refine gX ?_)|(with_reducible refine SVs.cons ?_ ?_)|(with_reducible exact SVs.nil)|(simp only [List.drop,List.take])|(simp (disch:=first|decide|omega) only [↓aW,reduceIte,reduceCtorEq,Nat.reduceEqDiff])|(with_reducible exact oz _)|(with_reducible exact gU _)|(exact gV rfl rfl rfl)|(exact jV 0 (by simp) rfl rfl)|(refine jU hN rfl (gZ hN (by decide)) ?_)|(with_reducible refine jT ?_)|(with_reducible rfl)|(with_reducible refine oB ?_)|(with_reducible refine oD ?_)|(with_reducible refine oE ?_)|(with_reducible refine oG ?_)|(with_reducible refine fP ?_)|(refine ak ?_;omega))));done)
set_option maxHeartbeats 1000000 in
theorem oP (n : Nat) (hn : n ≤ 256) (wl : List Int) (hl : wl.length = n) (f : Nat → Nat) (hf : ∀ x,x < n → gi wl x = (f x : Nat) ∧ f x < n) (v : Nat) (hv : v < n) : ba Try.prog 41 [.c (.I wl),.c (.int .i64 v)] [] (fun _=>.agg [.c (.I (eF (itF f v) n)),.c (.I (cT (itF f v) n))]):=by
 have hlt:=fun k=>eZ (fun x hx=>(hf x hx).2) hv k
 have hend:=kI hlt
 have hfx : ∀ k,((itF f v (k + 1) : Nat) : Int) = gi wl (itF f v k):=fun k=>(hf _ (hlt k)).1.symm
 have hf0 : itF f v 0 = v:=rfl
 unfold eF cT
 clear hf
 generalize itF f v = f at *
 (refine bA aF Try.func41 rfl rfl (by kernel_rfl) fun hp0 ν hX hN=>?_;simp only [cg,Nat.reduceAdd])
 (repeat' (first|(with_reducible first|(apply hK;clear hK K)|refine stZ ?_|refine aO rfl ?_|((first|apply ae|apply af);clear ae X af Y))|(with_reducible refine aR ?_;first|refine aP rfl ?_|refine aQ rfl ?_)|(with_reducible refine bB ?_;refine bE hN ?_)|((with_reducible first|((first|refine aU ?_|refine bF ?_|refine aV ?_|refine bG ?_);intro K hK)|(refine aC ?_;intro X Y ae af)|refine aD ?_);simp (disch:=first|decide|omega|(simp only [List.length_cons,List.length_nil];omega)) only [go_sem,↓aj hN,an hN,reduceIte,reduceCtorEq,Nat.reduceAdd,Nat.reduceLT,Nat.reduceLeDiff,Nat.reduceEqDiff,Nat.reduceSub])|(with_reducible refine And.intro (fun h=>?_) (fun h=>?_) <;> try (exfalso;omega))|(with_reducible refine aT aF hN ?_)|(with_reducible refine aX aF hN ?_)|(with_reducible refine And.intro ?_ ?_)|(refine ak ?_;omega)|(exact aS hN (by decide))))
 (refine cr (fun (k : Nat)=>(tmL [(5,.sl (ν 1)),(1,.c (.int .i64 (f k : Nat))),(4,.ad (ν 0) 0),(0,.c (.I wl))],hpL hp0 ν [.box [.c .nul,.c .nul],.arr 2 .yes (.I (db f k))])) (fun (k : Nat)=>(k ≤ n ∧ ∀ i j,i < j → j < k → f i ≠ f j) ∧ eg f (n - k) k = dz f n) (fun (k : Nat)=>n + 1 - k) ⟨0,?_,bL hX hN [] ?_ ?_⟩ ?_;(repeat' (first|(with_reducible first|exact clZ|refine bM ?_ ?_|refine bN ?_ ?_|rfl|refine suZ ?_)|refine bO rfl ?_ ?_|exact bv hN _ rfl rfl rfl|exact bw hN _ rfl rfl rfl|exact be hN _ rfl rfl rfl (Or.inr rfl)|(refine bx hN _ rfl rfl (by first|exact Or.inr rfl|exact Or.inl rfl) ?_;first|exact aJ _|exact aK _)|refine bf hN rfl ?_|refine bg hN rfl rfl ?_|exact bd hN _ rfl rfl|exact bc hN rfl rfl rfl rfl|(with_reducible first|refine stZ ?_|refine bu ?_)));(try (any_goals (first|(with_reducible rfl)|(refine ak ?_;omega)))))
 · exact ⟨⟨Nat.zero_le _,fun i j _ h=>absurd h (Nat.not_lt_zero _)⟩,rfl⟩
 · rfl
 rintro k ⟨⟨hk,hd⟩,hF⟩
 have hwl:=dg f k
 have hfk:=hlt k
 by_cases hit : ∃ j,j < k ∧ f j = f k
 · rw [jc hit] at hF
   rw [← hF] at hend ⊢
   obtain ⟨_,e1,e2,_⟩:=hend
   have c4:=cV (db f k) (f k)
   rw [aA (kH.2 hit)] at c4
   have c5:=rY (db f k) (f k)
   rw [e1] at c5
   generalize atA f n = p at *
   (repeat' (first|(with_reducible refine fZ 6 ?_)|(with_reducible first|(apply hK;clear hK K)|refine stZ ?_|refine aO rfl ?_|((first|apply ae|apply af);clear ae X af Y))|(with_reducible refine aR ?_;first|refine aP rfl ?_|refine aQ rfl ?_)|(with_reducible refine bB ?_;refine bE hN ?_)|((with_reducible first|((first|refine aU ?_|refine bF ?_|refine aV ?_|refine bG ?_);intro K hK)|(refine aC ?_;intro X Y ae af)|refine aD ?_);simp (disch:=first|decide|omega|(simp only [List.length_cons,List.length_nil];omega)) only [go_sem,↓aj hN,an hN,reduceIte,reduceCtorEq,Nat.reduceAdd,Nat.reduceLT,Nat.reduceLeDiff,Nat.reduceEqDiff,Nat.reduceSub])|(with_reducible refine And.intro (fun h=>?_) (fun h=>?_) <;> try (exfalso;omega))|(with_reducible refine aT aF hN ?_)|(with_reducible refine aX aF hN ?_)|((first|refine aE (c4) ?_ rfl (fun _=>rfl) ?_|refine aE (c5) ?_ rfl (fun _=>rfl) ?_);focus ((repeat' (first|(with_reducible first|exact am|refine ah ?_ ?_|exact aZ _|refine ay ?_|exact ax _|exact aI _ _|refine aH ?_|exact au _)|exact az hN rfl rfl|(refine aG hN rfl ?_;first|exact aJ _|exact aK _)|exact aw rfl rfl rfl));done))|(with_reducible first|exact am|refine ah ?_ ?_|exact aZ _|refine ay ?_|exact ax _|exact aI _ _|refine aH ?_|exact au _)|exact az hN rfl rfl|(refine aG hN rfl ?_;first|exact aJ _|exact aK _)|exact aw rfl rfl rfl|(simp only [aY,List.map_nil])|(with_reducible refine bm ?_)|(with_reducible refine And.intro ?_ ?_)|(refine ak ?_;omega)|(exact aS hN (by decide))))
   have t1 : (List.drop (Int.toNat 0) (List.take p (db f k))).length = p:=by simp;omega
   have t2 : (List.drop p (List.take (db f k).length (db f k))).length = k - p:=by simp;omega
   have t3 : List.drop p (List.take (db f k).length (db f k)) = List.drop p (db f k):=by rw [List.take_length]
   (refine mA (bL (L':=[.box [.c .nul,.c .nul],.dead]) (l:=[(5,.c (.I (db f k))),(6,.c (.int .i64 p)),(4,.ad (ν 0) 0)]) hX hN [] ?_ ?_) ?_;(repeat' (first|(with_reducible first|exact clZ|refine bM ?_ ?_|refine bN ?_ ?_|rfl|refine suZ ?_)|refine bO rfl ?_ ?_|exact bv hN _ rfl rfl rfl|exact bw hN _ rfl rfl rfl|exact be hN _ rfl rfl rfl (Or.inr rfl)|(refine bx hN _ rfl rfl (by first|exact Or.inr rfl|exact Or.inl rfl) ?_;first|exact aJ _|exact aK _)|refine bf hN rfl ?_|refine bg hN rfl rfl ?_|exact bd hN _ rfl rfl|exact bc hN rfl rfl rfl rfl|(with_reducible first|refine stZ ?_|refine bu ?_)));(try (any_goals (first|(with_reducible rfl)|(refine ak ?_;omega)))))
   (repeat' (first|(with_reducible first|(apply hK;clear hK K)|refine stZ ?_|refine aO rfl ?_|((first|apply ae|apply af);clear ae X af Y))|(with_reducible refine aR ?_;first|refine aP rfl ?_|refine aQ rfl ?_)|(with_reducible refine bB ?_;refine bE hN ?_)|((with_reducible first|((first|refine aU ?_|refine bF ?_|refine aV ?_|refine bG ?_);intro K hK)|(refine aC ?_;intro X Y ae af)|refine aD ?_);simp (disch:=first|decide|omega|(simp only [List.length_cons,List.length_nil];omega)) only [go_sem,↓aj hN,an hN,reduceIte,reduceCtorEq,Nat.reduceAdd,Nat.reduceLT,Nat.reduceLeDiff,Nat.reduceEqDiff,Nat.reduceSub])|(with_reducible refine And.intro (fun h=>?_) (fun h=>?_) <;> try (exfalso;omega))|(with_reducible refine aT aF hN ?_)|(with_reducible refine aX aF hN ?_)|(with_reducible refine And.intro ?_ ?_)|(refine ak ?_;omega)|(exact aS hN (by decide))))
   (refine jW hN [] (by decide) (.inr rfl) (by first|exact eC rfl rfl|exact dM hN rfl rfl rfl rfl|exact dm hN rfl rfl rfl rfl rfl|(simp (disch:=first|decide|omega|(simp only [List.length_cons,List.length_nil];omega)) only [bR,bU,bX,bY,go_sem,beq_self_eq_true,↓aW,↓aj hN,an hN,reduceIte,reduceCtorEq,Nat.reduceAdd,Nat.reduceLT,Nat.reduceLeDiff,Nat.reduceEqDiff,Nat.reduceSub];rfl)|rfl) ?_ fun νs hνs=>?_;(repeat' (first|exact Gone.nil|(refine Gone.cons rfl rfl ?_ ?_)|(with_reducible refine gY ?_)|(with_reducible refine gX ?_)|(with_reducible refine SVs.cons ?_ ?_)|(with_reducible exact SVs.nil)|(simp only [List.drop,List.take])|(simp (disch:=first|decide|omega) only [↓aW,reduceIte,reduceCtorEq,Nat.reduceEqDiff])|(with_reducible exact oz _)|(with_reducible exact gU _)|(exact gV rfl rfl rfl)|(exact jV 0 (by simp) rfl rfl)|(refine jU hN rfl (gZ hN (by decide)) ?_)|(with_reducible refine jT ?_)|(with_reducible rfl)|(with_reducible refine oB ?_)|(with_reducible refine oD ?_)|(with_reducible refine oE ?_)|(with_reducible refine oG ?_)|(with_reducible refine fP ?_)|(refine ak ?_;omega))))
   all_goals first|rfl|rw [t3]
 · have c4:=cV (db f k) (f k)
   rw [ao (mt kH.1 hit)] at c4
   have hkn : k < n:=by
    have:=iG hlt (fI hd hit)
    omega
   rw [show n - k = (n - (k + 1)) + 1 by omega,io hit] at hF
   have hx:=hfx k
   (repeat' (first|(with_reducible first|(apply hK;clear hK K)|refine stZ ?_|refine aO rfl ?_|((first|apply ae|apply af);clear ae X af Y))|(with_reducible refine aR ?_;first|refine aP rfl ?_|refine aQ rfl ?_)|(with_reducible refine bB ?_;refine bE hN ?_)|((with_reducible first|((first|refine aU ?_|refine bF ?_|refine aV ?_|refine bG ?_);intro K hK)|(refine aC ?_;intro X Y ae af)|refine aD ?_);simp (disch:=first|decide|omega|(simp only [List.length_cons,List.length_nil];omega)) only [go_sem,↓aj hN,an hN,reduceIte,reduceCtorEq,Nat.reduceAdd,Nat.reduceLT,Nat.reduceLeDiff,Nat.reduceEqDiff,Nat.reduceSub])|(with_reducible refine And.intro (fun h=>?_) (fun h=>?_) <;> try (exfalso;omega))|(with_reducible refine aT aF hN ?_)|(with_reducible refine aX aF hN ?_)|(refine aE (c4) ?_ rfl (fun _=>rfl) ?_;focus ((repeat' (first|(with_reducible first|exact am|refine ah ?_ ?_|exact aZ _|refine ay ?_|exact ax _|exact aI _ _|refine aH ?_|exact au _)|exact az hN rfl rfl|(refine aG hN rfl ?_;first|exact aJ _|exact aK _)|exact aw rfl rfl rfl));done))|(with_reducible first|exact am|refine ah ?_ ?_|exact aZ _|refine ay ?_|exact ax _|exact aI _ _|refine aH ?_|exact au _)|exact az hN rfl rfl|(refine aG hN rfl ?_;first|exact aJ _|exact aK _)|exact aw rfl rfl rfl|(simp only [aY,List.map_nil])|(with_reducible refine bm ?_)|(with_reducible refine And.intro ?_ ?_)|(refine ak ?_;omega)|(exact aS hN (by decide))))
   (refine ⟨k + 1,⟨?_,?_⟩,bL hX hN [(1,3)] ?_ ?_⟩;(try any_goals dsimp only);(repeat' (first|(with_reducible first|exact clZ|refine bM ?_ ?_|refine bN ?_ ?_|rfl|refine suZ ?_)|refine bO rfl ?_ ?_|exact bv hN _ rfl rfl rfl|exact bw hN _ rfl rfl rfl|exact be hN _ rfl rfl rfl (Or.inr rfl)|(refine bx hN _ rfl rfl (by first|exact Or.inr rfl|exact Or.inl rfl) ?_;first|exact aJ _|exact aK _)|refine bf hN rfl ?_|refine bg hN rfl rfl ?_|exact bd hN _ rfl rfl|exact bc hN rfl rfl rfl rfl|(with_reducible first|refine stZ ?_|refine bu ?_)));(try (any_goals (first|(with_reducible rfl)|(refine ak ?_;omega)))))
   · exact ⟨⟨by omega,fI hd hit⟩,hF⟩
   · exact qC f k
end Go.Proofs.Ytlodllmpndflcaa
