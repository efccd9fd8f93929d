/-
  The reference's worth of a play, its replies, its worst worths.
-/
import Derived.Test.YtlodllmpndflcaaZoI8
namespace Go.Proofs.Ytlodllmpndflcaa
set_option linter.unusedVariables false
set_option linter.unusedSimpArgs false
open Go.RowKit
attribute [local irreducible] ba cM Aw Le
noncomputable def hvS (g : Pa) (F : Nat → Int) : Nat → Int
 | 0 => F 0
 | k + 1 => if tf (Hv g (F (k + 1)) (hvS g F k)) then F (k + 1) else hvS g F k
section
variable {g : Pa} {F : Nat → Int}
theorem kR {k : Nat} (h : Hv g (F (k + 1)) (hvS g F k)) : hvS g F (k + 1) = F (k + 1):=by
 show (if tf _ then _ else _) = _;rw [aA h,gT]
theorem mN {k : Nat} (h : ¬ Hv g (F (k + 1)) (hvS g F k)) : hvS g F (k + 1) = hvS g F k:=by
 show (if tf _ then _ else _) = _;rw [ao h,fO]
theorem qS : ∀ k,∃ j,j ≤ k ∧ hvS g F k = F j:=by
 intro k
 induction k with
 | zero => exact ⟨0, Nat.le_refl _, rfl⟩
 | succ k ih =>
   by_cases c : Hv g (F (k + 1)) (hvS g F k)
   · exact ⟨k + 1,Nat.le_refl _,kR c⟩
   · obtain ⟨j,h1,h2⟩:=ih
     exact ⟨j,by omega,by rw [mN c];exact h2⟩
theorem se : ∀ k j,j ≤ k → ¬ Hv g (F j) (hvS g F k):=by
 intro k
 induction k with
 | zero => exact fun j hj => by obtain rfl : j = 0 := (by omega); exact fun h => gz h h
 | succ k ih =>
   intro j hj
   by_cases c : Hv g (F (k + 1)) (hvS g F k)
   · rw [kR c]
     by_cases e : j = k + 1
     · subst e;exact fun h=>gz h h
     · exact fun h=>ih j (by omega) (im h c)
   · rw [mN c]
     by_cases e : j = k + 1
     · subst e;exact c
     · exact ih j (by omega)
end
theorem sf {g : Pa} {f : Nat → Nat} (hf : ∀ x,x < g.prio.length → f x < g.prio.length) {v : Nat} (hv : v < g.prio.length) :
  ∃ p,0 < p ∧ itF f (itF f v g.prio.length) p = itF f v g.prio.length ∧ (∀ j,0 < j → j < p → itF f (itF f v g.prio.length) j ≠ itF f v g.prio.length) ∧ hvS g (fun j=>(itF f (itF f v g.prio.length) j : Int)) (p - 1) = (hdF g f v : Nat):=by
 have hlt:=fun k=>eZ hf hv k
 obtain ⟨e1,_,e2,e3⟩:=kI hlt
 have hp0 : itF f (itF f v g.prio.length) (dz (itF f v) g.prio.length - atA (itF f v) g.prio.length) = itF f v g.prio.length:=by
  have h1:=bS f v (dz (itF f v) g.prio.length) (g.prio.length - dz (itF f v) g.prio.length)
  rw [show dz (itF f v) g.prio.length + (g.prio.length - dz (itF f v) g.prio.length) = g.prio.length by omega,← e3,← bS] at h1
  have h2:=bS f v g.prio.length (dz (itF f v) g.prio.length - atA (itF f v) g.prio.length)
  rw [← h2]
  have h3:=bS f v (dz (itF f v) g.prio.length) (g.prio.length - atA (itF f v) g.prio.length)
  rw [show dz (itF f v) g.prio.length + (g.prio.length - atA (itF f v) g.prio.length) = g.prio.length + (dz (itF f v) g.prio.length - atA (itF f v) g.prio.length) by omega,← e3,← bS,show atA (itF f v) g.prio.length + (g.prio.length - atA (itF f v) g.prio.length) = g.prio.length by omega] at h3
  exact h3
 obtain ⟨p,⟨p0,p1⟩,p2⟩:=lI (P:=fun p=>0 < p ∧ itF f (itF f v g.prio.length) p = itF f v g.prio.length) ⟨_,by omega,hp0⟩
 refine ⟨p,p0,p1,fun j j0 jp e=>p2 j jp ⟨j0,e⟩,?_⟩
 obtain ⟨j,j1,j2⟩:=qS (g:=g) (F:=fun j=>(itF f (itF f v g.prio.length) j : Int)) (p - 1)
 have jm:=se (g:=g) (F:=fun j=>(itF f (itF f v g.prio.length) j : Int)) (p - 1)
 rw [j2] at jm ⊢
 have : hdF g f v = itF f (itF f v g.prio.length) j:=by
  refine mD ⟨⟨g.prio.length + j,bS _ _ _ _⟩,⟨p,p0,?_⟩,fun m=>?_⟩
  · rw [← bS,Nat.add_comm,bS,p1]
  · rw [← bS]
    obtain ⟨r,r1,r2⟩:=iH p1 p0 (j + m)
    rw [r2]
    exact jm r (by omega)
 rw [this]
def OvI (g : Pa) (f : Nat → Nat) (v i x : Nat) : Prop:=Hv g x (hdF g f v) ∧ ∃ j,j < i ∧ itF f v j = x
theorem sg {g : Pa} {f : Nat → Nat} (hf : ∀ x,x < g.prio.length → f x < g.prio.length) {v : Nat} (hv : v < g.prio.length) {i : Nat} (h : Hv g (itF f v i) (hdF g f v)) (hno : ¬ (itF f v i : Int) ∈ lst (OvI g f v i) g.prio.length) : lT (lst (OvI g f v i) g.prio.length) (itF f v i) = lst (OvI g f v (i + 1)) g.prio.length:=by
 refine nA _ _ (qQ (kG (dW _ _))) (kG (dW _ _)) fun x=>?_
 rw [qR hno,fv,fv]
 constructor
 · rintro (⟨y,h1,⟨h2,j,h3,h4⟩,e⟩|e)
   · exact ⟨y,h1,⟨h2,j,by omega,h4⟩,e⟩
   · exact ⟨_,eZ hf hv i,⟨h,i,by omega,rfl⟩,e⟩
 · rintro ⟨y,h1,⟨h2,j,h3,h4⟩,e⟩
   by_cases ej : j = i
   · subst ej;exact .inr (by rw [e,h4])
   · exact .inl ⟨y,h1,⟨h2,j,by omega,h4⟩,e⟩
theorem qT {g : Pa} {f : Nat → Nat} {v i : Nat} (h : ¬ Hv g (itF f v i) (hdF g f v)) : lst (OvI g f v (i + 1)) g.prio.length = lst (OvI g f v i) g.prio.length:=by
 refine nU fun x hx=>?_
 constructor
 · rintro ⟨h2,j,h3,h4⟩
   by_cases ej : j = i
   · subst ej;rw [h4] at h;exact absurd h2 h
   · exact ⟨h2,j,by omega,h4⟩
 · rintro ⟨h2,j,h3,h4⟩;exact ⟨h2,j,by omega,h4⟩
theorem qU {g : Pa} {f : Nat → Nat} (hf : ∀ x,x < g.prio.length → f x < g.prio.length) {v : Nat} (hv : v < g.prio.length) {i j : Nat} (hi : i < wyF g f v) (hj : j < i) : itF f v j ≠ itF f v i:=fun e=>by
 obtain ⟨w1,w2⟩:=kJ hf hv
 refine w2 (j + (wyF g f v - i)) (by omega) ?_
 rw [bS,e,← bS,show i + (wyF g f v - i) = wyF g f v by omega,w1]
set_option maxHeartbeats 4000000 in
theorem lU (g : Pa) (hs : dU g) (σ τ : List Int) (h0 : cz g.ar 0 σ) (h1 : cz g.ar 1 τ) (v : Nat) (hv : v < g.prio.length) : ba Try.prog 34 [paA g,.c (.I σ),.c (.I τ),.c (.int .i64 v)] [.arr 2 .may (.I (wtF g (nxP g.ar σ τ) v).ov)] (fun ns=>.agg [.c (.int .i64 (wtF g (nxP g.ar σ τ) v).hd),.sl (ns.getD 0 0),.c (.int .i64 (wtF g (nxP g.ar σ τ) v).wy)]):=by
 have hg:=hs.1
 have hle:=hs.2
 have hf:=mE hs h0 h1
 have cst:=fun x hx=>mM g hg σ τ h0 h1 x hx
 generalize nxP g.ar σ τ = f at *
 have hlt:=fun k=>eZ hf hv k
 have hst : ∀ x k,f (itF f x k) = itF f x (k + 1):=fun x k=>rfl
 obtain ⟨p,p0,p1,p2,p3⟩:=sf hf hv
 obtain ⟨w1,w2⟩:=kJ hf hv
 have hwl:=qx hf hv
 have hhl:=qw hf hv
 have hoi:=fun i=>ri (OvI g f v i) g.prio.length
 have hset:=fun i=>kG (dW (OvI g f v i) g.prio.length)
 have e0 : lst (OvI g f v 0) g.prio.length = []:=by
  refine List.eq_nil_iff_forall_not_mem.2 fun x hx=>?_
  obtain ⟨y,_,⟨_,j,h,_⟩,_⟩:=fv.1 hx
  omega
 have hlt2:=fun k=>eZ hf (hlt g.prio.length) k
 have hvV : ∀ k,f4 g.prio.length (hvS g (fun j=>(itF f (itF f v g.prio.length) j : Int)) k):=fun k=>by
  obtain ⟨j,_,e⟩:=qS (g:=g) (F:=fun j=>(itF f (itF f v g.prio.length) j : Int)) k
  rw [e];have:=hlt2 j;exact ⟨by omega,by omega⟩
 (refine bA aF Try.func34 rfl rfl (by kernel_rfl) fun hp0 ν hX hN=>?_;simp only [cg,Nat.reduceAdd])
 (repeat' (first|(with_reducible first|(apply hK;clear hK K)|refine stZ ?_|refine aO rfl ?_|((first|apply ae|apply af);clear ae X af Y))|(with_reducible refine aR ?_;first|refine aP rfl ?_|refine aQ rfl ?_)|((with_reducible first|((first|refine aU ?_|refine aV ?_);intro K hK)|(refine aC ?_;intro X Y ae af)|refine aD ?_);simp (disch:=first|decide|omega|(simp only [List.length_cons,List.length_nil];omega)) only [go_sem,↓aj hN,an hN,reduceIte,reduceCtorEq,Nat.reduceAdd,Nat.reduceLT,Nat.reduceLeDiff,Nat.reduceEqDiff,Nat.reduceSub])|(with_reducible refine And.intro (fun h=>?_) (fun h=>?_) <;> try (exfalso;omega))|(with_reducible refine aT aF hN ?_)|(with_reducible refine And.intro ?_ ?_)|(refine ak ?_;omega)|(exact aS hN (by decide))))
 (refine cr (fun (k : Nat)=>(tmL [(10,.c (.int .i64 k)),(9,.c (.int .i64 (itF f v k : Nat))),(4,.ad (ν 0) 0),(8,.ad (ν 1) 0),(1,.c (.I σ)),(2,.c (.I τ)),(3,.c (.int .i64 v))],hpL hp0 ν [.box [.c (.I g.ar.own),.c (.R g.ar.nxt),.c (.I g.prio)],.box [.c (.int .i64 0),.c .nul,.c (.int .i64 0)]])) (fun (k : Nat)=>k ≤ g.prio.length) (fun (k : Nat)=>g.prio.length - k) ⟨0,?_,bL hX hN [] ?_ ?_⟩ ?_;(repeat' (first|(with_reducible first|exact clZ|refine bM ?_ ?_|refine bN ?_ ?_|rfl|refine suZ ?_)|refine bO rfl ?_ ?_|exact bv hN _ rfl rfl rfl|exact bw hN _ rfl rfl rfl|exact be hN _ rfl rfl rfl (Or.inr rfl)|(refine bx hN _ rfl rfl (by first|exact Or.inr rfl|exact Or.inl rfl) ?_;first|exact aJ _|exact aK _)|refine bf hN rfl ?_|refine bg hN rfl rfl ?_|exact bd hN _ rfl rfl|exact bc hN rfl rfl rfl rfl|(with_reducible first|refine stZ ?_|refine bu ?_)));(try (any_goals (first|(with_reducible rfl)|(refine ak ?_;omega)))))
 · rfl
 intro k hk
 by_cases hkl : k < g.prio.length
 · have c1:=cst _ (hlt k)
   (repeat' (first|(with_reducible first|(apply hK;clear hK K)|refine stZ ?_|refine aO rfl ?_|((first|apply ae|apply af);clear ae X af Y))|(with_reducible refine aR ?_;first|refine aP rfl ?_|refine aQ rfl ?_)|((with_reducible first|((first|refine aU ?_|refine aV ?_);intro K hK)|(refine aC ?_;intro X Y ae af)|refine aD ?_);simp (disch:=first|decide|omega|(simp only [List.length_cons,List.length_nil];omega)) only [go_sem,↓aj hN,an hN,reduceIte,reduceCtorEq,Nat.reduceAdd,Nat.reduceLT,Nat.reduceLeDiff,Nat.reduceEqDiff,Nat.reduceSub])|(with_reducible refine And.intro (fun h=>?_) (fun h=>?_) <;> try (exfalso;omega))|(with_reducible refine aT aF hN ?_)|(refine aE (c1) ?_ rfl (fun _=>rfl) ?_;focus ((repeat' (first|(with_reducible first|exact am|refine ah ?_ ?_|exact aZ _|refine ay ?_|exact ax _|exact aI _ _|refine aH ?_|exact au _)|exact az hN rfl rfl|(refine aG hN rfl ?_;first|exact aJ _|exact aK _)|exact aw rfl rfl rfl));done))|(with_reducible first|exact am|refine ah ?_ ?_|exact aZ _|refine ay ?_|exact ax _|exact aI _ _|refine aH ?_|exact au _)|exact az hN rfl rfl|(refine aG hN rfl ?_;first|exact aJ _|exact aK _)|exact aw rfl rfl rfl|(simp only [aY,List.map_nil])|(with_reducible refine bm ?_)|(with_reducible refine And.intro ?_ ?_)|(refine ak ?_;omega)|(exact aS hN (by decide))))
   (refine ⟨k + 1,⟨?_,?_⟩,bL hX hN [] ?_ ?_⟩;(try any_goals dsimp only);(repeat' (first|(with_reducible first|exact clZ|refine bM ?_ ?_|refine bN ?_ ?_|rfl|refine suZ ?_)|refine bO rfl ?_ ?_|exact bv hN _ rfl rfl rfl|exact bw hN _ rfl rfl rfl|exact be hN _ rfl rfl rfl (Or.inr rfl)|(refine bx hN _ rfl rfl (by first|exact Or.inr rfl|exact Or.inl rfl) ?_;first|exact aJ _|exact aK _)|refine bf hN rfl ?_|refine bg hN rfl rfl ?_|exact bd hN _ rfl rfl|exact bc hN rfl rfl rfl rfl|(with_reducible first|refine stZ ?_|refine bu ?_)));(try (any_goals (first|(with_reducible rfl)|(refine ak ?_;omega)))))
   rfl
 obtain rfl : k = g.prio.length:=by omega
 have c1:=cst _ (hlt g.prio.length)
 (repeat' (first|(with_reducible first|(apply hK;clear hK K)|refine stZ ?_|refine aO rfl ?_|((first|apply ae|apply af);clear ae X af Y))|(with_reducible refine aR ?_;first|refine aP rfl ?_|refine aQ rfl ?_)|((with_reducible first|((first|refine aU ?_|refine aV ?_);intro K hK)|(refine aC ?_;intro X Y ae af)|refine aD ?_);simp (disch:=first|decide|omega|(simp only [List.length_cons,List.length_nil];omega)) only [go_sem,↓aj hN,an hN,reduceIte,reduceCtorEq,Nat.reduceAdd,Nat.reduceLT,Nat.reduceLeDiff,Nat.reduceEqDiff,Nat.reduceSub])|(with_reducible refine And.intro (fun h=>?_) (fun h=>?_) <;> try (exfalso;omega))|(with_reducible refine aT aF hN ?_)|(refine aE (c1) ?_ rfl (fun _=>rfl) ?_;focus ((repeat' (first|(with_reducible first|exact am|refine ah ?_ ?_|exact aZ _|refine ay ?_|exact ax _|exact aI _ _|refine aH ?_|exact au _)|exact az hN rfl rfl|(refine aG hN rfl ?_;first|exact aJ _|exact aK _)|exact aw rfl rfl rfl));done))|(with_reducible first|exact am|refine ah ?_ ?_|exact aZ _|refine ay ?_|exact ax _|exact aI _ _|refine aH ?_|exact au _)|exact az hN rfl rfl|(refine aG hN rfl ?_;first|exact aJ _|exact aK _)|exact aw rfl rfl rfl|(simp only [aY,List.map_nil])|(with_reducible refine bm ?_)|(with_reducible refine And.intro ?_ ?_)|(refine ak ?_;omega)|(exact aS hN (by decide))))
 (refine cr (fun (j : Nat)=>(tmL [(12,.c (.int .i64 (itF f (itF f v g.prio.length) (j + 1) : Nat))),(11,.c (.int .i64 (hvS g (fun j=>(itF f (itF f v g.prio.length) j : Int)) j))),(9,.c (.int .i64 (itF f v g.prio.length : Nat))),(4,.ad (ν 0) 0),(8,.ad (ν 1) 0),(1,.c (.I σ)),(2,.c (.I τ)),(3,.c (.int .i64 v))],hpL hp0 ν [.box [.c (.I g.ar.own),.c (.R g.ar.nxt),.c (.I g.prio)],.box [.c (.int .i64 0),.c .nul,.c (.int .i64 0)]])) (fun (j : Nat)=>j + 1 ≤ p) (fun (j : Nat)=>p - j) ⟨0,?_,bL hX hN [] ?_ ?_⟩ ?_;(repeat' (first|(with_reducible first|exact clZ|refine bM ?_ ?_|refine bN ?_ ?_|rfl|refine suZ ?_)|refine bO rfl ?_ ?_|exact bv hN _ rfl rfl rfl|exact bw hN _ rfl rfl rfl|exact be hN _ rfl rfl rfl (Or.inr rfl)|(refine bx hN _ rfl rfl (by first|exact Or.inr rfl|exact Or.inl rfl) ?_;first|exact aJ _|exact aK _)|refine bf hN rfl ?_|refine bg hN rfl rfl ?_|exact bd hN _ rfl rfl|exact bc hN rfl rfl rfl rfl|(with_reducible first|refine stZ ?_|refine bu ?_)));(try (any_goals (first|(with_reducible rfl)|(refine ak ?_;omega)))))
 all_goals try rfl
 intro j hj
 by_cases hjp : j + 1 < p
 · have hne:=p2 (j + 1) (by omega) hjp
   have c2:=cst _ (hlt2 (j + 1))
   have c3:=dY g (itF f (itF f v g.prio.length) (j + 1) : Nat) (hvS g (fun j=>(itF f (itF f v g.prio.length) j : Int)) j) (by have:=hlt2 (j + 1);exact ⟨by omega,by omega⟩) (hvV j)
   by_cases hh : Hv g (itF f (itF f v g.prio.length) (j + 1) : Nat) (hvS g (fun j=>(itF f (itF f v g.prio.length) j : Int)) j)
   · rw [aA hh] at c3
     (repeat' (first|(with_reducible first|(apply hK;clear hK K)|refine stZ ?_|refine aO rfl ?_|((first|apply ae|apply af);clear ae X af Y))|(with_reducible refine aR ?_;first|refine aP rfl ?_|refine aQ rfl ?_)|((with_reducible first|((first|refine aU ?_|refine aV ?_);intro K hK)|(refine aC ?_;intro X Y ae af)|refine aD ?_);simp (disch:=first|decide|omega|(simp only [List.length_cons,List.length_nil];omega)) only [go_sem,↓aj hN,an hN,reduceIte,reduceCtorEq,Nat.reduceAdd,Nat.reduceLT,Nat.reduceLeDiff,Nat.reduceEqDiff,Nat.reduceSub])|(with_reducible refine And.intro (fun h=>?_) (fun h=>?_) <;> try (exfalso;omega))|(with_reducible refine aT aF hN ?_)|(refine aE (c3) ?_ rfl (fun _=>rfl) ?_;focus ((repeat' (first|(with_reducible first|exact am|refine ah ?_ ?_|exact aZ _|refine ay ?_|exact ax _|exact aI _ _|refine aH ?_|exact au _)|exact az hN rfl rfl|(refine aG hN rfl ?_;first|exact aJ _|exact aK _)|exact aw rfl rfl rfl));done))|(refine aE (c2) ?_ rfl (fun _=>rfl) ?_;focus ((repeat' (first|(with_reducible first|exact am|refine ah ?_ ?_|exact aZ _|refine ay ?_|exact ax _|exact aI _ _|refine aH ?_|exact au _)|exact az hN rfl rfl|(refine aG hN rfl ?_;first|exact aJ _|exact aK _)|exact aw rfl rfl rfl));done))|(with_reducible first|exact am|refine ah ?_ ?_|exact aZ _|refine ay ?_|exact ax _|exact aI _ _|refine aH ?_|exact au _)|exact az hN rfl rfl|(refine aG hN rfl ?_;first|exact aJ _|exact aK _)|exact aw rfl rfl rfl|(simp only [aY,List.map_nil])|(with_reducible refine bm ?_)|(with_reducible refine And.intro ?_ ?_)|(refine ak ?_;omega)|(exact aS hN (by decide))))
     all_goals first|(exfalso;have hq:=b9 (by assumption);exact hne (by omega))|((refine ⟨j + 1,⟨?_,?_⟩,bL hX hN [] ?_ ?_⟩;(try any_goals dsimp only);(repeat' (first|(with_reducible first|exact clZ|refine bM ?_ ?_|refine bN ?_ ?_|rfl|refine suZ ?_)|refine bO rfl ?_ ?_|exact bv hN _ rfl rfl rfl|exact bw hN _ rfl rfl rfl|exact be hN _ rfl rfl rfl (Or.inr rfl)|(refine bx hN _ rfl rfl (by first|exact Or.inr rfl|exact Or.inl rfl) ?_;first|exact aJ _|exact aK _)|refine bf hN rfl ?_|refine bg hN rfl rfl ?_|exact bd hN _ rfl rfl|exact bc hN rfl rfl rfl rfl|(with_reducible first|refine stZ ?_|refine bu ?_)));(try (any_goals (first|(with_reducible rfl)|(refine ak ?_;omega)))));all_goals first|rfl|exact (kR hh).symm)
   · rw [ao hh] at c3
     (repeat' (first|(with_reducible first|(apply hK;clear hK K)|refine stZ ?_|refine aO rfl ?_|((first|apply ae|apply af);clear ae X af Y))|(with_reducible refine aR ?_;first|refine aP rfl ?_|refine aQ rfl ?_)|((with_reducible first|((first|refine aU ?_|refine aV ?_);intro K hK)|(refine aC ?_;intro X Y ae af)|refine aD ?_);simp (disch:=first|decide|omega|(simp only [List.length_cons,List.length_nil];omega)) only [go_sem,↓aj hN,an hN,reduceIte,reduceCtorEq,Nat.reduceAdd,Nat.reduceLT,Nat.reduceLeDiff,Nat.reduceEqDiff,Nat.reduceSub])|(with_reducible refine And.intro (fun h=>?_) (fun h=>?_) <;> try (exfalso;omega))|(with_reducible refine aT aF hN ?_)|(refine aE (c3) ?_ rfl (fun _=>rfl) ?_;focus ((repeat' (first|(with_reducible first|exact am|refine ah ?_ ?_|exact aZ _|refine ay ?_|exact ax _|exact aI _ _|refine aH ?_|exact au _)|exact az hN rfl rfl|(refine aG hN rfl ?_;first|exact aJ _|exact aK _)|exact aw rfl rfl rfl));done))|(refine aE (c2) ?_ rfl (fun _=>rfl) ?_;focus ((repeat' (first|(with_reducible first|exact am|refine ah ?_ ?_|exact aZ _|refine ay ?_|exact ax _|exact aI _ _|refine aH ?_|exact au _)|exact az hN rfl rfl|(refine aG hN rfl ?_;first|exact aJ _|exact aK _)|exact aw rfl rfl rfl));done))|(with_reducible first|exact am|refine ah ?_ ?_|exact aZ _|refine ay ?_|exact ax _|exact aI _ _|refine aH ?_|exact au _)|exact az hN rfl rfl|(refine aG hN rfl ?_;first|exact aJ _|exact aK _)|exact aw rfl rfl rfl|(simp only [aY,List.map_nil])|(with_reducible refine bm ?_)|(with_reducible refine And.intro ?_ ?_)|(refine ak ?_;omega)|(exact aS hN (by decide))))
     all_goals first|(exfalso;have hq:=b9 (by assumption);exact hne (by omega))|((refine ⟨j + 1,⟨?_,?_⟩,bL hX hN [] ?_ ?_⟩;(try any_goals dsimp only);(repeat' (first|(with_reducible first|exact clZ|refine bM ?_ ?_|refine bN ?_ ?_|rfl|refine suZ ?_)|refine bO rfl ?_ ?_|exact bv hN _ rfl rfl rfl|exact bw hN _ rfl rfl rfl|exact be hN _ rfl rfl rfl (Or.inr rfl)|(refine bx hN _ rfl rfl (by first|exact Or.inr rfl|exact Or.inl rfl) ?_;first|exact aJ _|exact aK _)|refine bf hN rfl ?_|refine bg hN rfl rfl ?_|exact bd hN _ rfl rfl|exact bc hN rfl rfl rfl rfl|(with_reducible first|refine stZ ?_|refine bu ?_)));(try (any_goals (first|(with_reducible rfl)|(refine ak ?_;omega)))));all_goals first|rfl|exact (mN hh).symm)
 obtain rfl : p = j + 1:=by omega
 rw [Nat.add_sub_cancel] at p3
 rw [p3,p1]
 (repeat' (first|(with_reducible first|(apply hK;clear hK K)|refine stZ ?_|refine aO rfl ?_|((first|apply ae|apply af);clear ae X af Y))|(with_reducible refine aR ?_;first|refine aP rfl ?_|refine aQ rfl ?_)|((with_reducible first|((first|refine aU ?_|refine aV ?_);intro K hK)|(refine aC ?_;intro X Y ae af)|refine aD ?_);simp (disch:=first|decide|omega|(simp only [List.length_cons,List.length_nil];omega)) only [go_sem,↓aj hN,an hN,reduceIte,reduceCtorEq,Nat.reduceAdd,Nat.reduceLT,Nat.reduceLeDiff,Nat.reduceEqDiff,Nat.reduceSub])|(with_reducible refine And.intro (fun h=>?_) (fun h=>?_) <;> try (exfalso;omega))|(with_reducible refine aT aF hN ?_)|(with_reducible refine And.intro ?_ ?_)|(refine ak ?_;omega)|(exact aS hN (by decide))))
 · exact absurd trivial (by assumption)
 (refine cr (fun (i : Nat)=>(tmL [(14,.c (.int .i64 (itF f v i : Nat))),(11,.c (.int .i64 (hdF g f v : Nat))),(13,.ad (ν 2) 0),(4,.ad (ν 0) 0),(8,.ad (ν 1) 0),(1,.c (.I σ)),(2,.c (.I τ))],hpL hp0 ν [.box [.c (.I g.ar.own),.c (.R g.ar.nxt),.c (.I g.prio)],.box [.c (.int .i64 0),.c .nul,.c (.int .i64 0)],.box [.c (.int .i64 (hdF g f v : Nat)),.sl (ν 3),.c (.int .i64 i)],.arr 2 .may (.I (lst (OvI g f v i) g.prio.length))])) (fun (i : Nat)=>i ≤ wyF g f v) (fun (i : Nat)=>wyF g f v - i) ⟨0,?_,bL hX hN [] ?_ ?_⟩ ?_;(repeat' (first|(with_reducible first|exact clZ|refine bM ?_ ?_|refine bN ?_ ?_|rfl|refine suZ ?_)|refine bO rfl ?_ ?_|exact bv hN _ rfl rfl rfl|exact bw hN _ rfl rfl rfl|exact be hN _ rfl rfl rfl (Or.inr rfl)|(refine bx hN _ rfl rfl (by first|exact Or.inr rfl|exact Or.inl rfl) ?_;first|exact aJ _|exact aK _)|refine bf hN rfl ?_|refine bg hN rfl rfl ?_|exact bd hN _ rfl rfl|exact bc hN rfl rfl rfl rfl|(with_reducible first|refine stZ ?_|refine bu ?_)));(try (any_goals (first|(with_reducible rfl)|(refine ak ?_;omega)))))
 all_goals try rfl
 · rw [e0];exact bc hN rfl rfl rfl rfl
 intro i hi
 by_cases hid : i < wyF g f v
 · have hne:=w2 i hid
   have c2:=cst _ (hlt i)
   have c3:=dY g (itF f v i : Nat) (hdF g f v : Nat) (by have:=hlt i;exact ⟨by omega,by omega⟩) ⟨by omega,by omega⟩
   have hoi:=hoi i
   by_cases hh : Hv g (itF f v i : Nat) (hdF g f v : Nat)
   · rw [aA hh] at c3
     have hno : ¬ ((itF f v i : Nat) : Int) ∈ lst (OvI g f v i) g.prio.length:=fun hm=>by
      obtain ⟨y,_,⟨_,j,h,h2⟩,e⟩:=fv.1 hm
      exact qU hf hv hid h (by omega)
     have c4:=oT _ _ (hset i) hno (by omega)
     rw [sg hf hv hh hno] at c4
     (repeat' (first|(with_reducible first|(apply hK;clear hK K)|refine stZ ?_|refine aO rfl ?_|((first|apply ae|apply af);clear ae X af Y))|(with_reducible refine aR ?_;first|refine aP rfl ?_|refine aQ rfl ?_)|((with_reducible first|((first|refine aU ?_|refine aV ?_);intro K hK)|(refine aC ?_;intro X Y ae af)|refine aD ?_);simp (disch:=first|decide|omega|(simp only [List.length_cons,List.length_nil];omega)) only [go_sem,↓aj hN,an hN,reduceIte,reduceCtorEq,Nat.reduceAdd,Nat.reduceLT,Nat.reduceLeDiff,Nat.reduceEqDiff,Nat.reduceSub])|(with_reducible refine And.intro (fun h=>?_) (fun h=>?_) <;> try (exfalso;omega))|(with_reducible refine aT aF hN ?_)|((first|refine aE (c3) ?_ rfl (fun _=>rfl) ?_|refine aE (c4) ?_ rfl (fun _=>rfl) ?_);focus ((repeat' (first|(with_reducible first|exact am|refine ah ?_ ?_|exact aZ _|refine ay ?_|exact ax _|exact aI _ _|refine aH ?_|exact au _)|exact az hN rfl rfl|(refine aG hN rfl ?_;first|exact aJ _|exact aK _)|exact aw rfl rfl rfl));done))|(refine aE (c2) ?_ rfl (fun _=>rfl) ?_;focus ((repeat' (first|(with_reducible first|exact am|refine ah ?_ ?_|exact aZ _|refine ay ?_|exact ax _|exact aI _ _|refine aH ?_|exact au _)|exact az hN rfl rfl|(refine aG hN rfl ?_;first|exact aJ _|exact aK _)|exact aw rfl rfl rfl));done))|(with_reducible first|exact am|refine ah ?_ ?_|exact aZ _|refine ay ?_|exact ax _|exact aI _ _|refine aH ?_|exact au _)|exact az hN rfl rfl|(refine aG hN rfl ?_;first|exact aJ _|exact aK _)|exact aw rfl rfl rfl|(simp only [aY,List.map_nil])|(with_reducible refine bm ?_)|(with_reducible refine And.intro ?_ ?_)|(refine ak ?_;omega)|(exact aS hN (by decide))))
     all_goals first|(exfalso;have hq:=b9 (by assumption);exact hne (by omega))|((refine ⟨i + 1,⟨?_,?_⟩,bL hX hN [(3,4)] ?_ ?_⟩;(try any_goals dsimp only);(repeat' (first|(with_reducible first|exact clZ|refine bM ?_ ?_|refine bN ?_ ?_|rfl|refine suZ ?_)|refine bO rfl ?_ ?_|exact bv hN _ rfl rfl rfl|exact bw hN _ rfl rfl rfl|exact be hN _ rfl rfl rfl (Or.inr rfl)|(refine bx hN _ rfl rfl (by first|exact Or.inr rfl|exact Or.inl rfl) ?_;first|exact aJ _|exact aK _)|refine bf hN rfl ?_|refine bg hN rfl rfl ?_|exact bd hN _ rfl rfl|exact bc hN rfl rfl rfl rfl|(with_reducible first|refine stZ ?_|refine bu ?_)));(try (any_goals (first|(with_reducible rfl)|(refine ak ?_;omega)))));all_goals rfl)
   · rw [ao hh] at c3
     (repeat' (first|(with_reducible first|(apply hK;clear hK K)|refine stZ ?_|refine aO rfl ?_|((first|apply ae|apply af);clear ae X af Y))|(with_reducible refine aR ?_;first|refine aP rfl ?_|refine aQ rfl ?_)|((with_reducible first|((first|refine aU ?_|refine aV ?_);intro K hK)|(refine aC ?_;intro X Y ae af)|refine aD ?_);simp (disch:=first|decide|omega|(simp only [List.length_cons,List.length_nil];omega)) only [go_sem,↓aj hN,an hN,reduceIte,reduceCtorEq,Nat.reduceAdd,Nat.reduceLT,Nat.reduceLeDiff,Nat.reduceEqDiff,Nat.reduceSub])|(with_reducible refine And.intro (fun h=>?_) (fun h=>?_) <;> try (exfalso;omega))|(with_reducible refine aT aF hN ?_)|(refine aE (c3) ?_ rfl (fun _=>rfl) ?_;focus ((repeat' (first|(with_reducible first|exact am|refine ah ?_ ?_|exact aZ _|refine ay ?_|exact ax _|exact aI _ _|refine aH ?_|exact au _)|exact az hN rfl rfl|(refine aG hN rfl ?_;first|exact aJ _|exact aK _)|exact aw rfl rfl rfl));done))|(refine aE (c2) ?_ rfl (fun _=>rfl) ?_;focus ((repeat' (first|(with_reducible first|exact am|refine ah ?_ ?_|exact aZ _|refine ay ?_|exact ax _|exact aI _ _|refine aH ?_|exact au _)|exact az hN rfl rfl|(refine aG hN rfl ?_;first|exact aJ _|exact aK _)|exact aw rfl rfl rfl));done))|(with_reducible first|exact am|refine ah ?_ ?_|exact aZ _|refine ay ?_|exact ax _|exact aI _ _|refine aH ?_|exact au _)|exact az hN rfl rfl|(refine aG hN rfl ?_;first|exact aJ _|exact aK _)|exact aw rfl rfl rfl|(simp only [aY,List.map_nil])|(with_reducible refine bm ?_)|(with_reducible refine And.intro ?_ ?_)|(refine ak ?_;omega)|(exact aS hN (by decide))))
     all_goals first|(exfalso;have hq:=b9 (by assumption);exact hne (by omega))|((refine ⟨i + 1,⟨?_,?_⟩,bL hX hN [] ?_ ?_⟩;(try any_goals dsimp only);(repeat' (first|(with_reducible first|exact clZ|refine bM ?_ ?_|refine bN ?_ ?_|rfl|refine suZ ?_)|refine bO rfl ?_ ?_|exact bv hN _ rfl rfl rfl|exact bw hN _ rfl rfl rfl|exact be hN _ rfl rfl rfl (Or.inr rfl)|(refine bx hN _ rfl rfl (by first|exact Or.inr rfl|exact Or.inl rfl) ?_;first|exact aJ _|exact aK _)|refine bf hN rfl ?_|refine bg hN rfl rfl ?_|exact bd hN _ rfl rfl|exact bc hN rfl rfl rfl rfl|(with_reducible first|refine stZ ?_|refine bu ?_)));(try (any_goals (first|(with_reducible rfl)|(refine ak ?_;omega)))));all_goals first|rfl|exact qT hh|exact (qT hh).symm)
 obtain rfl : i = wyF g f v:=by omega
 rw [w1]
 (repeat' (first|(with_reducible first|(apply hK;clear hK K)|refine stZ ?_|refine aO rfl ?_|((first|apply ae|apply af);clear ae X af Y))|(with_reducible refine aR ?_;first|refine aP rfl ?_|refine aQ rfl ?_)|((with_reducible first|((first|refine aU ?_|refine aV ?_);intro K hK)|(refine aC ?_;intro X Y ae af)|refine aD ?_);simp (disch:=first|decide|omega|(simp only [List.length_cons,List.length_nil];omega)) only [go_sem,↓aj hN,an hN,reduceIte,reduceCtorEq,Nat.reduceAdd,Nat.reduceLT,Nat.reduceLeDiff,Nat.reduceEqDiff,Nat.reduceSub])|(with_reducible refine And.intro (fun h=>?_) (fun h=>?_) <;> try (exfalso;omega))|(with_reducible refine aT aF hN ?_)|(with_reducible refine And.intro ?_ ?_)|(refine ak ?_;omega)|(exact aS hN (by decide))))
 all_goals first|(exact absurd trivial (by assumption))|((refine jW hN [3] (by decide) (.inr rfl) (by first|exact eC rfl rfl|exact dM hN rfl rfl rfl rfl|exact dm hN rfl rfl rfl rfl rfl|(simp (disch:=first|decide|omega|(simp only [List.length_cons,List.length_nil];omega)) only [bR,bU,bX,bY,go_sem,beq_self_eq_true,↓aW,↓aj hN,an hN,reduceIte,reduceCtorEq,Nat.reduceAdd,Nat.reduceLT,Nat.reduceLeDiff,Nat.reduceEqDiff,Nat.reduceSub];rfl)|rfl) ?_ fun νs hνs=>?_;(repeat' (first|exact Gone.nil|(refine Gone.cons rfl rfl ?_ ?_)|(with_reducible refine gY ?_)|(with_reducible refine gX ?_)|(with_reducible refine SVs.cons ?_ ?_)|(with_reducible exact SVs.nil)|(simp only [List.drop,List.take])|(simp (disch:=first|decide|omega) only [↓aW,reduceIte,reduceCtorEq,Nat.reduceEqDiff])|(with_reducible exact oz _)|(with_reducible exact gU _)|(exact gV rfl rfl rfl)|(exact jV 0 (by simp) rfl rfl)|(refine jU hN rfl (gZ hN (by decide)) ?_)|(with_reducible refine jT ?_)|(with_reducible rfl)|(with_reducible refine oB ?_)|(with_reducible refine oD ?_)|(with_reducible refine oE ?_)|(with_reducible refine oG ?_)|(with_reducible refine fP ?_)|(refine ak ?_;omega))));all_goals rfl)
end Go.Proofs.Ytlodllmpndflcaa
