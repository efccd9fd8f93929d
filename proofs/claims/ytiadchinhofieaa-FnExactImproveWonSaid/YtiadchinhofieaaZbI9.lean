/-
  The reference's worth of a play, its replies, its worst worths.
-/
import Derived.Test.YtiadchinhofieaaZbI8
namespace Go.Proofs.Ytiadchinhofieaa
set_option linter.unusedVariables false
set_option linter.unusedSimpArgs false
open Go.RowKit
attribute [local irreducible] bp cR Aw Le
noncomputable def hvS (g : Pa) (F : Nat → Int) : Nat → Int
 | 0 => F 0
 | k + 1 => if tf (Hv g (F (k + 1)) (hvS g F k)) then F (k + 1) else hvS g F k
section
variable {g : Pa} {F : Nat → Int}
theorem mo {k : Nat} (h : Hv g (F (k + 1)) (hvS g F k)) : hvS g F (k + 1) = F (k + 1):=by
 show (if tf _ then _ else _) = _;rw [aO h,gh]
theorem oz {k : Nat} (h : ¬ Hv g (F (k + 1)) (hvS g F k)) : hvS g F (k + 1) = hvS g F k:=by
 show (if tf _ then _ else _) = _;rw [aB h,fD]
theorem su : ∀ k,∃ j,j ≤ k ∧ hvS g F k = F j:=by
 intro k
 induction k with
 | zero => exact ⟨0, Nat.le_refl _, rfl⟩
 | succ k ih =>
   by_cases c : Hv g (F (k + 1)) (hvS g F k)
   · exact ⟨k + 1,Nat.le_refl _,mo c⟩
   · obtain ⟨j,h1,h2⟩:=ih
     exact ⟨j,by omega,by rw [oz c];exact h2⟩
theorem tI : ∀ k j,j ≤ k → ¬ Hv g (F j) (hvS g F k):=by
 intro k
 induction k with
 | zero => exact fun j hj => by obtain rfl : j = 0 := (by omega); exact fun h => d7 h h
 | succ k ih =>
   intro j hj
   by_cases c : Hv g (F (k + 1)) (hvS g F k)
   · rw [mo c]
     by_cases e : j = k + 1
     · subst e;exact fun h=>d7 h h
     · exact fun h=>ih j (by omega) (fP h c)
   · rw [oz c]
     by_cases e : j = k + 1
     · subst e;exact c
     · exact ih j (by omega)
end
theorem tJ {g : Pa} {f : Nat → Nat} (hf : ∀ x,x < g.prio.length → f x < g.prio.length) {v : Nat} (hv : v < g.prio.length) :
  ∃ p,0 < p ∧ itF f (itF f v g.prio.length) p = itF f v g.prio.length ∧ (∀ j,0 < j → j < p → itF f (itF f v g.prio.length) j ≠ itF f v g.prio.length) ∧ hvS g (fun j=>(itF f (itF f v g.prio.length) j : Int)) (p - 1) = (hdF g f v : Nat):=by
 have hlt:=fun k=>d9 hf hv k
 obtain ⟨e1,_,e2,e3⟩:=md hlt
 have hp0 : itF f (itF f v g.prio.length) (eH (itF f v) g.prio.length - atA (itF f v) g.prio.length) = itF f v g.prio.length:=by
  have h1:=cM f v (eH (itF f v) g.prio.length) (g.prio.length - eH (itF f v) g.prio.length)
  rw [show eH (itF f v) g.prio.length + (g.prio.length - eH (itF f v) g.prio.length) = g.prio.length by omega,← e3,← cM] at h1
  have h2:=cM f v g.prio.length (eH (itF f v) g.prio.length - atA (itF f v) g.prio.length)
  rw [← h2]
  have h3:=cM f v (eH (itF f v) g.prio.length) (g.prio.length - atA (itF f v) g.prio.length)
  rw [show eH (itF f v) g.prio.length + (g.prio.length - atA (itF f v) g.prio.length) = g.prio.length + (eH (itF f v) g.prio.length - atA (itF f v) g.prio.length) by omega,← e3,← cM,show atA (itF f v) g.prio.length + (g.prio.length - atA (itF f v) g.prio.length) = g.prio.length by omega] at h3
  exact h3
 obtain ⟨p,⟨p0,p1⟩,p2⟩:=kC (P:=fun p=>0 < p ∧ itF f (itF f v g.prio.length) p = itF f v g.prio.length) ⟨_,by omega,hp0⟩
 refine ⟨p,p0,p1,fun j j0 jp e=>p2 j jp ⟨j0,e⟩,?_⟩
 obtain ⟨j,j1,j2⟩:=su (g:=g) (F:=fun j=>(itF f (itF f v g.prio.length) j : Int)) (p - 1)
 have jm:=tI (g:=g) (F:=fun j=>(itF f (itF f v g.prio.length) j : Int)) (p - 1)
 rw [j2] at jm ⊢
 have : hdF g f v = itF f (itF f v g.prio.length) j:=by
  refine kD ⟨⟨g.prio.length + j,cM _ _ _ _⟩,⟨p,p0,?_⟩,fun m=>?_⟩
  · rw [← cM,Nat.add_comm,cM,p1]
  · rw [← cM]
    obtain ⟨r,r1,r2⟩:=i4 p1 p0 (j + m)
    rw [r2]
    exact jm r (by omega)
 rw [this]
def OvI (g : Pa) (f : Nat → Nat) (v i x : Nat) : Prop:=Hv g x (hdF g f v) ∧ ∃ j,j < i ∧ itF f v j = x
theorem tK {g : Pa} {f : Nat → Nat} (hf : ∀ x,x < g.prio.length → f x < g.prio.length) {v : Nat} (hv : v < g.prio.length) {i : Nat} (h : Hv g (itF f v i) (hdF g f v)) (hno : ¬ (itF f v i : Int) ∈ lst (OvI g f v i) g.prio.length) : nx (lst (OvI g f v i) g.prio.length) (itF f v i) = lst (OvI g f v (i + 1)) g.prio.length:=by
 refine mb _ _ (sr (jv (fl _ _))) (jv (fl _ _)) fun x=>?_
 rw [ss hno,fu,fu]
 constructor
 · rintro (⟨y,h1,⟨h2,j,h3,h4⟩,e⟩|e)
   · exact ⟨y,h1,⟨h2,j,by omega,h4⟩,e⟩
   · exact ⟨_,d9 hf hv i,⟨h,i,by omega,rfl⟩,e⟩
 · rintro ⟨y,h1,⟨h2,j,h3,h4⟩,e⟩
   by_cases ej : j = i
   · subst ej;exact .inr (by rw [e,h4])
   · exact .inl ⟨y,h1,⟨h2,j,by omega,h4⟩,e⟩
theorem sv {g : Pa} {f : Nat → Nat} {v i : Nat} (h : ¬ Hv g (itF f v i) (hdF g f v)) : lst (OvI g f v (i + 1)) g.prio.length = lst (OvI g f v i) g.prio.length:=by
 refine kY fun x hx=>?_
 constructor
 · rintro ⟨h2,j,h3,h4⟩
   by_cases ej : j = i
   · subst ej;rw [h4] at h;exact absurd h2 h
   · exact ⟨h2,j,by omega,h4⟩
 · rintro ⟨h2,j,h3,h4⟩;exact ⟨h2,j,by omega,h4⟩
theorem sx {g : Pa} {f : Nat → Nat} (hf : ∀ x,x < g.prio.length → f x < g.prio.length) {v : Nat} (hv : v < g.prio.length) {i j : Nat} (hi : i < wyF g f v) (hj : j < i) : itF f v j ≠ itF f v i:=fun e=>by
 obtain ⟨w1,w2⟩:=gP hf hv
 refine w2 (j + (wyF g f v - i)) (by omega) ?_
 rw [cM,e,← cM,show i + (wyF g f v - i) = wyF g f v by omega,w1]
set_option maxHeartbeats 4000000 in
theorem ny (g : Pa) (hs : dE g) (σ τ : List Int) (h0 : cH g.ar 0 σ) (h1 : cH g.ar 1 τ) (v : Nat) (hv : v < g.prio.length) : bp Try.prog 83 [paA g,.c (.I σ),.c (.I τ),.c (.int .i64 v)] [.arr 2 .may (.I (wtF g (nxP g.ar σ τ) v).ov)] (fun ns=>.agg [.c (.int .i64 (wtF g (nxP g.ar σ τ) v).hd),.sl (ns.getD 0 0),.c (.int .i64 (wtF g (nxP g.ar σ τ) v).wy)]):=by
 have hg:=hs.1
 have hle:=hs.2
 have hf:=iH hs h0 h1
 have cst:=fun x hx=>oy g hg σ τ h0 h1 x hx
 generalize nxP g.ar σ τ = f at *
 have hlt:=fun k=>d9 hf hv k
 have hst : ∀ x k,f (itF f x k) = itF f x (k + 1):=fun x k=>rfl
 obtain ⟨p,p0,p1,p2,p3⟩:=tJ hf hv
 obtain ⟨w1,w2⟩:=gP hf hv
 have hwl:=rK hf hv
 have hhl:=gO hf hv
 have hoi:=fun i=>oH (OvI g f v i) g.prio.length
 have hset:=fun i=>jv (fl (OvI g f v i) g.prio.length)
 have e0 : lst (OvI g f v 0) g.prio.length = []:=by
  refine List.eq_nil_iff_forall_not_mem.2 fun x hx=>?_
  obtain ⟨y,_,⟨_,j,h,_⟩,_⟩:=fu.1 hx
  omega
 have hlt2:=fun k=>d9 hf (hlt g.prio.length) k
 have hvV : ∀ k,fF g.prio.length (hvS g (fun j=>(itF f (itF f v g.prio.length) j : Int)) k):=fun k=>by
  obtain ⟨j,_,e⟩:=su (g:=g) (F:=fun j=>(itF f (itF f v g.prio.length) j : Int)) k
  rw [e];have:=hlt2 j;exact ⟨by omega,by omega⟩
 (refine bU aH Try.func83 rfl rfl (by kernel_rfl) fun hp0 ν hX hN=>?_;simp only [cJ,Nat.reduceAdd])
 (repeat' (first|(with_reducible first|(refine hK _ _ ?_;clear hK K)|(refine aa _ ?_;clear aa K)|refine aY ?_|refine bF ?_|refine aR ?_|refine ay ?_|refine ax ?_|refine bG ?_|refine aD ?_|refine aS ?_|refine bH ?_|refine aT ?_|refine aU rfl ?_|refine aZ ?_|refine aV ?_|refine bI ?_|refine aW ?_|refine aC ?_|refine n_k ?_|refine aX ?_|(refine ae ?_;clear ae X af Y)|(refine af ?_;clear ae X af Y))|(with_reducible refine be ?_;first|refine bc rfl ?_|refine bd rfl ?_)|(with_reducible refine aQ ?_;first|refine az rfl rfl rfl rfl ?_|refine aF rfl rfl rfl ?_|refine bh rfl rfl rfl rfl ?_)|((first|(with_reducible first|refine bf rfl rfl fun K hK=>?_|refine bg rfl rfl fun K aa=>?_|refine aE fun X Y ae af=>?_|refine aG ?_));simp (disch:=first|decide|omega|(simp only [List.length_cons,List.length_nil];omega)) only [go_sem,beq_self_eq_true,↓ag,↓ak hN,an hN,reduceIte,reduceCtorEq,Nat.reduceAdd,Nat.reduceLT,Nat.reduceLeDiff,Nat.reduceEqDiff,Nat.reduceSub])|(with_reducible refine And.intro (fun h=>?_) (fun h=>?_) <;> try (exfalso;omega))|(with_reducible refine ba aH hN rfl ?_ ?_;kernel_rfl)|(with_reducible refine And.intro ?_ ?_)|(refine aj ?_;omega)|(exact bi hN (by decide))))
 (refine cK (fun (k : Nat)=>(tmL [(10,.c (.int .i64 k)),(9,.c (.int .i64 (itF f v k : Nat))),(4,.ad (ν 0) 0),(8,.ad (ν 1) 0),(1,.c (.I σ)),(2,.c (.I τ)),(3,.c (.int .i64 v))],hpL hp0 ν [.box [.c (.I g.ar.own),.c (.R g.ar.nxt),.c (.I g.prio)],.box [.c (.int .i64 0),.c .nul,.c (.int .i64 0)]])) (fun (k : Nat)=>k ≤ g.prio.length) (fun (k : Nat)=>g.prio.length - k) ⟨0,?_,ce hX hN [] ?_ ?_⟩ ?_;(repeat' (first|(with_reducible first|exact cf _|exact cg|exact ci|refine cj ?_ ?_|refine ck ?_ ?_|exact bt _|exact b9 _|exact aP _|rfl|exact bK _ _|refine bv ?_|exact cc _|refine bO ?_)|refine cm rfl ?_ ?_|exact bL hN _ rfl rfl rfl|exact bM hN _ rfl rfl rfl|exact bw hN _ rfl rfl rfl (Or.inr rfl)|(refine bN hN _ rfl rfl (by first|exact Or.inr rfl|exact Or.inl rfl) ?_;first|exact aI _|exact aJ _)|refine bx hN rfl ?_|refine bz hN rfl rfl ?_|exact bu hN _ rfl rfl|exact br hN rfl rfl rfl rfl|(with_reducible first|refine bJ ?_|refine bX ?_|refine bY ?_|refine bZ ?_|refine b7 ?_|refine bW ?_)));(try (any_goals (first|(with_reducible rfl)|(refine aj ?_;omega)))))
 · rfl
 intro k hk
 by_cases hkl : k < g.prio.length
 · have c1:=cst _ (hlt k)
   (repeat' (first|(with_reducible first|(refine hK _ _ ?_;clear hK K)|(refine aa _ ?_;clear aa K)|refine aY ?_|refine bF ?_|refine aR ?_|refine ay ?_|refine ax ?_|refine bG ?_|refine aD ?_|refine aS ?_|refine bH ?_|refine aT ?_|refine aU rfl ?_|refine aZ ?_|refine aV ?_|refine bI ?_|refine aW ?_|refine aC ?_|refine n_k ?_|refine aX ?_|(refine ae ?_;clear ae X af Y)|(refine af ?_;clear ae X af Y))|(with_reducible refine be ?_;first|refine bc rfl ?_|refine bd rfl ?_)|(with_reducible refine aQ ?_;first|refine az rfl rfl rfl rfl ?_|refine aF rfl rfl rfl ?_|refine bh rfl rfl rfl rfl ?_)|((first|(with_reducible first|refine bf rfl rfl fun K hK=>?_|refine bg rfl rfl fun K aa=>?_|refine aE fun X Y ae af=>?_|refine aG ?_));simp (disch:=first|decide|omega|(simp only [List.length_cons,List.length_nil];omega)) only [go_sem,beq_self_eq_true,↓ag,↓ak hN,an hN,reduceIte,reduceCtorEq,Nat.reduceAdd,Nat.reduceLT,Nat.reduceLeDiff,Nat.reduceEqDiff,Nat.reduceSub])|(with_reducible refine And.intro (fun h=>?_) (fun h=>?_) <;> try (exfalso;omega))|(with_reducible refine ba aH hN rfl ?_ ?_;kernel_rfl)|(refine aK (c1) ?_ rfl (fun _=>rfl) ?_;focus ((repeat' (first|(with_reducible first|exact am|refine ah ?_ ?_|exact bA _|refine au ?_|exact aq _|exact aN _ _|refine aM ?_|exact ao _)|exact aw hN rfl rfl|(refine aL hN rfl ?_;first|exact aI _|exact aJ _)|exact ap rfl rfl rfl));done))|(with_reducible first|exact am|refine ah ?_ ?_|exact bA _|refine au ?_|exact aq _|exact aN _ _|refine aM ?_|exact ao _)|exact aw hN rfl rfl|(refine aL hN rfl ?_;first|exact aI _|exact aJ _)|exact ap rfl rfl rfl|(simp only [bE,List.map_nil])|(with_reducible refine bC ?_)|(with_reducible refine And.intro ?_ ?_)|(refine aj ?_;omega)|(exact bi hN (by decide))))
   (refine ⟨k + 1,⟨?_,?_⟩,ce hX hN [] ?_ ?_⟩;(try any_goals dsimp only);(repeat' (first|(with_reducible first|exact cf _|exact cg|exact ci|refine cj ?_ ?_|refine ck ?_ ?_|exact bt _|exact b9 _|exact aP _|rfl|exact bK _ _|refine bv ?_|exact cc _|refine bO ?_)|refine cm rfl ?_ ?_|exact bL hN _ rfl rfl rfl|exact bM hN _ rfl rfl rfl|exact bw hN _ rfl rfl rfl (Or.inr rfl)|(refine bN hN _ rfl rfl (by first|exact Or.inr rfl|exact Or.inl rfl) ?_;first|exact aI _|exact aJ _)|refine bx hN rfl ?_|refine bz hN rfl rfl ?_|exact bu hN _ rfl rfl|exact br hN rfl rfl rfl rfl|(with_reducible first|refine bJ ?_|refine bX ?_|refine bY ?_|refine bZ ?_|refine b7 ?_|refine bW ?_)));(try (any_goals (first|(with_reducible rfl)|(refine aj ?_;omega)))))
   rfl
 obtain rfl : k = g.prio.length:=by omega
 have c1:=cst _ (hlt g.prio.length)
 (repeat' (first|(with_reducible first|(refine hK _ _ ?_;clear hK K)|(refine aa _ ?_;clear aa K)|refine aY ?_|refine bF ?_|refine aR ?_|refine ay ?_|refine ax ?_|refine bG ?_|refine aD ?_|refine aS ?_|refine bH ?_|refine aT ?_|refine aU rfl ?_|refine aZ ?_|refine aV ?_|refine bI ?_|refine aW ?_|refine aC ?_|refine n_k ?_|refine aX ?_|(refine ae ?_;clear ae X af Y)|(refine af ?_;clear ae X af Y))|(with_reducible refine be ?_;first|refine bc rfl ?_|refine bd rfl ?_)|(with_reducible refine aQ ?_;first|refine az rfl rfl rfl rfl ?_|refine aF rfl rfl rfl ?_|refine bh rfl rfl rfl rfl ?_)|((first|(with_reducible first|refine bf rfl rfl fun K hK=>?_|refine bg rfl rfl fun K aa=>?_|refine aE fun X Y ae af=>?_|refine aG ?_));simp (disch:=first|decide|omega|(simp only [List.length_cons,List.length_nil];omega)) only [go_sem,beq_self_eq_true,↓ag,↓ak hN,an hN,reduceIte,reduceCtorEq,Nat.reduceAdd,Nat.reduceLT,Nat.reduceLeDiff,Nat.reduceEqDiff,Nat.reduceSub])|(with_reducible refine And.intro (fun h=>?_) (fun h=>?_) <;> try (exfalso;omega))|(with_reducible refine ba aH hN rfl ?_ ?_;kernel_rfl)|(refine aK (c1) ?_ rfl (fun _=>rfl) ?_;focus ((repeat' (first|(with_reducible first|exact am|refine ah ?_ ?_|exact bA _|refine au ?_|exact aq _|exact aN _ _|refine aM ?_|exact ao _)|exact aw hN rfl rfl|(refine aL hN rfl ?_;first|exact aI _|exact aJ _)|exact ap rfl rfl rfl));done))|(with_reducible first|exact am|refine ah ?_ ?_|exact bA _|refine au ?_|exact aq _|exact aN _ _|refine aM ?_|exact ao _)|exact aw hN rfl rfl|(refine aL hN rfl ?_;first|exact aI _|exact aJ _)|exact ap rfl rfl rfl|(simp only [bE,List.map_nil])|(with_reducible refine bC ?_)|(with_reducible refine And.intro ?_ ?_)|(refine aj ?_;omega)|(exact bi hN (by decide))))
 (refine cK (fun (j : Nat)=>(tmL [(12,.c (.int .i64 (itF f (itF f v g.prio.length) (j + 1) : Nat))),(11,.c (.int .i64 (hvS g (fun j=>(itF f (itF f v g.prio.length) j : Int)) j))),(9,.c (.int .i64 (itF f v g.prio.length : Nat))),(4,.ad (ν 0) 0),(8,.ad (ν 1) 0),(1,.c (.I σ)),(2,.c (.I τ)),(3,.c (.int .i64 v))],hpL hp0 ν [.box [.c (.I g.ar.own),.c (.R g.ar.nxt),.c (.I g.prio)],.box [.c (.int .i64 0),.c .nul,.c (.int .i64 0)]])) (fun (j : Nat)=>j + 1 ≤ p) (fun (j : Nat)=>p - j) ⟨0,?_,ce hX hN [] ?_ ?_⟩ ?_;(repeat' (first|(with_reducible first|exact cf _|exact cg|exact ci|refine cj ?_ ?_|refine ck ?_ ?_|exact bt _|exact b9 _|exact aP _|rfl|exact bK _ _|refine bv ?_|exact cc _|refine bO ?_)|refine cm rfl ?_ ?_|exact bL hN _ rfl rfl rfl|exact bM hN _ rfl rfl rfl|exact bw hN _ rfl rfl rfl (Or.inr rfl)|(refine bN hN _ rfl rfl (by first|exact Or.inr rfl|exact Or.inl rfl) ?_;first|exact aI _|exact aJ _)|refine bx hN rfl ?_|refine bz hN rfl rfl ?_|exact bu hN _ rfl rfl|exact br hN rfl rfl rfl rfl|(with_reducible first|refine bJ ?_|refine bX ?_|refine bY ?_|refine bZ ?_|refine b7 ?_|refine bW ?_)));(try (any_goals (first|(with_reducible rfl)|(refine aj ?_;omega)))))
 all_goals try rfl
 intro j hj
 by_cases hjp : j + 1 < p
 · have hne:=p2 (j + 1) (by omega) hjp
   have c2:=cst _ (hlt2 (j + 1))
   have c3:=fm g (itF f (itF f v g.prio.length) (j + 1) : Nat) (hvS g (fun j=>(itF f (itF f v g.prio.length) j : Int)) j) (by have:=hlt2 (j + 1);exact ⟨by omega,by omega⟩) (hvV j)
   by_cases hh : Hv g (itF f (itF f v g.prio.length) (j + 1) : Nat) (hvS g (fun j=>(itF f (itF f v g.prio.length) j : Int)) j)
   · rw [aO hh] at c3
     (repeat' (first|(with_reducible first|(refine hK _ _ ?_;clear hK K)|(refine aa _ ?_;clear aa K)|refine aY ?_|refine bF ?_|refine aR ?_|refine ay ?_|refine ax ?_|refine bG ?_|refine aD ?_|refine aS ?_|refine bH ?_|refine aT ?_|refine aU rfl ?_|refine aZ ?_|refine aV ?_|refine bI ?_|refine aW ?_|refine aC ?_|refine n_k ?_|refine aX ?_|(refine ae ?_;clear ae X af Y)|(refine af ?_;clear ae X af Y))|(with_reducible refine be ?_;first|refine bc rfl ?_|refine bd rfl ?_)|(with_reducible refine aQ ?_;first|refine az rfl rfl rfl rfl ?_|refine aF rfl rfl rfl ?_|refine bh rfl rfl rfl rfl ?_)|((first|(with_reducible first|refine bf rfl rfl fun K hK=>?_|refine bg rfl rfl fun K aa=>?_|refine aE fun X Y ae af=>?_|refine aG ?_));simp (disch:=first|decide|omega|(simp only [List.length_cons,List.length_nil];omega)) only [go_sem,beq_self_eq_true,↓ag,↓ak hN,an hN,reduceIte,reduceCtorEq,Nat.reduceAdd,Nat.reduceLT,Nat.reduceLeDiff,Nat.reduceEqDiff,Nat.reduceSub])|(with_reducible refine And.intro (fun h=>?_) (fun h=>?_) <;> try (exfalso;omega))|(with_reducible refine ba aH hN rfl ?_ ?_;kernel_rfl)|(refine aK (c3) ?_ rfl (fun _=>rfl) ?_;focus ((repeat' (first|(with_reducible first|exact am|refine ah ?_ ?_|exact bA _|refine au ?_|exact aq _|exact aN _ _|refine aM ?_|exact ao _)|exact aw hN rfl rfl|(refine aL hN rfl ?_;first|exact aI _|exact aJ _)|exact ap rfl rfl rfl));done))|(refine aK (c2) ?_ rfl (fun _=>rfl) ?_;focus ((repeat' (first|(with_reducible first|exact am|refine ah ?_ ?_|exact bA _|refine au ?_|exact aq _|exact aN _ _|refine aM ?_|exact ao _)|exact aw hN rfl rfl|(refine aL hN rfl ?_;first|exact aI _|exact aJ _)|exact ap rfl rfl rfl));done))|(with_reducible first|exact am|refine ah ?_ ?_|exact bA _|refine au ?_|exact aq _|exact aN _ _|refine aM ?_|exact ao _)|exact aw hN rfl rfl|(refine aL hN rfl ?_;first|exact aI _|exact aJ _)|exact ap rfl rfl rfl|(simp only [bE,List.map_nil])|(with_reducible refine bC ?_)|(with_reducible refine And.intro ?_ ?_)|(refine aj ?_;omega)|(exact bi hN (by decide))))
     all_goals first|(exfalso;have hq:=cN (by assumption);exact hne (by omega))|((refine ⟨j + 1,⟨?_,?_⟩,ce hX hN [] ?_ ?_⟩;(try any_goals dsimp only);(repeat' (first|(with_reducible first|exact cf _|exact cg|exact ci|refine cj ?_ ?_|refine ck ?_ ?_|exact bt _|exact b9 _|exact aP _|rfl|exact bK _ _|refine bv ?_|exact cc _|refine bO ?_)|refine cm rfl ?_ ?_|exact bL hN _ rfl rfl rfl|exact bM hN _ rfl rfl rfl|exact bw hN _ rfl rfl rfl (Or.inr rfl)|(refine bN hN _ rfl rfl (by first|exact Or.inr rfl|exact Or.inl rfl) ?_;first|exact aI _|exact aJ _)|refine bx hN rfl ?_|refine bz hN rfl rfl ?_|exact bu hN _ rfl rfl|exact br hN rfl rfl rfl rfl|(with_reducible first|refine bJ ?_|refine bX ?_|refine bY ?_|refine bZ ?_|refine b7 ?_|refine bW ?_)));(try (any_goals (first|(with_reducible rfl)|(refine aj ?_;omega)))));all_goals first|rfl|exact (mo hh).symm)
   · rw [aB hh] at c3
     (repeat' (first|(with_reducible first|(refine hK _ _ ?_;clear hK K)|(refine aa _ ?_;clear aa K)|refine aY ?_|refine bF ?_|refine aR ?_|refine ay ?_|refine ax ?_|refine bG ?_|refine aD ?_|refine aS ?_|refine bH ?_|refine aT ?_|refine aU rfl ?_|refine aZ ?_|refine aV ?_|refine bI ?_|refine aW ?_|refine aC ?_|refine n_k ?_|refine aX ?_|(refine ae ?_;clear ae X af Y)|(refine af ?_;clear ae X af Y))|(with_reducible refine be ?_;first|refine bc rfl ?_|refine bd rfl ?_)|(with_reducible refine aQ ?_;first|refine az rfl rfl rfl rfl ?_|refine aF rfl rfl rfl ?_|refine bh rfl rfl rfl rfl ?_)|((first|(with_reducible first|refine bf rfl rfl fun K hK=>?_|refine bg rfl rfl fun K aa=>?_|refine aE fun X Y ae af=>?_|refine aG ?_));simp (disch:=first|decide|omega|(simp only [List.length_cons,List.length_nil];omega)) only [go_sem,beq_self_eq_true,↓ag,↓ak hN,an hN,reduceIte,reduceCtorEq,Nat.reduceAdd,Nat.reduceLT,Nat.reduceLeDiff,Nat.reduceEqDiff,Nat.reduceSub])|(with_reducible refine And.intro (fun h=>?_) (fun h=>?_) <;> try (exfalso;omega))|(with_reducible refine ba aH hN rfl ?_ ?_;kernel_rfl)|(refine aK (c3) ?_ rfl (fun _=>rfl) ?_;focus ((repeat' (first|(with_reducible first|exact am|refine ah ?_ ?_|exact bA _|refine au ?_|exact aq _|exact aN _ _|refine aM ?_|exact ao _)|exact aw hN rfl rfl|(refine aL hN rfl ?_;first|exact aI _|exact aJ _)|exact ap rfl rfl rfl));done))|(refine aK (c2) ?_ rfl (fun _=>rfl) ?_;focus ((repeat' (first|(with_reducible first|exact am|refine ah ?_ ?_|exact bA _|refine au ?_|exact aq _|exact aN _ _|refine aM ?_|exact ao _)|exact aw hN rfl rfl|(refine aL hN rfl ?_;first|exact aI _|exact aJ _)|exact ap rfl rfl rfl));done))|(with_reducible first|exact am|refine ah ?_ ?_|exact bA _|refine au ?_|exact aq _|exact aN _ _|refine aM ?_|exact ao _)|exact aw hN rfl rfl|(refine aL hN rfl ?_;first|exact aI _|exact aJ _)|exact ap rfl rfl rfl|(simp only [bE,List.map_nil])|(with_reducible refine bC ?_)|(with_reducible refine And.intro ?_ ?_)|(refine aj ?_;omega)|(exact bi hN (by decide))))
     all_goals first|(exfalso;have hq:=cN (by assumption);exact hne (by omega))|((refine ⟨j + 1,⟨?_,?_⟩,ce hX hN [] ?_ ?_⟩;(try any_goals dsimp only);(repeat' (first|(with_reducible first|exact cf _|exact cg|exact ci|refine cj ?_ ?_|refine ck ?_ ?_|exact bt _|exact b9 _|exact aP _|rfl|exact bK _ _|refine bv ?_|exact cc _|refine bO ?_)|refine cm rfl ?_ ?_|exact bL hN _ rfl rfl rfl|exact bM hN _ rfl rfl rfl|exact bw hN _ rfl rfl rfl (Or.inr rfl)|(refine bN hN _ rfl rfl (by first|exact Or.inr rfl|exact Or.inl rfl) ?_;first|exact aI _|exact aJ _)|refine bx hN rfl ?_|refine bz hN rfl rfl ?_|exact bu hN _ rfl rfl|exact br hN rfl rfl rfl rfl|(with_reducible first|refine bJ ?_|refine bX ?_|refine bY ?_|refine bZ ?_|refine b7 ?_|refine bW ?_)));(try (any_goals (first|(with_reducible rfl)|(refine aj ?_;omega)))));all_goals first|rfl|exact (oz hh).symm)
 obtain rfl : p = j + 1:=by omega
 rw [Nat.add_sub_cancel] at p3
 rw [p3,p1]
 (repeat' (first|(with_reducible first|(refine hK _ _ ?_;clear hK K)|(refine aa _ ?_;clear aa K)|refine aY ?_|refine bF ?_|refine aR ?_|refine ay ?_|refine ax ?_|refine bG ?_|refine aD ?_|refine aS ?_|refine bH ?_|refine aT ?_|refine aU rfl ?_|refine aZ ?_|refine aV ?_|refine bI ?_|refine aW ?_|refine aC ?_|refine n_k ?_|refine aX ?_|(refine ae ?_;clear ae X af Y)|(refine af ?_;clear ae X af Y))|(with_reducible refine be ?_;first|refine bc rfl ?_|refine bd rfl ?_)|(with_reducible refine aQ ?_;first|refine az rfl rfl rfl rfl ?_|refine aF rfl rfl rfl ?_|refine bh rfl rfl rfl rfl ?_)|((first|(with_reducible first|refine bf rfl rfl fun K hK=>?_|refine bg rfl rfl fun K aa=>?_|refine aE fun X Y ae af=>?_|refine aG ?_));simp (disch:=first|decide|omega|(simp only [List.length_cons,List.length_nil];omega)) only [go_sem,beq_self_eq_true,↓ag,↓ak hN,an hN,reduceIte,reduceCtorEq,Nat.reduceAdd,Nat.reduceLT,Nat.reduceLeDiff,Nat.reduceEqDiff,Nat.reduceSub])|(with_reducible refine And.intro (fun h=>?_) (fun h=>?_) <;> try (exfalso;omega))|(with_reducible refine ba aH hN rfl ?_ ?_;kernel_rfl)|(with_reducible refine And.intro ?_ ?_)|(refine aj ?_;omega)|(exact bi hN (by decide))))
 · exact absurd trivial (by assumption)
 (refine cK (fun (i : Nat)=>(tmL [(14,.c (.int .i64 (itF f v i : Nat))),(11,.c (.int .i64 (hdF g f v : Nat))),(13,.ad (ν 2) 0),(4,.ad (ν 0) 0),(8,.ad (ν 1) 0),(1,.c (.I σ)),(2,.c (.I τ))],hpL hp0 ν [.box [.c (.I g.ar.own),.c (.R g.ar.nxt),.c (.I g.prio)],.box [.c (.int .i64 0),.c .nul,.c (.int .i64 0)],.box [.c (.int .i64 (hdF g f v : Nat)),.sl (ν 3),.c (.int .i64 i)],.arr 2 .may (.I (lst (OvI g f v i) g.prio.length))])) (fun (i : Nat)=>i ≤ wyF g f v) (fun (i : Nat)=>wyF g f v - i) ⟨0,?_,ce hX hN [] ?_ ?_⟩ ?_;(repeat' (first|(with_reducible first|exact cf _|exact cg|exact ci|refine cj ?_ ?_|refine ck ?_ ?_|exact bt _|exact b9 _|exact aP _|rfl|exact bK _ _|refine bv ?_|exact cc _|refine bO ?_)|refine cm rfl ?_ ?_|exact bL hN _ rfl rfl rfl|exact bM hN _ rfl rfl rfl|exact bw hN _ rfl rfl rfl (Or.inr rfl)|(refine bN hN _ rfl rfl (by first|exact Or.inr rfl|exact Or.inl rfl) ?_;first|exact aI _|exact aJ _)|refine bx hN rfl ?_|refine bz hN rfl rfl ?_|exact bu hN _ rfl rfl|exact br hN rfl rfl rfl rfl|(with_reducible first|refine bJ ?_|refine bX ?_|refine bY ?_|refine bZ ?_|refine b7 ?_|refine bW ?_)));(try (any_goals (first|(with_reducible rfl)|(refine aj ?_;omega)))))
 all_goals try rfl
 · rw [e0];exact br hN rfl rfl rfl rfl
 intro i hi
 by_cases hid : i < wyF g f v
 · have hne:=w2 i hid
   have c2:=cst _ (hlt i)
   have c3:=fm g (itF f v i : Nat) (hdF g f v : Nat) (by have:=hlt i;exact ⟨by omega,by omega⟩) ⟨by omega,by omega⟩
   have hoi:=hoi i
   by_cases hh : Hv g (itF f v i : Nat) (hdF g f v : Nat)
   · rw [aO hh] at c3
     have hno : ¬ ((itF f v i : Nat) : Int) ∈ lst (OvI g f v i) g.prio.length:=fun hm=>by
      obtain ⟨y,_,⟨_,j,h,h2⟩,e⟩:=fu.1 hm
      exact sx hf hv hid h (by omega)
     have c4:=qx _ _ (hset i) hno (by omega)
     rw [tK hf hv hh hno] at c4
     (repeat' (first|(with_reducible first|(refine hK _ _ ?_;clear hK K)|(refine aa _ ?_;clear aa K)|refine aY ?_|refine bF ?_|refine aR ?_|refine ay ?_|refine ax ?_|refine bG ?_|refine aD ?_|refine aS ?_|refine bH ?_|refine aT ?_|refine aU rfl ?_|refine aZ ?_|refine aV ?_|refine bI ?_|refine aW ?_|refine aC ?_|refine n_k ?_|refine aX ?_|(refine ae ?_;clear ae X af Y)|(refine af ?_;clear ae X af Y))|(with_reducible refine be ?_;first|refine bc rfl ?_|refine bd rfl ?_)|(with_reducible refine aQ ?_;first|refine az rfl rfl rfl rfl ?_|refine aF rfl rfl rfl ?_|refine bh rfl rfl rfl rfl ?_)|((first|(with_reducible first|refine bf rfl rfl fun K hK=>?_|refine bg rfl rfl fun K aa=>?_|refine aE fun X Y ae af=>?_|refine aG ?_));simp (disch:=first|decide|omega|(simp only [List.length_cons,List.length_nil];omega)) only [go_sem,beq_self_eq_true,↓ag,↓ak hN,an hN,reduceIte,reduceCtorEq,Nat.reduceAdd,Nat.reduceLT,Nat.reduceLeDiff,Nat.reduceEqDiff,Nat.reduceSub])|(with_reducible refine And.intro (fun h=>?_) (fun h=>?_) <;> try (exfalso;omega))|(with_reducible refine ba aH hN rfl ?_ ?_;kernel_rfl)|((first|refine aK (c3) ?_ rfl (fun _=>rfl) ?_|refine aK (c4) ?_ rfl (fun _=>rfl) ?_);focus ((repeat' (first|(with_reducible first|exact am|refine ah ?_ ?_|exact bA _|refine au ?_|exact aq _|exact aN _ _|refine aM ?_|exact ao _)|exact aw hN rfl rfl|(refine aL hN rfl ?_;first|exact aI _|exact aJ _)|exact ap rfl rfl rfl));done))|(refine aK (c2) ?_ rfl (fun _=>rfl) ?_;focus ((repeat' (first|(with_reducible first|exact am|refine ah ?_ ?_|exact bA _|refine au ?_|exact aq _|exact aN _ _|refine aM ?_|exact ao _)|exact aw hN rfl rfl|(refine aL hN rfl ?_;first|exact aI _|exact aJ _)|exact ap rfl rfl rfl));done))|(with_reducible first|exact am|refine ah ?_ ?_|exact bA _|refine au ?_|exact aq _|exact aN _ _|refine aM ?_|exact ao _)|exact aw hN rfl rfl|(refine aL hN rfl ?_;first|exact aI _|exact aJ _)|exact ap rfl rfl rfl|(simp only [bE,List.map_nil])|(with_reducible refine bC ?_)|(with_reducible refine And.intro ?_ ?_)|(refine aj ?_;omega)|(exact bi hN (by decide))))
     all_goals first|(exfalso;have hq:=cN (by assumption);exact hne (by omega))|((refine ⟨i + 1,⟨?_,?_⟩,ce hX hN [(3,4)] ?_ ?_⟩;(try any_goals dsimp only);(repeat' (first|(with_reducible first|exact cf _|exact cg|exact ci|refine cj ?_ ?_|refine ck ?_ ?_|exact bt _|exact b9 _|exact aP _|rfl|exact bK _ _|refine bv ?_|exact cc _|refine bO ?_)|refine cm rfl ?_ ?_|exact bL hN _ rfl rfl rfl|exact bM hN _ rfl rfl rfl|exact bw hN _ rfl rfl rfl (Or.inr rfl)|(refine bN hN _ rfl rfl (by first|exact Or.inr rfl|exact Or.inl rfl) ?_;first|exact aI _|exact aJ _)|refine bx hN rfl ?_|refine bz hN rfl rfl ?_|exact bu hN _ rfl rfl|exact br hN rfl rfl rfl rfl|(with_reducible first|refine bJ ?_|refine bX ?_|refine bY ?_|refine bZ ?_|refine b7 ?_|refine bW ?_)));(try (any_goals (first|(with_reducible rfl)|(refine aj ?_;omega)))));all_goals rfl)
   · rw [aB hh] at c3
     (repeat' (first|(with_reducible first|(refine hK _ _ ?_;clear hK K)|(refine aa _ ?_;clear aa K)|refine aY ?_|refine bF ?_|refine aR ?_|refine ay ?_|refine ax ?_|refine bG ?_|refine aD ?_|refine aS ?_|refine bH ?_|refine aT ?_|refine aU rfl ?_|refine aZ ?_|refine aV ?_|refine bI ?_|refine aW ?_|refine aC ?_|refine n_k ?_|refine aX ?_|(refine ae ?_;clear ae X af Y)|(refine af ?_;clear ae X af Y))|(with_reducible refine be ?_;first|refine bc rfl ?_|refine bd rfl ?_)|(with_reducible refine aQ ?_;first|refine az rfl rfl rfl rfl ?_|refine aF rfl rfl rfl ?_|refine bh rfl rfl rfl rfl ?_)|((first|(with_reducible first|refine bf rfl rfl fun K hK=>?_|refine bg rfl rfl fun K aa=>?_|refine aE fun X Y ae af=>?_|refine aG ?_));simp (disch:=first|decide|omega|(simp only [List.length_cons,List.length_nil];omega)) only [go_sem,beq_self_eq_true,↓ag,↓ak hN,an hN,reduceIte,reduceCtorEq,Nat.reduceAdd,Nat.reduceLT,Nat.reduceLeDiff,Nat.reduceEqDiff,Nat.reduceSub])|(with_reducible refine And.intro (fun h=>?_) (fun h=>?_) <;> try (exfalso;omega))|(with_reducible refine ba aH hN rfl ?_ ?_;kernel_rfl)|(refine aK (c3) ?_ rfl (fun _=>rfl) ?_;focus ((repeat' (first|(with_reducible first|exact am|refine ah ?_ ?_|exact bA _|refine au ?_|exact aq _|exact aN _ _|refine aM ?_|exact ao _)|exact aw hN rfl rfl|(refine aL hN rfl ?_;first|exact aI _|exact aJ _)|exact ap rfl rfl rfl));done))|(refine aK (c2) ?_ rfl (fun _=>rfl) ?_;focus ((repeat' (first|(with_reducible first|exact am|refine ah ?_ ?_|exact bA _|refine au ?_|exact aq _|exact aN _ _|refine aM ?_|exact ao _)|exact aw hN rfl rfl|(refine aL hN rfl ?_;first|exact aI _|exact aJ _)|exact ap rfl rfl rfl));done))|(with_reducible first|exact am|refine ah ?_ ?_|exact bA _|refine au ?_|exact aq _|exact aN _ _|refine aM ?_|exact ao _)|exact aw hN rfl rfl|(refine aL hN rfl ?_;first|exact aI _|exact aJ _)|exact ap rfl rfl rfl|(simp only [bE,List.map_nil])|(with_reducible refine bC ?_)|(with_reducible refine And.intro ?_ ?_)|(refine aj ?_;omega)|(exact bi hN (by decide))))
     all_goals first|(exfalso;have hq:=cN (by assumption);exact hne (by omega))|((refine ⟨i + 1,⟨?_,?_⟩,ce hX hN [] ?_ ?_⟩;(try any_goals dsimp only);(repeat' (first|(with_reducible first|exact cf _|exact cg|exact ci|refine cj ?_ ?_|refine ck ?_ ?_|exact bt _|exact b9 _|exact aP _|rfl|exact bK _ _|refine bv ?_|exact cc _|refine bO ?_)|refine cm rfl ?_ ?_|exact bL hN _ rfl rfl rfl|exact bM hN _ rfl rfl rfl|exact bw hN _ rfl rfl rfl (Or.inr rfl)|(refine bN hN _ rfl rfl (by first|exact Or.inr rfl|exact Or.inl rfl) ?_;first|exact aI _|exact aJ _)|refine bx hN rfl ?_|refine bz hN rfl rfl ?_|exact bu hN _ rfl rfl|exact br hN rfl rfl rfl rfl|(with_reducible first|refine bJ ?_|refine bX ?_|refine bY ?_|refine bZ ?_|refine b7 ?_|refine bW ?_)));(try (any_goals (first|(with_reducible rfl)|(refine aj ?_;omega)))));all_goals first|rfl|exact sv hh|exact (sv hh).symm)
 obtain rfl : i = wyF g f v:=by omega
 rw [w1]
 (repeat' (first|(with_reducible first|(refine hK _ _ ?_;clear hK K)|(refine aa _ ?_;clear aa K)|refine aY ?_|refine bF ?_|refine aR ?_|refine ay ?_|refine ax ?_|refine bG ?_|refine aD ?_|refine aS ?_|refine bH ?_|refine aT ?_|refine aU rfl ?_|refine aZ ?_|refine aV ?_|refine bI ?_|refine aW ?_|refine aC ?_|refine n_k ?_|refine aX ?_|(refine ae ?_;clear ae X af Y)|(refine af ?_;clear ae X af Y))|(with_reducible refine be ?_;first|refine bc rfl ?_|refine bd rfl ?_)|(with_reducible refine aQ ?_;first|refine az rfl rfl rfl rfl ?_|refine aF rfl rfl rfl ?_|refine bh rfl rfl rfl rfl ?_)|((first|(with_reducible first|refine bf rfl rfl fun K hK=>?_|refine bg rfl rfl fun K aa=>?_|refine aE fun X Y ae af=>?_|refine aG ?_));simp (disch:=first|decide|omega|(simp only [List.length_cons,List.length_nil];omega)) only [go_sem,beq_self_eq_true,↓ag,↓ak hN,an hN,reduceIte,reduceCtorEq,Nat.reduceAdd,Nat.reduceLT,Nat.reduceLeDiff,Nat.reduceEqDiff,Nat.reduceSub])|(with_reducible refine And.intro (fun h=>?_) (fun h=>?_) <;> try (exfalso;omega))|(with_reducible refine ba aH hN rfl ?_ ?_;kernel_rfl)|(with_reducible refine And.intro ?_ ?_)|(refine aj ?_;omega)|(exact bi hN (by decide))))
 all_goals first|(exact absurd trivial (by assumption))|((refine gK hN [3] (by decide) (.inr rfl) (by first|exact dD rfl rfl|exact dm hN rfl rfl rfl rfl|exact dc hN rfl rfl rfl rfl rfl|(simp (disch:=first|decide|omega|(simp only [List.length_cons,List.length_nil];omega)) only [cy,cB,cD,cE,go_sem,beq_self_eq_true,↓ag,↓ak hN,an hN,reduceIte,reduceCtorEq,Nat.reduceAdd,Nat.reduceLT,Nat.reduceLeDiff,Nat.reduceEqDiff,Nat.reduceSub];rfl)|rfl) ?_ fun νs hνs=>?_;(repeat' (first|exact Gone.nil|(refine Gone.cons rfl rfl ?_ ?_)|(with_reducible refine fh ?_)|(with_reducible refine fg ?_)|(with_reducible refine SVs.cons ?_ ?_)|(with_reducible exact SVs.nil)|(simp only [List.drop,List.take])|(simp (disch:=first|decide|omega) only [↓ag,reduceIte,reduceCtorEq,Nat.reduceEqDiff])|(with_reducible exact kw _)|(with_reducible exact fe _)|(exact ff rfl rfl rfl)|(exact gJ 0 (by simp) rfl rfl)|(refine gI hN rfl (fi hN (by decide)) ?_)|(with_reducible refine gH ?_)|(with_reducible rfl)|(with_reducible refine bX ?_)|(with_reducible refine bY ?_)|(with_reducible refine bZ ?_)|(with_reducible refine b7 ?_)|(with_reducible refine bW ?_)|(refine aj ?_;omega))));all_goals rfl)
end Go.Proofs.Ytiadchinhofieaa
