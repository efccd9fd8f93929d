/-
  Solved and PlanFrom: the program's side.
-/
import Derived.Test.YtfaefmabjjndeaaZeE14
import Derived.Test.YtfaefmabjjndeaaZeD5
import Derived.Test.YtfaefmabjjndeaaZeE15
import Derived.Test.YtfaefmabjjndeaaZeNp
namespace Go.Proofs.Ytfaefmabjjndeaa
set_option linter.unusedVariables false
set_option linter.unusedSimpArgs false
open Go.RowKit
def gP (g : Pa) (W : List Int) (i : Int) (ps : List Int) : Prop:=∀ v : Nat,(v : Int) ∈ atL W i → PG.Won (pgP (dj g ps)) i (fun v : Nat=>(v : Int) ∈ atL W i) v
noncomputable def eQ (g : Pa) (W : List Int) (v : Nat) (ps : List Int) : List Int → Int
 | [] => -1
 | u :: us => if tf (gi W u.toNat = gi W v ∧ gP g W (gi W v) (ps.set v u)) then u else eQ g W v ps us
noncomputable def gu (g : Pa) (W ps : List Int) (v : Nat) : List Int:=if gi g.ar.own v = gi W v ∧ gi ps v < 0 then ps.set v (eQ g W v ps (gr g.ar.nxt v)) else ps
noncomputable def dP (g : Pa) (W ps : List Int) : Nat → List Int
 | 0 => ps
 | k + 1 => gu g W (dP g W ps k) k
structure PickOk (g : Pa) (ps : List Int) : Prop where
 pk : ec g ps
 in' : ∀ v,v < g.prio.length → 0 ≤ gi ps v → gi g.ar.own v = gi (bT g) v ∧ gi (bT g) (gi ps v).toNat = gi (bT g) v
theorem ee {g : Pa} (hg : PaOk g) {v t : Nat} (hv : v < g.prio.length) (ht : t < (gr g.ar.nxt v).length) : 0 ≤ gi (gr g.ar.nxt v) t ∧ gi (gr g.ar.nxt v) t < g.prio.length:=by
 have hl:=hg.len
 have:=(hg.ar.vert v (by omega)).2.2.2.2 t ht
 exact ⟨this.1,by omega⟩
theorem xn {g : Pa} (hg : PaOk g) {v t : Nat} (hv : v < g.prio.length) (ht : t < (gr g.ar.nxt v).length) : (pgP g).E v (gi (gr g.ar.nxt v) t).toNat:=by
 have:=ee hg hv ht
 exact (fK _ _).2 ⟨hv,by omega,t,ht,by omega⟩
theorem kA {g : Pa} (hg : PaOk g) {v : Nat} (hv : v < g.prio.length) : (∃ t,t < (gr g.ar.nxt v).length ∧ gi (bT g) (gi (gr g.ar.nxt v) t).toNat = gi (bT g) v) ∧ (gi g.ar.own v ≠ gi (bT g) v → ∀ t,t < (gr g.ar.nxt v).length → gi (bT g) (gi (gr g.ar.nxt v) t).toNat = gi (bT g) v):=by
 have hl:=hg.len
 have hi:=hZ (g:=g) hv
 obtain ⟨⟨σ,d⟩,_⟩:=PG.won_for (G:=pgP g) jF uZ (fW hg) hi
 have hw : PG.Won (pgP g) (gi (bT g) v) (fD g) v:=(i5 hg hv hi).1 rfl
 have hall : gi g.ar.own v ≠ gi (bT g) v → ∀ t,t < (gr g.ar.nxt v).length → gi (bT g) (gi (gr g.ar.nxt v) t).toNat = gi (bT g) v:=fun ho t ht=>by
  have hb:=ee hg hv ht
  have:=d.yours v _ hw (by rw [jH hg hv];exact ho) (xn hg hv ht) (show _ < _ by omega)
  exact (i5 hg (by omega) hi).2 this
 refine ⟨?_,hall⟩
 by_cases ho : gi g.ar.own v = gi (bT g) v
 · obtain ⟨b1,b2⟩:=d.mine v hw (by rw [jH hg hv];exact ho)
   obtain ⟨_,h2,t,ht,e⟩:=(fK _ _).1 b1
   exact ⟨t,ht,by rw [e,Int.toNat_natCast];exact (i5 hg h2 hi).2 b2⟩
 · obtain ⟨_,_,h3,_⟩:=hg.ar.vert v (by omega)
   exact ⟨0,by omega,hall ho 0 (by omega)⟩
theorem ew {g : Pa} {i : Int} {v : Nat} : (v : Int) ∈ atL (bT g) i ↔ v < g.prio.length ∧ gi (bT g) v = i:=by
 rw [i4,eb]
 constructor
 · rintro ⟨u,h1,h2,h3⟩
   have : u = v:=by omega
   subst this;exact ⟨h1,h3⟩
 · rintro ⟨h1,h2⟩;exact ⟨v,h1,rfl,h2⟩
theorem gQ {g : Pa} {i x : Int} (h0 : 0 ≤ x) : x ∈ atL (bT g) i ↔ x < g.prio.length ∧ gi (bT g) x.toNat = i:=by
 have:=ew (g:=g) (i:=i) (v:=x.toNat)
 rw [Int.toNat_of_nonneg h0] at this
 rw [this]
 exact ⟨fun h=>⟨by omega,h.2⟩,fun h=>⟨by omega,h.2⟩⟩
theorem gR {g : Pa} (hg : PaOk g) {ps : List Int} (h : PickOk g ps) (i : Int) : kw (dj g ps).ar (atL (bT g) i):=by
 have hl:=hg.len
 have hs:=jq (bT g) i
 rw [eb] at hs
 refine ⟨by rw [show (dj g ps).ar.own = g.ar.own from rfl,← hl];exact hs,fun k hk=>?_⟩
 have h0:=hs k hk
 have hm:=dI hk
 obtain ⟨h1,h2⟩:=(gQ h0.1).1 hm
 have hv : (gi (atL (bT g) i) k).toNat < g.prio.length:=by omega
 generalize (gi (atL (bT g) i) k).toNat = v at *
 rw [show gr (dj g ps).ar.nxt v = cS g.ar.nxt ps v from dM _ (by omega)]
 unfold cS
 split
 · rename_i hp
   refine ⟨0,by simp,?_⟩
   show gi ps v ∈ _
   obtain ⟨h3,h4⟩:=h.in' v hv hp
   rcases h.pk.2 v (by have:=h.pk.1;omega) with e|e
   · omega
   · obtain ⟨t,ht,e'⟩:=cX e
     have:=ee hg hv ht
     rw [e'] at this
     exact (gQ hp).2 ⟨this.2,h4.trans h2⟩
 · obtain ⟨t,ht,e⟩:=(kA hg hv).1
   have:=ee hg hv ht
   exact ⟨t,ht,(gQ this.1).2 ⟨this.2,e.trans h2⟩⟩
theorem kB {g : Pa} (hg : PaOk g) {ps : List Int} (h : PickOk g ps) {v : Nat} (hv : v < g.prio.length) (ho : gi g.ar.own v = gi (bT g) v) {u : Int} (hu : u ∈ gr g.ar.nxt v) (hw : gi (bT g) u.toNat = gi (bT g) v) : PickOk g (ps.set v u):=by
 have h1:=h.pk.1
 have hlt : v < ps.length:=by omega
 refine ⟨⟨by rw [List.length_set];exact h1,fun x hx=>?_⟩,fun x hx hp=>?_⟩
 · rw [List.length_set] at hx
   rw [c8 hlt]
   split
   · rename_i e;subst e;exact .inr hu
   · exact h.pk.2 x hx
 · rw [c8 hlt] at hp ⊢
   split at hp
   · rename_i e;subst e;rw [if_pos rfl];exact ⟨ho,hw⟩
   · rename_i e;rw [if_neg e];exact h.in' x hx hp
theorem qf {ps : List Int} {v : Nat} (h : gi ps v = -1) : ps.set v (-1) = ps:=pa h
theorem kC (g : Pa) (W : List Int) (v : Nat) (ps : List Int) : ∀ us : List Int,eQ g W v ps us = -1 ∨ (eQ g W v ps us ∈ us ∧ gi W (eQ g W v ps us).toNat = gi W v ∧ gP g W (gi W v) (ps.set v (eQ g W v ps us))):=by
 intro us
 induction us with
 | nil => exact .inl rfl
 | cons u us ih =>
   unfold eQ
   by_cases h : gi W u.toNat = gi W v ∧ gP g W (gi W v) (ps.set v u)
   · rw [bV h,sF]
     exact .inr ⟨List.mem_cons_self,h.1,h.2⟩
   · rw [aX h,um]
     rcases ih with h'|⟨h1,h2⟩
     · exact .inl h'
     · exact .inr ⟨List.mem_cons_of_mem _ h1,h2⟩
theorem tu {g : Pa} (hg : PaOk g) {ps : List Int} (h : PickOk g ps) {v : Nat} (hv : v < g.prio.length) : PickOk g (gu g (bT g) ps v):=by
 unfold gu
 split
 · rename_i hc
   rcases kC g (bT g) v ps (gr g.ar.nxt v) with e|⟨h1,h2,_⟩
   · rw [e]
     have : gi ps v = -1:=by
      rcases h.pk.2 v (by have:=h.pk.1;omega) with e|e
      · exact e
      · obtain ⟨t,ht,e'⟩:=cX e
        have:=ee hg hv ht
        omega
     rw [qf this];exact h
   · exact kB hg h hv hc.1 h1 h2
 · exact h
theorem gS {g : Pa} (hg : PaOk g) {ps : List Int} (h : PickOk g ps) : ∀ k,k ≤ g.prio.length → PickOk g (dP g (bT g) ps k):=by
 intro k
 induction k with
 | zero => intro _; exact h
 | succ k ih => intro hk; exact tu hg (ih (by omega)) (by omega)
end Go.Proofs.Ytfaefmabjjndeaa
namespace Go.Proofs.Ytfaefmabjjndeaa
set_option linter.unusedVariables false
set_option linter.unusedSimpArgs false
open Go.RowKit
attribute [local irreducible] aL cQ Aw Le
theorem pf (a : Ar) (ha : ArOk a) (ps : List Int) (hp : ps.length = a.own.length) : fx Try.prog 162 (fun ν=>[arA a,.sl (ν 0)]) [.arr 2 .yes (.I ps)] [.arr 2 .yes (.I ps)] [] (fun _=>arA (cN a ps)):=by
 have hle:=ha.le
 have hln:=ha.len
 have hca:=jG a (by omega) (by omega) fun k hk=>by have:=(ha.vert k (by omega)).2.2.2.1;omega
 (refine iy aK Try.func162 rfl rfl (fun _=>by kernel_rfl) rfl rfl rfl rfl (by first|exact mG _|exact kr (j:=0) (by simp) (by simp [Ent.kind])|exact kt (j:=0) (by simp) (by simp [Ent.kind])|exact iw rfl|exact jn|exact mH _) fun hp0 ν hX hN=>?_;simp only [cG,Nat.reduceAdd])
 (repeat' (first|(with_reducible first|(refine hK _ _ ?_;clear hK K)|(refine aa _ ?_;clear aa K)|refine bh ?_|refine bX ?_|refine a9 ?_|refine aq ?_|refine ap ?_|refine bY ?_|refine aG ?_|refine ba ?_|refine bZ ?_|refine bc ?_|refine bd rfl ?_|refine bi ?_|refine be ?_|refine b7 ?_|refine bf ?_|refine aF ?_|refine n_k ?_|refine bg ?_|(refine ae ?_;clear ae X af Y)|(refine af ?_;clear ae X af Y))|(with_reducible refine bo ?_;first|refine bm rfl ?_|refine bn rfl ?_)|(with_reducible refine aQ ?_;first|refine au rfl rfl rfl rfl ?_|refine aI rfl rfl rfl ?_|refine bt rfl rfl rfl rfl ?_)|((first|(with_reducible first|refine bp rfl rfl fun K hK=>?_|refine br rfl rfl fun K aa=>?_|refine aH fun X Y ae af=>?_|refine aJ ?_));simp (disch:=first|decide|omega|(simp only [List.length_cons,List.length_nil];omega)) only [go_sem,beq_self_eq_true,↓aj,↓ak hN,am hN,reduceIte,reduceCtorEq,Nat.reduceAdd,Nat.reduceLT,Nat.reduceLeDiff,Nat.reduceEqDiff,Nat.reduceSub])|(with_reducible refine And.intro (fun h=>?_) (fun h=>?_) <;> try (exfalso;omega))|(with_reducible refine bj aK hN rfl ?_ ?_;kernel_rfl)|(refine dQ (hca) ?_ rfl rfl ?_;focus ((repeat' (first|(with_reducible first|exact ax|refine ao ?_ ?_|exact cg _|refine bv ?_|exact a8 _|exact bJ _ _|refine bI ?_|exact aY _)|exact bw hN rfl rfl|(refine bG hN rfl ?_;first|exact aM _|exact aN _)|exact aZ rfl rfl rfl));done))|(with_reducible first|exact ax|refine ao ?_ ?_|exact cg _|refine bv ?_|exact a8 _|exact bJ _ _|refine bI ?_|exact aY _)|exact bw hN rfl rfl|(refine bG hN rfl ?_;first|exact aM _|exact aN _)|exact aZ rfl rfl rfl|(simp only [bW,List.map_nil])|(with_reducible refine b8 ?_)|(with_reducible refine And.intro ?_ ?_)|(refine ah ?_;omega)|(exact bu hN (by decide))))
 (refine cj (fun (k : Nat)=>(tmL [(12,.c (.int .i64 k)),(11,.c (.int .i64 ps.length)),(10,.sl (ν 0)),(5,.ad (ν 5) 0),(4,.ad (ν 2) 0)],hpL hp0 ν [.arr 2 .yes (.I ps),.dead,.box [.c .nul,.c .nul],.arr 2 .yes (.I a.own),.arr 27 .yes (.R (di a.own.length fun v=>if v < k then cS a.nxt ps v else gr a.nxt v)),.box [.sl (ν 3),.sl (ν 4)]])) (fun (k : Nat)=>k ≤ ps.length) (fun (k : Nat)=>ps.length - k) ⟨0,?_,bU hX hN [] ?_ ?_⟩ ?_;(repeat' (first|(with_reducible first|exact bN _|exact bO|exact bP|refine bQ ?_ ?_|refine bR ?_ ?_|exact ay _|exact bL _|exact an _|rfl|exact aS _ _|refine aA ?_|exact bM _|refine aV ?_)|refine bS rfl ?_ ?_|exact aT hN _ rfl rfl rfl|exact aU hN _ rfl rfl rfl|exact aB hN _ rfl rfl rfl (Or.inr rfl)|(refine aP hN _ rfl rfl (by first|exact Or.inr rfl|exact Or.inl rfl) ?_;first|exact aM _|exact aN _)|refine aC hN rfl ?_|refine aD hN rfl rfl ?_|exact az hN _ rfl rfl|exact aE hN rfl rfl rfl rfl|(with_reducible first|refine aR ?_|refine bA ?_|refine bC ?_|refine bD ?_|refine bB ?_|refine bz ?_)));(try (any_goals (first|(with_reducible rfl)|(refine ah ?_;omega)))))
 · exact (j1 hln fun k hk=>rfl).symm
 intro k hk
 have htl:=er a.own.length fun v=>if v < k then cS a.nxt ps v else gr a.nxt v
 (repeat' (first|(with_reducible first|(refine hK _ _ ?_;clear hK K)|(refine aa _ ?_;clear aa K)|refine bh ?_|refine bX ?_|refine a9 ?_|refine aq ?_|refine ap ?_|refine bY ?_|refine aG ?_|refine ba ?_|refine bZ ?_|refine bc ?_|refine bd rfl ?_|refine bi ?_|refine be ?_|refine b7 ?_|refine bf ?_|refine aF ?_|refine n_k ?_|refine bg ?_|(refine ae ?_;clear ae X af Y)|(refine af ?_;clear ae X af Y))|(with_reducible refine bo ?_;first|refine bm rfl ?_|refine bn rfl ?_)|(with_reducible refine aQ ?_;first|refine au rfl rfl rfl rfl ?_|refine aI rfl rfl rfl ?_|refine bt rfl rfl rfl rfl ?_)|((first|(with_reducible first|refine bp rfl rfl fun K hK=>?_|refine br rfl rfl fun K aa=>?_|refine aH fun X Y ae af=>?_|refine aJ ?_));simp (disch:=first|decide|omega|(simp only [List.length_cons,List.length_nil];omega)) only [go_sem,beq_self_eq_true,↓aj,↓ak hN,am hN,reduceIte,reduceCtorEq,Nat.reduceAdd,Nat.reduceLT,Nat.reduceLeDiff,Nat.reduceEqDiff,Nat.reduceSub])|(with_reducible refine And.intro (fun h=>?_) (fun h=>?_) <;> try (exfalso;omega))|(with_reducible refine bj aK hN rfl ?_ ?_;kernel_rfl)|(with_reducible refine And.intro ?_ ?_)|(refine ah ?_;omega)|(exact bu hN (by decide))))
 · (refine ⟨k + 1,⟨?_,?_⟩,bU hX hN [] ?_ ?_⟩;(try any_goals dsimp only);(repeat' (first|(with_reducible first|exact bN _|exact bO|exact bP|refine bQ ?_ ?_|refine bR ?_ ?_|exact ay _|exact bL _|exact an _|rfl|exact aS _ _|refine aA ?_|exact bM _|refine aV ?_)|refine bS rfl ?_ ?_|exact aT hN _ rfl rfl rfl|exact aU hN _ rfl rfl rfl|exact aB hN _ rfl rfl rfl (Or.inr rfl)|(refine aP hN _ rfl rfl (by first|exact Or.inr rfl|exact Or.inl rfl) ?_;first|exact aM _|exact aN _)|refine aC hN rfl ?_|refine aD hN rfl rfl ?_|exact az hN _ rfl rfl|exact aE hN rfl rfl rfl rfl|(with_reducible first|refine aR ?_|refine bA ?_|refine bC ?_|refine bD ?_|refine bB ?_|refine bz ?_)));(try (any_goals (first|(with_reducible rfl)|(refine ah ?_;omega)))))
   exact uX (by omega) (by unfold cS;rw [if_pos (by assumption)])
 · (refine ⟨k + 1,⟨?_,?_⟩,bU hX hN [] ?_ ?_⟩;(try any_goals dsimp only);(repeat' (first|(with_reducible first|exact bN _|exact bO|exact bP|refine bQ ?_ ?_|refine bR ?_ ?_|exact ay _|exact bL _|exact an _|rfl|exact aS _ _|refine aA ?_|exact bM _|refine aV ?_)|refine bS rfl ?_ ?_|exact aT hN _ rfl rfl rfl|exact aU hN _ rfl rfl rfl|exact aB hN _ rfl rfl rfl (Or.inr rfl)|(refine aP hN _ rfl rfl (by first|exact Or.inr rfl|exact Or.inl rfl) ?_;first|exact aM _|exact aN _)|refine aC hN rfl ?_|refine aD hN rfl rfl ?_|exact az hN _ rfl rfl|exact aE hN rfl rfl rfl rfl|(with_reducible first|refine aR ?_|refine bA ?_|refine bC ?_|refine bD ?_|refine bB ?_|refine bz ?_)));(try (any_goals (first|(with_reducible rfl)|(refine ah ?_;omega)))))
   exact qe (by unfold cS;rw [if_neg (by assumption)])
 · rw [lR (by omega)]
   (refine ⟨.inr rfl,_,(by first|exact cL rfl rfl|exact cF hN rfl rfl rfl rfl|exact cy hN rfl rfl rfl rfl rfl|(simp (disch:=first|decide|omega|(simp only [List.length_cons,List.length_nil];omega)) only [ci,cu,cw,cx,go_sem,beq_self_eq_true,↓aj,↓ak hN,am hN,reduceIte,reduceCtorEq,Nat.reduceAdd,Nat.reduceLT,Nat.reduceLeDiff,Nat.reduceEqDiff,Nat.reduceSub];rfl)|rfl),[],_,rfl,?_,rfl,?_⟩;(all_goals try simp only [List.drop,List.take,List.cons_append,List.nil_append,nmL,List.length_cons,List.length_nil,Nat.reduceAdd,List.getD_cons_zero]);(repeat' (first|(with_reducible first|exact bN _|exact bO|exact bP|refine bQ ?_ ?_|refine bR ?_ ?_|exact ay _|exact bL _|exact an _|rfl|exact aS _ _|refine aA ?_|exact bM _|refine aV ?_)|refine bS rfl ?_ ?_|exact aT hN _ rfl rfl rfl|exact aU hN _ rfl rfl rfl|exact aB hN _ rfl rfl rfl (Or.inr rfl)|(refine aP hN _ rfl rfl (by first|exact Or.inr rfl|exact Or.inl rfl) ?_;first|exact aM _|exact aN _)|refine aC hN rfl ?_|refine aD hN rfl rfl ?_|exact az hN _ rfl rfl|exact aE hN rfl rfl rfl rfl|(with_reducible first|refine aR ?_|refine bA ?_|refine bC ?_|refine bD ?_|refine bB ?_|refine bz ?_))))
theorem rq (g : Pa) (hg : PaOk g) (ps : List Int) (hp : ps.length = g.prio.length) : fx Try.prog 104 (fun ν=>[paA g,.sl (ν 0)]) [.arr 2 .yes (.I ps)] [.arr 2 .yes (.I ps)] [] (fun _=>paA (dj g ps)):=by
 have hl:=hg.len
 have hle:=hg.ar.le
 (refine iy aK Try.func104 rfl rfl (fun _=>by kernel_rfl) rfl rfl rfl rfl (by first|exact mG _|exact kr (j:=0) (by simp) (by simp [Ent.kind])|exact kt (j:=0) (by simp) (by simp [Ent.kind])|exact iw rfl|exact jn|exact mH _) fun hp0 ν hX hN=>?_;simp only [cG,Nat.reduceAdd])
 (repeat' (first|(with_reducible first|(refine hK _ _ ?_;clear hK K)|(refine aa _ ?_;clear aa K)|(refine ab _ _ _ ?_;clear ab K)|(refine ac _ _ ?_;clear ac K)|refine bh ?_|refine bX ?_|refine a9 ?_|refine aq ?_|refine ap ?_|refine bY ?_|refine aG ?_|refine ba ?_|refine bZ ?_|refine bc ?_|refine bd rfl ?_|refine bi ?_|refine be ?_|refine b7 ?_|refine bf ?_|refine aF ?_|refine n_k ?_|refine bg ?_|(refine ae ?_;clear ae X af Y)|(refine af ?_;clear ae X af Y))|(with_reducible refine bo ?_;first|refine bm rfl ?_|refine bn rfl ?_)|(with_reducible refine aQ ?_;first|refine au rfl rfl rfl rfl ?_|refine aI rfl rfl rfl ?_|refine bt rfl rfl rfl rfl ?_)|(with_reducible refine ce ?_;first|refine bE rfl rfl rfl rfl ?_|refine b9 rfl rfl rfl ?_|refine cn rfl rfl rfl rfl ?_|refine co hN (by apply Exists.intro;apply And.intro;(repeat' (first|apply FtI.nil|apply FI.nil|apply FI.cons|apply FtI.cons));kernel_rfl) ?_)|((first|(with_reducible first|refine bp rfl rfl fun K hK=>?_|refine ck rfl rfl fun K ab=>?_|refine br rfl rfl fun K aa=>?_|refine cm rfl rfl fun K ac=>?_|refine aH fun X Y ae af=>?_|refine aJ ?_));simp (disch:=first|decide|omega|(simp only [List.length_cons,List.length_nil];omega)) only [go_sem,beq_self_eq_true,↓aj,↓ak hN,am hN,reduceIte,reduceCtorEq,Nat.reduceAdd,Nat.reduceLT,Nat.reduceLeDiff,Nat.reduceEqDiff,Nat.reduceSub])|(with_reducible refine And.intro (fun h=>?_) (fun h=>?_) <;> try (exfalso;omega))|(with_reducible refine bj aK hN rfl ?_ ?_;kernel_rfl)|(with_reducible refine bF aK hN rfl ?_ ?_ ?_ ?_;(kernel_rfl);(kernel_rfl);(kernel_rfl))|(refine iU (pf g.ar hg.ar ps (by omega)) hN 0 rfl rfl rfl rfl rfl ?_ ?_ ?_ ?_;(focus (simp [cf,AV.names];done));(focus (intro ν' hν;(repeat' (first|exact ArgMs.nil|refine ArgMs.cons ?_ ?_|exact pQ hν|exact pR hν|exact uz _|exact sQ (by first|exact a8 _|exact aY _|exact aZ rfl rfl rfl) rfl|(refine pS hN rfl ?_ (by decide);first|exact aM _|exact aN _)|refine mI ?_));done));(focus (first|exact Or.inr ⟨rfl,rfl,fun _=>rfl⟩|exact Or.inl (by simp [cf,AV.names]))))|(with_reducible first|exact ax|refine ao ?_ ?_|exact cg _|refine bv ?_|exact a8 _|exact bJ _ _|refine bI ?_|exact aY _)|exact bw hN rfl rfl|(refine bG hN rfl ?_;first|exact aM _|exact aN _)|exact aZ rfl rfl rfl|(simp only [bW,List.map_nil])|(with_reducible refine b8 ?_)|(simp (disch:=first|decide|omega|(simp only [List.length_cons,List.length_nil];omega)) only [bW,List.map_cons,List.map_nil,am hN,List.set_cons_zero,List.set_cons_succ])|(with_reducible refine And.intro ?_ ?_)|(refine ah ?_;omega)|(exact bu hN (by decide))))
 (refine ⟨.inr rfl,_,(by first|exact cL rfl rfl|exact cF hN rfl rfl rfl rfl|exact cy hN rfl rfl rfl rfl rfl|(simp (disch:=first|decide|omega|(simp only [List.length_cons,List.length_nil];omega)) only [ci,cu,cw,cx,go_sem,beq_self_eq_true,↓aj,↓ak hN,am hN,reduceIte,reduceCtorEq,Nat.reduceAdd,Nat.reduceLT,Nat.reduceLeDiff,Nat.reduceEqDiff,Nat.reduceSub];rfl)|rfl),[],_,rfl,?_,rfl,?_⟩;(all_goals try simp only [List.drop,List.take,List.cons_append,List.nil_append,nmL,List.length_cons,List.length_nil,Nat.reduceAdd,List.getD_cons_zero]);(repeat' (first|(with_reducible first|exact bN _|exact bO|exact bP|refine bQ ?_ ?_|refine bR ?_ ?_|exact ay _|exact bL _|exact an _|rfl|exact aS _ _|refine aA ?_|exact bM _|refine aV ?_)|refine bS rfl ?_ ?_|exact aT hN _ rfl rfl rfl|exact aU hN _ rfl rfl rfl|exact aB hN _ rfl rfl rfl (Or.inr rfl)|(refine aP hN _ rfl rfl (by first|exact Or.inr rfl|exact Or.inl rfl) ?_;first|exact aM _|exact aN _)|refine aC hN rfl ?_|refine aD hN rfl rfl ?_|exact az hN _ rfl rfl|exact aE hN rfl rfl rfl rfl|(with_reducible first|refine aR ?_|refine bA ?_|refine bC ?_|refine bD ?_|refine bB ?_|refine bz ?_))))
 all_goals rfl
abbrev yh (W : List Int) : AV:=.agg [.c (.I W),.c .nul]
theorem pg (W : List Int) (who : Int) (hl : W.length ≤ 256) : aL Try.prog 32 [yh W,.c (.int .i64 who)] [.arr 2 .yes (.I (atL W who))] (fun ns=>.sl (ns.getD 0 0)):=by
 (refine bK aK Try.func32 rfl rfl (by kernel_rfl) fun hp0 ν hX hN=>?_;simp only [cG,Nat.reduceAdd])
 (repeat' (first|(with_reducible first|(refine hK _ _ ?_;clear hK K)|(refine aa _ ?_;clear aa K)|refine bh ?_|refine bX ?_|refine a9 ?_|refine aq ?_|refine ap ?_|refine bY ?_|refine aG ?_|refine ba ?_|refine bZ ?_|refine bc ?_|refine bd rfl ?_|refine bi ?_|refine be ?_|refine b7 ?_|refine bf ?_|refine aF ?_|refine n_k ?_|refine bg ?_|(refine ae ?_;clear ae X af Y)|(refine af ?_;clear ae X af Y))|(with_reducible refine bo ?_;first|refine bm rfl ?_|refine bn rfl ?_)|(with_reducible refine aQ ?_;first|refine au rfl rfl rfl rfl ?_|refine aI rfl rfl rfl ?_|refine bt rfl rfl rfl rfl ?_)|((first|(with_reducible first|refine bp rfl rfl fun K hK=>?_|refine br rfl rfl fun K aa=>?_|refine aH fun X Y ae af=>?_|refine aJ ?_));simp (disch:=first|decide|omega|(simp only [List.length_cons,List.length_nil];omega)) only [go_sem,beq_self_eq_true,↓aj,↓ak hN,am hN,reduceIte,reduceCtorEq,Nat.reduceAdd,Nat.reduceLT,Nat.reduceLeDiff,Nat.reduceEqDiff,Nat.reduceSub])|(with_reducible refine And.intro (fun h=>?_) (fun h=>?_) <;> try (exfalso;omega))|(with_reducible refine bj aK hN rfl ?_ ?_;kernel_rfl)|(with_reducible refine And.intro ?_ ?_)|(refine ah ?_;omega)|(exact bu hN (by decide))))
 (refine cj (fun (k : Nat)=>(tmL [(16,.c (.int .i64 k)),(15,.c (.int .i64 W.length)),(14,.c (.I W)),(5,.sl (ν 1)),(1,.c (.int .i64 who))],hpL hp0 ν [.dead,.arr 2 .yes (.I (cW (cO W.length fun v=>gi W v == who) k))])) (fun (k : Nat)=>k ≤ W.length) (fun (k : Nat)=>W.length - k) ⟨0,?_,bU hX hN [] ?_ ?_⟩ ?_;(repeat' (first|(with_reducible first|exact bN _|exact bO|exact bP|refine bQ ?_ ?_|refine bR ?_ ?_|exact ay _|exact bL _|exact an _|rfl|exact aS _ _|refine aA ?_|exact bM _|refine aV ?_)|refine bS rfl ?_ ?_|exact aT hN _ rfl rfl rfl|exact aU hN _ rfl rfl rfl|exact aB hN _ rfl rfl rfl (Or.inr rfl)|(refine aP hN _ rfl rfl (by first|exact Or.inr rfl|exact Or.inl rfl) ?_;first|exact aM _|exact aN _)|refine aC hN rfl ?_|refine aD hN rfl rfl ?_|exact az hN _ rfl rfl|exact aE hN rfl rfl rfl rfl|(with_reducible first|refine aR ?_|refine bA ?_|refine bC ?_|refine bD ?_|refine bB ?_|refine bz ?_)));(try (any_goals (first|(with_reducible rfl)|(refine ah ?_;omega)))))
 · rfl
 intro k hk
 have hll:=fy (cO W.length fun v=>gi W v == who) k
 have hgk : k < W.length → gb (cO W.length fun v=>gi W v == who) k = (gi W k == who):=fun h=>dn _ h
 (repeat' (first|(with_reducible first|(refine hK _ _ ?_;clear hK K)|(refine aa _ ?_;clear aa K)|refine bh ?_|refine bX ?_|refine a9 ?_|refine aq ?_|refine ap ?_|refine bY ?_|refine aG ?_|refine ba ?_|refine bZ ?_|refine bc ?_|refine bd rfl ?_|refine bi ?_|refine be ?_|refine b7 ?_|refine bf ?_|refine aF ?_|refine n_k ?_|refine bg ?_|(refine ae ?_;clear ae X af Y)|(refine af ?_;clear ae X af Y))|(with_reducible refine bo ?_;first|refine bm rfl ?_|refine bn rfl ?_)|(with_reducible refine aQ ?_;first|refine au rfl rfl rfl rfl ?_|refine aI rfl rfl rfl ?_|refine bt rfl rfl rfl rfl ?_)|((first|(with_reducible first|refine bp rfl rfl fun K hK=>?_|refine br rfl rfl fun K aa=>?_|refine aH fun X Y ae af=>?_|refine aJ ?_));simp (disch:=first|decide|omega|(simp only [List.length_cons,List.length_nil];omega)) only [go_sem,beq_self_eq_true,↓aj,↓ak hN,am hN,reduceIte,reduceCtorEq,Nat.reduceAdd,Nat.reduceLT,Nat.reduceLeDiff,Nat.reduceEqDiff,Nat.reduceSub])|(with_reducible refine And.intro (fun h=>?_) (fun h=>?_) <;> try (exfalso;omega))|(with_reducible refine bj aK hN rfl ?_ ?_;kernel_rfl)|(with_reducible refine And.intro ?_ ?_)|(refine ah ?_;omega)|(exact bu hN (by decide))))
 · (refine ⟨k + 1,⟨?_,?_⟩,bU hX hN [(1,3)] ?_ ?_⟩;(try any_goals dsimp only);(repeat' (first|(with_reducible first|exact bN _|exact bO|exact bP|refine bQ ?_ ?_|refine bR ?_ ?_|exact ay _|exact bL _|exact an _|rfl|exact aS _ _|refine aA ?_|exact bM _|refine aV ?_)|refine bS rfl ?_ ?_|exact aT hN _ rfl rfl rfl|exact aU hN _ rfl rfl rfl|exact aB hN _ rfl rfl rfl (Or.inr rfl)|(refine aP hN _ rfl rfl (by first|exact Or.inr rfl|exact Or.inl rfl) ?_;first|exact aM _|exact aN _)|refine aC hN rfl ?_|refine aD hN rfl rfl ?_|exact az hN _ rfl rfl|exact aE hN rfl rfl rfl rfl|(with_reducible first|refine aR ?_|refine bA ?_|refine bC ?_|refine bD ?_|refine bB ?_|refine bz ?_)));(try (any_goals (first|(with_reducible rfl)|(refine ah ?_;omega)))))
   rw [cW,if_pos (by rw [hgk (by omega)];simpa using (by assumption : gi W k = who))]
 · have h0 : (gi W k == who) = false:=by assumption
   (refine ⟨k + 1,⟨?_,?_⟩,bU hX hN [] ?_ ?_⟩;(try any_goals dsimp only);(repeat' (first|(with_reducible first|exact bN _|exact bO|exact bP|refine bQ ?_ ?_|refine bR ?_ ?_|exact ay _|exact bL _|exact an _|rfl|exact aS _ _|refine aA ?_|exact bM _|refine aV ?_)|refine bS rfl ?_ ?_|exact aT hN _ rfl rfl rfl|exact aU hN _ rfl rfl rfl|exact aB hN _ rfl rfl rfl (Or.inr rfl)|(refine aP hN _ rfl rfl (by first|exact Or.inr rfl|exact Or.inl rfl) ?_;first|exact aM _|exact aN _)|refine aC hN rfl ?_|refine aD hN rfl rfl ?_|exact az hN _ rfl rfl|exact aE hN rfl rfl rfl rfl|(with_reducible first|refine aR ?_|refine bA ?_|refine bC ?_|refine bD ?_|refine bB ?_|refine bz ?_)));(try (any_goals (first|(with_reducible rfl)|(refine ah ?_;omega)))))
   rw [cW,if_neg (by rw [hgk (by omega),h0];simp),List.append_nil]
 · (refine cV hN (i:=1) (.inr rfl) (by first|rfl|(simp (disch:=first|decide|omega|(simp only [List.length_cons,List.length_nil];omega)) only [ci,cu,cw,cx,go_sem,beq_self_eq_true,↓aj,↓ak hN,am hN,reduceIte,reduceCtorEq,Nat.reduceAdd,Nat.reduceLT,Nat.reduceLeDiff,Nat.reduceEqDiff,Nat.reduceSub];rfl)) rfl ?_ rfl)
   rw [show k = W.length by omega];rfl
theorem lS {us : List Int} {t : Nat} (ht : t < us.length) : us.drop t = gi us t :: us.drop (t + 1):=by
 rw [List.drop_eq_getElem_cons ht]
 simp [gi,List.getD_eq_getElem?_getD,List.getElem?_eq_getElem ht]
theorem kD {g : Pa} {W ps us : List Int} {v t : Nat} (ht : t < us.length) (h : gi W (gi us t).toNat = gi W v ∧ gP g W (gi W v) (ps.set v (gi us t))) : eQ g W v ps (us.drop t) = gi us t:=by
 rw [lS ht,eQ,bV h,sF]
theorem fi {g : Pa} {W ps us : List Int} {v t : Nat} (ht : t < us.length) (h : ¬ (gi W (gi us t).toNat = gi W v ∧ gP g W (gi W v) (ps.set v (gi us t)))) : eQ g W v ps (us.drop t) = eQ g W v ps (us.drop (t + 1)):=by
 rw [lS ht,eQ,aX h,um]
theorem nW {g : Pa} {W ps us : List Int} {v t : Nat} (ht : us.length ≤ t) : eQ g W v ps (us.drop t) = -1:=by
 rw [List.drop_eq_nil_of_le ht];rfl
theorem nX {g : Pa} (hg : PaOk g) {P : List Int} (h : PickOk g P) {k t : Nat} (hk : k < g.prio.length) (ho : gi g.ar.own k = gi (bT g) k) (ht : t < (gr g.ar.nxt k).length) (hw : gi (bT g) (gi (gr g.ar.nxt k) t).toNat = gi (bT g) k) : PickOk g (P.set k (gi (gr g.ar.nxt k) t)):=kB hg h hk ho (dI ht) hw
theorem uJ {g : Pa} (hg : PaOk g) {P : List Int} (h : PickOk g P) {k : Nat} (hk : k < g.prio.length) : (gi (bT g) k = 0 ∧ (fX (dj g P) (atL (bT g) (gi (bT g) k)) 1).length = 0 ∨ gi (bT g) k = 1 ∧ (fX (dj g P) (atL (bT g) (gi (bT g) k)) 0).length = 0) ↔ gP g (bT g) (gi (bT g) k) P:=by
 have h01:=hZ (g:=g) hk
 have hn:=tt (dO hg h.pk) (gR hg h (gi (bT g) k)) h01
 rcases h01 with e|e
 · rw [e] at hn ⊢
   exact ⟨fun h=>h.elim (fun h=>hn.1 h.2) (fun h=>absurd h.1 (by omega)),fun h=>.inl ⟨rfl,hn.2 h⟩⟩
 · rw [e] at hn ⊢
   exact ⟨fun h=>h.elim (fun h=>absurd h.1 (by omega)) (fun h=>hn.1 h.2),fun h=>.inr ⟨rfl,hn.2 h⟩⟩
theorem jr {a b : Int} (h : (a == b) = false) : a ≠ b:=by simpa using h
theorem tv {n : Nat} (h : (((n : Nat) : Int) == 0) = false) : n ≠ 0:=by have:=jr h;omega
theorem kE {g : Pa} (hg : PaOk g) {P : List Int} (h : PickOk g P) {k : Nat} (hn : gi P k < 0) : gi P k = -1:=by
 rcases Nat.lt_or_ge k P.length with hk|hk
 · rcases h.pk.2 k hk with e|e
   · exact e
   · obtain ⟨t,ht,e'⟩:=cX e
     have:=ee hg (by have:=h.pk.1;omega) ht
     omega
 · have : gi P k = 0:=by simp [gi,List.getD_eq_getElem?_getD,List.getElem?_eq_none hk]
   omega
set_option maxHeartbeats 4000000 in
theorem ph (g : Pa) (hg : PaOk g) (ps : List Int) (hp : PickOk g ps) : aL Try.prog 73 [paA g,.c (.I ps),.c (.I (bT g))] [.arr 2 .yes (.I (bT g)),.arr 2 .yes (.I (dP g (bT g) ps ps.length))] (fun ns=>.agg [.sl (ns.getD 0 0),.sl (ns.getD 1 0)]):=by
 have hl:=hg.len
 have hle:=hg.ar.le
 have hln:=hg.ar.len
 have hpl:=hp.pk.1
 have hwl:=eb g
 have hok:=gS hg hp
 have hplen : ∀ k,k ≤ g.prio.length → (dP g (bT g) ps k).length = g.prio.length:=fun k hk=>(hok k hk).pk.1
 (refine bK aK Try.func73 rfl rfl (by kernel_rfl) fun hp0 ν hX hN=>?_;simp only [cG,Nat.reduceAdd])
 (repeat' (first|(with_reducible first|(refine hK _ _ ?_;clear hK K)|(refine aa _ ?_;clear aa K)|(refine ab _ _ _ ?_;clear ab K)|(refine ac _ _ ?_;clear ac K)|refine bh ?_|refine bX ?_|refine a9 ?_|refine aq ?_|refine ap ?_|refine bY ?_|refine aG ?_|refine ba ?_|refine bZ ?_|refine bc ?_|refine bd rfl ?_|refine bi ?_|refine be ?_|refine b7 ?_|refine bf ?_|refine aF ?_|refine n_k ?_|refine bg ?_|(refine ae ?_;clear ae X af Y)|(refine af ?_;clear ae X af Y))|(with_reducible refine bo ?_;first|refine bm rfl ?_|refine bn rfl ?_)|(with_reducible refine aQ ?_;first|refine au rfl rfl rfl rfl ?_|refine aI rfl rfl rfl ?_|refine bt rfl rfl rfl rfl ?_)|(with_reducible refine ce ?_;first|refine bE rfl rfl rfl rfl ?_|refine b9 rfl rfl rfl ?_|refine cn rfl rfl rfl rfl ?_|refine co hN (by apply Exists.intro;apply And.intro;(repeat' (first|apply FtI.nil|apply FI.nil|apply FI.cons|apply FtI.cons));kernel_rfl) ?_)|((first|(with_reducible first|refine bp rfl rfl fun K hK=>?_|refine ck rfl rfl fun K ab=>?_|refine br rfl rfl fun K aa=>?_|refine cm rfl rfl fun K ac=>?_|refine aH fun X Y ae af=>?_|refine aJ ?_)|(with_reducible refine aQ ?_;refine aW rfl rfl fun X Y ae af=>?_)|(with_reducible refine ce ?_;refine cc rfl rfl fun X Y ae af=>?_));simp (disch:=first|decide|omega|(simp only [List.length_cons,List.length_nil];omega)) only [go_sem,beq_self_eq_true,↓aj,↓ak hN,am hN,reduceIte,reduceCtorEq,Nat.reduceAdd,Nat.reduceLT,Nat.reduceLeDiff,Nat.reduceEqDiff,Nat.reduceSub])|(with_reducible refine And.intro (fun h=>?_) (fun h=>?_) <;> try (exfalso;omega))|(with_reducible refine bj aK hN rfl ?_ ?_;kernel_rfl)|(with_reducible refine bF aK hN rfl ?_ ?_ ?_ ?_;(kernel_rfl);(kernel_rfl);(kernel_rfl))|(with_reducible refine And.intro ?_ ?_)|(refine ah ?_;omega)|(exact bu hN (by decide))))
 (refine cj (fun (k : Nat)=>(tmL [(19,.c (.int .i64 k)),(18,.c (.int .i64 ps.length)),(7,.sl (ν 3)),(6,.ad (ν 1) 0),(3,.ad (ν 0) 0),(2,.c (.I (bT g)))],hpL hp0 ν [.box [.c (.I g.ar.own),.c (.R g.ar.nxt),.c (.I g.prio)],.box [.c .nul,.c .nul],.dead,.arr 2 .yes (.I (dP g (bT g) ps k))])) (fun (k : Nat)=>k ≤ ps.length) (fun (k : Nat)=>ps.length - k) ⟨0,?_,bU hX hN [] ?_ ?_⟩ ?_;(repeat' (first|(with_reducible first|exact bN _|exact bO|exact bP|refine bQ ?_ ?_|refine bR ?_ ?_|exact ay _|exact bL _|exact an _|rfl|exact aS _ _|refine aA ?_|exact bM _|refine aV ?_)|refine bS rfl ?_ ?_|exact aT hN _ rfl rfl rfl|exact aU hN _ rfl rfl rfl|exact aB hN _ rfl rfl rfl (Or.inr rfl)|(refine aP hN _ rfl rfl (by first|exact Or.inr rfl|exact Or.inl rfl) ?_;first|exact aM _|exact aN _)|refine aC hN rfl ?_|refine aD hN rfl rfl ?_|exact az hN _ rfl rfl|exact aE hN rfl rfl rfl rfl|(with_reducible first|refine aR ?_|refine bA ?_|refine bC ?_|refine bD ?_|refine bB ?_|refine bz ?_)));(try (any_goals (first|(with_reducible rfl)|(refine ah ?_;omega)))))
 · rfl
 intro k hk
 have hPl:=hplen k (by omega)
 have hrow:=fun h : k < ps.length=>(hg.ar.vert k (by omega)).2.2.2.1
 have hstep : dP g (bT g) ps (k + 1) = gu g (bT g) (dP g (bT g) ps k) k:=rfl
 have hPok:=hok k (by omega)
 generalize hP : dP g (bT g) ps k = P at *
 have hng : gi P k < 0 → gi P k = -1:=fun hn=>kE hg hPok hn
 have hno : k < ps.length → gi g.ar.own k ≠ gi (bT g) k → gu g (bT g) P k = P:=fun _ hc=>if_neg fun hcc=>hc hcc.1
 have hno2 : k < ps.length → 0 ≤ gi P k → gu g (bT g) P k = P:=fun _ hc=>if_neg fun hcc=>by omega
 have hyes : gi g.ar.own k = gi (bT g) k → ¬ 0 ≤ gi P k → gu g (bT g) P k = P.set k (eQ g (bT g) k P (gr g.ar.nxt k)):=fun h1 h2=>if_pos ⟨h1,by omega⟩
 (repeat' (first|(with_reducible first|(refine hK _ _ ?_;clear hK K)|(refine aa _ ?_;clear aa K)|(refine ab _ _ _ ?_;clear ab K)|(refine ac _ _ ?_;clear ac K)|refine bh ?_|refine bX ?_|refine a9 ?_|refine aq ?_|refine ap ?_|refine bY ?_|refine aG ?_|refine ba ?_|refine bZ ?_|refine bc ?_|refine bd rfl ?_|refine bi ?_|refine be ?_|refine b7 ?_|refine bf ?_|refine aF ?_|refine n_k ?_|refine bg ?_|(refine ae ?_;clear ae X af Y)|(refine af ?_;clear ae X af Y))|(with_reducible refine bo ?_;first|refine bm rfl ?_|refine bn rfl ?_)|(with_reducible refine aQ ?_;first|refine au rfl rfl rfl rfl ?_|refine aI rfl rfl rfl ?_|refine bt rfl rfl rfl rfl ?_)|(with_reducible refine ce ?_;first|refine bE rfl rfl rfl rfl ?_|refine b9 rfl rfl rfl ?_|refine cn rfl rfl rfl rfl ?_|refine co hN (by apply Exists.intro;apply And.intro;(repeat' (first|apply FtI.nil|apply FI.nil|apply FI.cons|apply FtI.cons));kernel_rfl) ?_)|((first|(with_reducible first|refine bp rfl rfl fun K hK=>?_|refine ck rfl rfl fun K ab=>?_|refine br rfl rfl fun K aa=>?_|refine cm rfl rfl fun K ac=>?_|refine aH fun X Y ae af=>?_|refine aJ ?_)|(with_reducible refine aQ ?_;refine aW rfl rfl fun X Y ae af=>?_)|(with_reducible refine ce ?_;refine cc rfl rfl fun X Y ae af=>?_));simp (disch:=first|decide|omega|(simp only [List.length_cons,List.length_nil];omega)) only [go_sem,beq_self_eq_true,↓aj,↓ak hN,am hN,reduceIte,reduceCtorEq,Nat.reduceAdd,Nat.reduceLT,Nat.reduceLeDiff,Nat.reduceEqDiff,Nat.reduceSub])|(with_reducible refine And.intro (fun h=>?_) (fun h=>?_) <;> try (exfalso;omega))|(with_reducible refine bj aK hN rfl ?_ ?_;kernel_rfl)|(with_reducible refine bF aK hN rfl ?_ ?_ ?_ ?_;(kernel_rfl);(kernel_rfl);(kernel_rfl))|(refine aO (pg (bT g) ?_ (by omega)) ?_ rfl (fun _=>rfl) ?_)|(with_reducible first|exact ax|refine ao ?_ ?_|exact cg _|refine bv ?_|exact a8 _|exact bJ _ _|refine bI ?_|exact aY _)|exact bw hN rfl rfl|(refine bG hN rfl ?_;first|exact aM _|exact aN _)|exact aZ rfl rfl rfl|(simp only [bW,List.map_nil])|(with_reducible refine b8 ?_)|(with_reducible refine And.intro ?_ ?_)|(refine ah ?_;omega)|(exact bu hN (by decide))))
 · (refine ⟨k + 1,⟨?_,?_⟩,bU hX hN [] ?_ ?_⟩;(try any_goals dsimp only);(repeat' (first|(with_reducible first|exact bN _|exact bO|exact bP|refine bQ ?_ ?_|refine bR ?_ ?_|exact ay _|exact bL _|exact an _|rfl|exact aS _ _|refine aA ?_|exact bM _|refine aV ?_)|refine bS rfl ?_ ?_|exact aT hN _ rfl rfl rfl|exact aU hN _ rfl rfl rfl|exact aB hN _ rfl rfl rfl (Or.inr rfl)|(refine aP hN _ rfl rfl (by first|exact Or.inr rfl|exact Or.inl rfl) ?_;first|exact aM _|exact aN _)|refine aC hN rfl ?_|refine aD hN rfl rfl ?_|exact az hN _ rfl rfl|exact aE hN rfl rfl rfl rfl|(with_reducible first|refine aR ?_|refine bA ?_|refine bC ?_|refine bD ?_|refine bB ?_|refine bz ?_)));(try (any_goals (first|(with_reducible rfl)|(refine ah ?_;omega)))))
   rw [hstep,hno (by omega) (by assumption)]
 · (refine ⟨k + 1,⟨?_,?_⟩,bU hX hN [] ?_ ?_⟩;(try any_goals dsimp only);(repeat' (first|(with_reducible first|exact bN _|exact bO|exact bP|refine bQ ?_ ?_|refine bR ?_ ?_|exact ay _|exact bL _|exact an _|rfl|exact aS _ _|refine aA ?_|exact bM _|refine aV ?_)|refine bS rfl ?_ ?_|exact aT hN _ rfl rfl rfl|exact aU hN _ rfl rfl rfl|exact aB hN _ rfl rfl rfl (Or.inr rfl)|(refine aP hN _ rfl rfl (by first|exact Or.inr rfl|exact Or.inl rfl) ?_;first|exact aM _|exact aN _)|refine aC hN rfl ?_|refine aD hN rfl rfl ?_|exact az hN _ rfl rfl|exact aE hN rfl rfl rfl rfl|(with_reducible first|refine aR ?_|refine bA ?_|refine bC ?_|refine bD ?_|refine bB ?_|refine bz ?_)));(try (any_goals (first|(with_reducible rfl)|(refine ah ?_;omega)))))
   rw [hstep,hno2 (by omega) (by assumption)]
 · have hko : gi g.ar.own k = gi (bT g) k:=cR (by assumption)
   have hkn : ¬ 0 ≤ gi P k:=by assumption
   have hkl : k < g.prio.length:=by omega
   rw [hyes hko hkn] at hstep
   have hback : (P.set k (-1)) = P:=qf (hng (by omega))
   clear hno hno2 hyes hng
   have hv:=fun t (ht : t < (gr g.ar.nxt k).length)=>ee hg hkl ht
   have hpick:=fun t (ht : t < (gr g.ar.nxt k).length) (hw : gi (bT g) (gi (gr g.ar.nxt k) t).toNat = gi (bT g) k)=>nX hg hPok hkl hko ht hw
   generalize hrw : gr g.ar.nxt k = row at *
   (refine cj (fun (t : Nat)=>(tmL [(54,.c (.int .i64 t)),(53,.c (.int .i64 row.length)),(52,.c (.I row)),(9,.sl (ν 4)),(8,.c (.int .i64 k)),(19,.c (.int .i64 k)),(18,.c (.int .i64 ps.length)),(7,.sl (ν 3)),(6,.ad (ν 1) 0),(3,.ad (ν 0) 0),(2,.c (.I (bT g)))],hpL hp0 ν [.box [.c (.I g.ar.own),.c (.R g.ar.nxt),.c (.I g.prio)],.box [.c .nul,.c .nul],.dead,.arr 2 .yes (.I P),.arr 2 .yes (.I (atL (bT g) (gi (bT g) k)))])) (fun (t : Nat)=>t ≤ row.length ∧ eQ g (bT g) k P row = eQ g (bT g) k P (row.drop t)) (fun (t : Nat)=>row.length - t) ⟨0,?_,bU hX hN [] ?_ ?_⟩ ?_;(repeat' (first|(with_reducible first|exact bN _|exact bO|exact bP|refine bQ ?_ ?_|refine bR ?_ ?_|exact ay _|exact bL _|exact an _|rfl|exact aS _ _|refine aA ?_|exact bM _|refine aV ?_)|refine bS rfl ?_ ?_|exact aT hN _ rfl rfl rfl|exact aU hN _ rfl rfl rfl|exact aB hN _ rfl rfl rfl (Or.inr rfl)|(refine aP hN _ rfl rfl (by first|exact Or.inr rfl|exact Or.inl rfl) ?_;first|exact aM _|exact aN _)|refine aC hN rfl ?_|refine aD hN rfl rfl ?_|exact az hN _ rfl rfl|exact aE hN rfl rfl rfl rfl|(with_reducible first|refine aR ?_|refine bA ?_|refine bC ?_|refine bD ?_|refine bB ?_|refine bz ?_)));(try (any_goals (first|(with_reducible rfl)|(refine ah ?_;omega)))))
   · exact ⟨Nat.zero_le _,rfl⟩
   rintro t ⟨ht,hin⟩
   have hvt:=hv t
   have hPs : (P.set k (gi row t)).length = g.prio.length:=by rw [List.length_set];exact hPl
   have hgood:=fun (h1 : t < row.length) (h2 : gi (bT g) (gi row t).toNat = gi (bT g) k)=>uJ hg (hpick t h1 h2) hkl
   (repeat' (first|(with_reducible first|(refine hK _ _ ?_;clear hK K)|(refine aa _ ?_;clear aa K)|(refine ab _ _ _ ?_;clear ab K)|(refine ac _ _ ?_;clear ac K)|refine bh ?_|refine bX ?_|refine a9 ?_|refine aq ?_|refine ap ?_|refine bY ?_|refine aG ?_|refine ba ?_|refine bZ ?_|refine bc ?_|refine bd rfl ?_|refine bi ?_|refine be ?_|refine b7 ?_|refine bf ?_|refine aF ?_|refine n_k ?_|refine bg ?_|(refine ae ?_;clear ae X af Y)|(refine af ?_;clear ae X af Y))|(with_reducible refine bo ?_;first|refine bm rfl ?_|refine bn rfl ?_)|(with_reducible refine aQ ?_;first|refine au rfl rfl rfl rfl ?_|refine aI rfl rfl rfl ?_|refine bt rfl rfl rfl rfl ?_)|(with_reducible refine ce ?_;first|refine bE rfl rfl rfl rfl ?_|refine b9 rfl rfl rfl ?_|refine cn rfl rfl rfl rfl ?_|refine co hN (by apply Exists.intro;apply And.intro;(repeat' (first|apply FtI.nil|apply FI.nil|apply FI.cons|apply FtI.cons));kernel_rfl) ?_)|((first|(with_reducible first|refine bp rfl rfl fun K hK=>?_|refine ck rfl rfl fun K ab=>?_|refine br rfl rfl fun K aa=>?_|refine cm rfl rfl fun K ac=>?_|refine aH fun X Y ae af=>?_|refine aJ ?_)|(with_reducible refine aQ ?_;refine aW rfl rfl fun X Y ae af=>?_)|(with_reducible refine ce ?_;refine cc rfl rfl fun X Y ae af=>?_));simp (disch:=first|decide|omega|(simp only [List.length_cons,List.length_nil];omega)) only [go_sem,beq_self_eq_true,↓aj,↓ak hN,am hN,reduceIte,reduceCtorEq,Nat.reduceAdd,Nat.reduceLT,Nat.reduceLeDiff,Nat.reduceEqDiff,Nat.reduceSub])|(with_reducible refine And.intro (fun h=>?_) (fun h=>?_) <;> try (exfalso;omega))|(with_reducible refine bj aK hN rfl ?_ ?_;kernel_rfl)|(with_reducible refine bF aK hN rfl ?_ ?_ ?_ ?_;(kernel_rfl);(kernel_rfl);(kernel_rfl))|(refine iU (rq g hg (P.set k (gi row t)) hPs) hN 3 rfl rfl rfl rfl rfl ?_ ?_ ?_ ?_;(focus (simp [cf,AV.names];done));(focus (intro ν' hν;(repeat' (first|exact ArgMs.nil|refine ArgMs.cons ?_ ?_|exact pQ hν|exact pR hν|exact uz _|exact sQ (by first|exact a8 _|exact aY _|exact aZ rfl rfl rfl) rfl|(refine pS hN rfl ?_ (by decide);first|exact aM _|exact aN _)|refine mI ?_));done));(focus (first|exact Or.inr ⟨rfl,rfl,fun _=>rfl⟩|exact Or.inl (by simp [cf,AV.names]))))|(refine aO (qd (dj g (P.set k (gi row t))) (dO hg (hpick t (by omega) (cR (by assumption))).pk) (atL (bT g) (gi (bT g) k)) (gR hg (hpick t (by omega) (cR (by assumption))) _)) ?_ rfl (fun _=>rfl) ?_;focus ((repeat' (first|(with_reducible first|exact ax|refine ao ?_ ?_|exact cg _|refine bv ?_|exact a8 _|exact bJ _ _|refine bI ?_|exact aY _)|exact bw hN rfl rfl|(refine bG hN rfl ?_;first|exact aM _|exact aN _)|exact aZ rfl rfl rfl));done))|(with_reducible first|exact ax|refine ao ?_ ?_|exact cg _|refine bv ?_|exact a8 _|exact bJ _ _|refine bI ?_|exact aY _)|exact bw hN rfl rfl|(refine bG hN rfl ?_;first|exact aM _|exact aN _)|exact aZ rfl rfl rfl|(simp only [bW,List.map_nil])|(with_reducible refine b8 ?_)|(simp (disch:=first|decide|omega|(simp only [List.length_cons,List.length_nil];omega)) only [bW,List.map_cons,List.map_nil,am hN,List.set_cons_zero,List.set_cons_succ])|(with_reducible refine And.intro ?_ ?_)|(refine ah ?_;omega)|(exact bu hN (by decide))))
   · (refine ⟨t + 1,⟨?_,?_⟩,bU hX hN [] ?_ ?_⟩;(try any_goals dsimp only);(repeat' (first|(with_reducible first|exact bN _|exact bO|exact bP|refine bQ ?_ ?_|refine bR ?_ ?_|exact ay _|exact bL _|exact an _|rfl|exact aS _ _|refine aA ?_|exact bM _|refine aV ?_)|refine bS rfl ?_ ?_|exact aT hN _ rfl rfl rfl|exact aU hN _ rfl rfl rfl|exact aB hN _ rfl rfl rfl (Or.inr rfl)|(refine aP hN _ rfl rfl (by first|exact Or.inr rfl|exact Or.inl rfl) ?_;first|exact aM _|exact aN _)|refine aC hN rfl ?_|refine aD hN rfl rfl ?_|exact az hN _ rfl rfl|exact aE hN rfl rfl rfl rfl|(with_reducible first|refine aR ?_|refine bA ?_|refine bC ?_|refine bD ?_|refine bB ?_|refine bz ?_)));(try (any_goals (first|(with_reducible rfl)|(refine ah ?_;omega)))))
     exact ⟨by omega,hin.trans (fi (by omega) fun e=>absurd e.1 (by assumption))⟩
   · (refine ⟨k + 1,⟨?_,?_⟩,bU hX hN [] ?_ ?_⟩;(try any_goals dsimp only);(repeat' (first|(with_reducible first|exact bN _|exact bO|exact bP|refine bQ ?_ ?_|refine bR ?_ ?_|exact ay _|exact bL _|exact an _|rfl|exact aS _ _|refine aA ?_|exact bM _|refine aV ?_)|refine bS rfl ?_ ?_|exact aT hN _ rfl rfl rfl|exact aU hN _ rfl rfl rfl|exact aB hN _ rfl rfl rfl (Or.inr rfl)|(refine aP hN _ rfl rfl (by first|exact Or.inr rfl|exact Or.inl rfl) ?_;first|exact aM _|exact aN _)|refine aC hN rfl ?_|refine aD hN rfl rfl ?_|exact az hN _ rfl rfl|exact aE hN rfl rfl rfl rfl|(with_reducible first|refine aR ?_|refine bA ?_|refine bC ?_|refine bD ?_|refine bB ?_|refine bz ?_)));(try (any_goals (first|(with_reducible rfl)|(refine ah ?_;omega)))))
     rw [hstep,hin,kD (by omega) ⟨cR (by assumption),(hgood (by omega) (cR (by assumption))).1 (.inl ⟨by assumption,by omega⟩)⟩]
   · (refine ⟨t + 1,⟨?_,?_⟩,bU hX hN [] ?_ ?_⟩;(try any_goals dsimp only);(repeat' (first|(with_reducible first|exact bN _|exact bO|exact bP|refine bQ ?_ ?_|refine bR ?_ ?_|exact ay _|exact bL _|exact an _|rfl|exact aS _ _|refine aA ?_|exact bM _|refine aV ?_)|refine bS rfl ?_ ?_|exact aT hN _ rfl rfl rfl|exact aU hN _ rfl rfl rfl|exact aB hN _ rfl rfl rfl (Or.inr rfl)|(refine aP hN _ rfl rfl (by first|exact Or.inr rfl|exact Or.inl rfl) ?_;first|exact aM _|exact aN _)|refine aC hN rfl ?_|refine aD hN rfl rfl ?_|exact az hN _ rfl rfl|exact aE hN rfl rfl rfl rfl|(with_reducible first|refine aR ?_|refine bA ?_|refine bC ?_|refine bD ?_|refine bB ?_|refine bz ?_)));(try (any_goals (first|(with_reducible rfl)|(refine ah ?_;omega)))))
     · exact ⟨by omega,hin.trans (fi (by omega) fun e=>((hgood (by omega) e.1).2 e.2).elim (fun x=>absurd x.2 (tv (by assumption))) fun x=>absurd x.1 (jr (by assumption)))⟩
     · rw [List.set_set,hback]
   · (refine ⟨k + 1,⟨?_,?_⟩,bU hX hN [] ?_ ?_⟩;(try any_goals dsimp only);(repeat' (first|(with_reducible first|exact bN _|exact bO|exact bP|refine bQ ?_ ?_|refine bR ?_ ?_|exact ay _|exact bL _|exact an _|rfl|exact aS _ _|refine aA ?_|exact bM _|refine aV ?_)|refine bS rfl ?_ ?_|exact aT hN _ rfl rfl rfl|exact aU hN _ rfl rfl rfl|exact aB hN _ rfl rfl rfl (Or.inr rfl)|(refine aP hN _ rfl rfl (by first|exact Or.inr rfl|exact Or.inl rfl) ?_;first|exact aM _|exact aN _)|refine aC hN rfl ?_|refine aD hN rfl rfl ?_|exact az hN _ rfl rfl|exact aE hN rfl rfl rfl rfl|(with_reducible first|refine aR ?_|refine bA ?_|refine bC ?_|refine bD ?_|refine bB ?_|refine bz ?_)));(try (any_goals (first|(with_reducible rfl)|(refine ah ?_;omega)))))
     rw [hstep,hin,kD (by omega) ⟨cR (by assumption),(hgood (by omega) (cR (by assumption))).1 (.inr ⟨by assumption,by omega⟩)⟩]
   · (refine ⟨t + 1,⟨?_,?_⟩,bU hX hN [] ?_ ?_⟩;(try any_goals dsimp only);(repeat' (first|(with_reducible first|exact bN _|exact bO|exact bP|refine bQ ?_ ?_|refine bR ?_ ?_|exact ay _|exact bL _|exact an _|rfl|exact aS _ _|refine aA ?_|exact bM _|refine aV ?_)|refine bS rfl ?_ ?_|exact aT hN _ rfl rfl rfl|exact aU hN _ rfl rfl rfl|exact aB hN _ rfl rfl rfl (Or.inr rfl)|(refine aP hN _ rfl rfl (by first|exact Or.inr rfl|exact Or.inl rfl) ?_;first|exact aM _|exact aN _)|refine aC hN rfl ?_|refine aD hN rfl rfl ?_|exact az hN _ rfl rfl|exact aE hN rfl rfl rfl rfl|(with_reducible first|refine aR ?_|refine bA ?_|refine bC ?_|refine bD ?_|refine bB ?_|refine bz ?_)));(try (any_goals (first|(with_reducible rfl)|(refine ah ?_;omega)))))
     · exact ⟨by omega,hin.trans (fi (by omega) fun e=>((hgood (by omega) e.1).2 e.2).elim (fun x=>absurd x.1 (jr (by assumption))) fun x=>absurd x.2 (tv (by assumption)))⟩
     · rw [List.set_set,hback]
   · (refine ⟨t + 1,⟨?_,?_⟩,bU hX hN [] ?_ ?_⟩;(try any_goals dsimp only);(repeat' (first|(with_reducible first|exact bN _|exact bO|exact bP|refine bQ ?_ ?_|refine bR ?_ ?_|exact ay _|exact bL _|exact an _|rfl|exact aS _ _|refine aA ?_|exact bM _|refine aV ?_)|refine bS rfl ?_ ?_|exact aT hN _ rfl rfl rfl|exact aU hN _ rfl rfl rfl|exact aB hN _ rfl rfl rfl (Or.inr rfl)|(refine aP hN _ rfl rfl (by first|exact Or.inr rfl|exact Or.inl rfl) ?_;first|exact aM _|exact aN _)|refine aC hN rfl ?_|refine aD hN rfl rfl ?_|exact az hN _ rfl rfl|exact aE hN rfl rfl rfl rfl|(with_reducible first|refine aR ?_|refine bA ?_|refine bC ?_|refine bD ?_|refine bB ?_|refine bz ?_)));(try (any_goals (first|(with_reducible rfl)|(refine ah ?_;omega)))))
     · exact ⟨by omega,hin.trans (fi (by omega) fun e=>((hgood (by omega) e.1).2 e.2).elim (fun x=>absurd x.1 (jr (by assumption))) fun x=>absurd x.1 (jr (by assumption)))⟩
     · rw [List.set_set,hback]
   · (refine ⟨k + 1,⟨?_,?_⟩,bU hX hN [] ?_ ?_⟩;(try any_goals dsimp only);(repeat' (first|(with_reducible first|exact bN _|exact bO|exact bP|refine bQ ?_ ?_|refine bR ?_ ?_|exact ay _|exact bL _|exact an _|rfl|exact aS _ _|refine aA ?_|exact bM _|refine aV ?_)|refine bS rfl ?_ ?_|exact aT hN _ rfl rfl rfl|exact aU hN _ rfl rfl rfl|exact aB hN _ rfl rfl rfl (Or.inr rfl)|(refine aP hN _ rfl rfl (by first|exact Or.inr rfl|exact Or.inl rfl) ?_;first|exact aM _|exact aN _)|refine aC hN rfl ?_|refine aD hN rfl rfl ?_|exact az hN _ rfl rfl|exact aE hN rfl rfl rfl rfl|(with_reducible first|refine aR ?_|refine bA ?_|refine bC ?_|refine bD ?_|refine bB ?_|refine bz ?_)));(try (any_goals (first|(with_reducible rfl)|(refine ah ?_;omega)))))
     rw [hstep,hin,nW (by omega),hback]
 · (refine d8 hN [5,3] (by decide) (.inr rfl) (by first|exact cL rfl rfl|exact cF hN rfl rfl rfl rfl|exact cy hN rfl rfl rfl rfl rfl|(simp (disch:=first|decide|omega|(simp only [List.length_cons,List.length_nil];omega)) only [ci,cu,cw,cx,go_sem,beq_self_eq_true,↓aj,↓ak hN,am hN,reduceIte,reduceCtorEq,Nat.reduceAdd,Nat.reduceLT,Nat.reduceLeDiff,Nat.reduceEqDiff,Nat.reduceSub];rfl)|rfl) ?_ fun νs hνs=>?_;(repeat' (first|exact Gone.nil|(refine Gone.cons rfl rfl ?_ ?_)|(with_reducible refine dA ?_)|(with_reducible refine dz ?_)|(with_reducible refine SVs.cons ?_ ?_)|(with_reducible exact SVs.nil)|(simp only [List.drop,List.take])|(simp (disch:=first|decide|omega) only [↓aj,reduceIte,reduceCtorEq,Nat.reduceEqDiff])|(with_reducible exact fw _)|(with_reducible exact dw _)|(exact dx rfl rfl rfl)|(exact dy 0 (by simp) rfl rfl)|(exact dy 1 (by simp) rfl rfl)|(refine d7 hN rfl (dB hN (by decide)) ?_)|(with_reducible refine d6 ?_)|(with_reducible rfl)|(with_reducible refine bA ?_)|(with_reducible refine bC ?_)|(with_reducible refine bD ?_)|(with_reducible refine bB ?_)|(with_reducible refine bz ?_)|(refine ah ?_;omega))))
   all_goals first|rfl|(rw [← hP,show k = ps.length by omega])
end Go.Proofs.Ytfaefmabjjndeaa
namespace Go.Proofs.Ytfaefmabjjndeaa
set_option linter.unusedVariables false
set_option linter.unusedSimpArgs false
open Go.RowKit
attribute [local irreducible] aL cQ Aw Le
theorem mP {g : Pa} (hg : PaOk g) : PickOk g (noP g.prio.length):=by
 refine ⟨⟨cP _ _,fun v hv=>.inl ?_⟩,fun v hv h=>?_⟩
 · rw [noP,cP] at hv;exact cY _ hv
 · rw [noP,cY _ hv] at h;omega
theorem rr (g : Pa) (hg : PaOk g) : aL Try.prog 18 [paA g] [.arr 2 .yes (.I (bT g)),.arr 2 .yes (.I (dP g (bT g) (noP g.prio.length) g.prio.length))] (fun ns=>.agg [.sl (ns.getD 0 0),.sl (ns.getD 1 0)]):=by
 have hl:=hg.len
 have hle:=hg.ar.le
 have h1:=gK g
 rw [bV hg] at h1
 have h2:=nV g.ar (by omega)
 have h3:=ph g hg _ (mP hg)
 rw [← hl] at h2
 rw [show (noP g.prio.length).length = g.prio.length from cP _ _] at h3
 (refine bK aK Try.func18 rfl rfl (by kernel_rfl) fun hp0 ν hX hN=>?_;simp only [cG,Nat.reduceAdd])
 (repeat' (first|(with_reducible first|(refine hK _ _ ?_;clear hK K)|(refine aa _ ?_;clear aa K)|(refine ab _ _ _ ?_;clear ab K)|(refine ac _ _ ?_;clear ac K)|refine bh ?_|refine bX ?_|refine a9 ?_|refine aq ?_|refine ap ?_|refine bY ?_|refine aG ?_|refine ba ?_|refine bZ ?_|refine bc ?_|refine bd rfl ?_|refine bi ?_|refine be ?_|refine b7 ?_|refine bf ?_|refine aF ?_|refine n_k ?_|refine bg ?_|(refine ae ?_;clear ae X af Y)|(refine af ?_;clear ae X af Y))|(with_reducible refine bo ?_;first|refine bm rfl ?_|refine bn rfl ?_)|(with_reducible refine aQ ?_;first|refine au rfl rfl rfl rfl ?_|refine aI rfl rfl rfl ?_|refine bt rfl rfl rfl rfl ?_)|(with_reducible refine ce ?_;first|refine bE rfl rfl rfl rfl ?_|refine b9 rfl rfl rfl ?_|refine cn rfl rfl rfl rfl ?_|refine co hN (by apply Exists.intro;apply And.intro;(repeat' (first|apply FtI.nil|apply FI.nil|apply FI.cons|apply FtI.cons));kernel_rfl) ?_)|((first|(with_reducible first|refine bp rfl rfl fun K hK=>?_|refine ck rfl rfl fun K ab=>?_|refine br rfl rfl fun K aa=>?_|refine cm rfl rfl fun K ac=>?_|refine aH fun X Y ae af=>?_|refine aJ ?_));simp (disch:=first|decide|omega|(simp only [List.length_cons,List.length_nil];omega)) only [go_sem,beq_self_eq_true,↓aj,↓ak hN,am hN,reduceIte,reduceCtorEq,Nat.reduceAdd,Nat.reduceLT,Nat.reduceLeDiff,Nat.reduceEqDiff,Nat.reduceSub])|(with_reducible refine And.intro (fun h=>?_) (fun h=>?_) <;> try (exfalso;omega))|(with_reducible refine bj aK hN rfl ?_ ?_;kernel_rfl)|(with_reducible refine bF aK hN rfl ?_ ?_ ?_ ?_;(kernel_rfl);(kernel_rfl);(kernel_rfl))|(refine aO h1 ?_ rfl (fun _=>rfl) ?_)|((first|refine aO (h2) ?_ rfl (fun _=>rfl) ?_|refine aO (ri g hg) ?_ rfl (fun _=>rfl) ?_);focus ((repeat' (first|(with_reducible first|exact ax|refine ao ?_ ?_|exact cg _|refine bv ?_|exact a8 _|exact bJ _ _|refine bI ?_|exact aY _)|exact bw hN rfl rfl|(refine bG hN rfl ?_;first|exact aM _|exact aN _)|exact aZ rfl rfl rfl));done))|(refine aO h3 ?_ rfl (fun _=>rfl) ?_)|(with_reducible first|exact ax|refine ao ?_ ?_|exact cg _|refine bv ?_|exact a8 _|exact bJ _ _|refine bI ?_|exact aY _)|exact bw hN rfl rfl|(refine bG hN rfl ?_;first|exact aM _|exact aN _)|exact aZ rfl rfl rfl|(simp only [bW,List.map_nil])|(with_reducible refine b8 ?_)|(with_reducible refine And.intro ?_ ?_)|(refine ah ?_;omega)|(exact bu hN (by decide))))
 (refine d8 hN [4,5] (by decide) (.inr rfl) (by first|exact cL rfl rfl|exact cF hN rfl rfl rfl rfl|exact cy hN rfl rfl rfl rfl rfl|(simp (disch:=first|decide|omega|(simp only [List.length_cons,List.length_nil];omega)) only [ci,cu,cw,cx,go_sem,beq_self_eq_true,↓aj,↓ak hN,am hN,reduceIte,reduceCtorEq,Nat.reduceAdd,Nat.reduceLT,Nat.reduceLeDiff,Nat.reduceEqDiff,Nat.reduceSub];rfl)|rfl) ?_ fun νs hνs=>?_;(repeat' (first|exact Gone.nil|(refine Gone.cons rfl rfl ?_ ?_)|(with_reducible refine dA ?_)|(with_reducible refine dz ?_)|(with_reducible refine SVs.cons ?_ ?_)|(with_reducible exact SVs.nil)|(simp only [List.drop,List.take])|(simp (disch:=first|decide|omega) only [↓aj,reduceIte,reduceCtorEq,Nat.reduceEqDiff])|(with_reducible exact fw _)|(with_reducible exact dw _)|(exact dx rfl rfl rfl)|(exact dy 0 (by simp) rfl rfl)|(exact dy 1 (by simp) rfl rfl)|(refine d7 hN rfl (dB hN (by decide)) ?_)|(with_reducible refine d6 ?_)|(with_reducible rfl)|(with_reducible refine bA ?_)|(with_reducible refine bC ?_)|(with_reducible refine bD ?_)|(with_reducible refine bB ?_)|(with_reducible refine bz ?_)|(refine ah ?_;omega))))
def rs (g : Pa) (ps : List Int) : Prop:=uY g ps ∧ ∀ v,v < ps.length → 0 ≤ gi ps v → gi g.ar.own v = gi (bT g) v
theorem js {g : Pa} {ps : List Int} (h : rs g ps) : PickOk g ps:=by
 obtain ⟨⟨⟨hg,hp⟩,hw⟩,ho⟩:=h
 refine ⟨hp,fun v hv hp0=>⟨ho v (by have:=hp.1;omega) hp0,?_⟩⟩
 have hl:=hg.len
 have hn:=(kA (dO hg hp) (v:=v) hv).1
 rw [show gr (dj g ps).ar.nxt v = cS g.ar.nxt ps v from dM _ (by omega),hw] at hn
 unfold cS at hn
 rw [if_pos hp0] at hn
 obtain ⟨t,ht,e⟩:=hn
 have : t = 0:=by simpa using ht
 subst this
 exact e
end Go.Proofs.Ytfaefmabjjndeaa
