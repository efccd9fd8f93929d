/-
  Solved and PlanFrom: the program's side.
-/
import Derived.Test.YtfaefmabjjndeaaZgE14
import Derived.Test.YtfaefmabjjndeaaZgD5
import Derived.Test.YtfaefmabjjndeaaZgE15
import Derived.Test.YtfaefmabjjndeaaZgNp
namespace Go.Proofs.Ytfaefmabjjndeaa
set_option linter.unusedVariables false
set_option linter.unusedSimpArgs false
open Go.RowKit
def jG (g : Pa) (W : List Int) (i : Int) (ps : List Int) : Prop:=∀ v : Nat,(v : Int) ∈ atL W i → PG.Won (pgP (cW g ps)) i (fun v : Nat=>(v : Int) ∈ atL W i) v
noncomputable def fH (g : Pa) (W : List Int) (v : Nat) (ps : List Int) : List Int → Int
 | [] => -1
 | u :: us => if tf (gi W u.toNat = gi W v ∧ jG g W (gi W v) (ps.set v u)) then u else fH g W v ps us
noncomputable def eU (g : Pa) (W ps : List Int) (v : Nat) : List Int:=if gi g.ar.own v = gi W v ∧ gi ps v < 0 then ps.set v (fH g W v ps (gr g.ar.nxt v)) else ps
noncomputable def cV (g : Pa) (W ps : List Int) : Nat → List Int
 | 0 => ps
 | k + 1 => eU g W (cV g W ps k) k
structure PickOk (g : Pa) (ps : List Int) : Prop where
 pk : d8 g ps
 in' : ∀ v,v < g.prio.length → 0 ≤ gi ps v → gi g.ar.own v = gi (bH g) v ∧ gi (bH g) (gi ps v).toNat = gi (bH g) v
theorem ep {g : Pa} (hg : PaOk g) {v t : Nat} (hv : v < g.prio.length) (ht : t < (gr g.ar.nxt v).length) : 0 ≤ gi (gr g.ar.nxt v) t ∧ gi (gr g.ar.nxt v) t < g.prio.length:=by
 have hl:=hg.len
 have:=(hg.ar.vert v (by omega)).2.2.2.2 t ht
 exact ⟨this.1,by omega⟩
theorem wt {g : Pa} (hg : PaOk g) {v t : Nat} (hv : v < g.prio.length) (ht : t < (gr g.ar.nxt v).length) : (pgP g).E v (gi (gr g.ar.nxt v) t).toNat:=by
 have:=ep hg hv ht
 exact (iU _ _).2 ⟨hv,by omega,t,ht,by omega⟩
theorem gW {g : Pa} (hg : PaOk g) {v : Nat} (hv : v < g.prio.length) : (∃ t,t < (gr g.ar.nxt v).length ∧ gi (bH g) (gi (gr g.ar.nxt v) t).toNat = gi (bH g) v) ∧ (gi g.ar.own v ≠ gi (bH g) v → ∀ t,t < (gr g.ar.nxt v).length → gi (bH g) (gi (gr g.ar.nxt v) t).toNat = gi (bH g) v):=by
 have hl:=hg.len
 have hi:=iW (g:=g) hv
 obtain ⟨⟨σ,d⟩,_⟩:=PG.won_for (G:=pgP g) kw t7 (fV hg) hi
 have hw : PG.Won (pgP g) (gi (bH g) v) (fU g) v:=(ic hg hv hi).1 rfl
 have hall : gi g.ar.own v ≠ gi (bH g) v → ∀ t,t < (gr g.ar.nxt v).length → gi (bH g) (gi (gr g.ar.nxt v) t).toNat = gi (bH g) v:=fun ho t ht=>by
  have hb:=ep hg hv ht
  have:=d.yours v _ hw (by rw [np hg hv];exact ho) (wt hg hv ht) (show _ < _ by omega)
  exact (ic hg (by omega) hi).2 this
 refine ⟨?_,hall⟩
 by_cases ho : gi g.ar.own v = gi (bH g) v
 · obtain ⟨b1,b2⟩:=d.mine v hw (by rw [np hg hv];exact ho)
   obtain ⟨_,h2,t,ht,e⟩:=(iU _ _).1 b1
   exact ⟨t,ht,by rw [e,Int.toNat_natCast];exact (ic hg h2 hi).2 b2⟩
 · obtain ⟨_,_,h3,_⟩:=hg.ar.vert v (by omega)
   exact ⟨0,by omega,hall ho 0 (by omega)⟩
theorem ee {g : Pa} {i : Int} {v : Nat} : (v : Int) ∈ atL (bH g) i ↔ v < g.prio.length ∧ gi (bH g) v = i:=by
 rw [mq,dN]
 constructor
 · rintro ⟨u,h1,h2,h3⟩
   have : u = v:=by omega
   subst this;exact ⟨h1,h3⟩
 · rintro ⟨h1,h2⟩;exact ⟨v,h1,rfl,h2⟩
theorem gX {g : Pa} {i x : Int} (h0 : 0 ≤ x) : x ∈ atL (bH g) i ↔ x < g.prio.length ∧ gi (bH g) x.toNat = i:=by
 have:=ee (g:=g) (i:=i) (v:=x.toNat)
 rw [Int.toNat_of_nonneg h0] at this
 rw [this]
 exact ⟨fun h=>⟨by omega,h.2⟩,fun h=>⟨by omega,h.2⟩⟩
theorem ky {g : Pa} (hg : PaOk g) {ps : List Int} (h : PickOk g ps) (i : Int) : kp (cW g ps).ar (atL (bH g) i):=by
 have hl:=hg.len
 have hs:=ly (bH g) i
 rw [dN] at hs
 refine ⟨by rw [show (cW g ps).ar.own = g.ar.own from rfl,← hl];exact hs,fun k hk=>?_⟩
 have h0:=hs k hk
 have hm:=dr hk
 obtain ⟨h1,h2⟩:=(gX h0.1).1 hm
 have hv : (gi (atL (bH g) i) k).toNat < g.prio.length:=by omega
 generalize (gi (atL (bH g) i) k).toNat = v at *
 rw [show gr (cW g ps).ar.nxt v = cQ g.ar.nxt ps v from dK _ (by omega)]
 unfold cQ
 split
 · rename_i hp
   refine ⟨0,by simp,?_⟩
   show gi ps v ∈ _
   obtain ⟨h3,h4⟩:=h.in' v hv hp
   rcases h.pk.2 v (by have:=h.pk.1;omega) with e|e
   · omega
   · obtain ⟨t,ht,e'⟩:=dc e
     have:=ep hg hv ht
     rw [e'] at this
     exact (gX hp).2 ⟨this.2,h4.trans h2⟩
 · obtain ⟨t,ht,e⟩:=(gW hg hv).1
   have:=ep hg hv ht
   exact ⟨t,ht,(gX this.1).2 ⟨this.2,e.trans h2⟩⟩
theorem kz {g : Pa} (hg : PaOk g) {ps : List Int} (h : PickOk g ps) {v : Nat} (hv : v < g.prio.length) (ho : gi g.ar.own v = gi (bH g) v) {u : Int} (hu : u ∈ gr g.ar.nxt v) (hw : gi (bH g) u.toNat = gi (bH g) v) : PickOk g (ps.set v u):=by
 have h1:=h.pk.1
 have hlt : v < ps.length:=by omega
 refine ⟨⟨by rw [List.length_set];exact h1,fun x hx=>?_⟩,fun x hx hp=>?_⟩
 · rw [List.length_set] at hx
   rw [cU hlt]
   split
   · rename_i e;subst e;exact .inr hu
   · exact h.pk.2 x hx
 · rw [cU hlt] at hp ⊢
   split at hp
   · rename_i e;subst e;rw [if_pos rfl];exact ⟨ho,hw⟩
   · rename_i e;rw [if_neg e];exact h.in' x hx hp
theorem pi {ps : List Int} {v : Nat} (h : gi ps v = -1) : ps.set v (-1) = ps:=rH h
theorem kA (g : Pa) (W : List Int) (v : Nat) (ps : List Int) : ∀ us : List Int,fH g W v ps us = -1 ∨ (fH g W v ps us ∈ us ∧ gi W (fH g W v ps us).toNat = gi W v ∧ jG g W (gi W v) (ps.set v (fH g W v ps us))):=by
 intro us
 induction us with
 | nil => exact .inl rfl
 | cons u us ih =>
   unfold fH
   by_cases h : gi W u.toNat = gi W v ∧ jG g W (gi W v) (ps.set v u)
   · rw [bZ h,tb]
     exact .inr ⟨List.mem_cons_self,h.1,h.2⟩
   · rw [aX h,uR]
     rcases ih with h'|⟨h1,h2⟩
     · exact .inl h'
     · exact .inr ⟨List.mem_cons_of_mem _ h1,h2⟩
theorem si {g : Pa} (hg : PaOk g) {ps : List Int} (h : PickOk g ps) {v : Nat} (hv : v < g.prio.length) : PickOk g (eU g (bH g) ps v):=by
 unfold eU
 split
 · rename_i hc
   rcases kA g (bH g) v ps (gr g.ar.nxt v) with e|⟨h1,h2,_⟩
   · rw [e]
     have : gi ps v = -1:=by
      rcases h.pk.2 v (by have:=h.pk.1;omega) with e|e
      · exact e
      · obtain ⟨t,ht,e'⟩:=dc e
        have:=ep hg hv ht
        omega
     rw [pi this];exact h
   · exact kz hg h hv hc.1 h1 h2
 · exact h
theorem eV {g : Pa} (hg : PaOk g) {ps : List Int} (h : PickOk g ps) : ∀ k,k ≤ g.prio.length → PickOk g (cV g (bH g) ps k):=by
 intro k
 induction k with
 | zero => intro _; exact h
 | succ k ih => intro hk; exact si hg (ih (by omega)) (by omega)
end Go.Proofs.Ytfaefmabjjndeaa
namespace Go.Proofs.Ytfaefmabjjndeaa
set_option linter.unusedVariables false
set_option linter.unusedSimpArgs false
open Go.RowKit
attribute [local irreducible] aG cO Aw Le
theorem oy (a : Ar) (ha : ArOk a) (ps : List Int) (hp : ps.length = a.own.length) : eG Try.prog 162 (fun ν=>[arA a,.sl (ν 0)]) [.arr 2 .yes (.I ps)] [.arr 2 .yes (.I ps)] [] (fun _=>arA (ef a ps)):=by
 have hle:=ha.le
 have hln:=ha.len
 have hca:=jz a (by omega) (by omega) fun k hk=>by have:=(ha.vert k (by omega)).2.2.2.1;omega
 (refine fp aM Try.func162 rfl rfl (fun _=>by kernel_rfl) rfl rfl rfl rfl (by first|exact iM _|exact gO (j:=0) (by simp) (by simp [Ent.kind])|exact gP (j:=0) (by simp) (by simp [Ent.kind])|exact fm rfl|exact fO|exact iN _) fun hp0 ν hX hN=>?_;simp only [cL,Nat.reduceAdd])
 (repeat' (first|(with_reducible first|(refine hK _ _ ?_;clear hK K)|(refine aa _ ?_;clear aa K)|refine bh ?_|refine b7 ?_|refine a9 ?_|refine aq ?_|refine ap ?_|refine b8 ?_|refine aI ?_|refine ba ?_|refine b9 ?_|refine bc ?_|refine bd rfl ?_|refine bi ?_|refine be ?_|refine ca ?_|refine bf ?_|refine aH ?_|refine n_k ?_|refine bg ?_|(refine ae ?_;clear ae X af Y)|(refine af ?_;clear ae X af Y))|(with_reducible refine bo ?_;first|refine bm rfl ?_|refine bn rfl ?_)|(with_reducible refine aW ?_;first|refine au rfl rfl rfl rfl ?_|refine aK rfl rfl rfl ?_|refine bt rfl rfl rfl rfl ?_)|((first|(with_reducible first|refine bp rfl rfl fun K hK=>?_|refine br rfl rfl fun K aa=>?_|refine aJ fun X Y ae af=>?_|refine aL ?_));simp (disch:=first|decide|omega|(simp only [List.length_cons,List.length_nil];omega)) only [go_sem,beq_self_eq_true,↓aj,↓ak hN,am hN,reduceIte,reduceCtorEq,Nat.reduceAdd,Nat.reduceLT,Nat.reduceLeDiff,Nat.reduceEqDiff,Nat.reduceSub])|(with_reducible refine And.intro (fun h=>?_) (fun h=>?_) <;> try (exfalso;omega))|(with_reducible refine bj aM hN rfl ?_ ?_;kernel_rfl)|(refine dF (hca) ?_ rfl rfl ?_;focus ((repeat' (first|(with_reducible first|exact aF|refine ax ?_ ?_|exact cu _|refine bw ?_|exact a8 _|exact bY _ _|refine bX ?_|exact aY _)|exact bz hN rfl rfl|(refine bW hN rfl ?_;first|exact aN _|exact aO _)|exact aZ rfl rfl rfl));done))|(with_reducible first|exact aF|refine ax ?_ ?_|exact cu _|refine bw ?_|exact a8 _|exact bY _ _|refine bX ?_|exact aY _)|exact bz hN rfl rfl|(refine bW hN rfl ?_;first|exact aN _|exact aO _)|exact aZ rfl rfl rfl|(simp only [bI,List.map_nil])|(with_reducible refine cc ?_)|(with_reducible refine And.intro ?_ ?_)|(refine ah ?_;omega)|(exact bu hN (by decide))))
 (refine ck (fun (k : Nat)=>(tmL [(12,.c (.int .i64 k)),(11,.c (.int .i64 ps.length)),(10,.sl (ν 0)),(5,.ad (ν 5) 0),(4,.ad (ν 2) 0)],hpL hp0 ν [.arr 2 .yes (.I ps),.dead,.box [.c .nul,.c .nul],.arr 2 .yes (.I a.own),.arr 27 .yes (.R (dh a.own.length fun v=>if v < k then cQ a.nxt ps v else gr a.nxt v)),.box [.sl (ν 3),.sl (ν 4)]])) (fun (k : Nat)=>k ≤ ps.length) (fun (k : Nat)=>ps.length - k) ⟨0,?_,bU hX hN [] ?_ ?_⟩ ?_;(repeat' (first|(with_reducible first|exact bL _|exact bM|exact bN|refine bO ?_ ?_|refine bP ?_ ?_|exact ay _|exact bJ _|exact ao _|rfl|exact aR _ _|refine aA ?_|exact bK _|refine aU ?_)|refine bQ rfl ?_ ?_|exact aS hN _ rfl rfl rfl|exact aT hN _ rfl rfl rfl|exact aB hN _ rfl rfl rfl (Or.inr rfl)|(refine aP hN _ rfl rfl (by first|exact Or.inr rfl|exact Or.inl rfl) ?_;first|exact aN _|exact aO _)|refine aC hN rfl ?_|refine aD hN rfl rfl ?_|exact az hN _ rfl rfl|exact aE hN rfl rfl rfl rfl|(with_reducible first|refine aQ ?_|refine bC ?_|refine bE ?_|refine bF ?_|refine bD ?_|refine bB ?_)));(try (any_goals (first|(with_reducible rfl)|(refine ah ?_;omega)))))
 · exact (jS hln fun k hk=>rfl).symm
 intro k hk
 have htl:=eo a.own.length fun v=>if v < k then cQ a.nxt ps v else gr a.nxt v
 (repeat' (first|(with_reducible first|(refine hK _ _ ?_;clear hK K)|(refine aa _ ?_;clear aa K)|refine bh ?_|refine b7 ?_|refine a9 ?_|refine aq ?_|refine ap ?_|refine b8 ?_|refine aI ?_|refine ba ?_|refine b9 ?_|refine bc ?_|refine bd rfl ?_|refine bi ?_|refine be ?_|refine ca ?_|refine bf ?_|refine aH ?_|refine n_k ?_|refine bg ?_|(refine ae ?_;clear ae X af Y)|(refine af ?_;clear ae X af Y))|(with_reducible refine bo ?_;first|refine bm rfl ?_|refine bn rfl ?_)|(with_reducible refine aW ?_;first|refine au rfl rfl rfl rfl ?_|refine aK rfl rfl rfl ?_|refine bt rfl rfl rfl rfl ?_)|((first|(with_reducible first|refine bp rfl rfl fun K hK=>?_|refine br rfl rfl fun K aa=>?_|refine aJ fun X Y ae af=>?_|refine aL ?_));simp (disch:=first|decide|omega|(simp only [List.length_cons,List.length_nil];omega)) only [go_sem,beq_self_eq_true,↓aj,↓ak hN,am hN,reduceIte,reduceCtorEq,Nat.reduceAdd,Nat.reduceLT,Nat.reduceLeDiff,Nat.reduceEqDiff,Nat.reduceSub])|(with_reducible refine And.intro (fun h=>?_) (fun h=>?_) <;> try (exfalso;omega))|(with_reducible refine bj aM hN rfl ?_ ?_;kernel_rfl)|(with_reducible refine And.intro ?_ ?_)|(refine ah ?_;omega)|(exact bu hN (by decide))))
 · (refine ⟨k + 1,⟨?_,?_⟩,bU hX hN [] ?_ ?_⟩;(try any_goals dsimp only);(repeat' (first|(with_reducible first|exact bL _|exact bM|exact bN|refine bO ?_ ?_|refine bP ?_ ?_|exact ay _|exact bJ _|exact ao _|rfl|exact aR _ _|refine aA ?_|exact bK _|refine aU ?_)|refine bQ rfl ?_ ?_|exact aS hN _ rfl rfl rfl|exact aT hN _ rfl rfl rfl|exact aB hN _ rfl rfl rfl (Or.inr rfl)|(refine aP hN _ rfl rfl (by first|exact Or.inr rfl|exact Or.inl rfl) ?_;first|exact aN _|exact aO _)|refine aC hN rfl ?_|refine aD hN rfl rfl ?_|exact az hN _ rfl rfl|exact aE hN rfl rfl rfl rfl|(with_reducible first|refine aQ ?_|refine bC ?_|refine bE ?_|refine bF ?_|refine bD ?_|refine bB ?_)));(try (any_goals (first|(with_reducible rfl)|(refine ah ?_;omega)))))
   exact t5 (by omega) (by unfold cQ;rw [if_pos (by assumption)])
 · (refine ⟨k + 1,⟨?_,?_⟩,bU hX hN [] ?_ ?_⟩;(try any_goals dsimp only);(repeat' (first|(with_reducible first|exact bL _|exact bM|exact bN|refine bO ?_ ?_|refine bP ?_ ?_|exact ay _|exact bJ _|exact ao _|rfl|exact aR _ _|refine aA ?_|exact bK _|refine aU ?_)|refine bQ rfl ?_ ?_|exact aS hN _ rfl rfl rfl|exact aT hN _ rfl rfl rfl|exact aB hN _ rfl rfl rfl (Or.inr rfl)|(refine aP hN _ rfl rfl (by first|exact Or.inr rfl|exact Or.inl rfl) ?_;first|exact aN _|exact aO _)|refine aC hN rfl ?_|refine aD hN rfl rfl ?_|exact az hN _ rfl rfl|exact aE hN rfl rfl rfl rfl|(with_reducible first|refine aQ ?_|refine bC ?_|refine bE ?_|refine bF ?_|refine bD ?_|refine bB ?_)));(try (any_goals (first|(with_reducible rfl)|(refine ah ?_;omega)))))
   exact pg (by unfold cQ;rw [if_neg (by assumption)])
 · rw [lx (by omega)]
   (refine ⟨.inr rfl,_,(by first|exact cG rfl rfl|exact cw hN rfl rfl rfl rfl|exact ch hN rfl rfl rfl rfl rfl|(simp (disch:=first|decide|omega|(simp only [List.length_cons,List.length_nil];omega)) only [ci,cj,cm,co,go_sem,beq_self_eq_true,↓aj,↓ak hN,am hN,reduceIte,reduceCtorEq,Nat.reduceAdd,Nat.reduceLT,Nat.reduceLeDiff,Nat.reduceEqDiff,Nat.reduceSub];rfl)|rfl),[],_,rfl,?_,rfl,?_⟩;(all_goals try simp only [List.drop,List.take,List.cons_append,List.nil_append,nmL,List.length_cons,List.length_nil,Nat.reduceAdd,List.getD_cons_zero]);(repeat' (first|(with_reducible first|exact bL _|exact bM|exact bN|refine bO ?_ ?_|refine bP ?_ ?_|exact ay _|exact bJ _|exact ao _|rfl|exact aR _ _|refine aA ?_|exact bK _|refine aU ?_)|refine bQ rfl ?_ ?_|exact aS hN _ rfl rfl rfl|exact aT hN _ rfl rfl rfl|exact aB hN _ rfl rfl rfl (Or.inr rfl)|(refine aP hN _ rfl rfl (by first|exact Or.inr rfl|exact Or.inl rfl) ?_;first|exact aN _|exact aO _)|refine aC hN rfl ?_|refine aD hN rfl rfl ?_|exact az hN _ rfl rfl|exact aE hN rfl rfl rfl rfl|(with_reducible first|refine aQ ?_|refine bC ?_|refine bE ?_|refine bF ?_|refine bD ?_|refine bB ?_))))
theorem qt (g : Pa) (hg : PaOk g) (ps : List Int) (hp : ps.length = g.prio.length) : eG Try.prog 104 (fun ν=>[paA g,.sl (ν 0)]) [.arr 2 .yes (.I ps)] [.arr 2 .yes (.I ps)] [] (fun _=>paA (cW g ps)):=by
 have hl:=hg.len
 have hle:=hg.ar.le
 (refine fp aM Try.func104 rfl rfl (fun _=>by kernel_rfl) rfl rfl rfl rfl (by first|exact iM _|exact gO (j:=0) (by simp) (by simp [Ent.kind])|exact gP (j:=0) (by simp) (by simp [Ent.kind])|exact fm rfl|exact fO|exact iN _) fun hp0 ν hX hN=>?_;simp only [cL,Nat.reduceAdd])
 (repeat' (first|(with_reducible first|(refine hK _ _ ?_;clear hK K)|(refine aa _ ?_;clear aa K)|(refine ab _ _ _ ?_;clear ab K)|(refine ac _ _ ?_;clear ac K)|refine bh ?_|refine b7 ?_|refine a9 ?_|refine aq ?_|refine ap ?_|refine b8 ?_|refine aI ?_|refine ba ?_|refine b9 ?_|refine bc ?_|refine bd rfl ?_|refine bi ?_|refine be ?_|refine ca ?_|refine bf ?_|refine aH ?_|refine n_k ?_|refine bg ?_|(refine ae ?_;clear ae X af Y)|(refine af ?_;clear ae X af Y))|(with_reducible refine bo ?_;first|refine bm rfl ?_|refine bn rfl ?_)|(with_reducible refine aW ?_;first|refine au rfl rfl rfl rfl ?_|refine aK rfl rfl rfl ?_|refine bt rfl rfl rfl rfl ?_)|(with_reducible refine cr ?_;first|refine bR rfl rfl rfl rfl ?_|refine cf rfl rfl rfl ?_|refine cA rfl rfl rfl rfl ?_|refine cB hN (by apply Exists.intro;apply And.intro;(repeat' (first|apply FtI.nil|apply FI.nil|apply FI.cons|apply FtI.cons));kernel_rfl) ?_)|((first|(with_reducible first|refine bp rfl rfl fun K hK=>?_|refine cy rfl rfl fun K ab=>?_|refine br rfl rfl fun K aa=>?_|refine cz rfl rfl fun K ac=>?_|refine aJ fun X Y ae af=>?_|refine aL ?_));simp (disch:=first|decide|omega|(simp only [List.length_cons,List.length_nil];omega)) only [go_sem,beq_self_eq_true,↓aj,↓ak hN,am hN,reduceIte,reduceCtorEq,Nat.reduceAdd,Nat.reduceLT,Nat.reduceLeDiff,Nat.reduceEqDiff,Nat.reduceSub])|(with_reducible refine And.intro (fun h=>?_) (fun h=>?_) <;> try (exfalso;omega))|(with_reducible refine bj aM hN rfl ?_ ?_;kernel_rfl)|(with_reducible refine bS aM hN rfl ?_ ?_ ?_ ?_;(kernel_rfl);(kernel_rfl);(kernel_rfl))|(refine dQ (oy g.ar hg.ar ps (by omega)) hN 0 rfl rfl rfl rfl rfl ?_ ?_ ?_ ?_;(focus (simp [bG,AV.names];done));(focus (intro ν' hν;(repeat' (first|exact ArgMs.nil|refine ArgMs.cons ?_ ?_|exact gy hν|exact gz hν|exact jh _|exact iO (by first|exact a8 _|exact aY _|exact aZ rfl rfl rfl) rfl|(refine gA hN rfl ?_ (by decide);first|exact aN _|exact aO _)|refine eN ?_));done));(focus (first|exact Or.inr ⟨rfl,rfl,fun _=>rfl⟩|exact Or.inl (by simp [bG,AV.names]))))|(with_reducible first|exact aF|refine ax ?_ ?_|exact cu _|refine bw ?_|exact a8 _|exact bY _ _|refine bX ?_|exact aY _)|exact bz hN rfl rfl|(refine bW hN rfl ?_;first|exact aN _|exact aO _)|exact aZ rfl rfl rfl|(simp only [bI,List.map_nil])|(with_reducible refine cc ?_)|(simp (disch:=first|decide|omega|(simp only [List.length_cons,List.length_nil];omega)) only [bI,List.map_cons,List.map_nil,am hN,List.set_cons_zero,List.set_cons_succ])|(with_reducible refine And.intro ?_ ?_)|(refine ah ?_;omega)|(exact bu hN (by decide))))
 (refine ⟨.inr rfl,_,(by first|exact cG rfl rfl|exact cw hN rfl rfl rfl rfl|exact ch hN rfl rfl rfl rfl rfl|(simp (disch:=first|decide|omega|(simp only [List.length_cons,List.length_nil];omega)) only [ci,cj,cm,co,go_sem,beq_self_eq_true,↓aj,↓ak hN,am hN,reduceIte,reduceCtorEq,Nat.reduceAdd,Nat.reduceLT,Nat.reduceLeDiff,Nat.reduceEqDiff,Nat.reduceSub];rfl)|rfl),[],_,rfl,?_,rfl,?_⟩;(all_goals try simp only [List.drop,List.take,List.cons_append,List.nil_append,nmL,List.length_cons,List.length_nil,Nat.reduceAdd,List.getD_cons_zero]);(repeat' (first|(with_reducible first|exact bL _|exact bM|exact bN|refine bO ?_ ?_|refine bP ?_ ?_|exact ay _|exact bJ _|exact ao _|rfl|exact aR _ _|refine aA ?_|exact bK _|refine aU ?_)|refine bQ rfl ?_ ?_|exact aS hN _ rfl rfl rfl|exact aT hN _ rfl rfl rfl|exact aB hN _ rfl rfl rfl (Or.inr rfl)|(refine aP hN _ rfl rfl (by first|exact Or.inr rfl|exact Or.inl rfl) ?_;first|exact aN _|exact aO _)|refine aC hN rfl ?_|refine aD hN rfl rfl ?_|exact az hN _ rfl rfl|exact aE hN rfl rfl rfl rfl|(with_reducible first|refine aQ ?_|refine bC ?_|refine bE ?_|refine bF ?_|refine bD ?_|refine bB ?_))))
 all_goals rfl
abbrev xl (W : List Int) : AV:=.agg [.c (.I W),.c .nul]
theorem oz (W : List Int) (who : Int) (hl : W.length ≤ 256) : aG Try.prog 32 [xl W,.c (.int .i64 who)] [.arr 2 .yes (.I (atL W who))] (fun ns=>.sl (ns.getD 0 0)):=by
 (refine bT aM Try.func32 rfl rfl (by kernel_rfl) fun hp0 ν hX hN=>?_;simp only [cL,Nat.reduceAdd])
 (repeat' (first|(with_reducible first|(refine hK _ _ ?_;clear hK K)|(refine aa _ ?_;clear aa K)|refine bh ?_|refine b7 ?_|refine a9 ?_|refine aq ?_|refine ap ?_|refine b8 ?_|refine aI ?_|refine ba ?_|refine b9 ?_|refine bc ?_|refine bd rfl ?_|refine bi ?_|refine be ?_|refine ca ?_|refine bf ?_|refine aH ?_|refine n_k ?_|refine bg ?_|(refine ae ?_;clear ae X af Y)|(refine af ?_;clear ae X af Y))|(with_reducible refine bo ?_;first|refine bm rfl ?_|refine bn rfl ?_)|(with_reducible refine aW ?_;first|refine au rfl rfl rfl rfl ?_|refine aK rfl rfl rfl ?_|refine bt rfl rfl rfl rfl ?_)|((first|(with_reducible first|refine bp rfl rfl fun K hK=>?_|refine br rfl rfl fun K aa=>?_|refine aJ fun X Y ae af=>?_|refine aL ?_));simp (disch:=first|decide|omega|(simp only [List.length_cons,List.length_nil];omega)) only [go_sem,beq_self_eq_true,↓aj,↓ak hN,am hN,reduceIte,reduceCtorEq,Nat.reduceAdd,Nat.reduceLT,Nat.reduceLeDiff,Nat.reduceEqDiff,Nat.reduceSub])|(with_reducible refine And.intro (fun h=>?_) (fun h=>?_) <;> try (exfalso;omega))|(with_reducible refine bj aM hN rfl ?_ ?_;kernel_rfl)|(with_reducible refine And.intro ?_ ?_)|(refine ah ?_;omega)|(exact bu hN (by decide))))
 (refine ck (fun (k : Nat)=>(tmL [(16,.c (.int .i64 k)),(15,.c (.int .i64 W.length)),(14,.c (.I W)),(5,.sl (ν 1)),(1,.c (.int .i64 who))],hpL hp0 ν [.dead,.arr 2 .yes (.I (c7 (cP W.length fun v=>gi W v == who) k))])) (fun (k : Nat)=>k ≤ W.length) (fun (k : Nat)=>W.length - k) ⟨0,?_,bU hX hN [] ?_ ?_⟩ ?_;(repeat' (first|(with_reducible first|exact bL _|exact bM|exact bN|refine bO ?_ ?_|refine bP ?_ ?_|exact ay _|exact bJ _|exact ao _|rfl|exact aR _ _|refine aA ?_|exact bK _|refine aU ?_)|refine bQ rfl ?_ ?_|exact aS hN _ rfl rfl rfl|exact aT hN _ rfl rfl rfl|exact aB hN _ rfl rfl rfl (Or.inr rfl)|(refine aP hN _ rfl rfl (by first|exact Or.inr rfl|exact Or.inl rfl) ?_;first|exact aN _|exact aO _)|refine aC hN rfl ?_|refine aD hN rfl rfl ?_|exact az hN _ rfl rfl|exact aE hN rfl rfl rfl rfl|(with_reducible first|refine aQ ?_|refine bC ?_|refine bE ?_|refine bF ?_|refine bD ?_|refine bB ?_)));(try (any_goals (first|(with_reducible rfl)|(refine ah ?_;omega)))))
 · rfl
 intro k hk
 have hll:=fS (cP W.length fun v=>gi W v == who) k
 have hgk : k < W.length → gb (cP W.length fun v=>gi W v == who) k = (gi W k == who):=fun h=>dE _ h
 (repeat' (first|(with_reducible first|(refine hK _ _ ?_;clear hK K)|(refine aa _ ?_;clear aa K)|refine bh ?_|refine b7 ?_|refine a9 ?_|refine aq ?_|refine ap ?_|refine b8 ?_|refine aI ?_|refine ba ?_|refine b9 ?_|refine bc ?_|refine bd rfl ?_|refine bi ?_|refine be ?_|refine ca ?_|refine bf ?_|refine aH ?_|refine n_k ?_|refine bg ?_|(refine ae ?_;clear ae X af Y)|(refine af ?_;clear ae X af Y))|(with_reducible refine bo ?_;first|refine bm rfl ?_|refine bn rfl ?_)|(with_reducible refine aW ?_;first|refine au rfl rfl rfl rfl ?_|refine aK rfl rfl rfl ?_|refine bt rfl rfl rfl rfl ?_)|((first|(with_reducible first|refine bp rfl rfl fun K hK=>?_|refine br rfl rfl fun K aa=>?_|refine aJ fun X Y ae af=>?_|refine aL ?_));simp (disch:=first|decide|omega|(simp only [List.length_cons,List.length_nil];omega)) only [go_sem,beq_self_eq_true,↓aj,↓ak hN,am hN,reduceIte,reduceCtorEq,Nat.reduceAdd,Nat.reduceLT,Nat.reduceLeDiff,Nat.reduceEqDiff,Nat.reduceSub])|(with_reducible refine And.intro (fun h=>?_) (fun h=>?_) <;> try (exfalso;omega))|(with_reducible refine bj aM hN rfl ?_ ?_;kernel_rfl)|(with_reducible refine And.intro ?_ ?_)|(refine ah ?_;omega)|(exact bu hN (by decide))))
 · (refine ⟨k + 1,⟨?_,?_⟩,bU hX hN [(1,3)] ?_ ?_⟩;(try any_goals dsimp only);(repeat' (first|(with_reducible first|exact bL _|exact bM|exact bN|refine bO ?_ ?_|refine bP ?_ ?_|exact ay _|exact bJ _|exact ao _|rfl|exact aR _ _|refine aA ?_|exact bK _|refine aU ?_)|refine bQ rfl ?_ ?_|exact aS hN _ rfl rfl rfl|exact aT hN _ rfl rfl rfl|exact aB hN _ rfl rfl rfl (Or.inr rfl)|(refine aP hN _ rfl rfl (by first|exact Or.inr rfl|exact Or.inl rfl) ?_;first|exact aN _|exact aO _)|refine aC hN rfl ?_|refine aD hN rfl rfl ?_|exact az hN _ rfl rfl|exact aE hN rfl rfl rfl rfl|(with_reducible first|refine aQ ?_|refine bC ?_|refine bE ?_|refine bF ?_|refine bD ?_|refine bB ?_)));(try (any_goals (first|(with_reducible rfl)|(refine ah ?_;omega)))))
   rw [c7,if_pos (by rw [hgk (by omega)];simpa using (by assumption : gi W k = who))]
 · have h0 : (gi W k == who) = false:=by assumption
   (refine ⟨k + 1,⟨?_,?_⟩,bU hX hN [] ?_ ?_⟩;(try any_goals dsimp only);(repeat' (first|(with_reducible first|exact bL _|exact bM|exact bN|refine bO ?_ ?_|refine bP ?_ ?_|exact ay _|exact bJ _|exact ao _|rfl|exact aR _ _|refine aA ?_|exact bK _|refine aU ?_)|refine bQ rfl ?_ ?_|exact aS hN _ rfl rfl rfl|exact aT hN _ rfl rfl rfl|exact aB hN _ rfl rfl rfl (Or.inr rfl)|(refine aP hN _ rfl rfl (by first|exact Or.inr rfl|exact Or.inl rfl) ?_;first|exact aN _|exact aO _)|refine aC hN rfl ?_|refine aD hN rfl rfl ?_|exact az hN _ rfl rfl|exact aE hN rfl rfl rfl rfl|(with_reducible first|refine aQ ?_|refine bC ?_|refine bE ?_|refine bF ?_|refine bD ?_|refine bB ?_)));(try (any_goals (first|(with_reducible rfl)|(refine ah ?_;omega)))))
   rw [c7,if_neg (by rw [hgk (by omega),h0];simp),List.append_nil]
 · (refine dk hN (i:=1) (.inr rfl) (by first|rfl|(simp (disch:=first|decide|omega|(simp only [List.length_cons,List.length_nil];omega)) only [ci,cj,cm,co,go_sem,beq_self_eq_true,↓aj,↓ak hN,am hN,reduceIte,reduceCtorEq,Nat.reduceAdd,Nat.reduceLT,Nat.reduceLeDiff,Nat.reduceEqDiff,Nat.reduceSub];rfl)) rfl ?_ rfl)
   rw [show k = W.length by omega];rfl
theorem lA {us : List Int} {t : Nat} (ht : t < us.length) : us.drop t = gi us t :: us.drop (t + 1):=by
 rw [List.drop_eq_getElem_cons ht]
 simp [gi,List.getD_eq_getElem?_getD,List.getElem?_eq_getElem ht]
theorem nq {g : Pa} {W ps us : List Int} {v t : Nat} (ht : t < us.length) (h : gi W (gi us t).toNat = gi W v ∧ jG g W (gi W v) (ps.set v (gi us t))) : fH g W v ps (us.drop t) = gi us t:=by
 rw [lA ht,fH,bZ h,tb]
theorem ig {g : Pa} {W ps us : List Int} {v t : Nat} (ht : t < us.length) (h : ¬ (gi W (gi us t).toNat = gi W v ∧ jG g W (gi W v) (ps.set v (gi us t)))) : fH g W v ps (us.drop t) = fH g W v ps (us.drop (t + 1)):=by
 rw [lA ht,fH,aX h,uR]
theorem sj {g : Pa} {W ps us : List Int} {v t : Nat} (ht : us.length ≤ t) : fH g W v ps (us.drop t) = -1:=by
 rw [List.drop_eq_nil_of_le ht];rfl
theorem sk {g : Pa} (hg : PaOk g) {P : List Int} (h : PickOk g P) {k t : Nat} (hk : k < g.prio.length) (ho : gi g.ar.own k = gi (bH g) k) (ht : t < (gr g.ar.nxt k).length) (hw : gi (bH g) (gi (gr g.ar.nxt k) t).toNat = gi (bH g) k) : PickOk g (P.set k (gi (gr g.ar.nxt k) t)):=kz hg h hk ho (dr ht) hw
theorem tP {g : Pa} (hg : PaOk g) {P : List Int} (h : PickOk g P) {k : Nat} (hk : k < g.prio.length) : (gi (bH g) k = 0 ∧ (fW (cW g P) (atL (bH g) (gi (bH g) k)) 1).length = 0 ∨ gi (bH g) k = 1 ∧ (fW (cW g P) (atL (bH g) (gi (bH g) k)) 0).length = 0) ↔ jG g (bH g) (gi (bH g) k) P:=by
 have h01:=iW (g:=g) hk
 have hn:=r7 (dO hg h.pk) (ky hg h (gi (bH g) k)) h01
 rcases h01 with e|e
 · rw [e] at hn ⊢
   exact ⟨fun h=>h.elim (fun h=>hn.1 h.2) (fun h=>absurd h.1 (by omega)),fun h=>.inl ⟨rfl,hn.2 h⟩⟩
 · rw [e] at hn ⊢
   exact ⟨fun h=>h.elim (fun h=>absurd h.1 (by omega)) (fun h=>hn.1 h.2),fun h=>.inr ⟨rfl,hn.2 h⟩⟩
theorem kB {a b : Int} (h : (a == b) = false) : a ≠ b:=by simpa using h
theorem sm {n : Nat} (h : (((n : Nat) : Int) == 0) = false) : n ≠ 0:=by have:=kB h;omega
theorem kC {g : Pa} (hg : PaOk g) {P : List Int} (h : PickOk g P) {k : Nat} (hn : gi P k < 0) : gi P k = -1:=by
 rcases Nat.lt_or_ge k P.length with hk|hk
 · rcases h.pk.2 k hk with e|e
   · exact e
   · obtain ⟨t,ht,e'⟩:=dc e
     have:=ep hg (by have:=h.pk.1;omega) ht
     omega
 · have : gi P k = 0:=by simp [gi,List.getD_eq_getElem?_getD,List.getElem?_eq_none hk]
   omega
set_option maxHeartbeats 4000000 in
theorem kD (g : Pa) (hg : PaOk g) (ps : List Int) (hp : PickOk g ps) : aG Try.prog 73 [paA g,.c (.I ps),.c (.I (bH g))] [.arr 2 .yes (.I (bH g)),.arr 2 .yes (.I (cV g (bH g) ps ps.length))] (fun ns=>.agg [.sl (ns.getD 0 0),.sl (ns.getD 1 0)]):=by
 have hl:=hg.len
 have hle:=hg.ar.le
 have hln:=hg.ar.len
 have hpl:=hp.pk.1
 have hwl:=dN g
 have hok:=eV hg hp
 have hplen : ∀ k,k ≤ g.prio.length → (cV g (bH g) ps k).length = g.prio.length:=fun k hk=>(hok k hk).pk.1
 (refine bT aM Try.func73 rfl rfl (by kernel_rfl) fun hp0 ν hX hN=>?_;simp only [cL,Nat.reduceAdd])
 (repeat' (first|(with_reducible first|(refine hK _ _ ?_;clear hK K)|(refine aa _ ?_;clear aa K)|(refine ab _ _ _ ?_;clear ab K)|(refine ac _ _ ?_;clear ac K)|refine bh ?_|refine b7 ?_|refine a9 ?_|refine aq ?_|refine ap ?_|refine b8 ?_|refine aI ?_|refine ba ?_|refine b9 ?_|refine bc ?_|refine bd rfl ?_|refine bi ?_|refine be ?_|refine ca ?_|refine bf ?_|refine aH ?_|refine n_k ?_|refine bg ?_|(refine ae ?_;clear ae X af Y)|(refine af ?_;clear ae X af Y))|(with_reducible refine bo ?_;first|refine bm rfl ?_|refine bn rfl ?_)|(with_reducible refine aW ?_;first|refine au rfl rfl rfl rfl ?_|refine aK rfl rfl rfl ?_|refine bt rfl rfl rfl rfl ?_)|(with_reducible refine cr ?_;first|refine bR rfl rfl rfl rfl ?_|refine cf rfl rfl rfl ?_|refine cA rfl rfl rfl rfl ?_|refine cB hN (by apply Exists.intro;apply And.intro;(repeat' (first|apply FtI.nil|apply FI.nil|apply FI.cons|apply FtI.cons));kernel_rfl) ?_)|((first|(with_reducible first|refine bp rfl rfl fun K hK=>?_|refine cy rfl rfl fun K ab=>?_|refine br rfl rfl fun K aa=>?_|refine cz rfl rfl fun K ac=>?_|refine aJ fun X Y ae af=>?_|refine aL ?_)|(with_reducible refine aW ?_;refine bv rfl rfl fun X Y ae af=>?_)|(with_reducible refine cr ?_;refine cC rfl rfl fun X Y ae af=>?_));simp (disch:=first|decide|omega|(simp only [List.length_cons,List.length_nil];omega)) only [go_sem,beq_self_eq_true,↓aj,↓ak hN,am hN,reduceIte,reduceCtorEq,Nat.reduceAdd,Nat.reduceLT,Nat.reduceLeDiff,Nat.reduceEqDiff,Nat.reduceSub])|(with_reducible refine And.intro (fun h=>?_) (fun h=>?_) <;> try (exfalso;omega))|(with_reducible refine bj aM hN rfl ?_ ?_;kernel_rfl)|(with_reducible refine bS aM hN rfl ?_ ?_ ?_ ?_;(kernel_rfl);(kernel_rfl);(kernel_rfl))|(with_reducible refine And.intro ?_ ?_)|(refine ah ?_;omega)|(exact bu hN (by decide))))
 (refine ck (fun (k : Nat)=>(tmL [(19,.c (.int .i64 k)),(18,.c (.int .i64 ps.length)),(7,.sl (ν 3)),(6,.ad (ν 1) 0),(3,.ad (ν 0) 0),(2,.c (.I (bH g)))],hpL hp0 ν [.box [.c (.I g.ar.own),.c (.R g.ar.nxt),.c (.I g.prio)],.box [.c .nul,.c .nul],.dead,.arr 2 .yes (.I (cV g (bH g) ps k))])) (fun (k : Nat)=>k ≤ ps.length) (fun (k : Nat)=>ps.length - k) ⟨0,?_,bU hX hN [] ?_ ?_⟩ ?_;(repeat' (first|(with_reducible first|exact bL _|exact bM|exact bN|refine bO ?_ ?_|refine bP ?_ ?_|exact ay _|exact bJ _|exact ao _|rfl|exact aR _ _|refine aA ?_|exact bK _|refine aU ?_)|refine bQ rfl ?_ ?_|exact aS hN _ rfl rfl rfl|exact aT hN _ rfl rfl rfl|exact aB hN _ rfl rfl rfl (Or.inr rfl)|(refine aP hN _ rfl rfl (by first|exact Or.inr rfl|exact Or.inl rfl) ?_;first|exact aN _|exact aO _)|refine aC hN rfl ?_|refine aD hN rfl rfl ?_|exact az hN _ rfl rfl|exact aE hN rfl rfl rfl rfl|(with_reducible first|refine aQ ?_|refine bC ?_|refine bE ?_|refine bF ?_|refine bD ?_|refine bB ?_)));(try (any_goals (first|(with_reducible rfl)|(refine ah ?_;omega)))))
 · rfl
 intro k hk
 have hPl:=hplen k (by omega)
 have hrow:=fun h : k < ps.length=>(hg.ar.vert k (by omega)).2.2.2.1
 have hstep : cV g (bH g) ps (k + 1) = eU g (bH g) (cV g (bH g) ps k) k:=rfl
 have hPok:=hok k (by omega)
 generalize hP : cV g (bH g) ps k = P at *
 have hng : gi P k < 0 → gi P k = -1:=fun hn=>kC hg hPok hn
 have hno : k < ps.length → gi g.ar.own k ≠ gi (bH g) k → eU g (bH g) P k = P:=fun _ hc=>if_neg fun hcc=>hc hcc.1
 have hno2 : k < ps.length → 0 ≤ gi P k → eU g (bH g) P k = P:=fun _ hc=>if_neg fun hcc=>by omega
 have hyes : gi g.ar.own k = gi (bH g) k → ¬ 0 ≤ gi P k → eU g (bH g) P k = P.set k (fH g (bH g) k P (gr g.ar.nxt k)):=fun h1 h2=>if_pos ⟨h1,by omega⟩
 (repeat' (first|(with_reducible first|(refine hK _ _ ?_;clear hK K)|(refine aa _ ?_;clear aa K)|(refine ab _ _ _ ?_;clear ab K)|(refine ac _ _ ?_;clear ac K)|refine bh ?_|refine b7 ?_|refine a9 ?_|refine aq ?_|refine ap ?_|refine b8 ?_|refine aI ?_|refine ba ?_|refine b9 ?_|refine bc ?_|refine bd rfl ?_|refine bi ?_|refine be ?_|refine ca ?_|refine bf ?_|refine aH ?_|refine n_k ?_|refine bg ?_|(refine ae ?_;clear ae X af Y)|(refine af ?_;clear ae X af Y))|(with_reducible refine bo ?_;first|refine bm rfl ?_|refine bn rfl ?_)|(with_reducible refine aW ?_;first|refine au rfl rfl rfl rfl ?_|refine aK rfl rfl rfl ?_|refine bt rfl rfl rfl rfl ?_)|(with_reducible refine cr ?_;first|refine bR rfl rfl rfl rfl ?_|refine cf rfl rfl rfl ?_|refine cA rfl rfl rfl rfl ?_|refine cB hN (by apply Exists.intro;apply And.intro;(repeat' (first|apply FtI.nil|apply FI.nil|apply FI.cons|apply FtI.cons));kernel_rfl) ?_)|((first|(with_reducible first|refine bp rfl rfl fun K hK=>?_|refine cy rfl rfl fun K ab=>?_|refine br rfl rfl fun K aa=>?_|refine cz rfl rfl fun K ac=>?_|refine aJ fun X Y ae af=>?_|refine aL ?_)|(with_reducible refine aW ?_;refine bv rfl rfl fun X Y ae af=>?_)|(with_reducible refine cr ?_;refine cC rfl rfl fun X Y ae af=>?_));simp (disch:=first|decide|omega|(simp only [List.length_cons,List.length_nil];omega)) only [go_sem,beq_self_eq_true,↓aj,↓ak hN,am hN,reduceIte,reduceCtorEq,Nat.reduceAdd,Nat.reduceLT,Nat.reduceLeDiff,Nat.reduceEqDiff,Nat.reduceSub])|(with_reducible refine And.intro (fun h=>?_) (fun h=>?_) <;> try (exfalso;omega))|(with_reducible refine bj aM hN rfl ?_ ?_;kernel_rfl)|(with_reducible refine bS aM hN rfl ?_ ?_ ?_ ?_;(kernel_rfl);(kernel_rfl);(kernel_rfl))|(refine aV (oz (bH g) ?_ (by omega)) ?_ rfl (fun _=>rfl) ?_)|(with_reducible first|exact aF|refine ax ?_ ?_|exact cu _|refine bw ?_|exact a8 _|exact bY _ _|refine bX ?_|exact aY _)|exact bz hN rfl rfl|(refine bW hN rfl ?_;first|exact aN _|exact aO _)|exact aZ rfl rfl rfl|(simp only [bI,List.map_nil])|(with_reducible refine cc ?_)|(with_reducible refine And.intro ?_ ?_)|(refine ah ?_;omega)|(exact bu hN (by decide))))
 · (refine ⟨k + 1,⟨?_,?_⟩,bU hX hN [] ?_ ?_⟩;(try any_goals dsimp only);(repeat' (first|(with_reducible first|exact bL _|exact bM|exact bN|refine bO ?_ ?_|refine bP ?_ ?_|exact ay _|exact bJ _|exact ao _|rfl|exact aR _ _|refine aA ?_|exact bK _|refine aU ?_)|refine bQ rfl ?_ ?_|exact aS hN _ rfl rfl rfl|exact aT hN _ rfl rfl rfl|exact aB hN _ rfl rfl rfl (Or.inr rfl)|(refine aP hN _ rfl rfl (by first|exact Or.inr rfl|exact Or.inl rfl) ?_;first|exact aN _|exact aO _)|refine aC hN rfl ?_|refine aD hN rfl rfl ?_|exact az hN _ rfl rfl|exact aE hN rfl rfl rfl rfl|(with_reducible first|refine aQ ?_|refine bC ?_|refine bE ?_|refine bF ?_|refine bD ?_|refine bB ?_)));(try (any_goals (first|(with_reducible rfl)|(refine ah ?_;omega)))))
   rw [hstep,hno (by omega) (by assumption)]
 · (refine ⟨k + 1,⟨?_,?_⟩,bU hX hN [] ?_ ?_⟩;(try any_goals dsimp only);(repeat' (first|(with_reducible first|exact bL _|exact bM|exact bN|refine bO ?_ ?_|refine bP ?_ ?_|exact ay _|exact bJ _|exact ao _|rfl|exact aR _ _|refine aA ?_|exact bK _|refine aU ?_)|refine bQ rfl ?_ ?_|exact aS hN _ rfl rfl rfl|exact aT hN _ rfl rfl rfl|exact aB hN _ rfl rfl rfl (Or.inr rfl)|(refine aP hN _ rfl rfl (by first|exact Or.inr rfl|exact Or.inl rfl) ?_;first|exact aN _|exact aO _)|refine aC hN rfl ?_|refine aD hN rfl rfl ?_|exact az hN _ rfl rfl|exact aE hN rfl rfl rfl rfl|(with_reducible first|refine aQ ?_|refine bC ?_|refine bE ?_|refine bF ?_|refine bD ?_|refine bB ?_)));(try (any_goals (first|(with_reducible rfl)|(refine ah ?_;omega)))))
   rw [hstep,hno2 (by omega) (by assumption)]
 · have hko : gi g.ar.own k = gi (bH g) k:=dq (by assumption)
   have hkn : ¬ 0 ≤ gi P k:=by assumption
   have hkl : k < g.prio.length:=by omega
   rw [hyes hko hkn] at hstep
   have hback : (P.set k (-1)) = P:=pi (hng (by omega))
   clear hno hno2 hyes hng
   have hv:=fun t (ht : t < (gr g.ar.nxt k).length)=>ep hg hkl ht
   have hpick:=fun t (ht : t < (gr g.ar.nxt k).length) (hw : gi (bH g) (gi (gr g.ar.nxt k) t).toNat = gi (bH g) k)=>sk hg hPok hkl hko ht hw
   generalize hrw : gr g.ar.nxt k = row at *
   (refine ck (fun (t : Nat)=>(tmL [(54,.c (.int .i64 t)),(53,.c (.int .i64 row.length)),(52,.c (.I row)),(9,.sl (ν 4)),(8,.c (.int .i64 k)),(19,.c (.int .i64 k)),(18,.c (.int .i64 ps.length)),(7,.sl (ν 3)),(6,.ad (ν 1) 0),(3,.ad (ν 0) 0),(2,.c (.I (bH g)))],hpL hp0 ν [.box [.c (.I g.ar.own),.c (.R g.ar.nxt),.c (.I g.prio)],.box [.c .nul,.c .nul],.dead,.arr 2 .yes (.I P),.arr 2 .yes (.I (atL (bH g) (gi (bH g) k)))])) (fun (t : Nat)=>t ≤ row.length ∧ fH g (bH g) k P row = fH g (bH g) k P (row.drop t)) (fun (t : Nat)=>row.length - t) ⟨0,?_,bU hX hN [] ?_ ?_⟩ ?_;(repeat' (first|(with_reducible first|exact bL _|exact bM|exact bN|refine bO ?_ ?_|refine bP ?_ ?_|exact ay _|exact bJ _|exact ao _|rfl|exact aR _ _|refine aA ?_|exact bK _|refine aU ?_)|refine bQ rfl ?_ ?_|exact aS hN _ rfl rfl rfl|exact aT hN _ rfl rfl rfl|exact aB hN _ rfl rfl rfl (Or.inr rfl)|(refine aP hN _ rfl rfl (by first|exact Or.inr rfl|exact Or.inl rfl) ?_;first|exact aN _|exact aO _)|refine aC hN rfl ?_|refine aD hN rfl rfl ?_|exact az hN _ rfl rfl|exact aE hN rfl rfl rfl rfl|(with_reducible first|refine aQ ?_|refine bC ?_|refine bE ?_|refine bF ?_|refine bD ?_|refine bB ?_)));(try (any_goals (first|(with_reducible rfl)|(refine ah ?_;omega)))))
   · exact ⟨Nat.zero_le _,rfl⟩
   rintro t ⟨ht,hin⟩
   have hvt:=hv t
   have hPs : (P.set k (gi row t)).length = g.prio.length:=by rw [List.length_set];exact hPl
   have hgood:=fun (h1 : t < row.length) (h2 : gi (bH g) (gi row t).toNat = gi (bH g) k)=>tP hg (hpick t h1 h2) hkl
   (repeat' (first|(with_reducible first|(refine hK _ _ ?_;clear hK K)|(refine aa _ ?_;clear aa K)|(refine ab _ _ _ ?_;clear ab K)|(refine ac _ _ ?_;clear ac K)|refine bh ?_|refine b7 ?_|refine a9 ?_|refine aq ?_|refine ap ?_|refine b8 ?_|refine aI ?_|refine ba ?_|refine b9 ?_|refine bc ?_|refine bd rfl ?_|refine bi ?_|refine be ?_|refine ca ?_|refine bf ?_|refine aH ?_|refine n_k ?_|refine bg ?_|(refine ae ?_;clear ae X af Y)|(refine af ?_;clear ae X af Y))|(with_reducible refine bo ?_;first|refine bm rfl ?_|refine bn rfl ?_)|(with_reducible refine aW ?_;first|refine au rfl rfl rfl rfl ?_|refine aK rfl rfl rfl ?_|refine bt rfl rfl rfl rfl ?_)|(with_reducible refine cr ?_;first|refine bR rfl rfl rfl rfl ?_|refine cf rfl rfl rfl ?_|refine cA rfl rfl rfl rfl ?_|refine cB hN (by apply Exists.intro;apply And.intro;(repeat' (first|apply FtI.nil|apply FI.nil|apply FI.cons|apply FtI.cons));kernel_rfl) ?_)|((first|(with_reducible first|refine bp rfl rfl fun K hK=>?_|refine cy rfl rfl fun K ab=>?_|refine br rfl rfl fun K aa=>?_|refine cz rfl rfl fun K ac=>?_|refine aJ fun X Y ae af=>?_|refine aL ?_)|(with_reducible refine aW ?_;refine bv rfl rfl fun X Y ae af=>?_)|(with_reducible refine cr ?_;refine cC rfl rfl fun X Y ae af=>?_));simp (disch:=first|decide|omega|(simp only [List.length_cons,List.length_nil];omega)) only [go_sem,beq_self_eq_true,↓aj,↓ak hN,am hN,reduceIte,reduceCtorEq,Nat.reduceAdd,Nat.reduceLT,Nat.reduceLeDiff,Nat.reduceEqDiff,Nat.reduceSub])|(with_reducible refine And.intro (fun h=>?_) (fun h=>?_) <;> try (exfalso;omega))|(with_reducible refine bj aM hN rfl ?_ ?_;kernel_rfl)|(with_reducible refine bS aM hN rfl ?_ ?_ ?_ ?_;(kernel_rfl);(kernel_rfl);(kernel_rfl))|(refine dQ (qt g hg (P.set k (gi row t)) hPs) hN 3 rfl rfl rfl rfl rfl ?_ ?_ ?_ ?_;(focus (simp [bG,AV.names];done));(focus (intro ν' hν;(repeat' (first|exact ArgMs.nil|refine ArgMs.cons ?_ ?_|exact gy hν|exact gz hν|exact jh _|exact iO (by first|exact a8 _|exact aY _|exact aZ rfl rfl rfl) rfl|(refine gA hN rfl ?_ (by decide);first|exact aN _|exact aO _)|refine eN ?_));done));(focus (first|exact Or.inr ⟨rfl,rfl,fun _=>rfl⟩|exact Or.inl (by simp [bG,AV.names]))))|(refine aV (pe (cW g (P.set k (gi row t))) (dO hg (hpick t (by omega) (dq (by assumption))).pk) (atL (bH g) (gi (bH g) k)) (ky hg (hpick t (by omega) (dq (by assumption))) _)) ?_ rfl (fun _=>rfl) ?_;focus ((repeat' (first|(with_reducible first|exact aF|refine ax ?_ ?_|exact cu _|refine bw ?_|exact a8 _|exact bY _ _|refine bX ?_|exact aY _)|exact bz hN rfl rfl|(refine bW hN rfl ?_;first|exact aN _|exact aO _)|exact aZ rfl rfl rfl));done))|(with_reducible first|exact aF|refine ax ?_ ?_|exact cu _|refine bw ?_|exact a8 _|exact bY _ _|refine bX ?_|exact aY _)|exact bz hN rfl rfl|(refine bW hN rfl ?_;first|exact aN _|exact aO _)|exact aZ rfl rfl rfl|(simp only [bI,List.map_nil])|(with_reducible refine cc ?_)|(simp (disch:=first|decide|omega|(simp only [List.length_cons,List.length_nil];omega)) only [bI,List.map_cons,List.map_nil,am hN,List.set_cons_zero,List.set_cons_succ])|(with_reducible refine And.intro ?_ ?_)|(refine ah ?_;omega)|(exact bu hN (by decide))))
   · (refine ⟨t + 1,⟨?_,?_⟩,bU hX hN [] ?_ ?_⟩;(try any_goals dsimp only);(repeat' (first|(with_reducible first|exact bL _|exact bM|exact bN|refine bO ?_ ?_|refine bP ?_ ?_|exact ay _|exact bJ _|exact ao _|rfl|exact aR _ _|refine aA ?_|exact bK _|refine aU ?_)|refine bQ rfl ?_ ?_|exact aS hN _ rfl rfl rfl|exact aT hN _ rfl rfl rfl|exact aB hN _ rfl rfl rfl (Or.inr rfl)|(refine aP hN _ rfl rfl (by first|exact Or.inr rfl|exact Or.inl rfl) ?_;first|exact aN _|exact aO _)|refine aC hN rfl ?_|refine aD hN rfl rfl ?_|exact az hN _ rfl rfl|exact aE hN rfl rfl rfl rfl|(with_reducible first|refine aQ ?_|refine bC ?_|refine bE ?_|refine bF ?_|refine bD ?_|refine bB ?_)));(try (any_goals (first|(with_reducible rfl)|(refine ah ?_;omega)))))
     exact ⟨by omega,hin.trans (ig (by omega) fun e=>absurd e.1 (by assumption))⟩
   · (refine ⟨k + 1,⟨?_,?_⟩,bU hX hN [] ?_ ?_⟩;(try any_goals dsimp only);(repeat' (first|(with_reducible first|exact bL _|exact bM|exact bN|refine bO ?_ ?_|refine bP ?_ ?_|exact ay _|exact bJ _|exact ao _|rfl|exact aR _ _|refine aA ?_|exact bK _|refine aU ?_)|refine bQ rfl ?_ ?_|exact aS hN _ rfl rfl rfl|exact aT hN _ rfl rfl rfl|exact aB hN _ rfl rfl rfl (Or.inr rfl)|(refine aP hN _ rfl rfl (by first|exact Or.inr rfl|exact Or.inl rfl) ?_;first|exact aN _|exact aO _)|refine aC hN rfl ?_|refine aD hN rfl rfl ?_|exact az hN _ rfl rfl|exact aE hN rfl rfl rfl rfl|(with_reducible first|refine aQ ?_|refine bC ?_|refine bE ?_|refine bF ?_|refine bD ?_|refine bB ?_)));(try (any_goals (first|(with_reducible rfl)|(refine ah ?_;omega)))))
     rw [hstep,hin,nq (by omega) ⟨dq (by assumption),(hgood (by omega) (dq (by assumption))).1 (.inl ⟨by assumption,by omega⟩)⟩]
   · (refine ⟨t + 1,⟨?_,?_⟩,bU hX hN [] ?_ ?_⟩;(try any_goals dsimp only);(repeat' (first|(with_reducible first|exact bL _|exact bM|exact bN|refine bO ?_ ?_|refine bP ?_ ?_|exact ay _|exact bJ _|exact ao _|rfl|exact aR _ _|refine aA ?_|exact bK _|refine aU ?_)|refine bQ rfl ?_ ?_|exact aS hN _ rfl rfl rfl|exact aT hN _ rfl rfl rfl|exact aB hN _ rfl rfl rfl (Or.inr rfl)|(refine aP hN _ rfl rfl (by first|exact Or.inr rfl|exact Or.inl rfl) ?_;first|exact aN _|exact aO _)|refine aC hN rfl ?_|refine aD hN rfl rfl ?_|exact az hN _ rfl rfl|exact aE hN rfl rfl rfl rfl|(with_reducible first|refine aQ ?_|refine bC ?_|refine bE ?_|refine bF ?_|refine bD ?_|refine bB ?_)));(try (any_goals (first|(with_reducible rfl)|(refine ah ?_;omega)))))
     · exact ⟨by omega,hin.trans (ig (by omega) fun e=>((hgood (by omega) e.1).2 e.2).elim (fun x=>absurd x.2 (sm (by assumption))) fun x=>absurd x.1 (kB (by assumption)))⟩
     · rw [List.set_set,hback]
   · (refine ⟨k + 1,⟨?_,?_⟩,bU hX hN [] ?_ ?_⟩;(try any_goals dsimp only);(repeat' (first|(with_reducible first|exact bL _|exact bM|exact bN|refine bO ?_ ?_|refine bP ?_ ?_|exact ay _|exact bJ _|exact ao _|rfl|exact aR _ _|refine aA ?_|exact bK _|refine aU ?_)|refine bQ rfl ?_ ?_|exact aS hN _ rfl rfl rfl|exact aT hN _ rfl rfl rfl|exact aB hN _ rfl rfl rfl (Or.inr rfl)|(refine aP hN _ rfl rfl (by first|exact Or.inr rfl|exact Or.inl rfl) ?_;first|exact aN _|exact aO _)|refine aC hN rfl ?_|refine aD hN rfl rfl ?_|exact az hN _ rfl rfl|exact aE hN rfl rfl rfl rfl|(with_reducible first|refine aQ ?_|refine bC ?_|refine bE ?_|refine bF ?_|refine bD ?_|refine bB ?_)));(try (any_goals (first|(with_reducible rfl)|(refine ah ?_;omega)))))
     rw [hstep,hin,nq (by omega) ⟨dq (by assumption),(hgood (by omega) (dq (by assumption))).1 (.inr ⟨by assumption,by omega⟩)⟩]
   · (refine ⟨t + 1,⟨?_,?_⟩,bU hX hN [] ?_ ?_⟩;(try any_goals dsimp only);(repeat' (first|(with_reducible first|exact bL _|exact bM|exact bN|refine bO ?_ ?_|refine bP ?_ ?_|exact ay _|exact bJ _|exact ao _|rfl|exact aR _ _|refine aA ?_|exact bK _|refine aU ?_)|refine bQ rfl ?_ ?_|exact aS hN _ rfl rfl rfl|exact aT hN _ rfl rfl rfl|exact aB hN _ rfl rfl rfl (Or.inr rfl)|(refine aP hN _ rfl rfl (by first|exact Or.inr rfl|exact Or.inl rfl) ?_;first|exact aN _|exact aO _)|refine aC hN rfl ?_|refine aD hN rfl rfl ?_|exact az hN _ rfl rfl|exact aE hN rfl rfl rfl rfl|(with_reducible first|refine aQ ?_|refine bC ?_|refine bE ?_|refine bF ?_|refine bD ?_|refine bB ?_)));(try (any_goals (first|(with_reducible rfl)|(refine ah ?_;omega)))))
     · exact ⟨by omega,hin.trans (ig (by omega) fun e=>((hgood (by omega) e.1).2 e.2).elim (fun x=>absurd x.1 (kB (by assumption))) fun x=>absurd x.2 (sm (by assumption)))⟩
     · rw [List.set_set,hback]
   · (refine ⟨t + 1,⟨?_,?_⟩,bU hX hN [] ?_ ?_⟩;(try any_goals dsimp only);(repeat' (first|(with_reducible first|exact bL _|exact bM|exact bN|refine bO ?_ ?_|refine bP ?_ ?_|exact ay _|exact bJ _|exact ao _|rfl|exact aR _ _|refine aA ?_|exact bK _|refine aU ?_)|refine bQ rfl ?_ ?_|exact aS hN _ rfl rfl rfl|exact aT hN _ rfl rfl rfl|exact aB hN _ rfl rfl rfl (Or.inr rfl)|(refine aP hN _ rfl rfl (by first|exact Or.inr rfl|exact Or.inl rfl) ?_;first|exact aN _|exact aO _)|refine aC hN rfl ?_|refine aD hN rfl rfl ?_|exact az hN _ rfl rfl|exact aE hN rfl rfl rfl rfl|(with_reducible first|refine aQ ?_|refine bC ?_|refine bE ?_|refine bF ?_|refine bD ?_|refine bB ?_)));(try (any_goals (first|(with_reducible rfl)|(refine ah ?_;omega)))))
     · exact ⟨by omega,hin.trans (ig (by omega) fun e=>((hgood (by omega) e.1).2 e.2).elim (fun x=>absurd x.1 (kB (by assumption))) fun x=>absurd x.1 (kB (by assumption)))⟩
     · rw [List.set_set,hback]
   · (refine ⟨k + 1,⟨?_,?_⟩,bU hX hN [] ?_ ?_⟩;(try any_goals dsimp only);(repeat' (first|(with_reducible first|exact bL _|exact bM|exact bN|refine bO ?_ ?_|refine bP ?_ ?_|exact ay _|exact bJ _|exact ao _|rfl|exact aR _ _|refine aA ?_|exact bK _|refine aU ?_)|refine bQ rfl ?_ ?_|exact aS hN _ rfl rfl rfl|exact aT hN _ rfl rfl rfl|exact aB hN _ rfl rfl rfl (Or.inr rfl)|(refine aP hN _ rfl rfl (by first|exact Or.inr rfl|exact Or.inl rfl) ?_;first|exact aN _|exact aO _)|refine aC hN rfl ?_|refine aD hN rfl rfl ?_|exact az hN _ rfl rfl|exact aE hN rfl rfl rfl rfl|(with_reducible first|refine aQ ?_|refine bC ?_|refine bE ?_|refine bF ?_|refine bD ?_|refine bB ?_)));(try (any_goals (first|(with_reducible rfl)|(refine ah ?_;omega)))))
     rw [hstep,hin,sj (by omega),hback]
 · (refine dW hN [5,3] (by decide) (.inr rfl) (by first|exact cG rfl rfl|exact cw hN rfl rfl rfl rfl|exact ch hN rfl rfl rfl rfl rfl|(simp (disch:=first|decide|omega|(simp only [List.length_cons,List.length_nil];omega)) only [ci,cj,cm,co,go_sem,beq_self_eq_true,↓aj,↓ak hN,am hN,reduceIte,reduceCtorEq,Nat.reduceAdd,Nat.reduceLT,Nat.reduceLeDiff,Nat.reduceEqDiff,Nat.reduceSub];rfl)|rfl) ?_ fun νs hνs=>?_;(repeat' (first|exact Gone.nil|(refine Gone.cons rfl rfl ?_ ?_)|(with_reducible refine dw ?_)|(with_reducible refine dv ?_)|(with_reducible refine SVs.cons ?_ ?_)|(with_reducible exact SVs.nil)|(simp only [List.drop,List.take])|(simp (disch:=first|decide|omega) only [↓aj,reduceIte,reduceCtorEq,Nat.reduceEqDiff])|(with_reducible exact fa _)|(with_reducible exact dt _)|(exact du rfl rfl rfl)|(exact dB 0 (by simp) rfl rfl)|(exact dB 1 (by simp) rfl rfl)|(refine dV hN rfl (dx hN (by decide)) ?_)|(with_reducible refine dU ?_)|(with_reducible rfl)|(with_reducible refine bC ?_)|(with_reducible refine bE ?_)|(with_reducible refine bF ?_)|(with_reducible refine bD ?_)|(with_reducible refine bB ?_)|(refine ah ?_;omega))))
   all_goals first|rfl|(rw [← hP,show k = ps.length by omega])
end Go.Proofs.Ytfaefmabjjndeaa
namespace Go.Proofs.Ytfaefmabjjndeaa
set_option linter.unusedVariables false
set_option linter.unusedSimpArgs false
open Go.RowKit
attribute [local irreducible] aG cO Aw Le
theorem iB {g : Pa} (hg : PaOk g) : PickOk g (noP g.prio.length):=by
 refine ⟨⟨cR _ _,fun v hv=>.inl ?_⟩,fun v hv h=>?_⟩
 · rw [noP,cR] at hv;exact df _ hv
 · rw [noP,df _ hv] at h;omega
theorem qv (g : Pa) (hg : PaOk g) : aG Try.prog 18 [paA g] [.arr 2 .yes (.I (bH g)),.arr 2 .yes (.I (cV g (bH g) (noP g.prio.length) g.prio.length))] (fun ns=>.agg [.sl (ns.getD 0 0),.sl (ns.getD 1 0)]):=by
 have hl:=hg.len
 have hle:=hg.ar.le
 have h1:=iQ g
 rw [bZ hg] at h1
 have h2:=rY g.ar (by omega)
 have h3:=kD g hg _ (iB hg)
 rw [← hl] at h2
 rw [show (noP g.prio.length).length = g.prio.length from cR _ _] at h3
 (refine bT aM Try.func18 rfl rfl (by kernel_rfl) fun hp0 ν hX hN=>?_;simp only [cL,Nat.reduceAdd])
 (repeat' (first|(with_reducible first|(refine hK _ _ ?_;clear hK K)|(refine aa _ ?_;clear aa K)|(refine ab _ _ _ ?_;clear ab K)|(refine ac _ _ ?_;clear ac K)|refine bh ?_|refine b7 ?_|refine a9 ?_|refine aq ?_|refine ap ?_|refine b8 ?_|refine aI ?_|refine ba ?_|refine b9 ?_|refine bc ?_|refine bd rfl ?_|refine bi ?_|refine be ?_|refine ca ?_|refine bf ?_|refine aH ?_|refine n_k ?_|refine bg ?_|(refine ae ?_;clear ae X af Y)|(refine af ?_;clear ae X af Y))|(with_reducible refine bo ?_;first|refine bm rfl ?_|refine bn rfl ?_)|(with_reducible refine aW ?_;first|refine au rfl rfl rfl rfl ?_|refine aK rfl rfl rfl ?_|refine bt rfl rfl rfl rfl ?_)|(with_reducible refine cr ?_;first|refine bR rfl rfl rfl rfl ?_|refine cf rfl rfl rfl ?_|refine cA rfl rfl rfl rfl ?_|refine cB hN (by apply Exists.intro;apply And.intro;(repeat' (first|apply FtI.nil|apply FI.nil|apply FI.cons|apply FtI.cons));kernel_rfl) ?_)|((first|(with_reducible first|refine bp rfl rfl fun K hK=>?_|refine cy rfl rfl fun K ab=>?_|refine br rfl rfl fun K aa=>?_|refine cz rfl rfl fun K ac=>?_|refine aJ fun X Y ae af=>?_|refine aL ?_));simp (disch:=first|decide|omega|(simp only [List.length_cons,List.length_nil];omega)) only [go_sem,beq_self_eq_true,↓aj,↓ak hN,am hN,reduceIte,reduceCtorEq,Nat.reduceAdd,Nat.reduceLT,Nat.reduceLeDiff,Nat.reduceEqDiff,Nat.reduceSub])|(with_reducible refine And.intro (fun h=>?_) (fun h=>?_) <;> try (exfalso;omega))|(with_reducible refine bj aM hN rfl ?_ ?_;kernel_rfl)|(with_reducible refine bS aM hN rfl ?_ ?_ ?_ ?_;(kernel_rfl);(kernel_rfl);(kernel_rfl))|(refine aV h1 ?_ rfl (fun _=>rfl) ?_)|((first|refine aV (h2) ?_ rfl (fun _=>rfl) ?_|refine aV (fg g hg) ?_ rfl (fun _=>rfl) ?_);focus ((repeat' (first|(with_reducible first|exact aF|refine ax ?_ ?_|exact cu _|refine bw ?_|exact a8 _|exact bY _ _|refine bX ?_|exact aY _)|exact bz hN rfl rfl|(refine bW hN rfl ?_;first|exact aN _|exact aO _)|exact aZ rfl rfl rfl));done))|(refine aV h3 ?_ rfl (fun _=>rfl) ?_)|(with_reducible first|exact aF|refine ax ?_ ?_|exact cu _|refine bw ?_|exact a8 _|exact bY _ _|refine bX ?_|exact aY _)|exact bz hN rfl rfl|(refine bW hN rfl ?_;first|exact aN _|exact aO _)|exact aZ rfl rfl rfl|(simp only [bI,List.map_nil])|(with_reducible refine cc ?_)|(with_reducible refine And.intro ?_ ?_)|(refine ah ?_;omega)|(exact bu hN (by decide))))
 (refine dW hN [4,5] (by decide) (.inr rfl) (by first|exact cG rfl rfl|exact cw hN rfl rfl rfl rfl|exact ch hN rfl rfl rfl rfl rfl|(simp (disch:=first|decide|omega|(simp only [List.length_cons,List.length_nil];omega)) only [ci,cj,cm,co,go_sem,beq_self_eq_true,↓aj,↓ak hN,am hN,reduceIte,reduceCtorEq,Nat.reduceAdd,Nat.reduceLT,Nat.reduceLeDiff,Nat.reduceEqDiff,Nat.reduceSub];rfl)|rfl) ?_ fun νs hνs=>?_;(repeat' (first|exact Gone.nil|(refine Gone.cons rfl rfl ?_ ?_)|(with_reducible refine dw ?_)|(with_reducible refine dv ?_)|(with_reducible refine SVs.cons ?_ ?_)|(with_reducible exact SVs.nil)|(simp only [List.drop,List.take])|(simp (disch:=first|decide|omega) only [↓aj,reduceIte,reduceCtorEq,Nat.reduceEqDiff])|(with_reducible exact fa _)|(with_reducible exact dt _)|(exact du rfl rfl rfl)|(exact dB 0 (by simp) rfl rfl)|(exact dB 1 (by simp) rfl rfl)|(refine dV hN rfl (dx hN (by decide)) ?_)|(with_reducible refine dU ?_)|(with_reducible rfl)|(with_reducible refine bC ?_)|(with_reducible refine bE ?_)|(with_reducible refine bF ?_)|(with_reducible refine bD ?_)|(with_reducible refine bB ?_)|(refine ah ?_;omega))))
def jH (g : Pa) (ps : List Int) : Prop:=rW g ps ∧ ∀ v,v < ps.length → 0 ≤ gi ps v → gi g.ar.own v = gi (bH g) v
theorem fY {g : Pa} {ps : List Int} (h : jH g ps) : PickOk g ps:=by
 obtain ⟨⟨⟨hg,hp⟩,hw⟩,ho⟩:=h
 refine ⟨hp,fun v hv hp0=>⟨ho v (by have:=hp.1;omega) hp0,?_⟩⟩
 have hl:=hg.len
 have hn:=(gW (dO hg hp) (v:=v) hv).1
 rw [show gr (cW g ps).ar.nxt v = cQ g.ar.nxt ps v from dK _ (by omega),hw] at hn
 unfold cQ at hn
 rw [if_pos hp0] at hn
 obtain ⟨t,ht,e⟩:=hn
 have : t = 0:=by simpa using ht
 subst this
 exact e
theorem gY (g : Pa) (ps : List Int) (h : jH g ps) : aG Try.prog 36 [paA g,.c (.I ps)] [.arr 2 .yes (.I (bH g)),.arr 2 .yes (.I (cV g (bH g) ps g.prio.length))] (fun ns=>.tup [.agg [.sl (ns.getD 0 0),.sl (ns.getD 1 0)],.c (.bool true)]):=by
 have hp:=fY h
 obtain ⟨⟨⟨hg,hps⟩,hw⟩,ho⟩:=h
 have hl:=hg.len
 have hle:=hg.ar.le
 have hpl:=hps.1
 have hwl:=dN g
 have h1:=iQ g
 rw [bZ hg] at h1
 have h2:=jy g hg ps
 rw [bZ hps] at h2
 have h3:=fg g hg
 have h4:=kD g hg ps hp
 have h5:=nk g hg ps hpl
 have h6:=fg (cW g ps) (dO hg hps)
 rw [hw] at h6
 have h7:=ph (bH g) (bH g) (mo hg)
 rw [bZ rfl] at h7
 rw [hpl] at h4
 generalize cV g (bH g) ps g.prio.length = pl at *
 generalize bH g = W at *
 (refine bT aM Try.func36 rfl rfl (by kernel_rfl) fun hp0 ν hX hN=>?_;simp only [cL,Nat.reduceAdd])
 (repeat' (first|(with_reducible first|(refine hK _ _ ?_;clear hK K)|(refine aa _ ?_;clear aa K)|(refine ab _ _ _ ?_;clear ab K)|(refine ac _ _ ?_;clear ac K)|refine bh ?_|refine b7 ?_|refine a9 ?_|refine aq ?_|refine ap ?_|refine b8 ?_|refine aI ?_|refine ba ?_|refine b9 ?_|refine bc ?_|refine bd rfl ?_|refine bi ?_|refine be ?_|refine ca ?_|refine bf ?_|refine aH ?_|refine n_k ?_|refine bg ?_|(refine ae ?_;clear ae X af Y)|(refine af ?_;clear ae X af Y))|(with_reducible refine bo ?_;first|refine bm rfl ?_|refine bn rfl ?_)|(with_reducible refine aW ?_;first|refine au rfl rfl rfl rfl ?_|refine aK rfl rfl rfl ?_|refine bt rfl rfl rfl rfl ?_)|(with_reducible refine cr ?_;first|refine bR rfl rfl rfl rfl ?_|refine cf rfl rfl rfl ?_|refine cA rfl rfl rfl rfl ?_|refine cB hN (by apply Exists.intro;apply And.intro;(repeat' (first|apply FtI.nil|apply FI.nil|apply FI.cons|apply FtI.cons));kernel_rfl) ?_)|((first|(with_reducible first|refine bp rfl rfl fun K hK=>?_|refine cy rfl rfl fun K ab=>?_|refine br rfl rfl fun K aa=>?_|refine cz rfl rfl fun K ac=>?_|refine aJ fun X Y ae af=>?_|refine aL ?_)|(with_reducible refine aW ?_;refine bv rfl rfl fun X Y ae af=>?_)|(with_reducible refine cr ?_;refine cC rfl rfl fun X Y ae af=>?_));simp (disch:=first|decide|omega|(simp only [List.length_cons,List.length_nil];omega)) only [go_sem,beq_self_eq_true,↓aj,↓ak hN,am hN,reduceIte,reduceCtorEq,Nat.reduceAdd,Nat.reduceLT,Nat.reduceLeDiff,Nat.reduceEqDiff,Nat.reduceSub])|(with_reducible refine And.intro (fun h=>?_) (fun h=>?_) <;> try (exfalso;omega))|(with_reducible refine bj aM hN rfl ?_ ?_;kernel_rfl)|(with_reducible refine bS aM hN rfl ?_ ?_ ?_ ?_;(kernel_rfl);(kernel_rfl);(kernel_rfl))|(refine aV h1 ?_ rfl (fun _=>rfl) ?_)|(refine aV h2 ?_ rfl (fun _=>rfl) ?_)|(refine aV h3 ?_ rfl (fun _=>rfl) ?_)|(with_reducible first|exact aF|refine ax ?_ ?_|exact cu _|refine bw ?_|exact a8 _|exact bY _ _|refine bX ?_|exact aY _)|exact bz hN rfl rfl|(refine bW hN rfl ?_;first|exact aN _|exact aO _)|exact aZ rfl rfl rfl|(simp only [bI,List.map_nil])|(with_reducible refine cc ?_)|(with_reducible refine And.intro ?_ ?_)|(refine ah ?_;omega)|(exact bu hN (by decide))))
 (refine ck (fun (k : Nat)=>(tmL [(23,.c (.int .i64 k)),(22,.c (.int .i64 ps.length)),(21,.c (.I ps)),(6,.sl (ν 2)),(4,.ad (ν 1) 0),(2,.ad (ν 0) 0),(1,.c (.I ps))],hpL hp0 ν [.box [.c (.I g.ar.own),.c (.R g.ar.nxt),.c (.I g.prio)],.box [.c .nul,.c .nul],.arr 2 .yes (.I W)])) (fun (k : Nat)=>k ≤ ps.length) (fun (k : Nat)=>ps.length - k) ⟨0,?_,bU hX hN [] ?_ ?_⟩ ?_;(repeat' (first|(with_reducible first|exact bL _|exact bM|exact bN|refine bO ?_ ?_|refine bP ?_ ?_|exact ay _|exact bJ _|exact ao _|rfl|exact aR _ _|refine aA ?_|exact bK _|refine aU ?_)|refine bQ rfl ?_ ?_|exact aS hN _ rfl rfl rfl|exact aT hN _ rfl rfl rfl|exact aB hN _ rfl rfl rfl (Or.inr rfl)|(refine aP hN _ rfl rfl (by first|exact Or.inr rfl|exact Or.inl rfl) ?_;first|exact aN _|exact aO _)|refine aC hN rfl ?_|refine aD hN rfl rfl ?_|exact az hN _ rfl rfl|exact aE hN rfl rfl rfl rfl|(with_reducible first|refine aQ ?_|refine bC ?_|refine bE ?_|refine bF ?_|refine bD ?_|refine bB ?_)));(try (any_goals (first|(with_reducible rfl)|(refine ah ?_;omega)))))
 intro k hk
 have hok:=ho k
 (repeat' (first|(with_reducible first|(refine hK _ _ ?_;clear hK K)|(refine aa _ ?_;clear aa K)|(refine ab _ _ _ ?_;clear ab K)|(refine ac _ _ ?_;clear ac K)|refine bh ?_|refine b7 ?_|refine a9 ?_|refine aq ?_|refine ap ?_|refine b8 ?_|refine aI ?_|refine ba ?_|refine b9 ?_|refine bc ?_|refine bd rfl ?_|refine bi ?_|refine be ?_|refine ca ?_|refine bf ?_|refine aH ?_|refine n_k ?_|refine bg ?_|(refine ae ?_;clear ae X af Y)|(refine af ?_;clear ae X af Y))|(with_reducible refine bo ?_;first|refine bm rfl ?_|refine bn rfl ?_)|(with_reducible refine aW ?_;first|refine au rfl rfl rfl rfl ?_|refine aK rfl rfl rfl ?_|refine bt rfl rfl rfl rfl ?_)|(with_reducible refine cr ?_;first|refine bR rfl rfl rfl rfl ?_|refine cf rfl rfl rfl ?_|refine cA rfl rfl rfl rfl ?_|refine cB hN (by apply Exists.intro;apply And.intro;(repeat' (first|apply FtI.nil|apply FI.nil|apply FI.cons|apply FtI.cons));kernel_rfl) ?_)|((first|(with_reducible first|refine bp rfl rfl fun K hK=>?_|refine cy rfl rfl fun K ab=>?_|refine br rfl rfl fun K aa=>?_|refine cz rfl rfl fun K ac=>?_|refine aJ fun X Y ae af=>?_|refine aL ?_)|(with_reducible refine aW ?_;refine bv rfl rfl fun X Y ae af=>?_)|(with_reducible refine cr ?_;refine cC rfl rfl fun X Y ae af=>?_));simp (disch:=first|decide|omega|(simp only [List.length_cons,List.length_nil];omega)) only [go_sem,beq_self_eq_true,↓aj,↓ak hN,am hN,reduceIte,reduceCtorEq,Nat.reduceAdd,Nat.reduceLT,Nat.reduceLeDiff,Nat.reduceEqDiff,Nat.reduceSub])|(with_reducible refine And.intro (fun h=>?_) (fun h=>?_) <;> try (exfalso;omega))|(with_reducible refine bj aM hN rfl ?_ ?_;kernel_rfl)|(with_reducible refine bS aM hN rfl ?_ ?_ ?_ ?_;(kernel_rfl);(kernel_rfl);(kernel_rfl))|(refine dF h5 ?_ rfl rfl ?_)|(refine aV h6 ?_ rfl (fun _=>rfl) ?_)|(refine aV h7 ?_ rfl (fun _=>rfl) ?_)|(refine aV h4 ?_ rfl (fun _=>rfl) ?_)|(with_reducible first|exact aF|refine ax ?_ ?_|exact cu _|refine bw ?_|exact a8 _|exact bY _ _|refine bX ?_|exact aY _)|exact bz hN rfl rfl|(refine bW hN rfl ?_;first|exact aN _|exact aO _)|exact aZ rfl rfl rfl|(simp only [bI,List.map_nil])|(with_reducible refine cc ?_)|(with_reducible refine And.intro ?_ ?_)|(refine ah ?_;omega)|(exact bu hN (by decide))))
 · (refine ⟨k + 1,⟨?_,?_⟩,bU hX hN [] ?_ ?_⟩;(try any_goals dsimp only);(repeat' (first|(with_reducible first|exact bL _|exact bM|exact bN|refine bO ?_ ?_|refine bP ?_ ?_|exact ay _|exact bJ _|exact ao _|rfl|exact aR _ _|refine aA ?_|exact bK _|refine aU ?_)|refine bQ rfl ?_ ?_|exact aS hN _ rfl rfl rfl|exact aT hN _ rfl rfl rfl|exact aB hN _ rfl rfl rfl (Or.inr rfl)|(refine aP hN _ rfl rfl (by first|exact Or.inr rfl|exact Or.inl rfl) ?_;first|exact aN _|exact aO _)|refine aC hN rfl ?_|refine aD hN rfl rfl ?_|exact az hN _ rfl rfl|exact aE hN rfl rfl rfl rfl|(with_reducible first|refine aQ ?_|refine bC ?_|refine bE ?_|refine bF ?_|refine bD ?_|refine bB ?_)));(try (any_goals (first|(with_reducible rfl)|(refine ah ?_;omega)))))
 · (refine ⟨k + 1,⟨?_,?_⟩,bU hX hN [] ?_ ?_⟩;(try any_goals dsimp only);(repeat' (first|(with_reducible first|exact bL _|exact bM|exact bN|refine bO ?_ ?_|refine bP ?_ ?_|exact ay _|exact bJ _|exact ao _|rfl|exact aR _ _|refine aA ?_|exact bK _|refine aU ?_)|refine bQ rfl ?_ ?_|exact aS hN _ rfl rfl rfl|exact aT hN _ rfl rfl rfl|exact aB hN _ rfl rfl rfl (Or.inr rfl)|(refine aP hN _ rfl rfl (by first|exact Or.inr rfl|exact Or.inl rfl) ?_;first|exact aN _|exact aO _)|refine aC hN rfl ?_|refine aD hN rfl rfl ?_|exact az hN _ rfl rfl|exact aE hN rfl rfl rfl rfl|(with_reducible first|refine aQ ?_|refine bC ?_|refine bE ?_|refine bF ?_|refine bD ?_|refine bB ?_)));(try (any_goals (first|(with_reducible rfl)|(refine ah ?_;omega)))))
 · (refine dW hN [4,5] (by decide) (.inr rfl) (by first|exact cG rfl rfl|exact cw hN rfl rfl rfl rfl|exact ch hN rfl rfl rfl rfl rfl|(simp (disch:=first|decide|omega|(simp only [List.length_cons,List.length_nil];omega)) only [ci,cj,cm,co,go_sem,beq_self_eq_true,↓aj,↓ak hN,am hN,reduceIte,reduceCtorEq,Nat.reduceAdd,Nat.reduceLT,Nat.reduceLeDiff,Nat.reduceEqDiff,Nat.reduceSub];rfl)|rfl) ?_ fun νs hνs=>?_;(repeat' (first|exact Gone.nil|(refine Gone.cons rfl rfl ?_ ?_)|(with_reducible refine dw ?_)|(with_reducible refine dv ?_)|(with_reducible refine SVs.cons ?_ ?_)|(with_reducible exact SVs.nil)|(simp only [List.drop,List.take])|(simp (disch:=first|decide|omega) only [↓aj,reduceIte,reduceCtorEq,Nat.reduceEqDiff])|(with_reducible exact fa _)|(with_reducible exact dt _)|(exact du rfl rfl rfl)|(exact dB 0 (by simp) rfl rfl)|(exact dB 1 (by simp) rfl rfl)|(refine dV hN rfl (dx hN (by decide)) ?_)|(with_reducible refine dU ?_)|(with_reducible rfl)|(with_reducible refine bC ?_)|(with_reducible refine bE ?_)|(with_reducible refine bF ?_)|(with_reducible refine bD ?_)|(with_reducible refine bB ?_)|(refine ah ?_;omega))))
end Go.Proofs.Ytfaefmabjjndeaa
