/-
  Plans by the least successor with which the winner still wins: the program's side.
-/
import Derived.Test.YtfaefmabjjndeaaZrE14
import Derived.Test.YtfaefmabjjndeaaZrD5
import Derived.Test.YtfaefmabjjndeaaZrE15
namespace Go.Proofs.Ytfaefmabjjndeaa
set_option linter.unusedVariables false
set_option linter.unusedSimpArgs false
open Go.RowKit
def kd (g : Pa) (W : List Int) (i : Int) (ps : List Int) : Prop:=∀ v : Nat,(v : Int) ∈ atL W i → PG.Won (pgP (er g ps)) i (fun v : Nat=>(v : Int) ∈ atL W i) v
noncomputable def f6 (g : Pa) (W : List Int) (v : Nat) (ps : List Int) : List Int → Int
 | [] => -1
 | u :: us => if tf (gi W u.toNat = gi W v ∧ kd g W (gi W v) (ps.set v u)) then u else f6 g W v ps us
noncomputable def ov (g : Pa) (W ps : List Int) (v : Nat) : List Int:=if gi g.ar.own v = gi W v ∧ gi ps v < 0 then ps.set v (f6 g W v ps (gr g.ar.nxt v)) else ps
noncomputable def gc (g : Pa) (W ps : List Int) : Nat → List Int
 | 0 => ps
 | k + 1 => ov g W (gc g W ps k) k
structure PickOk (g : Pa) (ps : List Int) : Prop where
 pk : fh g ps
 in' : ∀ v,v < g.prio.length → 0 ≤ gi ps v → gi g.ar.own v = gi (bS g) v ∧ gi (bS g) (gi ps v).toNat = gi (bS g) v
theorem eX {g : Pa} (hg : PaOk g) {v t : Nat} (hv : v < g.prio.length) (ht : t < (gr g.ar.nxt v).length) : 0 ≤ gi (gr g.ar.nxt v) t ∧ gi (gr g.ar.nxt v) t < g.prio.length:=by
 have hl:=hg.len
 have:=(hg.ar.vert v (by omega)).2.2.2.2 t ht
 exact ⟨this.1,by omega⟩
theorem u4 {g : Pa} (hg : PaOk g) {v t : Nat} (hv : v < g.prio.length) (ht : t < (gr g.ar.nxt v).length) : (pgP g).E v (gi (gr g.ar.nxt v) t).toNat:=by
 have:=eX hg hv ht
 exact (kJ _ _).2 ⟨hv,by omega,t,ht,by omega⟩
theorem mB {g : Pa} (hg : PaOk g) {v : Nat} (hv : v < g.prio.length) : (∃ t,t < (gr g.ar.nxt v).length ∧ gi (bS g) (gi (gr g.ar.nxt v) t).toNat = gi (bS g) v) ∧ (gi g.ar.own v ≠ gi (bS g) v → ∀ t,t < (gr g.ar.nxt v).length → gi (bS g) (gi (gr g.ar.nxt v) t).toNat = gi (bS g) v):=by
 have hl:=hg.len
 have hi:=jp (g:=g) hv
 obtain ⟨⟨σ,d⟩,_⟩:=PG.won_for (G:=pgP g) oi uY (gJ hg) hi
 have hw : PG.Won (pgP g) (gi (bS g) v) (fk g) v:=(fY hg hv hi).1 rfl
 have hall : gi g.ar.own v ≠ gi (bS g) v → ∀ t,t < (gr g.ar.nxt v).length → gi (bS g) (gi (gr g.ar.nxt v) t).toNat = gi (bS g) v:=fun ho t ht=>by
  have hb:=eX hg hv ht
  have:=d.yours v _ hw (by rw [ms hg hv];exact ho) (u4 hg hv ht) (show _ < _ by omega)
  exact (fY hg (by omega) hi).2 this
 refine ⟨?_,hall⟩
 by_cases ho : gi g.ar.own v = gi (bS g) v
 · obtain ⟨b1,b2⟩:=d.mine v hw (by rw [ms hg hv];exact ho)
   obtain ⟨_,h2,t,ht,e⟩:=(kJ _ _).1 b1
   exact ⟨t,ht,by rw [e,Int.toNat_natCast];exact (fY hg h2 hi).2 b2⟩
 · obtain ⟨_,_,h3,_⟩:=hg.ar.vert v (by omega)
   exact ⟨0,by omega,hall ho 0 (by omega)⟩
theorem jr {g : Pa} {i : Int} {v : Nat} : (v : Int) ∈ atL (bS g) i ↔ v < g.prio.length ∧ gi (bS g) v = i:=by
 rw [lB,dJ]
 constructor
 · rintro ⟨u,h1,h2,h3⟩
   have : u = v:=by omega
   subst this;exact ⟨h1,h3⟩
 · rintro ⟨h1,h2⟩;exact ⟨v,h1,rfl,h2⟩
theorem jT {g : Pa} {i x : Int} (h0 : 0 ≤ x) : x ∈ atL (bS g) i ↔ x < g.prio.length ∧ gi (bS g) x.toNat = i:=by
 have:=jr (g:=g) (i:=i) (v:=x.toNat)
 rw [Int.toNat_of_nonneg h0] at this
 rw [this]
 exact ⟨fun h=>⟨by omega,h.2⟩,fun h=>⟨by omega,h.2⟩⟩
theorem mC {g : Pa} (hg : PaOk g) {ps : List Int} (h : PickOk g ps) (i : Int) : qG (er g ps).ar (atL (bS g) i):=by
 have hl:=hg.len
 have hs:=kK (bS g) i
 rw [dJ] at hs
 refine ⟨by rw [show (er g ps).ar.own = g.ar.own from rfl,← hl];exact hs,fun k hk=>?_⟩
 have h0:=hs k hk
 have hm:=cZ hk
 obtain ⟨h1,h2⟩:=(jT h0.1).1 hm
 have hv : (gi (atL (bS g) i) k).toNat < g.prio.length:=by omega
 generalize (gi (atL (bS g) i) k).toNat = v at *
 rw [show gr (er g ps).ar.nxt v = eW g.ar.nxt ps v from dA _ (by omega)]
 unfold eW
 split
 · rename_i hp
   refine ⟨0,by simp,?_⟩
   show gi ps v ∈ _
   obtain ⟨h3,h4⟩:=h.in' v hv hp
   rcases h.pk.2 v (by have:=h.pk.1;omega) with e|e
   · omega
   · obtain ⟨t,ht,e'⟩:=cU e
     have:=eX hg hv ht
     rw [e'] at this
     exact (jT hp).2 ⟨this.2,h4.trans h2⟩
 · obtain ⟨t,ht,e⟩:=(mB hg hv).1
   have:=eX hg hv ht
   exact ⟨t,ht,(jT this.1).2 ⟨this.2,e.trans h2⟩⟩
theorem jU {g : Pa} (hg : PaOk g) {ps : List Int} (h : PickOk g ps) {v : Nat} (hv : v < g.prio.length) (ho : gi g.ar.own v = gi (bS g) v) {u : Int} (hu : u ∈ gr g.ar.nxt v) (hw : gi (bS g) u.toNat = gi (bS g) v) : PickOk g (ps.set v u):=by
 have h1:=h.pk.1
 have hlt : v < ps.length:=by omega
 refine ⟨⟨by rw [List.length_set];exact h1,fun x hx=>?_⟩,fun x hx hp=>?_⟩
 · rw [List.length_set] at hx
   rw [eK hlt]
   split
   · rename_i e;subst e;exact .inr hu
   · exact h.pk.2 x hx
 · rw [eK hlt] at hp ⊢
   split at hp
   · rename_i e;subst e;rw [if_pos rfl];exact ⟨ho,hw⟩
   · rename_i e;rw [if_neg e];exact h.in' x hx hp
theorem sE {ps : List Int} {v : Nat} (h : gi ps v = -1) : ps.set v (-1) = ps:=qK h
theorem nG (g : Pa) (W : List Int) (v : Nat) (ps : List Int) : ∀ us : List Int,f6 g W v ps us = -1 ∨ (f6 g W v ps us ∈ us ∧ gi W (f6 g W v ps us).toNat = gi W v ∧ kd g W (gi W v) (ps.set v (f6 g W v ps us))):=by
 intro us
 induction us with
 | nil => exact .inl rfl
 | cons u us ih =>
   unfold f6
   by_cases h : gi W u.toNat = gi W v ∧ kd g W (gi W v) (ps.set v u)
   · rw [bX h,tE]
     exact .inr ⟨List.mem_cons_self,h.1,h.2⟩
   · rw [aZ h,uS]
     rcases ih with h'|⟨h1,h2⟩
     · exact .inl h'
     · exact .inr ⟨List.mem_cons_of_mem _ h1,h2⟩
theorem rg {g : Pa} (hg : PaOk g) {ps : List Int} (h : PickOk g ps) {v : Nat} (hv : v < g.prio.length) : PickOk g (ov g (bS g) ps v):=by
 unfold ov
 split
 · rename_i hc
   rcases nG g (bS g) v ps (gr g.ar.nxt v) with e|⟨h1,h2,_⟩
   · rw [e]
     have : gi ps v = -1:=by
      rcases h.pk.2 v (by have:=h.pk.1;omega) with e|e
      · exact e
      · obtain ⟨t,ht,e'⟩:=cU e
        have:=eX hg hv ht
        omega
     rw [sE this];exact h
   · exact jU hg h hv hc.1 h1 h2
 · exact h
theorem rh {g : Pa} (hg : PaOk g) {ps : List Int} (h : PickOk g ps) : ∀ k,k ≤ g.prio.length → PickOk g (gc g (bS g) ps k):=by
 intro k
 induction k with
 | zero => intro _; exact h
 | succ k ih => intro hk; exact rg hg (ih (by omega)) (by omega)
end Go.Proofs.Ytfaefmabjjndeaa
namespace Go.Proofs.Ytfaefmabjjndeaa
set_option linter.unusedVariables false
set_option linter.unusedSimpArgs false
open Go.RowKit
attribute [local irreducible] aF cL Aw Le
abbrev wa (W : List Int) : AV:=.agg [.c (.I W),.c .nul]
theorem nH (W : List Int) (who : Int) (hl : W.length ≤ 256) : aF Try.prog 32 [wa W,.c (.int .i64 who)] [.arr 2 .yes (.I (atL W who))] (fun ns=>.sl (ns.getD 0 0)):=by
 (refine bU aO Try.func32 rfl rfl (by kernel_rfl) fun hp0 ν hX hN=>?_;simp only [cN,Nat.reduceAdd])
 (repeat' (first|(with_reducible first|(refine hK _ _ ?_;clear hK K)|(refine aa _ ?_;clear aa K)|refine bi ?_|refine b8 ?_|refine a9 ?_|refine au ?_|refine aq ?_|refine b9 ?_|refine aI ?_|refine ba ?_|refine ca ?_|refine bc ?_|refine be rfl ?_|refine bj ?_|refine bf ?_|refine cc ?_|refine bg ?_|refine aH ?_|refine n_k ?_|refine bh ?_|(refine ae ?_;clear ae X af Y)|(refine af ?_;clear ae X af Y))|(with_reducible refine bp ?_;first|refine bn rfl ?_|refine bo rfl ?_)|(with_reducible refine a8 ?_;first|refine ax rfl rfl rfl rfl ?_|refine aK rfl rfl rfl ?_|refine bu rfl rfl rfl rfl ?_)|((first|(with_reducible first|refine br rfl rfl fun K hK=>?_|refine bt rfl rfl fun K aa=>?_|refine aJ fun X Y ae af=>?_|refine aL ?_));simp (disch:=first|decide|omega|(simp only [List.length_cons,List.length_nil];omega)) only [go_sem,beq_self_eq_true,↓aj,↓ak hN,am hN,reduceIte,reduceCtorEq,Nat.reduceAdd,Nat.reduceLT,Nat.reduceLeDiff,Nat.reduceEqDiff,Nat.reduceSub])|(with_reducible refine And.intro (fun h=>?_) (fun h=>?_) <;> try (exfalso;omega))|(with_reducible refine bm aO hN rfl ?_ ?_;kernel_rfl)|(with_reducible refine And.intro ?_ ?_)|(refine ah ?_;omega)|(exact bv hN (by decide))))
 (refine co (fun (k : Nat)=>(tmL [(16,.c (.int .i64 k)),(15,.c (.int .i64 W.length)),(14,.c (.I W)),(5,.sl (ν 1)),(1,.c (.int .i64 who))],hpL hp0 ν [.dead,.arr 2 .yes (.I (dO (cP W.length fun v=>gi W v == who) k))])) (fun (k : Nat)=>k ≤ W.length) (fun (k : Nat)=>W.length - k) ⟨0,?_,bT hX hN [] ?_ ?_⟩ ?_;(repeat' (first|(with_reducible first|exact bM _|exact bN|exact bO|refine bP ?_ ?_|refine bQ ?_ ?_|exact ay _|exact bK _|exact ao _|rfl|exact aQ _ _|refine aA ?_|exact bL _|refine aU ?_)|refine bR rfl ?_ ?_|exact aR hN _ rfl rfl rfl|exact aS hN _ rfl rfl rfl|exact aB hN _ rfl rfl rfl (Or.inr rfl)|(refine aT hN _ rfl rfl (by first|exact Or.inr rfl|exact Or.inl rfl) ?_;first|exact aM _|exact aN _)|refine aC hN rfl ?_|refine aD hN rfl rfl ?_|exact az hN _ rfl rfl|exact aE hN rfl rfl rfl rfl|(with_reducible first|refine aP ?_|refine bF ?_|refine bG ?_|refine bH ?_|refine bD ?_|refine bE ?_)));(try (any_goals (first|(with_reducible rfl)|(refine ah ?_;omega)))))
 · rfl
 intro k hk
 have hll:=jN (cP W.length fun v=>gi W v == who) k
 have hgk : k < W.length → gb (cP W.length fun v=>gi W v == who) k = (gi W k == who):=fun h=>db _ h
 (repeat' (first|(with_reducible first|(refine hK _ _ ?_;clear hK K)|(refine aa _ ?_;clear aa K)|refine bi ?_|refine b8 ?_|refine a9 ?_|refine au ?_|refine aq ?_|refine b9 ?_|refine aI ?_|refine ba ?_|refine ca ?_|refine bc ?_|refine be rfl ?_|refine bj ?_|refine bf ?_|refine cc ?_|refine bg ?_|refine aH ?_|refine n_k ?_|refine bh ?_|(refine ae ?_;clear ae X af Y)|(refine af ?_;clear ae X af Y))|(with_reducible refine bp ?_;first|refine bn rfl ?_|refine bo rfl ?_)|(with_reducible refine a8 ?_;first|refine ax rfl rfl rfl rfl ?_|refine aK rfl rfl rfl ?_|refine bu rfl rfl rfl rfl ?_)|((first|(with_reducible first|refine br rfl rfl fun K hK=>?_|refine bt rfl rfl fun K aa=>?_|refine aJ fun X Y ae af=>?_|refine aL ?_));simp (disch:=first|decide|omega|(simp only [List.length_cons,List.length_nil];omega)) only [go_sem,beq_self_eq_true,↓aj,↓ak hN,am hN,reduceIte,reduceCtorEq,Nat.reduceAdd,Nat.reduceLT,Nat.reduceLeDiff,Nat.reduceEqDiff,Nat.reduceSub])|(with_reducible refine And.intro (fun h=>?_) (fun h=>?_) <;> try (exfalso;omega))|(with_reducible refine bm aO hN rfl ?_ ?_;kernel_rfl)|(with_reducible refine And.intro ?_ ?_)|(refine ah ?_;omega)|(exact bv hN (by decide))))
 · (refine ⟨k + 1,⟨?_,?_⟩,bT hX hN [(1,3)] ?_ ?_⟩;(try any_goals dsimp only);(repeat' (first|(with_reducible first|exact bM _|exact bN|exact bO|refine bP ?_ ?_|refine bQ ?_ ?_|exact ay _|exact bK _|exact ao _|rfl|exact aQ _ _|refine aA ?_|exact bL _|refine aU ?_)|refine bR rfl ?_ ?_|exact aR hN _ rfl rfl rfl|exact aS hN _ rfl rfl rfl|exact aB hN _ rfl rfl rfl (Or.inr rfl)|(refine aT hN _ rfl rfl (by first|exact Or.inr rfl|exact Or.inl rfl) ?_;first|exact aM _|exact aN _)|refine aC hN rfl ?_|refine aD hN rfl rfl ?_|exact az hN _ rfl rfl|exact aE hN rfl rfl rfl rfl|(with_reducible first|refine aP ?_|refine bF ?_|refine bG ?_|refine bH ?_|refine bD ?_|refine bE ?_)));(try (any_goals (first|(with_reducible rfl)|(refine ah ?_;omega)))))
   rw [dO,if_pos (by rw [hgk (by omega)];simpa using (by assumption : gi W k = who))]
 · have h0 : (gi W k == who) = false:=by assumption
   (refine ⟨k + 1,⟨?_,?_⟩,bT hX hN [] ?_ ?_⟩;(try any_goals dsimp only);(repeat' (first|(with_reducible first|exact bM _|exact bN|exact bO|refine bP ?_ ?_|refine bQ ?_ ?_|exact ay _|exact bK _|exact ao _|rfl|exact aQ _ _|refine aA ?_|exact bL _|refine aU ?_)|refine bR rfl ?_ ?_|exact aR hN _ rfl rfl rfl|exact aS hN _ rfl rfl rfl|exact aB hN _ rfl rfl rfl (Or.inr rfl)|(refine aT hN _ rfl rfl (by first|exact Or.inr rfl|exact Or.inl rfl) ?_;first|exact aM _|exact aN _)|refine aC hN rfl ?_|refine aD hN rfl rfl ?_|exact az hN _ rfl rfl|exact aE hN rfl rfl rfl rfl|(with_reducible first|refine aP ?_|refine bF ?_|refine bG ?_|refine bH ?_|refine bD ?_|refine bE ?_)));(try (any_goals (first|(with_reducible rfl)|(refine ah ?_;omega)))))
   rw [dO,if_neg (by rw [hgk (by omega),h0];simp),List.append_nil]
 · (refine dj hN (i:=1) (.inr rfl) (by first|rfl|(simp (disch:=first|decide|omega|(simp only [List.length_cons,List.length_nil];omega)) only [ct,cz,cB,cD,go_sem,beq_self_eq_true,↓aj,↓ak hN,am hN,reduceIte,reduceCtorEq,Nat.reduceAdd,Nat.reduceLT,Nat.reduceLeDiff,Nat.reduceEqDiff,Nat.reduceSub];rfl)) rfl ?_ rfl)
   rw [show k = W.length by omega];rfl
theorem kM {us : List Int} {t : Nat} (ht : t < us.length) : us.drop t = gi us t :: us.drop (t + 1):=by
 rw [List.drop_eq_getElem_cons ht]
 simp [gi,List.getD_eq_getElem?_getD,List.getElem?_eq_getElem ht]
theorem ri {g : Pa} {W ps us : List Int} {v t : Nat} (ht : t < us.length) (h : gi W (gi us t).toNat = gi W v ∧ kd g W (gi W v) (ps.set v (gi us t))) : f6 g W v ps (us.drop t) = gi us t:=by
 rw [kM ht,f6,bX h,tE]
theorem kN {g : Pa} {W ps us : List Int} {v t : Nat} (ht : t < us.length) (h : ¬ (gi W (gi us t).toNat = gi W v ∧ kd g W (gi W v) (ps.set v (gi us t)))) : f6 g W v ps (us.drop t) = f6 g W v ps (us.drop (t + 1)):=by
 rw [kM ht,f6,aZ h,uS]
theorem rj {g : Pa} {W ps us : List Int} {v t : Nat} (ht : us.length ≤ t) : f6 g W v ps (us.drop t) = -1:=by
 rw [List.drop_eq_nil_of_le ht];rfl
theorem rl {g : Pa} (hg : PaOk g) {P : List Int} (h : PickOk g P) {k t : Nat} (hk : k < g.prio.length) (ho : gi g.ar.own k = gi (bS g) k) (ht : t < (gr g.ar.nxt k).length) (hw : gi (bS g) (gi (gr g.ar.nxt k) t).toNat = gi (bS g) k) : PickOk g (P.set k (gi (gr g.ar.nxt k) t)):=jU hg h hk ho (cZ ht) hw
theorem tQ {a b : Int} (h : (a == b) = false) : a ≠ b:=by simpa using h
end Go.Proofs.Ytfaefmabjjndeaa
