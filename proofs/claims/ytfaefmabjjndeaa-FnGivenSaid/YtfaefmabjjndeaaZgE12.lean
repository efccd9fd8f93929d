/-
  Who wins which vertex: the program's and the reference's.
-/
import Derived.Test.YtfaefmabjjndeaaZgE11
import Derived.Test.YtfaefmabjjndeaaZgCe
import Derived.Test.YtfaefmabjjndeaaZgCq
namespace Go.Proofs.Ytfaefmabjjndeaa
set_option linter.unusedVariables false
set_option linter.unusedSimpArgs false
open Go.RowKit
attribute [local irreducible] aG cO Aw Le
def pgP (g : Pa) : PG.Gm:=cM (eX g) g.prio.length
theorem tJ {g : Pa} (hg : PaOk g) : t4 g.ar = (eX g).prev:=by
 show dh _ (fun u=>cK g.ar.nxt u _) = dh _ (fun u=>cK g.ar.nxt u _)
 rw [hg.len]
theorem qc {g : Pa} {v : Nat} (hv : v < g.prio.length) : gi (eX g).pick v < 0:=by
 rw [show gi (eX g).pick v = -1 from df _ hv];omega
theorem iU {g : Pa} (v u : Nat) : (pgP g).E v u ↔ v < g.prio.length ∧ u < g.prio.length ∧ ∃ t,t < (gr g.ar.nxt v).length ∧ gi (gr g.ar.nxt v) t = (u : Int):=by
 show v < _ ∧ u < _ ∧ edg (eX g) v u = true ∧ _ ↔ _
 constructor
 · rintro ⟨a,b,_,c⟩;exact ⟨a,b,c⟩
 · rintro ⟨a,b,c⟩;exact ⟨a,b,u4 v u (by omega) (by omega),c⟩
theorem kv {g : Pa} (hg : PaOk g) {xs : List Int} (h : kp g.ar xs) : PG.Total (pgP g) fun v=>(v : Int) ∈ xs:=by
 intro v hv
 obtain ⟨k,hk,e⟩:=dc hv
 obtain ⟨i,h1,h2⟩:=h.2 k hk
 have h3:=h.1 k hk
 have hl:=hg.len
 rw [e,Int.toNat_natCast] at h1 h2
 obtain ⟨j,hj,e'⟩:=dc h2
 have h4:=h.1 j hj
 rw [e'] at h4
 have e5 : (((gi (gr g.ar.nxt v) i).toNat : Nat) : Int) = gi (gr g.ar.nxt v) i:=Int.toNat_of_nonneg h4.1
 exact ⟨(gi (gr g.ar.nxt v) i).toNat,(iU _ _).2 ⟨by omega,by omega,i,h1,e5.symm⟩,by show _ ∈ xs;rw [e5];exact h2⟩
def fU (g : Pa) (v : Nat) : Prop:=v < g.prio.length
theorem fV {g : Pa} (hg : PaOk g) : PG.Total (pgP g) (fU g):=by
 intro v hv
 have hl:=hg.len
 have hv' : v < g.prio.length:=hv
 obtain ⟨_,_,h1,h2,h3⟩:=hg.ar.vert v (by omega)
 have h4:=h3 0 (by omega)
 exact ⟨(gi (gr g.ar.nxt v) 0).toNat,(iU _ _).2 ⟨hv',by omega,0,by omega,by omega⟩,show _ < _ by omega⟩
theorem rQ {P : PG.Gm} {i : Int} {S S' : Nat → Prop} (h : ∀ v,S v ↔ S' v) (v : Nat) : PG.Won P i S v ↔ PG.Won P i S' v:=by
 have : S = S':=funext fun v=>propext (h v)
 rw [this]
theorem tK {n v : Nat} {p : Nat → Prop} (hp : ∀ v,p v → v < n) : gb (mks n p) v = true ↔ p v:=by
 rcases Nat.lt_or_ge v n with h|h
 · rw [dY _ h];exact gw
 · refine ⟨fun h'=>?_,fun h'=>?_⟩
   · have:=fT h';rw [cS] at this;omega
   · have:=hp v h';omega
theorem qd {P : PG.Gm} {n : Nat} (hf : PG.Fin P n) {S : Nat → Prop} (hS : ∀ v,S v → v < n) (ht : PG.Total P S) {i : Int} (hi : i = 0 ∨ i = 1) :
  (cP (mks n S).length fun v=>gb (mks n S) v && !gb (mks n (PG.Won P i S)) v) = mks n (PG.Won P (1 - i) S):=by
 rw [cS]
 refine dI fun v hv=>gn ?_
 rw [dY _ hv,dY _ hv,ku hf hS ht hi,Bool.and_eq_true,Bool.not_eq_true',gw,qF]
 exact Iff.rfl
noncomputable def fW (g : Pa) (xs : List Int) (i : Int) : List Int:=c7 (mks g.prio.length (PG.Won (pgP g) i fun v=>(v : Int) ∈ xs)) g.prio.length
noncomputable def bH (g : Pa) : List Int:=tab g.prio.length fun v=>if tf (PG.Won (pgP g) 0 (fU g) v) then 0 else 1
theorem kw {g : Pa} : PG.Fin (pgP g) g.prio.length:=fun v u h=>h.2.1
set_option maxHeartbeats 4000000 in
theorem pe (g : Pa) (hg : PaOk g) (xs : List Int) (hx : kp g.ar xs) : aG Try.prog 151 [paA g,.c (.I xs)] [.arr 2 .yes (.I (fW g xs 0)),.arr 2 .yes (.I (fW g xs 1))] (fun ns=>.tup [.sl (ns.getD 0 0),.sl (ns.getD 1 0)]):=by
 have hl:=hg.len
 have hle:=hg.ar.le
 have hB : Bnd xs g.ar.own.length:=fun k hk=>by have:=hx.1 k hk;omega
 have hxl:=fc hx.1 (by omega)
 have hS : ∀ v : Nat,(v : Int) ∈ xs → v < g.prio.length:=fun v hv=>by
  obtain ⟨k,hk,e⟩:=dc hv
  have:=hB k hk;omega
 have ht:=kv hg hx
 have hpr:=p8 g.ar hg.ar
 rw [tJ hg] at hpr
 have hmk:=rE g.ar xs hB hle (by omega)
 rw [← hl] at hmk
 have hP : (fun v=>gb (mks g.prio.length fun v : Nat=>(v : Int) ∈ xs) v = true) = fun v : Nat=>(v : Int) ∈ xs:=funext fun v=>propext (tK hS)
 have hw:=wq (eX g) g.prio.length (jT hg) (fun v hv=>qc hv) _ (mks g.prio.length fun v : Nat=>(v : Int) ∈ xs) (cS _ _) (Nat.lt_succ_self _) (by rw [hP];exact ht)
 have h01:=pc (eX g).prio (mks g.prio.length fun v : Nat=>(v : Int) ∈ xs) g.prio.length
 rw [hP] at hw
 generalize kQ (eX g).prio (mks g.prio.length fun v : Nat=>(v : Int) ∈ xs) g.prio.length = who at hw h01
 have hwo:=ib (mks g.prio.length fun v : Nat=>(v : Int) ∈ xs) (mks g.prio.length (PG.Won (pgP g) who fun v=>(v : Int) ∈ xs)) (by rw [cS,cS]) (by rw [cS];omega)
 rw [qd kw hS ht h01] at hwo
 change aG _ _ _ _ (fun _=>.tup [.c (.B (mks g.prio.length (PG.Won (pgP g) who fun v=>(v : Int) ∈ xs))),_]) at hw
 clear hP
 generalize hmm : mks g.prio.length (fun v : Nat=>(v : Int) ∈ xs) = mm at *
 have hw0 : fW g xs 0 = c7 (mks g.prio.length (PG.Won (pgP g) 0 fun v=>(v : Int) ∈ xs)) (mks g.prio.length (PG.Won (pgP g) 0 fun v=>(v : Int) ∈ xs)).length:=by rw [cS];rfl
 have hw1 : fW g xs 1 = c7 (mks g.prio.length (PG.Won (pgP g) 1 fun v=>(v : Int) ∈ xs)) (mks g.prio.length (PG.Won (pgP g) 1 fun v=>(v : Int) ∈ xs)).length:=by rw [cS];rfl
 have l0 : (mks g.prio.length (PG.Won (pgP g) 0 fun v=>(v : Int) ∈ xs)).length = g.prio.length:=cS _ _
 have l1 : (mks g.prio.length (PG.Won (pgP g) 1 fun v=>(v : Int) ∈ xs)).length = g.prio.length:=cS _ _
 rcases h01 with rfl|rfl
 · rw [show (1 : Int) - 0 = 1 from rfl] at hwo
   generalize mks g.prio.length (PG.Won (pgP g) 0 fun v=>(v : Int) ∈ xs) = m0 at *
   generalize mks g.prio.length (PG.Won (pgP g) 1 fun v=>(v : Int) ∈ xs) = m1 at *
   (refine bT aM Try.func151 rfl rfl (by kernel_rfl) fun hp0 ν hX hN=>?_;simp only [cL,Nat.reduceAdd])
   (repeat' (first|(with_reducible refine kf 3 ?_)|(with_reducible first|(refine hK _ _ ?_;clear hK K)|(refine aa _ ?_;clear aa K)|(refine ab _ _ _ ?_;clear ab K)|(refine ac _ _ ?_;clear ac K)|refine bh ?_|refine b7 ?_|refine a9 ?_|refine aq ?_|refine ap ?_|refine b8 ?_|refine aI ?_|refine ba ?_|refine b9 ?_|refine bc ?_|refine bd rfl ?_|refine bi ?_|refine be ?_|refine ca ?_|refine bf ?_|refine aH ?_|refine n_k ?_|refine bg ?_|(refine ae ?_;clear ae X af Y)|(refine af ?_;clear ae X af Y))|(with_reducible refine bo ?_;first|refine bm rfl ?_|refine bn rfl ?_)|(with_reducible refine aW ?_;first|refine au rfl rfl rfl rfl ?_|refine aK rfl rfl rfl ?_|refine bt rfl rfl rfl rfl ?_)|(with_reducible refine cr ?_;first|refine bR rfl rfl rfl rfl ?_|refine cf rfl rfl rfl ?_|refine cA rfl rfl rfl rfl ?_|refine cB hN (by apply Exists.intro;apply And.intro;(repeat' (first|apply FtI.nil|apply FI.nil|apply FI.cons|apply FtI.cons));kernel_rfl) ?_)|((first|(with_reducible first|refine bp rfl rfl fun K hK=>?_|refine cy rfl rfl fun K ab=>?_|refine br rfl rfl fun K aa=>?_|refine cz rfl rfl fun K ac=>?_|refine aJ fun X Y ae af=>?_|refine aL ?_));simp (disch:=first|decide|omega|(simp only [List.length_cons,List.length_nil];omega)) only [go_sem,beq_self_eq_true,↓aj,↓ak hN,am hN,reduceIte,reduceCtorEq,Nat.reduceAdd,Nat.reduceLT,Nat.reduceLeDiff,Nat.reduceEqDiff,Nat.reduceSub])|(with_reducible refine And.intro (fun h=>?_) (fun h=>?_) <;> try (exfalso;omega))|(with_reducible refine bj aM hN rfl ?_ ?_;kernel_rfl)|(with_reducible refine bS aM hN rfl ?_ ?_ ?_ ?_;(kernel_rfl);(kernel_rfl);(kernel_rfl))|(refine dF (hpr) ?_ rfl rfl ?_)|(refine aV hmk ?_ rfl (fun _=>rfl) ?_)|(with_reducible first|exact aF|refine ax ?_ ?_|exact cu _|refine bw ?_|exact a8 _|exact bY _ _|refine bX ?_|exact aY _)|exact bz hN rfl rfl|(refine bW hN rfl ?_;first|exact aN _|exact aO _)|exact aZ rfl rfl rfl|(simp only [bI,List.map_nil])|(with_reducible refine cc ?_)|(with_reducible refine And.intro ?_ ?_)|(refine ah ?_;omega)|(exact bu hN (by decide))))
   (refine uT (bU (L':=[.dead,.dead,.dead]) (l:=[(6,soA (eX g)),(7,.c (.B mm))]) hX hN [] ?_ ?_) ?_;(repeat' (first|(with_reducible first|exact bL _|exact bM|exact bN|refine bO ?_ ?_|refine bP ?_ ?_|exact ay _|exact bJ _|exact ao _|rfl|exact aR _ _|refine aA ?_|exact bK _|refine aU ?_)|refine bQ rfl ?_ ?_|exact aS hN _ rfl rfl rfl|exact aT hN _ rfl rfl rfl|exact aB hN _ rfl rfl rfl (Or.inr rfl)|(refine aP hN _ rfl rfl (by first|exact Or.inr rfl|exact Or.inl rfl) ?_;first|exact aN _|exact aO _)|refine aC hN rfl ?_|refine aD hN rfl rfl ?_|exact az hN _ rfl rfl|exact aE hN rfl rfl rfl rfl|(with_reducible first|refine aQ ?_|refine bC ?_|refine bE ?_|refine bF ?_|refine bD ?_|refine bB ?_)));(try (any_goals (first|(with_reducible rfl)|(refine ah ?_;omega)))))
   (repeat' (first|(with_reducible first|(refine hK _ _ ?_;clear hK K)|(refine aa _ ?_;clear aa K)|(refine ab _ _ _ ?_;clear ab K)|(refine ac _ _ ?_;clear ac K)|refine bh ?_|refine b7 ?_|refine a9 ?_|refine aq ?_|refine ap ?_|refine b8 ?_|refine aI ?_|refine ba ?_|refine b9 ?_|refine bc ?_|refine bd rfl ?_|refine bi ?_|refine be ?_|refine ca ?_|refine bf ?_|refine aH ?_|refine n_k ?_|refine bg ?_|(refine ae ?_;clear ae X af Y)|(refine af ?_;clear ae X af Y))|(with_reducible refine bo ?_;first|refine bm rfl ?_|refine bn rfl ?_)|(with_reducible refine aW ?_;first|refine au rfl rfl rfl rfl ?_|refine aK rfl rfl rfl ?_|refine bt rfl rfl rfl rfl ?_)|(with_reducible refine cr ?_;first|refine bR rfl rfl rfl rfl ?_|refine cf rfl rfl rfl ?_|refine cA rfl rfl rfl rfl ?_|refine cB hN (by apply Exists.intro;apply And.intro;(repeat' (first|apply FtI.nil|apply FI.nil|apply FI.cons|apply FtI.cons));kernel_rfl) ?_)|((first|(with_reducible first|refine bp rfl rfl fun K hK=>?_|refine cy rfl rfl fun K ab=>?_|refine br rfl rfl fun K aa=>?_|refine cz rfl rfl fun K ac=>?_|refine aJ fun X Y ae af=>?_|refine aL ?_));simp (disch:=first|decide|omega|(simp only [List.length_cons,List.length_nil];omega)) only [go_sem,beq_self_eq_true,↓aj,↓ak hN,am hN,reduceIte,reduceCtorEq,Nat.reduceAdd,Nat.reduceLT,Nat.reduceLeDiff,Nat.reduceEqDiff,Nat.reduceSub])|(with_reducible refine And.intro (fun h=>?_) (fun h=>?_) <;> try (exfalso;omega))|(with_reducible refine bj aM hN rfl ?_ ?_;kernel_rfl)|(with_reducible refine bS aM hN rfl ?_ ?_ ?_ ?_;(kernel_rfl);(kernel_rfl);(kernel_rfl))|(refine dF (hw) ?_ rfl rfl ?_)|(refine aV hwo ?_ rfl (fun _=>rfl) ?_)|(refine aV (iR ?_ ?_) ?_ rfl (fun _=>rfl) ?_)|(with_reducible first|exact aF|refine ax ?_ ?_|exact cu _|refine bw ?_|exact a8 _|exact bY _ _|refine bX ?_|exact aY _)|exact bz hN rfl rfl|(refine bW hN rfl ?_;first|exact aN _|exact aO _)|exact aZ rfl rfl rfl|(simp only [bI,List.map_nil])|(with_reducible refine cc ?_)|(with_reducible refine And.intro ?_ ?_)|(refine ah ?_;omega)|(exact bu hN (by decide))))
   all_goals (try (refine ah ?_;omega))
   (refine dW hN [3,5] (by decide) (.inr rfl) (by first|exact cG rfl rfl|exact cw hN rfl rfl rfl rfl|exact ch hN rfl rfl rfl rfl rfl|(simp (disch:=first|decide|omega|(simp only [List.length_cons,List.length_nil];omega)) only [ci,cj,cm,co,go_sem,beq_self_eq_true,↓aj,↓ak hN,am hN,reduceIte,reduceCtorEq,Nat.reduceAdd,Nat.reduceLT,Nat.reduceLeDiff,Nat.reduceEqDiff,Nat.reduceSub];rfl)|rfl) ?_ fun νs hνs=>?_;(repeat' (first|exact Gone.nil|(refine Gone.cons rfl rfl ?_ ?_)|(with_reducible refine dw ?_)|(with_reducible refine dv ?_)|(with_reducible refine SVs.cons ?_ ?_)|(with_reducible exact SVs.nil)|(simp only [List.drop,List.take])|(simp (disch:=first|decide|omega) only [↓aj,reduceIte,reduceCtorEq,Nat.reduceEqDiff])|(with_reducible exact fa _)|(with_reducible exact dt _)|(exact du rfl rfl rfl)|(exact dB 0 (by simp) rfl rfl)|(exact dB 1 (by simp) rfl rfl)|(refine dV hN rfl (dx hN (by decide)) ?_)|(with_reducible refine dU ?_)|(with_reducible rfl)|(with_reducible refine bC ?_)|(with_reducible refine bE ?_)|(with_reducible refine bF ?_)|(with_reducible refine bD ?_)|(with_reducible refine bB ?_)|(refine ah ?_;omega))))
   · exact hw0.symm
   · exact hw1.symm
 · rw [show (1 : Int) - 1 = 0 from rfl] at hwo
   generalize mks g.prio.length (PG.Won (pgP g) 0 fun v=>(v : Int) ∈ xs) = m0 at *
   generalize mks g.prio.length (PG.Won (pgP g) 1 fun v=>(v : Int) ∈ xs) = m1 at *
   (refine bT aM Try.func151 rfl rfl (by kernel_rfl) fun hp0 ν hX hN=>?_;simp only [cL,Nat.reduceAdd])
   (repeat' (first|(with_reducible refine kf 3 ?_)|(with_reducible first|(refine hK _ _ ?_;clear hK K)|(refine aa _ ?_;clear aa K)|(refine ab _ _ _ ?_;clear ab K)|(refine ac _ _ ?_;clear ac K)|refine bh ?_|refine b7 ?_|refine a9 ?_|refine aq ?_|refine ap ?_|refine b8 ?_|refine aI ?_|refine ba ?_|refine b9 ?_|refine bc ?_|refine bd rfl ?_|refine bi ?_|refine be ?_|refine ca ?_|refine bf ?_|refine aH ?_|refine n_k ?_|refine bg ?_|(refine ae ?_;clear ae X af Y)|(refine af ?_;clear ae X af Y))|(with_reducible refine bo ?_;first|refine bm rfl ?_|refine bn rfl ?_)|(with_reducible refine aW ?_;first|refine au rfl rfl rfl rfl ?_|refine aK rfl rfl rfl ?_|refine bt rfl rfl rfl rfl ?_)|(with_reducible refine cr ?_;first|refine bR rfl rfl rfl rfl ?_|refine cf rfl rfl rfl ?_|refine cA rfl rfl rfl rfl ?_|refine cB hN (by apply Exists.intro;apply And.intro;(repeat' (first|apply FtI.nil|apply FI.nil|apply FI.cons|apply FtI.cons));kernel_rfl) ?_)|((first|(with_reducible first|refine bp rfl rfl fun K hK=>?_|refine cy rfl rfl fun K ab=>?_|refine br rfl rfl fun K aa=>?_|refine cz rfl rfl fun K ac=>?_|refine aJ fun X Y ae af=>?_|refine aL ?_));simp (disch:=first|decide|omega|(simp only [List.length_cons,List.length_nil];omega)) only [go_sem,beq_self_eq_true,↓aj,↓ak hN,am hN,reduceIte,reduceCtorEq,Nat.reduceAdd,Nat.reduceLT,Nat.reduceLeDiff,Nat.reduceEqDiff,Nat.reduceSub])|(with_reducible refine And.intro (fun h=>?_) (fun h=>?_) <;> try (exfalso;omega))|(with_reducible refine bj aM hN rfl ?_ ?_;kernel_rfl)|(with_reducible refine bS aM hN rfl ?_ ?_ ?_ ?_;(kernel_rfl);(kernel_rfl);(kernel_rfl))|(refine dF (hpr) ?_ rfl rfl ?_)|(refine aV hmk ?_ rfl (fun _=>rfl) ?_)|(with_reducible first|exact aF|refine ax ?_ ?_|exact cu _|refine bw ?_|exact a8 _|exact bY _ _|refine bX ?_|exact aY _)|exact bz hN rfl rfl|(refine bW hN rfl ?_;first|exact aN _|exact aO _)|exact aZ rfl rfl rfl|(simp only [bI,List.map_nil])|(with_reducible refine cc ?_)|(with_reducible refine And.intro ?_ ?_)|(refine ah ?_;omega)|(exact bu hN (by decide))))
   (refine uT (bU (L':=[.dead,.dead,.dead]) (l:=[(6,soA (eX g)),(7,.c (.B mm))]) hX hN [] ?_ ?_) ?_;(repeat' (first|(with_reducible first|exact bL _|exact bM|exact bN|refine bO ?_ ?_|refine bP ?_ ?_|exact ay _|exact bJ _|exact ao _|rfl|exact aR _ _|refine aA ?_|exact bK _|refine aU ?_)|refine bQ rfl ?_ ?_|exact aS hN _ rfl rfl rfl|exact aT hN _ rfl rfl rfl|exact aB hN _ rfl rfl rfl (Or.inr rfl)|(refine aP hN _ rfl rfl (by first|exact Or.inr rfl|exact Or.inl rfl) ?_;first|exact aN _|exact aO _)|refine aC hN rfl ?_|refine aD hN rfl rfl ?_|exact az hN _ rfl rfl|exact aE hN rfl rfl rfl rfl|(with_reducible first|refine aQ ?_|refine bC ?_|refine bE ?_|refine bF ?_|refine bD ?_|refine bB ?_)));(try (any_goals (first|(with_reducible rfl)|(refine ah ?_;omega)))))
   (repeat' (first|(with_reducible first|(refine hK _ _ ?_;clear hK K)|(refine aa _ ?_;clear aa K)|(refine ab _ _ _ ?_;clear ab K)|(refine ac _ _ ?_;clear ac K)|refine bh ?_|refine b7 ?_|refine a9 ?_|refine aq ?_|refine ap ?_|refine b8 ?_|refine aI ?_|refine ba ?_|refine b9 ?_|refine bc ?_|refine bd rfl ?_|refine bi ?_|refine be ?_|refine ca ?_|refine bf ?_|refine aH ?_|refine n_k ?_|refine bg ?_|(refine ae ?_;clear ae X af Y)|(refine af ?_;clear ae X af Y))|(with_reducible refine bo ?_;first|refine bm rfl ?_|refine bn rfl ?_)|(with_reducible refine aW ?_;first|refine au rfl rfl rfl rfl ?_|refine aK rfl rfl rfl ?_|refine bt rfl rfl rfl rfl ?_)|(with_reducible refine cr ?_;first|refine bR rfl rfl rfl rfl ?_|refine cf rfl rfl rfl ?_|refine cA rfl rfl rfl rfl ?_|refine cB hN (by apply Exists.intro;apply And.intro;(repeat' (first|apply FtI.nil|apply FI.nil|apply FI.cons|apply FtI.cons));kernel_rfl) ?_)|((first|(with_reducible first|refine bp rfl rfl fun K hK=>?_|refine cy rfl rfl fun K ab=>?_|refine br rfl rfl fun K aa=>?_|refine cz rfl rfl fun K ac=>?_|refine aJ fun X Y ae af=>?_|refine aL ?_));simp (disch:=first|decide|omega|(simp only [List.length_cons,List.length_nil];omega)) only [go_sem,beq_self_eq_true,↓aj,↓ak hN,am hN,reduceIte,reduceCtorEq,Nat.reduceAdd,Nat.reduceLT,Nat.reduceLeDiff,Nat.reduceEqDiff,Nat.reduceSub])|(with_reducible refine And.intro (fun h=>?_) (fun h=>?_) <;> try (exfalso;omega))|(with_reducible refine bj aM hN rfl ?_ ?_;kernel_rfl)|(with_reducible refine bS aM hN rfl ?_ ?_ ?_ ?_;(kernel_rfl);(kernel_rfl);(kernel_rfl))|(refine dF (hw) ?_ rfl rfl ?_)|(refine aV hwo ?_ rfl (fun _=>rfl) ?_)|(refine aV (iR ?_ ?_) ?_ rfl (fun _=>rfl) ?_)|(with_reducible first|exact aF|refine ax ?_ ?_|exact cu _|refine bw ?_|exact a8 _|exact bY _ _|refine bX ?_|exact aY _)|exact bz hN rfl rfl|(refine bW hN rfl ?_;first|exact aN _|exact aO _)|exact aZ rfl rfl rfl|(simp only [bI,List.map_nil])|(with_reducible refine cc ?_)|(with_reducible refine And.intro ?_ ?_)|(refine ah ?_;omega)|(exact bu hN (by decide))))
   all_goals (try (refine ah ?_;omega))
   (refine dW hN [4,5] (by decide) (.inr rfl) (by first|exact cG rfl rfl|exact cw hN rfl rfl rfl rfl|exact ch hN rfl rfl rfl rfl rfl|(simp (disch:=first|decide|omega|(simp only [List.length_cons,List.length_nil];omega)) only [ci,cj,cm,co,go_sem,beq_self_eq_true,↓aj,↓ak hN,am hN,reduceIte,reduceCtorEq,Nat.reduceAdd,Nat.reduceLT,Nat.reduceLeDiff,Nat.reduceEqDiff,Nat.reduceSub];rfl)|rfl) ?_ fun νs hνs=>?_;(repeat' (first|exact Gone.nil|(refine Gone.cons rfl rfl ?_ ?_)|(with_reducible refine dw ?_)|(with_reducible refine dv ?_)|(with_reducible refine SVs.cons ?_ ?_)|(with_reducible exact SVs.nil)|(simp only [List.drop,List.take])|(simp (disch:=first|decide|omega) only [↓aj,reduceIte,reduceCtorEq,Nat.reduceEqDiff])|(with_reducible exact fa _)|(with_reducible exact dt _)|(exact du rfl rfl rfl)|(exact dB 0 (by simp) rfl rfl)|(exact dB 1 (by simp) rfl rfl)|(refine dV hN rfl (dx hN (by decide)) ?_)|(with_reducible refine dU ?_)|(with_reducible rfl)|(with_reducible refine bC ?_)|(with_reducible refine bE ?_)|(with_reducible refine bF ?_)|(with_reducible refine bD ?_)|(with_reducible refine bB ?_)|(refine ah ?_;omega))))
   · exact hw0.symm
   · exact hw1.symm
end Go.Proofs.Ytfaefmabjjndeaa
