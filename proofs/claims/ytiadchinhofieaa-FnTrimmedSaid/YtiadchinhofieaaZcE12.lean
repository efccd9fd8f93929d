/-
  Who wins which vertex: the program's and the reference's.
-/
import Derived.Test.YtiadchinhofieaaZcE11
import Derived.Test.YtiadchinhofieaaZcCe
import Derived.Test.YtiadchinhofieaaZcCq
namespace Go.Proofs.Ytiadchinhofieaa
set_option linter.unusedVariables false
set_option linter.unusedSimpArgs false
open Go.RowKit
attribute [local irreducible] aq ci Aw Le
def pgP (g : Pa) : PG.Gm:=bH (eS g) g.prio.length
theorem sQ {g : Pa} (hg : PaOk g) : tp g.ar = (eS g).prev:=by
 show cZ _ (fun u=>bG g.ar.nxt u _) = cZ _ (fun u=>bG g.ar.nxt u _)
 rw [hg.len]
theorem po {g : Pa} {v : Nat} (hv : v < g.prio.length) : gi (eS g).pick v < 0:=by
 rw [show gi (eS g).pick v = -1 from dc _ hv];omega
theorem rg {g : Pa} (v u : Nat) : (pgP g).E v u ↔ v < g.prio.length ∧ u < g.prio.length ∧ ∃ t,t < (gr g.ar.nxt v).length ∧ gi (gr g.ar.nxt v) t = (u : Int):=by
 show v < _ ∧ u < _ ∧ edg (eS g) v u = true ∧ _ ↔ _
 constructor
 · rintro ⟨a,b,_,c⟩;exact ⟨a,b,c⟩
 · rintro ⟨a,b,c⟩;exact ⟨a,b,uE v u (by omega) (by omega),c⟩
theorem rh {g : Pa} (hg : PaOk g) {xs : List Int} (h : nC g.ar xs) : PG.Total (pgP g) fun v=>(v : Int) ∈ xs:=by
 intro v hv
 obtain ⟨k,hk,e⟩:=da hv
 obtain ⟨i,h1,h2⟩:=h.2 k hk
 have h3:=h.1 k hk
 have hl:=hg.len
 rw [e,Int.toNat_natCast] at h1 h2
 obtain ⟨j,hj,e'⟩:=da h2
 have h4:=h.1 j hj
 rw [e'] at h4
 have e5 : (((gi (gr g.ar.nxt v) i).toNat : Nat) : Int) = gi (gr g.ar.nxt v) i:=Int.toNat_of_nonneg h4.1
 exact ⟨(gi (gr g.ar.nxt v) i).toNat,(rg _ _).2 ⟨by omega,by omega,i,h1,e5.symm⟩,by show _ ∈ xs;rw [e5];exact h2⟩
def fh (g : Pa) (v : Nat) : Prop:=v < g.prio.length
theorem gJ {g : Pa} (hg : PaOk g) : PG.Total (pgP g) (fh g):=by
 intro v hv
 have hl:=hg.len
 have hv' : v < g.prio.length:=hv
 obtain ⟨_,_,h1,h2,h3⟩:=hg.ar.vert v (by omega)
 have h4:=h3 0 (by omega)
 exact ⟨(gi (gr g.ar.nxt v) 0).toNat,(rg _ _).2 ⟨hv',by omega,0,by omega,by omega⟩,show _ < _ by omega⟩
theorem ri {P : PG.Gm} {i : Int} {S S' : Nat → Prop} (h : ∀ v,S v ↔ S' v) (v : Nat) : PG.Won P i S v ↔ PG.Won P i S' v:=by
 have : S = S':=funext fun v=>propext (h v)
 rw [this]
theorem sR {n v : Nat} {p : Nat → Prop} (hp : ∀ v,p v → v < n) : gb (mks n p) v = true ↔ p v:=by
 rcases Nat.lt_or_ge v n with h|h
 · rw [eo _ h];exact iQ
 · refine ⟨fun h'=>?_,fun h'=>?_⟩
   · have:=fg h';rw [cC] at this;omega
   · have:=hp v h';omega
theorem pp {P : PG.Gm} {n : Nat} (hf : PG.Fin P n) {S : Nat → Prop} (hS : ∀ v,S v → v < n) (ht : PG.Total P S) {i : Int} (hi : i = 0 ∨ i = 1) :
  (bZ (mks n S).length fun v=>gb (mks n S) v && !gb (mks n (PG.Won P i S)) v) = mks n (PG.Won P (1 - i) S):=by
 rw [cC]
 refine cL fun v hv=>fB ?_
 rw [eo _ hv,eo _ hv,my hf hS ht hi,Bool.and_eq_true,Bool.not_eq_true',iQ,pK]
 exact Iff.rfl
noncomputable def gP (g : Pa) (xs : List Int) (i : Int) : List Int:=cO (mks g.prio.length (PG.Won (pgP g) i fun v=>(v : Int) ∈ xs)) g.prio.length
noncomputable def bX (g : Pa) : List Int:=tab g.prio.length fun v=>if tf (PG.Won (pgP g) 0 (fh g) v) then 0 else 1
theorem ov {g : Pa} : PG.Fin (pgP g) g.prio.length:=fun v u h=>h.2.1
set_option maxHeartbeats 4000000 in
theorem sS (g : Pa) (hg : PaOk g) (xs : List Int) (hx : nC g.ar xs) : aq Try.prog 137 [paA g,.c (.I xs)] [.arr 2 .yes (.I (gP g xs 0)),.arr 2 .yes (.I (gP g xs 1))] (fun ns=>.tup [.sl (ns.getD 0 0),.sl (ns.getD 1 0)]):=by
 have hl:=hg.len
 have hle:=hg.ar.le
 have hB : Bnd xs g.ar.own.length:=fun k hk=>by have:=hx.1 k hk;omega
 have hxl:=j9 hx.1 (by omega)
 have hS : ∀ v : Nat,(v : Int) ∈ xs → v < g.prio.length:=fun v hv=>by
  obtain ⟨k,hk,e⟩:=da hv
  have:=hB k hk;omega
 have ht:=rh hg hx
 have hpr:=pe g.ar hg.ar
 rw [sQ hg] at hpr
 have hmk:=qS g.ar xs hB hle (by omega)
 rw [← hl] at hmk
 have hP : (fun v=>gb (mks g.prio.length fun v : Nat=>(v : Int) ∈ xs) v = true) = fun v : Nat=>(v : Int) ∈ xs:=funext fun v=>propext (sR hS)
 have hw:=wn (eS g) g.prio.length (ly hg) (fun v hv=>po hv) _ (mks g.prio.length fun v : Nat=>(v : Int) ∈ xs) (cC _ _) (Nat.lt_succ_self _) (by rw [hP];exact ht)
 have h01:=ou (eS g).prio (mks g.prio.length fun v : Nat=>(v : Int) ∈ xs) g.prio.length
 rw [hP] at hw
 generalize j6 (eS g).prio (mks g.prio.length fun v : Nat=>(v : Int) ∈ xs) g.prio.length = who at hw h01
 have hwo:=gI (mks g.prio.length fun v : Nat=>(v : Int) ∈ xs) (mks g.prio.length (PG.Won (pgP g) who fun v=>(v : Int) ∈ xs)) (by rw [cC,cC]) (by rw [cC];omega)
 rw [pp ov hS ht h01] at hwo
 change aq _ _ _ _ (fun _=>.tup [.c (.B (mks g.prio.length (PG.Won (pgP g) who fun v=>(v : Int) ∈ xs))),_]) at hw
 clear hP
 generalize hmm : mks g.prio.length (fun v : Nat=>(v : Int) ∈ xs) = mm at *
 have hw0 : gP g xs 0 = cO (mks g.prio.length (PG.Won (pgP g) 0 fun v=>(v : Int) ∈ xs)) (mks g.prio.length (PG.Won (pgP g) 0 fun v=>(v : Int) ∈ xs)).length:=by rw [cC];rfl
 have hw1 : gP g xs 1 = cO (mks g.prio.length (PG.Won (pgP g) 1 fun v=>(v : Int) ∈ xs)) (mks g.prio.length (PG.Won (pgP g) 1 fun v=>(v : Int) ∈ xs)).length:=by rw [cC];rfl
 have l0 : (mks g.prio.length (PG.Won (pgP g) 0 fun v=>(v : Int) ∈ xs)).length = g.prio.length:=cC _ _
 have l1 : (mks g.prio.length (PG.Won (pgP g) 1 fun v=>(v : Int) ∈ xs)).length = g.prio.length:=cC _ _
 rcases h01 with rfl|rfl
 · rw [show (1 : Int) - 0 = 1 from rfl] at hwo
   generalize mks g.prio.length (PG.Won (pgP g) 0 fun v=>(v : Int) ∈ xs) = m0 at *
   generalize mks g.prio.length (PG.Won (pgP g) 1 fun v=>(v : Int) ∈ xs) = m1 at *
   (refine bh aG Try.func137 rfl rfl (by kernel_rfl) fun hp0 ν hX hN=>?_;simp only [cx,Nat.reduceAdd])
   (repeat' (first|(with_reducible refine jG 3 ?_)|(with_reducible first|(apply hK;clear hK K)|refine stZ ?_|refine aM rfl ?_|((first|apply ae|apply af);clear ae X af Y))|(with_reducible refine aP ?_;first|refine aN rfl ?_|refine aO rfl ?_)|(with_reducible refine bU ?_;refine b8 hN ?_)|((with_reducible first|((first|refine aS ?_|refine b9 ?_|refine aT ?_|refine ca ?_);intro K hK)|(refine az ?_;intro X Y ae af)|refine aA ?_);simp (disch:=first|decide|omega|(simp only [List.length_cons,List.length_nil];omega)) only [go_sem,↓am hN,ao hN,reduceIte,reduceCtorEq,Nat.reduceAdd,Nat.reduceLT,Nat.reduceLeDiff,Nat.reduceEqDiff,Nat.reduceSub])|(with_reducible refine And.intro (fun h=>?_) (fun h=>?_) <;> try (exfalso;omega))|(with_reducible refine aR aG hN ?_)|(with_reducible refine bn aG hN ?_)|(refine cK (hpr) ?_ rfl rfl ?_)|(refine bE hmk ?_ rfl (fun _=>rfl) ?_)|(with_reducible first|exact aV|refine aJ ?_ ?_|exact cF _|refine bv ?_|exact bz _|exact bR _ _|refine bQ ?_|exact bt _)|exact bw hN rfl rfl|(refine bP hN rfl ?_;first|exact aZ _|exact a8 _)|exact bu rfl rfl rfl|(simp only [ba,List.map_nil])|(with_reducible refine bo ?_)|(with_reducible refine And.intro ?_ ?_)|(refine ak ?_;omega)|(exact aQ hN (by decide))))
   (refine uu (bA (L':=[.dead,.dead,.dead]) (l:=[(6,soA (eS g)),(7,.c (.B mm))]) hX hN [] ?_ ?_) ?_;(repeat' (first|(with_reducible first|exact clZ|refine bB ?_ ?_|refine bC ?_ ?_|rfl|refine suZ ?_)|refine bD rfl ?_ ?_|exact aX hN _ rfl rfl rfl|exact aY hN _ rfl rfl rfl|exact aC hN _ rfl rfl rfl (Or.inr rfl)|(refine aU hN _ rfl rfl (by first|exact Or.inr rfl|exact Or.inl rfl) ?_;first|exact aZ _|exact a8 _)|refine aD hN rfl ?_|refine aE hN rfl rfl ?_|exact aB hN _ rfl rfl|exact aF hN rfl rfl rfl rfl|(with_reducible first|refine stZ ?_|refine aW ?_)));(try (any_goals (first|(with_reducible rfl)|(refine ak ?_;omega)))))
   (repeat' (first|(with_reducible first|(apply hK;clear hK K)|refine stZ ?_|refine aM rfl ?_|((first|apply ae|apply af);clear ae X af Y))|(with_reducible refine aP ?_;first|refine aN rfl ?_|refine aO rfl ?_)|(with_reducible refine bU ?_;refine b8 hN ?_)|((with_reducible first|((first|refine aS ?_|refine b9 ?_|refine aT ?_|refine ca ?_);intro K hK)|(refine az ?_;intro X Y ae af)|refine aA ?_);simp (disch:=first|decide|omega|(simp only [List.length_cons,List.length_nil];omega)) only [go_sem,↓am hN,ao hN,reduceIte,reduceCtorEq,Nat.reduceAdd,Nat.reduceLT,Nat.reduceLeDiff,Nat.reduceEqDiff,Nat.reduceSub])|(with_reducible refine And.intro (fun h=>?_) (fun h=>?_) <;> try (exfalso;omega))|(with_reducible refine aR aG hN ?_)|(with_reducible refine bn aG hN ?_)|(refine cK (hw) ?_ rfl rfl ?_)|(refine bE hwo ?_ rfl (fun _=>rfl) ?_)|(refine bE (ir ?_ ?_) ?_ rfl (fun _=>rfl) ?_)|(with_reducible first|exact aV|refine aJ ?_ ?_|exact cF _|refine bv ?_|exact bz _|exact bR _ _|refine bQ ?_|exact bt _)|exact bw hN rfl rfl|(refine bP hN rfl ?_;first|exact aZ _|exact a8 _)|exact bu rfl rfl rfl|(simp only [ba,List.map_nil])|(with_reducible refine bo ?_)|(with_reducible refine And.intro ?_ ?_)|(refine ak ?_;omega)|(exact aQ hN (by decide))))
   all_goals (try (refine ak ?_;omega))
   (refine dC hN [3,5] (by decide) (.inr rfl) (by first|exact b7 rfl rfl|exact bL hN rfl rfl rfl rfl|exact bF hN rfl rfl rfl rfl rfl|(simp (disch:=first|decide|omega|(simp only [List.length_cons,List.length_nil];omega)) only [bK,bS,bV,bY,go_sem,beq_self_eq_true,↓au,↓am hN,ao hN,reduceIte,reduceCtorEq,Nat.reduceAdd,Nat.reduceLT,Nat.reduceLeDiff,Nat.reduceEqDiff,Nat.reduceSub];rfl)|rfl) ?_ fun νs hνs=>?_;(repeat' (first|exact Gone.nil|(refine Gone.cons rfl rfl ?_ ?_)|(with_reducible refine cX ?_)|(with_reducible refine cW ?_)|(with_reducible refine SVs.cons ?_ ?_)|(with_reducible exact SVs.nil)|(simp only [List.drop,List.take])|(simp (disch:=first|decide|omega) only [↓au,reduceIte,reduceCtorEq,Nat.reduceEqDiff])|(with_reducible exact eY _)|(with_reducible exact cU _)|(exact cV rfl rfl rfl)|(exact dp 0 (by simp) rfl rfl)|(exact dp 1 (by simp) rfl rfl)|(refine dB hN rfl (cY hN (by decide)) ?_)|(with_reducible refine dA ?_)|(with_reducible rfl)|(with_reducible refine eZ ?_)|(with_reducible refine e8 ?_)|(with_reducible refine e9 ?_)|(with_reducible refine eR ?_)|(with_reducible refine fa ?_)|(refine ak ?_;omega))))
   · exact hw0.symm
   · exact hw1.symm
 · rw [show (1 : Int) - 1 = 0 from rfl] at hwo
   generalize mks g.prio.length (PG.Won (pgP g) 0 fun v=>(v : Int) ∈ xs) = m0 at *
   generalize mks g.prio.length (PG.Won (pgP g) 1 fun v=>(v : Int) ∈ xs) = m1 at *
   (refine bh aG Try.func137 rfl rfl (by kernel_rfl) fun hp0 ν hX hN=>?_;simp only [cx,Nat.reduceAdd])
   (repeat' (first|(with_reducible refine jG 3 ?_)|(with_reducible first|(apply hK;clear hK K)|refine stZ ?_|refine aM rfl ?_|((first|apply ae|apply af);clear ae X af Y))|(with_reducible refine aP ?_;first|refine aN rfl ?_|refine aO rfl ?_)|(with_reducible refine bU ?_;refine b8 hN ?_)|((with_reducible first|((first|refine aS ?_|refine b9 ?_|refine aT ?_|refine ca ?_);intro K hK)|(refine az ?_;intro X Y ae af)|refine aA ?_);simp (disch:=first|decide|omega|(simp only [List.length_cons,List.length_nil];omega)) only [go_sem,↓am hN,ao hN,reduceIte,reduceCtorEq,Nat.reduceAdd,Nat.reduceLT,Nat.reduceLeDiff,Nat.reduceEqDiff,Nat.reduceSub])|(with_reducible refine And.intro (fun h=>?_) (fun h=>?_) <;> try (exfalso;omega))|(with_reducible refine aR aG hN ?_)|(with_reducible refine bn aG hN ?_)|(refine cK (hpr) ?_ rfl rfl ?_)|(refine bE hmk ?_ rfl (fun _=>rfl) ?_)|(with_reducible first|exact aV|refine aJ ?_ ?_|exact cF _|refine bv ?_|exact bz _|exact bR _ _|refine bQ ?_|exact bt _)|exact bw hN rfl rfl|(refine bP hN rfl ?_;first|exact aZ _|exact a8 _)|exact bu rfl rfl rfl|(simp only [ba,List.map_nil])|(with_reducible refine bo ?_)|(with_reducible refine And.intro ?_ ?_)|(refine ak ?_;omega)|(exact aQ hN (by decide))))
   (refine uu (bA (L':=[.dead,.dead,.dead]) (l:=[(6,soA (eS g)),(7,.c (.B mm))]) hX hN [] ?_ ?_) ?_;(repeat' (first|(with_reducible first|exact clZ|refine bB ?_ ?_|refine bC ?_ ?_|rfl|refine suZ ?_)|refine bD rfl ?_ ?_|exact aX hN _ rfl rfl rfl|exact aY hN _ rfl rfl rfl|exact aC hN _ rfl rfl rfl (Or.inr rfl)|(refine aU hN _ rfl rfl (by first|exact Or.inr rfl|exact Or.inl rfl) ?_;first|exact aZ _|exact a8 _)|refine aD hN rfl ?_|refine aE hN rfl rfl ?_|exact aB hN _ rfl rfl|exact aF hN rfl rfl rfl rfl|(with_reducible first|refine stZ ?_|refine aW ?_)));(try (any_goals (first|(with_reducible rfl)|(refine ak ?_;omega)))))
   (repeat' (first|(with_reducible first|(apply hK;clear hK K)|refine stZ ?_|refine aM rfl ?_|((first|apply ae|apply af);clear ae X af Y))|(with_reducible refine aP ?_;first|refine aN rfl ?_|refine aO rfl ?_)|(with_reducible refine bU ?_;refine b8 hN ?_)|((with_reducible first|((first|refine aS ?_|refine b9 ?_|refine aT ?_|refine ca ?_);intro K hK)|(refine az ?_;intro X Y ae af)|refine aA ?_);simp (disch:=first|decide|omega|(simp only [List.length_cons,List.length_nil];omega)) only [go_sem,↓am hN,ao hN,reduceIte,reduceCtorEq,Nat.reduceAdd,Nat.reduceLT,Nat.reduceLeDiff,Nat.reduceEqDiff,Nat.reduceSub])|(with_reducible refine And.intro (fun h=>?_) (fun h=>?_) <;> try (exfalso;omega))|(with_reducible refine aR aG hN ?_)|(with_reducible refine bn aG hN ?_)|(refine cK (hw) ?_ rfl rfl ?_)|(refine bE hwo ?_ rfl (fun _=>rfl) ?_)|(refine bE (ir ?_ ?_) ?_ rfl (fun _=>rfl) ?_)|(with_reducible first|exact aV|refine aJ ?_ ?_|exact cF _|refine bv ?_|exact bz _|exact bR _ _|refine bQ ?_|exact bt _)|exact bw hN rfl rfl|(refine bP hN rfl ?_;first|exact aZ _|exact a8 _)|exact bu rfl rfl rfl|(simp only [ba,List.map_nil])|(with_reducible refine bo ?_)|(with_reducible refine And.intro ?_ ?_)|(refine ak ?_;omega)|(exact aQ hN (by decide))))
   all_goals (try (refine ak ?_;omega))
   (refine dC hN [4,5] (by decide) (.inr rfl) (by first|exact b7 rfl rfl|exact bL hN rfl rfl rfl rfl|exact bF hN rfl rfl rfl rfl rfl|(simp (disch:=first|decide|omega|(simp only [List.length_cons,List.length_nil];omega)) only [bK,bS,bV,bY,go_sem,beq_self_eq_true,↓au,↓am hN,ao hN,reduceIte,reduceCtorEq,Nat.reduceAdd,Nat.reduceLT,Nat.reduceLeDiff,Nat.reduceEqDiff,Nat.reduceSub];rfl)|rfl) ?_ fun νs hνs=>?_;(repeat' (first|exact Gone.nil|(refine Gone.cons rfl rfl ?_ ?_)|(with_reducible refine cX ?_)|(with_reducible refine cW ?_)|(with_reducible refine SVs.cons ?_ ?_)|(with_reducible exact SVs.nil)|(simp only [List.drop,List.take])|(simp (disch:=first|decide|omega) only [↓au,reduceIte,reduceCtorEq,Nat.reduceEqDiff])|(with_reducible exact eY _)|(with_reducible exact cU _)|(exact cV rfl rfl rfl)|(exact dp 0 (by simp) rfl rfl)|(exact dp 1 (by simp) rfl rfl)|(refine dB hN rfl (cY hN (by decide)) ?_)|(with_reducible refine dA ?_)|(with_reducible rfl)|(with_reducible refine eZ ?_)|(with_reducible refine e8 ?_)|(with_reducible refine e9 ?_)|(with_reducible refine eR ?_)|(with_reducible refine fa ?_)|(refine ak ?_;omega))))
   · exact hw0.symm
   · exact hw1.symm
end Go.Proofs.Ytiadchinhofieaa
