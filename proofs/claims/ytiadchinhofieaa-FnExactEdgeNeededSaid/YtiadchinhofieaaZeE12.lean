/-
  Who wins which vertex: the program's and the reference's.
-/
import Derived.Test.YtiadchinhofieaaZeE11
import Derived.Test.YtiadchinhofieaaZeCe
import Derived.Test.YtiadchinhofieaaZeCq
namespace Go.Proofs.Ytiadchinhofieaa
set_option linter.unusedVariables false
set_option linter.unusedSimpArgs false
open Go.RowKit
attribute [local irreducible] aq ce Aw Le
def pgP (g : Pa) : PG.Gm:=bG (ep g) g.prio.length
theorem qS {g : Pa} (hg : PaOk g) : rg g.ar = (ep g).prev:=by
 show cJ _ (fun u=>bE g.ar.nxt u _) = cJ _ (fun u=>bE g.ar.nxt u _)
 rw [hg.len]
theorem nz {g : Pa} {v : Nat} (hv : v < g.prio.length) : gi (ep g).pick v < 0:=by
 rw [show gi (ep g).pick v = -1 from c8 _ hv];omega
theorem rh {g : Pa} (v u : Nat) : (pgP g).E v u ↔ v < g.prio.length ∧ u < g.prio.length ∧ ∃ t,t < (gr g.ar.nxt v).length ∧ gi (gr g.ar.nxt v) t = (u : Int):=by
 show v < _ ∧ u < _ ∧ edg (ep g) v u = true ∧ _ ↔ _
 constructor
 · rintro ⟨a,b,_,c⟩;exact ⟨a,b,c⟩
 · rintro ⟨a,b,c⟩;exact ⟨a,b,sB v u (by omega) (by omega),c⟩
theorem pm {g : Pa} (hg : PaOk g) {xs : List Int} (h : lZ g.ar xs) : PG.Total (pgP g) fun v=>(v : Int) ∈ xs:=by
 intro v hv
 obtain ⟨k,hk,e⟩:=cZ hv
 obtain ⟨i,h1,h2⟩:=h.2 k hk
 have h3:=h.1 k hk
 have hl:=hg.len
 rw [e,Int.toNat_natCast] at h1 h2
 obtain ⟨j,hj,e'⟩:=cZ h2
 have h4:=h.1 j hj
 rw [e'] at h4
 have e5 : (((gi (gr g.ar.nxt v) i).toNat : Nat) : Int) = gi (gr g.ar.nxt v) i:=Int.toNat_of_nonneg h4.1
 exact ⟨(gi (gr g.ar.nxt v) i).toNat,(rh _ _).2 ⟨by omega,by omega,i,h1,e5.symm⟩,by show _ ∈ xs;rw [e5];exact h2⟩
def iX (g : Pa) (v : Nat) : Prop:=v < g.prio.length
theorem jJ {g : Pa} (hg : PaOk g) : PG.Total (pgP g) (iX g):=by
 intro v hv
 have hl:=hg.len
 have hv' : v < g.prio.length:=hv
 obtain ⟨_,_,h1,h2,h3⟩:=hg.ar.vert v (by omega)
 have h4:=h3 0 (by omega)
 exact ⟨(gi (gr g.ar.nxt v) 0).toNat,(rh _ _).2 ⟨hv',by omega,0,by omega,by omega⟩,show _ < _ by omega⟩
theorem pn {P : PG.Gm} {i : Int} {S S' : Nat → Prop} (h : ∀ v,S v ↔ S' v) (v : Nat) : PG.Won P i S v ↔ PG.Won P i S' v:=by
 have : S = S':=funext fun v=>propext (h v)
 rw [this]
theorem qT {n v : Nat} {p : Nat → Prop} (hp : ∀ v,p v → v < n) : gb (mks n p) v = true ↔ p v:=by
 rcases Nat.lt_or_ge v n with h|h
 · rw [dU _ h];exact gW
 · refine ⟨fun h'=>?_,fun h'=>?_⟩
   · have:=eH h';rw [cn] at this;omega
   · have:=hp v h';omega
theorem nA {P : PG.Gm} {n : Nat} (hf : PG.Fin P n) {S : Nat → Prop} (hS : ∀ v,S v → v < n) (ht : PG.Total P S) {i : Int} (hi : i = 0 ∨ i = 1) :
  (bR (mks n S).length fun v=>gb (mks n S) v && !gb (mks n (PG.Won P i S)) v) = mks n (PG.Won P (1 - i) S):=by
 rw [cn]
 refine cB fun v hv=>eU ?_
 rw [dU _ hv,dU _ hv,lj hf hS ht hi,Bool.and_eq_true,Bool.not_eq_true',gW,nI]
 exact Iff.rfl
noncomputable def fW (g : Pa) (xs : List Int) (i : Int) : List Int:=cE (mks g.prio.length (PG.Won (pgP g) i fun v=>(v : Int) ∈ xs)) g.prio.length
noncomputable def du (g : Pa) : List Int:=tab g.prio.length fun v=>if tf (PG.Won (pgP g) 0 (iX g) v) then 0 else 1
theorem ri {g : Pa} : PG.Fin (pgP g) g.prio.length:=fun v u h=>h.2.1
set_option maxHeartbeats 4000000 in
theorem qU (g : Pa) (hg : PaOk g) (xs : List Int) (hx : lZ g.ar xs) : aq Try.prog 137 [paA g,.c (.I xs)] [.arr 2 .yes (.I (fW g xs 0)),.arr 2 .yes (.I (fW g xs 1))] (fun ns=>.tup [.sl (ns.getD 0 0),.sl (ns.getD 1 0)]):=by
 have hl:=hg.len
 have hle:=hg.ar.le
 have hB : Bnd xs g.ar.own.length:=fun k hk=>by have:=hx.1 k hk;omega
 have hxl:=jj hx.1 (by omega)
 have hS : ∀ v : Nat,(v : Int) ∈ xs → v < g.prio.length:=fun v hv=>by
  obtain ⟨k,hk,e⟩:=cZ hv
  have:=hB k hk;omega
 have ht:=pm hg hx
 have hpr:=nj g.ar hg.ar
 rw [qS hg] at hpr
 have hmk:=oW g.ar xs hB hle (by omega)
 rw [← hl] at hmk
 have hP : (fun v=>gb (mks g.prio.length fun v : Nat=>(v : Int) ∈ xs) v = true) = fun v : Nat=>(v : Int) ∈ xs:=funext fun v=>propext (qT hS)
 have hw:=uo (ep g) g.prio.length (mz hg) (fun v hv=>nz hv) _ (mks g.prio.length fun v : Nat=>(v : Int) ∈ xs) (cn _ _) (Nat.lt_succ_self _) (by rw [hP];exact ht)
 have h01:=mE (ep g).prio (mks g.prio.length fun v : Nat=>(v : Int) ∈ xs) g.prio.length
 rw [hP] at hw
 generalize jc (ep g).prio (mks g.prio.length fun v : Nat=>(v : Int) ∈ xs) g.prio.length = who at hw h01
 have hwo:=fV (mks g.prio.length fun v : Nat=>(v : Int) ∈ xs) (mks g.prio.length (PG.Won (pgP g) who fun v=>(v : Int) ∈ xs)) (by rw [cn,cn]) (by rw [cn];omega)
 rw [nA ri hS ht h01] at hwo
 change aq _ _ _ _ (fun _=>.tup [.c (.B (mks g.prio.length (PG.Won (pgP g) who fun v=>(v : Int) ∈ xs))),_]) at hw
 clear hP
 generalize hmm : mks g.prio.length (fun v : Nat=>(v : Int) ∈ xs) = mm at *
 have hw0 : fW g xs 0 = cE (mks g.prio.length (PG.Won (pgP g) 0 fun v=>(v : Int) ∈ xs)) (mks g.prio.length (PG.Won (pgP g) 0 fun v=>(v : Int) ∈ xs)).length:=by rw [cn];rfl
 have hw1 : fW g xs 1 = cE (mks g.prio.length (PG.Won (pgP g) 1 fun v=>(v : Int) ∈ xs)) (mks g.prio.length (PG.Won (pgP g) 1 fun v=>(v : Int) ∈ xs)).length:=by rw [cn];rfl
 have l0 : (mks g.prio.length (PG.Won (pgP g) 0 fun v=>(v : Int) ∈ xs)).length = g.prio.length:=cn _ _
 have l1 : (mks g.prio.length (PG.Won (pgP g) 1 fun v=>(v : Int) ∈ xs)).length = g.prio.length:=cn _ _
 rcases h01 with rfl|rfl
 · rw [show (1 : Int) - 0 = 1 from rfl] at hwo
   generalize mks g.prio.length (PG.Won (pgP g) 0 fun v=>(v : Int) ∈ xs) = m0 at *
   generalize mks g.prio.length (PG.Won (pgP g) 1 fun v=>(v : Int) ∈ xs) = m1 at *
   (refine be aF Try.func137 rfl rfl (by kernel_rfl) fun hp0 ν hX hN=>?_;simp only [bX,Nat.reduceAdd])
   (repeat' (first|(with_reducible refine iP 3 ?_)|(with_reducible first|(apply hK;clear hK K)|refine stZ ?_|refine aM rfl ?_|((first|apply ae|apply af);clear ae X af Y))|(with_reducible refine aP ?_;first|refine aN rfl ?_|refine aO rfl ?_)|(with_reducible refine ca ?_;refine cw hN ?_)|((with_reducible first|((first|refine aS ?_|refine cx ?_|refine aT ?_|refine cy ?_);intro K hK)|(refine ay ?_;intro X Y ae af)|refine az ?_);simp (disch:=first|decide|omega|(simp only [List.length_cons,List.length_nil];omega)) only [go_sem,↓ak hN,am hN,reduceIte,reduceCtorEq,Nat.reduceAdd,Nat.reduceLT,Nat.reduceLeDiff,Nat.reduceEqDiff,Nat.reduceSub])|(with_reducible refine And.intro (fun h=>?_) (fun h=>?_) <;> try (exfalso;omega))|(with_reducible refine aR aF hN ?_)|(with_reducible refine bF aF hN ?_)|(refine cS (hpr) ?_ rfl rfl ?_)|(refine br hmk ?_ rfl (fun _=>rfl) ?_)|(with_reducible first|exact a9|refine aK ?_ ?_|exact cF _|refine bB ?_|exact bD _|exact bQ _ _|refine bP ?_|exact bz _)|exact bC hN rfl rfl|(refine bO hN rfl ?_;first|exact ba _|exact bc _)|exact bA rfl rfl rfl|(simp only [aV,List.map_nil])|(with_reducible refine bn ?_)|(with_reducible refine And.intro ?_ ?_)|(refine ah ?_;omega)|(exact aQ hN (by decide))))
   (refine sj (bt (L':=[.dead,.dead,.dead]) (l:=[(6,soA (ep g)),(7,.c (.B mm))]) hX hN [] ?_ ?_) ?_;(repeat' (first|(with_reducible first|exact clZ|refine bu ?_ ?_|refine bv ?_ ?_|rfl|refine suZ ?_)|refine bw rfl ?_ ?_|exact aX hN _ rfl rfl rfl|exact aY hN _ rfl rfl rfl|exact aB hN _ rfl rfl rfl (Or.inr rfl)|(refine aU hN _ rfl rfl (by first|exact Or.inr rfl|exact Or.inl rfl) ?_;first|exact ba _|exact bc _)|refine aC hN rfl ?_|refine aD hN rfl rfl ?_|exact aA hN _ rfl rfl|exact aE hN rfl rfl rfl rfl|(with_reducible first|refine stZ ?_|refine aW ?_)));(try (any_goals (first|(with_reducible rfl)|(refine ah ?_;omega)))))
   (repeat' (first|(with_reducible first|(apply hK;clear hK K)|refine stZ ?_|refine aM rfl ?_|((first|apply ae|apply af);clear ae X af Y))|(with_reducible refine aP ?_;first|refine aN rfl ?_|refine aO rfl ?_)|(with_reducible refine ca ?_;refine cw hN ?_)|((with_reducible first|((first|refine aS ?_|refine cx ?_|refine aT ?_|refine cy ?_);intro K hK)|(refine ay ?_;intro X Y ae af)|refine az ?_);simp (disch:=first|decide|omega|(simp only [List.length_cons,List.length_nil];omega)) only [go_sem,↓ak hN,am hN,reduceIte,reduceCtorEq,Nat.reduceAdd,Nat.reduceLT,Nat.reduceLeDiff,Nat.reduceEqDiff,Nat.reduceSub])|(with_reducible refine And.intro (fun h=>?_) (fun h=>?_) <;> try (exfalso;omega))|(with_reducible refine aR aF hN ?_)|(with_reducible refine bF aF hN ?_)|(refine cS (hw) ?_ rfl rfl ?_)|(refine br hwo ?_ rfl (fun _=>rfl) ?_)|(refine br (gC ?_ ?_) ?_ rfl (fun _=>rfl) ?_)|(with_reducible first|exact a9|refine aK ?_ ?_|exact cF _|refine bB ?_|exact bD _|exact bQ _ _|refine bP ?_|exact bz _)|exact bC hN rfl rfl|(refine bO hN rfl ?_;first|exact ba _|exact bc _)|exact bA rfl rfl rfl|(simp only [aV,List.map_nil])|(with_reducible refine bn ?_)|(with_reducible refine And.intro ?_ ?_)|(refine ah ?_;omega)|(exact aQ hN (by decide))))
   all_goals (try (refine ah ?_;omega))
   (refine e9 hN [3,5] (by decide) (.inr rfl) (by first|exact cM rfl rfl|exact cA hN rfl rfl rfl rfl|exact cj hN rfl rfl rfl rfl rfl|(simp (disch:=first|decide|omega|(simp only [List.length_cons,List.length_nil];omega)) only [bI,bJ,bL,bN,go_sem,beq_self_eq_true,↓au,↓ak hN,am hN,reduceIte,reduceCtorEq,Nat.reduceAdd,Nat.reduceLT,Nat.reduceLeDiff,Nat.reduceEqDiff,Nat.reduceSub];rfl)|rfl) ?_ fun νs hνs=>?_;(repeat' (first|exact Gone.nil|(refine Gone.cons rfl rfl ?_ ?_)|(with_reducible refine dL ?_)|(with_reducible refine dK ?_)|(with_reducible refine SVs.cons ?_ ?_)|(with_reducible exact SVs.nil)|(simp only [List.drop,List.take])|(simp (disch:=first|decide|omega) only [↓au,reduceIte,reduceCtorEq,Nat.reduceEqDiff])|(with_reducible exact ib _)|(with_reducible exact dI _)|(exact dJ rfl rfl rfl)|(exact eg 0 (by simp) rfl rfl)|(exact eg 1 (by simp) rfl rfl)|(refine e8 hN rfl (dM hN (by decide)) ?_)|(with_reducible refine eZ ?_)|(with_reducible rfl)|(with_reducible refine ic ?_)|(with_reducible refine ig ?_)|(with_reducible refine ii ?_)|(with_reducible refine gP ?_)|(with_reducible refine gc ?_)|(refine ah ?_;omega))))
   · exact hw0.symm
   · exact hw1.symm
 · rw [show (1 : Int) - 1 = 0 from rfl] at hwo
   generalize mks g.prio.length (PG.Won (pgP g) 0 fun v=>(v : Int) ∈ xs) = m0 at *
   generalize mks g.prio.length (PG.Won (pgP g) 1 fun v=>(v : Int) ∈ xs) = m1 at *
   (refine be aF Try.func137 rfl rfl (by kernel_rfl) fun hp0 ν hX hN=>?_;simp only [bX,Nat.reduceAdd])
   (repeat' (first|(with_reducible refine iP 3 ?_)|(with_reducible first|(apply hK;clear hK K)|refine stZ ?_|refine aM rfl ?_|((first|apply ae|apply af);clear ae X af Y))|(with_reducible refine aP ?_;first|refine aN rfl ?_|refine aO rfl ?_)|(with_reducible refine ca ?_;refine cw hN ?_)|((with_reducible first|((first|refine aS ?_|refine cx ?_|refine aT ?_|refine cy ?_);intro K hK)|(refine ay ?_;intro X Y ae af)|refine az ?_);simp (disch:=first|decide|omega|(simp only [List.length_cons,List.length_nil];omega)) only [go_sem,↓ak hN,am hN,reduceIte,reduceCtorEq,Nat.reduceAdd,Nat.reduceLT,Nat.reduceLeDiff,Nat.reduceEqDiff,Nat.reduceSub])|(with_reducible refine And.intro (fun h=>?_) (fun h=>?_) <;> try (exfalso;omega))|(with_reducible refine aR aF hN ?_)|(with_reducible refine bF aF hN ?_)|(refine cS (hpr) ?_ rfl rfl ?_)|(refine br hmk ?_ rfl (fun _=>rfl) ?_)|(with_reducible first|exact a9|refine aK ?_ ?_|exact cF _|refine bB ?_|exact bD _|exact bQ _ _|refine bP ?_|exact bz _)|exact bC hN rfl rfl|(refine bO hN rfl ?_;first|exact ba _|exact bc _)|exact bA rfl rfl rfl|(simp only [aV,List.map_nil])|(with_reducible refine bn ?_)|(with_reducible refine And.intro ?_ ?_)|(refine ah ?_;omega)|(exact aQ hN (by decide))))
   (refine sj (bt (L':=[.dead,.dead,.dead]) (l:=[(6,soA (ep g)),(7,.c (.B mm))]) hX hN [] ?_ ?_) ?_;(repeat' (first|(with_reducible first|exact clZ|refine bu ?_ ?_|refine bv ?_ ?_|rfl|refine suZ ?_)|refine bw rfl ?_ ?_|exact aX hN _ rfl rfl rfl|exact aY hN _ rfl rfl rfl|exact aB hN _ rfl rfl rfl (Or.inr rfl)|(refine aU hN _ rfl rfl (by first|exact Or.inr rfl|exact Or.inl rfl) ?_;first|exact ba _|exact bc _)|refine aC hN rfl ?_|refine aD hN rfl rfl ?_|exact aA hN _ rfl rfl|exact aE hN rfl rfl rfl rfl|(with_reducible first|refine stZ ?_|refine aW ?_)));(try (any_goals (first|(with_reducible rfl)|(refine ah ?_;omega)))))
   (repeat' (first|(with_reducible first|(apply hK;clear hK K)|refine stZ ?_|refine aM rfl ?_|((first|apply ae|apply af);clear ae X af Y))|(with_reducible refine aP ?_;first|refine aN rfl ?_|refine aO rfl ?_)|(with_reducible refine ca ?_;refine cw hN ?_)|((with_reducible first|((first|refine aS ?_|refine cx ?_|refine aT ?_|refine cy ?_);intro K hK)|(refine ay ?_;intro X Y ae af)|refine az ?_);simp (disch:=first|decide|omega|(simp only [List.length_cons,List.length_nil];omega)) only [go_sem,↓ak hN,am hN,reduceIte,reduceCtorEq,Nat.reduceAdd,Nat.reduceLT,Nat.reduceLeDiff,Nat.reduceEqDiff,Nat.reduceSub])|(with_reducible refine And.intro (fun h=>?_) (fun h=>?_) <;> try (exfalso;omega))|(with_reducible refine aR aF hN ?_)|(with_reducible refine bF aF hN ?_)|(refine cS (hw) ?_ rfl rfl ?_)|(refine br hwo ?_ rfl (fun _=>rfl) ?_)|(refine br (gC ?_ ?_) ?_ rfl (fun _=>rfl) ?_)|(with_reducible first|exact a9|refine aK ?_ ?_|exact cF _|refine bB ?_|exact bD _|exact bQ _ _|refine bP ?_|exact bz _)|exact bC hN rfl rfl|(refine bO hN rfl ?_;first|exact ba _|exact bc _)|exact bA rfl rfl rfl|(simp only [aV,List.map_nil])|(with_reducible refine bn ?_)|(with_reducible refine And.intro ?_ ?_)|(refine ah ?_;omega)|(exact aQ hN (by decide))))
   all_goals (try (refine ah ?_;omega))
   (refine e9 hN [4,5] (by decide) (.inr rfl) (by first|exact cM rfl rfl|exact cA hN rfl rfl rfl rfl|exact cj hN rfl rfl rfl rfl rfl|(simp (disch:=first|decide|omega|(simp only [List.length_cons,List.length_nil];omega)) only [bI,bJ,bL,bN,go_sem,beq_self_eq_true,↓au,↓ak hN,am hN,reduceIte,reduceCtorEq,Nat.reduceAdd,Nat.reduceLT,Nat.reduceLeDiff,Nat.reduceEqDiff,Nat.reduceSub];rfl)|rfl) ?_ fun νs hνs=>?_;(repeat' (first|exact Gone.nil|(refine Gone.cons rfl rfl ?_ ?_)|(with_reducible refine dL ?_)|(with_reducible refine dK ?_)|(with_reducible refine SVs.cons ?_ ?_)|(with_reducible exact SVs.nil)|(simp only [List.drop,List.take])|(simp (disch:=first|decide|omega) only [↓au,reduceIte,reduceCtorEq,Nat.reduceEqDiff])|(with_reducible exact ib _)|(with_reducible exact dI _)|(exact dJ rfl rfl rfl)|(exact eg 0 (by simp) rfl rfl)|(exact eg 1 (by simp) rfl rfl)|(refine e8 hN rfl (dM hN (by decide)) ?_)|(with_reducible refine eZ ?_)|(with_reducible rfl)|(with_reducible refine ic ?_)|(with_reducible refine ig ?_)|(with_reducible refine ii ?_)|(with_reducible refine gP ?_)|(with_reducible refine gc ?_)|(refine ah ?_;omega))))
   · exact hw0.symm
   · exact hw1.symm
end Go.Proofs.Ytiadchinhofieaa
