/-
  The reference's EdgeNeeded, for a vertex's edge.
-/
import Derived.Test.YtiadchinhofieaaZeX4
import Derived.Test.YtiadchinhofieaaZeD5
import Derived.Test.YtiadchinhofieaaZeG3
import Derived.Test.YtiadchinhofieaaZeRA
import Derived.Test.YtiadchinhofieaaZeE16
namespace Go.Proofs.Ytiadchinhofieaa
set_option linter.unusedVariables false
set_option linter.unusedSimpArgs false
open Go.RowKit
attribute [local irreducible] aq ce Aw Le
noncomputable def woR (g : Pa) (v u : Int) (w : Nat) : List Int:=d7 (fun x=>¬ ((w : Int) = v ∧ x = u)) (gr g.ar.nxt w) (gr g.ar.nxt w).length
noncomputable def woP (g : Pa) (v u : Int) : Pa:=⟨⟨g.ar.own,cJ g.prio.length (woR g v u)⟩,g.prio⟩
theorem pB {p : Int → Prop} {xs : List Int} (h : ∀ x,p x) : d7 p xs xs.length = xs:=by
 have key : ∀ k,k ≤ xs.length → d7 p xs k = xs.take k:=by
  intro k
  induction k with
  | zero => intro _; rfl
  | succ k ih =>
    intro hk
    rw [dC (h _),ih (by omega),List.take_succ_eq_append_getElem (by omega),cT (by omega)]
 rw [key _ (Nat.le_refl _),List.take_length]
theorem fD {p q : Int → Prop} {xs : List Int} (h : ∀ x,p x ↔ q x) : ∀ k,d7 p xs k = d7 q xs k
 | 0 => rfl
 | k + 1 => by
   by_cases e : p (gi xs k)
   · rw [dC e,dC ((h _).1 e),fD h k]
   · rw [eK e,eK (fun e'=>e ((h _).2 e')),fD h k]
theorem qZ {g : Pa} (hg : PaOk g) {v : Nat} (hv : v < g.prio.length) (u : Int) : woP g v u = fB g v u:=by
 have hl:=hg.len
 have hln:=hg.ar.len
 unfold woP fB
 congr 2
 refine (kk (by rw [List.length_set];omega) fun w hw=>?_).symm
 rw [mH (by omega)]
 unfold woR
 by_cases e : w = v
 · rw [if_pos e,e]
   exact fD (fun x=>by simp) _
 · rw [if_neg e]
   exact (pB fun x h=>e (by omega)).symm
set_option maxHeartbeats 2000000 in
theorem jd (g : Pa) (hg : PaOk g) (v u : Int) : aq Try.prog 66 [paA g,.c (.int .i64 v),.c (.int .i64 u)] [] (fun _=>paA (woP g v u)):=by
 have hl:=hg.len
 have hle:=hg.ar.le
 have hln:=hg.ar.len
 have h1:=ln g.ar.own (by omega)
 have h2:=ln g.prio (by omega)
 (refine be aF Try.func66 rfl rfl (by kernel_rfl) fun hp0 ν hX hN=>?_;simp only [bX,Nat.reduceAdd])
 (repeat' (first|(with_reducible first|(apply hK;clear hK K)|refine stZ ?_|refine aM rfl ?_|((first|apply ae|apply af);clear ae X af Y))|(with_reducible refine aP ?_;first|refine aN rfl ?_|refine aO rfl ?_)|(with_reducible refine bg ?_;first|refine aI rfl rfl rfl rfl ?_|refine bf rfl rfl rfl ?_|refine bp rfl rfl rfl rfl ?_)|(with_reducible refine ca ?_;first|refine cg rfl rfl rfl rfl ?_|refine cH rfl rfl rfl ?_|refine di rfl rfl rfl rfl ?_|refine cw hN ?_)|((first|(with_reducible first|((first|refine aS ?_|refine cx ?_|refine aT ?_|refine cy ?_);intro K hK)|(refine ay ?_;intro X Y ae af)|refine az ?_)|(with_reducible refine bg ?_;refine aJ rfl rfl fun X Y ae af=>?_)|(with_reducible refine ca ?_;refine ch rfl rfl fun X Y ae af=>?_));simp (disch:=first|decide|omega|(simp only [List.length_cons,List.length_nil];omega)) only [go_sem,↓ak hN,am hN,reduceIte,reduceCtorEq,Nat.reduceAdd,Nat.reduceLT,Nat.reduceLeDiff,Nat.reduceEqDiff,Nat.reduceSub])|(with_reducible refine And.intro (fun h=>?_) (fun h=>?_) <;> try (exfalso;omega))|(with_reducible refine aR aF hN ?_)|(with_reducible refine bF aF hN ?_)|(refine bo hN (h1) ?_)|(refine bo hN (h2) ?_)|(simp only [aV,List.map_nil])|(with_reducible refine bn ?_)|(with_reducible refine And.intro ?_ ?_)|(refine ah ?_;omega)|(exact aQ hN (by decide))))
 (refine b8 (fun (k : Nat)=>(tmL [(8,.c (.int .i64 k)),(7,.ad (ν 4) 0),(6,.ad (ν 1) 0),(3,.ad (ν 0) 0),(1,.c (.int .i64 v)),(2,.c (.int .i64 u))],hpL hp0 ν [.box [.c (.I g.ar.own),.c (.R g.ar.nxt),.c (.I g.prio)],.box [.c .nul,.c .nul,.c .nul],.arr 2 .yes (.I g.ar.own),.arr 2 .yes (.I g.prio),.box [.sl (ν 2),.sl (ν 5),.sl (ν 3)],.arr 22 .may (.R (cJ k (woR g v u)))])) (fun (k : Nat)=>k ≤ g.prio.length) (fun (k : Nat)=>g.prio.length - k) ⟨0,?_,bt hX hN [] ?_ ?_⟩ ?_;(repeat' (first|(with_reducible first|exact clZ|refine bu ?_ ?_|refine bv ?_ ?_|rfl|refine suZ ?_)|refine bw rfl ?_ ?_|exact aX hN _ rfl rfl rfl|exact aY hN _ rfl rfl rfl|exact aB hN _ rfl rfl rfl (Or.inr rfl)|(refine aU hN _ rfl rfl (by first|exact Or.inr rfl|exact Or.inl rfl) ?_;first|exact ba _|exact bc _)|refine aC hN rfl ?_|refine aD hN rfl rfl ?_|exact aA hN _ rfl rfl|exact aE hN rfl rfl rfl rfl|(with_reducible first|refine stZ ?_|refine aW ?_)));(try (any_goals (first|(with_reducible rfl)|(refine ah ?_;omega)))))
 intro k hk
 have htl:=eD k (woR g v u)
 by_cases hkn : k < g.prio.length
 · have hrow:=(hg.ar.vert k (by omega)).2.2
   (repeat' (first|(with_reducible first|(apply hK;clear hK K)|refine stZ ?_|refine aM rfl ?_|((first|apply ae|apply af);clear ae X af Y))|(with_reducible refine aP ?_;first|refine aN rfl ?_|refine aO rfl ?_)|(with_reducible refine bg ?_;first|refine aI rfl rfl rfl rfl ?_|refine bf rfl rfl rfl ?_|refine bp rfl rfl rfl rfl ?_)|(with_reducible refine ca ?_;first|refine cg rfl rfl rfl rfl ?_|refine cH rfl rfl rfl ?_|refine di rfl rfl rfl rfl ?_|refine cw hN ?_)|((first|(with_reducible first|((first|refine aS ?_|refine cx ?_|refine aT ?_|refine cy ?_);intro K hK)|(refine ay ?_;intro X Y ae af)|refine az ?_)|(with_reducible refine bg ?_;refine aJ rfl rfl fun X Y ae af=>?_)|(with_reducible refine ca ?_;refine ch rfl rfl fun X Y ae af=>?_));simp (disch:=first|decide|omega|(simp only [List.length_cons,List.length_nil];omega)) only [go_sem,↓ak hN,am hN,reduceIte,reduceCtorEq,Nat.reduceAdd,Nat.reduceLT,Nat.reduceLeDiff,Nat.reduceEqDiff,Nat.reduceSub])|(with_reducible refine And.intro (fun h=>?_) (fun h=>?_) <;> try (exfalso;omega))|(with_reducible refine aR aF hN ?_)|(with_reducible refine bF aF hN ?_)|(with_reducible refine And.intro ?_ ?_)|(refine ah ?_;omega)|(exact aQ hN (by decide))))
   have hE : cJ (k + 1) (woR g v u) = cJ k (woR g v u) ++ [d7 (fun x=>¬ ((k : Int) = v ∧ x = u)) (gr g.ar.nxt k) (gr g.ar.nxt k).length]:=by simp [cJ,List.range_succ,woR]
   generalize cJ k (woR g v u) = N at *
   (refine b8 (fun (j : Nat)=>(tmL [(10,.c (.int .i64 j)),(9,.sl (ν 6)),(8,.c (.int .i64 k)),(7,.ad (ν 4) 0),(6,.ad (ν 1) 0),(3,.ad (ν 0) 0),(1,.c (.int .i64 v)),(2,.c (.int .i64 u))],hpL hp0 ν [.box [.c (.I g.ar.own),.c (.R g.ar.nxt),.c (.I g.prio)],.box [.c .nul,.c .nul,.c .nul],.arr 2 .yes (.I g.ar.own),.arr 2 .yes (.I g.prio),.box [.sl (ν 2),.sl (ν 5),.sl (ν 3)],.arr 22 .may (.R N),.arr 2 .yes (.I (d7 (fun x=>¬ ((k : Int) = v ∧ x = u)) (gr g.ar.nxt k) j))])) (fun (j : Nat)=>j ≤ (gr g.ar.nxt k).length) (fun (j : Nat)=>(gr g.ar.nxt k).length - j) ⟨0,?_,bt hX hN [] ?_ ?_⟩ ?_;(repeat' (first|(with_reducible first|exact clZ|refine bu ?_ ?_|refine bv ?_ ?_|rfl|refine suZ ?_)|refine bw rfl ?_ ?_|exact aX hN _ rfl rfl rfl|exact aY hN _ rfl rfl rfl|exact aB hN _ rfl rfl rfl (Or.inr rfl)|(refine aU hN _ rfl rfl (by first|exact Or.inr rfl|exact Or.inl rfl) ?_;first|exact ba _|exact bc _)|refine aC hN rfl ?_|refine aD hN rfl rfl ?_|exact aA hN _ rfl rfl|exact aE hN rfl rfl rfl rfl|(with_reducible first|refine stZ ?_|refine aW ?_)));(try (any_goals (first|(with_reducible rfl)|(refine ah ?_;omega)))))
   · rfl
   intro j hj
   have hfl:=kA (fun x=>¬ ((k : Int) = v ∧ x = u)) (gr g.ar.nxt k) j
   by_cases hjl : j < (gr g.ar.nxt k).length
   · by_cases hm : (k : Int) = v ∧ gi (gr g.ar.nxt k) j = u
     · (repeat' (first|(with_reducible first|(apply hK;clear hK K)|refine stZ ?_|refine aM rfl ?_|((first|apply ae|apply af);clear ae X af Y))|(with_reducible refine aP ?_;first|refine aN rfl ?_|refine aO rfl ?_)|(with_reducible refine bg ?_;first|refine aI rfl rfl rfl rfl ?_|refine bf rfl rfl rfl ?_|refine bp rfl rfl rfl rfl ?_)|(with_reducible refine ca ?_;first|refine cg rfl rfl rfl rfl ?_|refine cH rfl rfl rfl ?_|refine di rfl rfl rfl rfl ?_|refine cw hN ?_)|((first|(with_reducible first|((first|refine aS ?_|refine cx ?_|refine aT ?_|refine cy ?_);intro K hK)|(refine ay ?_;intro X Y ae af)|refine az ?_)|(with_reducible refine bg ?_;refine aJ rfl rfl fun X Y ae af=>?_)|(with_reducible refine ca ?_;refine ch rfl rfl fun X Y ae af=>?_));simp (disch:=first|decide|omega|(simp only [List.length_cons,List.length_nil];omega)) only [go_sem,↓ak hN,am hN,reduceIte,reduceCtorEq,Nat.reduceAdd,Nat.reduceLT,Nat.reduceLeDiff,Nat.reduceEqDiff,Nat.reduceSub])|(with_reducible refine And.intro (fun h=>?_) (fun h=>?_) <;> try (exfalso;omega))|(with_reducible refine aR aF hN ?_)|(with_reducible refine bF aF hN ?_)|(with_reducible refine And.intro ?_ ?_)|(refine ah ?_;omega)|(exact aQ hN (by decide))))
       all_goals first|(exact absurd hm.1 (qX (by assumption)))|(exact absurd hm.1 (by assumption))|(exact absurd hm.2 (by assumption))|skip
       (refine ⟨j + 1,⟨?_,?_⟩,bt hX hN [] ?_ ?_⟩;(try any_goals dsimp only);(repeat' (first|(with_reducible first|exact clZ|refine bu ?_ ?_|refine bv ?_ ?_|rfl|refine suZ ?_)|refine bw rfl ?_ ?_|exact aX hN _ rfl rfl rfl|exact aY hN _ rfl rfl rfl|exact aB hN _ rfl rfl rfl (Or.inr rfl)|(refine aU hN _ rfl rfl (by first|exact Or.inr rfl|exact Or.inl rfl) ?_;first|exact ba _|exact bc _)|refine aC hN rfl ?_|refine aD hN rfl rfl ?_|exact aA hN _ rfl rfl|exact aE hN rfl rfl rfl rfl|(with_reducible first|refine stZ ?_|refine aW ?_)));(try (any_goals (first|(with_reducible rfl)|(refine ah ?_;omega)))))
       exact eK fun h=>h hm
     · (repeat' (first|(with_reducible first|(apply hK;clear hK K)|refine stZ ?_|refine aM rfl ?_|((first|apply ae|apply af);clear ae X af Y))|(with_reducible refine aP ?_;first|refine aN rfl ?_|refine aO rfl ?_)|(with_reducible refine bg ?_;first|refine aI rfl rfl rfl rfl ?_|refine bf rfl rfl rfl ?_|refine bp rfl rfl rfl rfl ?_)|(with_reducible refine ca ?_;first|refine cg rfl rfl rfl rfl ?_|refine cH rfl rfl rfl ?_|refine di rfl rfl rfl rfl ?_|refine cw hN ?_)|((first|(with_reducible first|((first|refine aS ?_|refine cx ?_|refine aT ?_|refine cy ?_);intro K hK)|(refine ay ?_;intro X Y ae af)|refine az ?_)|(with_reducible refine bg ?_;refine aJ rfl rfl fun X Y ae af=>?_)|(with_reducible refine ca ?_;refine ch rfl rfl fun X Y ae af=>?_));simp (disch:=first|decide|omega|(simp only [List.length_cons,List.length_nil];omega)) only [go_sem,↓ak hN,am hN,reduceIte,reduceCtorEq,Nat.reduceAdd,Nat.reduceLT,Nat.reduceLeDiff,Nat.reduceEqDiff,Nat.reduceSub])|(with_reducible refine And.intro (fun h=>?_) (fun h=>?_) <;> try (exfalso;omega))|(with_reducible refine aR aF hN ?_)|(with_reducible refine bF aF hN ?_)|(with_reducible refine And.intro ?_ ?_)|(refine ah ?_;omega)|(exact aQ hN (by decide))))
       all_goals first|(exact absurd ⟨lk (by assumption),lk (by assumption)⟩ hm)|skip
       all_goals ((refine ⟨j + 1,⟨?_,?_⟩,bt hX hN [(6,8)] ?_ ?_⟩;(try any_goals dsimp only);(repeat' (first|(with_reducible first|exact clZ|refine bu ?_ ?_|refine bv ?_ ?_|rfl|refine suZ ?_)|refine bw rfl ?_ ?_|exact aX hN _ rfl rfl rfl|exact aY hN _ rfl rfl rfl|exact aB hN _ rfl rfl rfl (Or.inr rfl)|(refine aU hN _ rfl rfl (by first|exact Or.inr rfl|exact Or.inl rfl) ?_;first|exact ba _|exact bc _)|refine aC hN rfl ?_|refine aD hN rfl rfl ?_|exact aA hN _ rfl rfl|exact aE hN rfl rfl rfl rfl|(with_reducible first|refine stZ ?_|refine aW ?_)));(try (any_goals (first|(with_reducible rfl)|(refine ah ?_;omega))))))
       all_goals exact dC hm
   obtain rfl : j = (gr g.ar.nxt k).length:=by omega
   (repeat' (first|(with_reducible first|(apply hK;clear hK K)|refine stZ ?_|refine aM rfl ?_|((first|apply ae|apply af);clear ae X af Y))|(with_reducible refine aP ?_;first|refine aN rfl ?_|refine aO rfl ?_)|(with_reducible refine bg ?_;first|refine aI rfl rfl rfl rfl ?_|refine bf rfl rfl rfl ?_|refine bp rfl rfl rfl rfl ?_)|(with_reducible refine ca ?_;first|refine cg rfl rfl rfl rfl ?_|refine cH rfl rfl rfl ?_|refine di rfl rfl rfl rfl ?_|refine cw hN ?_)|((first|(with_reducible first|((first|refine aS ?_|refine cx ?_|refine aT ?_|refine cy ?_);intro K hK)|(refine ay ?_;intro X Y ae af)|refine az ?_)|(with_reducible refine bg ?_;refine aJ rfl rfl fun X Y ae af=>?_)|(with_reducible refine ca ?_;refine ch rfl rfl fun X Y ae af=>?_));simp (disch:=first|decide|omega|(simp only [List.length_cons,List.length_nil];omega)) only [go_sem,↓ak hN,am hN,reduceIte,reduceCtorEq,Nat.reduceAdd,Nat.reduceLT,Nat.reduceLeDiff,Nat.reduceEqDiff,Nat.reduceSub])|(with_reducible refine And.intro (fun h=>?_) (fun h=>?_) <;> try (exfalso;omega))|(with_reducible refine aR aF hN ?_)|(with_reducible refine bF aF hN ?_)|(with_reducible refine And.intro ?_ ?_)|(refine ah ?_;omega)|(exact aQ hN (by decide))))
   (refine ⟨k + 1,⟨?_,?_⟩,bt hX hN [(5,8)] ?_ ?_⟩;(try any_goals dsimp only);(repeat' (first|(with_reducible first|exact clZ|refine bu ?_ ?_|refine bv ?_ ?_|rfl|refine suZ ?_)|refine bw rfl ?_ ?_|exact aX hN _ rfl rfl rfl|exact aY hN _ rfl rfl rfl|exact aB hN _ rfl rfl rfl (Or.inr rfl)|(refine aU hN _ rfl rfl (by first|exact Or.inr rfl|exact Or.inl rfl) ?_;first|exact ba _|exact bc _)|refine aC hN rfl ?_|refine aD hN rfl rfl ?_|exact aA hN _ rfl rfl|exact aE hN rfl rfl rfl rfl|(with_reducible first|refine stZ ?_|refine aW ?_)));(try (any_goals (first|(with_reducible rfl)|(refine ah ?_;omega)))))
   all_goals exact hE
 obtain rfl : k = g.prio.length:=by omega
 (repeat' (first|(with_reducible first|(apply hK;clear hK K)|refine stZ ?_|refine aM rfl ?_|((first|apply ae|apply af);clear ae X af Y))|(with_reducible refine aP ?_;first|refine aN rfl ?_|refine aO rfl ?_)|(with_reducible refine bg ?_;first|refine aI rfl rfl rfl rfl ?_|refine bf rfl rfl rfl ?_|refine bp rfl rfl rfl rfl ?_)|(with_reducible refine ca ?_;first|refine cg rfl rfl rfl rfl ?_|refine cH rfl rfl rfl ?_|refine di rfl rfl rfl rfl ?_|refine cw hN ?_)|((first|(with_reducible first|((first|refine aS ?_|refine cx ?_|refine aT ?_|refine cy ?_);intro K hK)|(refine ay ?_;intro X Y ae af)|refine az ?_)|(with_reducible refine bg ?_;refine aJ rfl rfl fun X Y ae af=>?_)|(with_reducible refine ca ?_;refine ch rfl rfl fun X Y ae af=>?_));simp (disch:=first|decide|omega|(simp only [List.length_cons,List.length_nil];omega)) only [go_sem,↓ak hN,am hN,reduceIte,reduceCtorEq,Nat.reduceAdd,Nat.reduceLT,Nat.reduceLeDiff,Nat.reduceEqDiff,Nat.reduceSub])|(with_reducible refine And.intro (fun h=>?_) (fun h=>?_) <;> try (exfalso;omega))|(with_reducible refine aR aF hN ?_)|(with_reducible refine bF aF hN ?_)|(with_reducible refine And.intro ?_ ?_)|(refine ah ?_;omega)|(exact aQ hN (by decide))))
 (refine e9 hN [] (by decide) (.inr rfl) (by first|exact cM rfl rfl|exact cA hN rfl rfl rfl rfl|exact cj hN rfl rfl rfl rfl rfl|(simp (disch:=first|decide|omega|(simp only [List.length_cons,List.length_nil];omega)) only [bI,bJ,bL,bN,go_sem,beq_self_eq_true,↓au,↓ak hN,am hN,reduceIte,reduceCtorEq,Nat.reduceAdd,Nat.reduceLT,Nat.reduceLeDiff,Nat.reduceEqDiff,Nat.reduceSub];rfl)|rfl) ?_ fun νs hνs=>?_;(repeat' (first|exact Gone.nil|(refine Gone.cons rfl rfl ?_ ?_)|(with_reducible refine dL ?_)|(with_reducible refine dK ?_)|(with_reducible refine SVs.cons ?_ ?_)|(with_reducible exact SVs.nil)|(simp only [List.drop,List.take])|(simp (disch:=first|decide|omega) only [↓au,reduceIte,reduceCtorEq,Nat.reduceEqDiff])|(with_reducible exact ib _)|(with_reducible exact dI _)|(exact dJ rfl rfl rfl)|(exact eg 0 (by simp) rfl rfl)|(refine e8 hN rfl (dM hN (by decide)) ?_)|(with_reducible refine eZ ?_)|(with_reducible rfl)|(with_reducible refine ic ?_)|(with_reducible refine ig ?_)|(with_reducible refine ii ?_)|(with_reducible refine gP ?_)|(with_reducible refine gc ?_)|(refine ah ?_;omega))))
 all_goals rfl
end Go.Proofs.Ytiadchinhofieaa
namespace Go.Proofs.Ytiadchinhofieaa
set_option linter.unusedVariables false
set_option linter.unusedSimpArgs false
open Go.RowKit
attribute [local irreducible] aq ce Aw Le
theorem gV (a : Ar) (ha : ArOk a) (v : Nat) (hv : v < a.own.length) (u : Int) : aq Try.prog 31 [arA a,.c (.int .i64 v),.c (.int .i64 u)] [] (fun _=>.c (.bool (tf (u ∈ gr a.nxt v)))):=by
 have hln:=ha.len
 have h1:=my a
 rw [aH ha] at h1
 have h2:=nD a v (by unfold i9;omega) (by have:=ha.le;omega)
 have h3:=mJ (gr a.nxt v) u
 (refine be aF Try.func31 rfl rfl (by kernel_rfl) fun hp0 ν hX hN=>?_;simp only [bX,Nat.reduceAdd])
 (repeat' (first|(with_reducible first|(apply hK;clear hK K)|refine stZ ?_|refine aM rfl ?_|((first|apply ae|apply af);clear ae X af Y))|(with_reducible refine aP ?_;first|refine aN rfl ?_|refine aO rfl ?_)|(with_reducible refine bg ?_;first|refine aI rfl rfl rfl rfl ?_|refine bf rfl rfl rfl ?_|refine bp rfl rfl rfl rfl ?_)|((first|(with_reducible first|((first|refine aS ?_|refine aT ?_);intro K hK)|(refine ay ?_;intro X Y ae af)|refine az ?_)|(with_reducible refine bg ?_;refine aJ rfl rfl fun X Y ae af=>?_));simp (disch:=first|decide|omega|(simp only [List.length_cons,List.length_nil];omega)) only [go_sem,↓ak hN,am hN,reduceIte,reduceCtorEq,Nat.reduceAdd,Nat.reduceLT,Nat.reduceLeDiff,Nat.reduceEqDiff,Nat.reduceSub])|(with_reducible refine And.intro (fun h=>?_) (fun h=>?_) <;> try (exfalso;omega))|(with_reducible refine aR aF hN ?_)|(first|refine bo hN (h1) ?_|refine bo hN (h2) ?_|refine bo hN (h3) ?_)|(simp only [aV,List.map_nil])|(with_reducible refine bn ?_)|(with_reducible refine And.intro ?_ ?_)|(refine ah ?_;omega)|(exact aQ hN (by decide))))
 (refine cf (.inr rfl) (by first|rfl|(simp (disch:=first|decide|omega|(simp only [List.length_cons,List.length_nil];omega)) only [bI,bJ,bL,bN,go_sem,beq_self_eq_true,↓au,↓ak hN,am hN,reduceIte,reduceCtorEq,Nat.reduceAdd,Nat.reduceLT,Nat.reduceLeDiff,Nat.reduceEqDiff,Nat.reduceSub];rfl)) ?_)
 all_goals rfl
theorem ma (g : Pa) (hg : PaOk g) (v : Nat) (hv : v < g.prio.length) (u : Int) (hu : u ∈ gr g.ar.nxt v) (h2 : 2 ≤ (gr g.ar.nxt v).length) : aq Try.prog 19 [paA g,.c (.int .i64 v),.c (.int .i64 u)] [] (fun _=>.tup [paA (fB g v u),.c (.bool true)]):=by
 have hl:=hg.len
 have hln:=hg.ar.len
 have h1:=fx g
 rw [aH hg] at h1
 have h3:=gV g.ar hg.ar v (by omega) u
 rw [aH hu] at h3
 have h4:=jd g hg v u
 rw [qZ hg hv] at h4
 (refine be aF Try.func19 rfl rfl (by kernel_rfl) fun hp0 ν hX hN=>?_;simp only [bX,Nat.reduceAdd])
 (repeat' (first|(with_reducible first|(apply hK;clear hK K)|refine stZ ?_|refine aM rfl ?_|((first|apply ae|apply af);clear ae X af Y))|(with_reducible refine aP ?_;first|refine aN rfl ?_|refine aO rfl ?_)|(with_reducible refine bg ?_;first|refine aI rfl rfl rfl rfl ?_|refine bf rfl rfl rfl ?_|refine bp rfl rfl rfl rfl ?_)|((first|(with_reducible first|((first|refine aS ?_|refine aT ?_);intro K hK)|(refine ay ?_;intro X Y ae af)|refine az ?_)|(with_reducible refine bg ?_;refine aJ rfl rfl fun X Y ae af=>?_));simp (disch:=first|decide|omega|(simp only [List.length_cons,List.length_nil];omega)) only [go_sem,↓ak hN,am hN,reduceIte,reduceCtorEq,Nat.reduceAdd,Nat.reduceLT,Nat.reduceLeDiff,Nat.reduceEqDiff,Nat.reduceSub])|(with_reducible refine And.intro (fun h=>?_) (fun h=>?_) <;> try (exfalso;omega))|(with_reducible refine aR aF hN ?_)|(first|refine bo hN (h1) ?_|refine bo hN (h3) ?_)|(refine cS (h4) ?_ rfl rfl ?_;focus ((repeat' (first|(with_reducible first|exact a9|refine aK ?_ ?_|exact cF _|refine bB ?_|exact bD _|exact bQ _ _|refine bP ?_|exact bz _)|exact bC hN rfl rfl|(refine bO hN rfl ?_;first|exact ba _|exact bc _)|exact bA rfl rfl rfl));done))|(with_reducible first|exact a9|refine aK ?_ ?_|exact cF _|refine bB ?_|exact bD _|exact bQ _ _|refine bP ?_|exact bz _)|exact bC hN rfl rfl|(refine bO hN rfl ?_;first|exact ba _|exact bc _)|exact bA rfl rfl rfl|(simp only [aV,List.map_nil])|(with_reducible refine bn ?_)|(with_reducible refine And.intro ?_ ?_)|(refine ah ?_;omega)|(exact aQ hN (by decide))))
 (refine e9 hN [] (by decide) (.inr rfl) (by first|exact cM rfl rfl|exact cA hN rfl rfl rfl rfl|exact cj hN rfl rfl rfl rfl rfl|(simp (disch:=first|decide|omega|(simp only [List.length_cons,List.length_nil];omega)) only [bI,bJ,bL,bN,go_sem,beq_self_eq_true,↓au,↓ak hN,am hN,reduceIte,reduceCtorEq,Nat.reduceAdd,Nat.reduceLT,Nat.reduceLeDiff,Nat.reduceEqDiff,Nat.reduceSub];rfl)|rfl) ?_ fun νs hνs=>?_;(repeat' (first|exact Gone.nil|(refine Gone.cons rfl rfl ?_ ?_)|(with_reducible refine dL ?_)|(with_reducible refine dK ?_)|(with_reducible refine SVs.cons ?_ ?_)|(with_reducible exact SVs.nil)|(simp only [List.drop,List.take])|(simp (disch:=first|decide|omega) only [↓au,reduceIte,reduceCtorEq,Nat.reduceEqDiff])|(with_reducible exact ib _)|(with_reducible exact dI _)|(exact dJ rfl rfl rfl)|(exact eg 0 (by simp) rfl rfl)|(refine e8 hN rfl (dM hN (by decide)) ?_)|(with_reducible refine eZ ?_)|(with_reducible rfl)|(with_reducible refine ic ?_)|(with_reducible refine ig ?_)|(with_reducible refine ii ?_)|(with_reducible refine gP ?_)|(with_reducible refine gc ?_)|(refine ah ?_;omega))))
 all_goals rfl
end Go.Proofs.Ytiadchinhofieaa
namespace Go.Proofs.Ytiadchinhofieaa
set_option linter.unusedVariables false
set_option linter.unusedSimpArgs false
open Go.RowKit
attribute [local irreducible] aq ce Aw Le
theorem mb (g : Pa) (hg : PaOk g) (v : Nat) (hv : v < g.prio.length) (u : Int) (hu : u ∈ gr g.ar.nxt v) (h2 : (gr g.ar.nxt v).length = 1) : aq Try.prog 19 [paA g,.c (.int .i64 v),.c (.int .i64 u)] [] (fun _=>.tup [.agg [.c .nul,.c .nul,.c .nul],.c (.bool false)]):=by
 have hl:=hg.len
 have hln:=hg.ar.len
 have h1:=fx g
 rw [aH hg] at h1
 have h3:=gV g.ar hg.ar v (by omega) u
 rw [aH hu] at h3
 (refine be aF Try.func19 rfl rfl (by kernel_rfl) fun hp0 ν hX hN=>?_;simp only [bX,Nat.reduceAdd])
 (repeat' (first|(with_reducible first|(apply hK;clear hK K)|refine stZ ?_|refine aM rfl ?_|((first|apply ae|apply af);clear ae X af Y))|(with_reducible refine aP ?_;first|refine aN rfl ?_|refine aO rfl ?_)|(with_reducible refine bg ?_;first|refine aI rfl rfl rfl rfl ?_|refine bf rfl rfl rfl ?_|refine bp rfl rfl rfl rfl ?_)|((first|(with_reducible first|((first|refine aS ?_|refine aT ?_);intro K hK)|(refine ay ?_;intro X Y ae af)|refine az ?_)|(with_reducible refine bg ?_;refine aJ rfl rfl fun X Y ae af=>?_));simp (disch:=first|decide|omega|(simp only [List.length_cons,List.length_nil];omega)) only [go_sem,↓ak hN,am hN,reduceIte,reduceCtorEq,Nat.reduceAdd,Nat.reduceLT,Nat.reduceLeDiff,Nat.reduceEqDiff,Nat.reduceSub])|(with_reducible refine And.intro (fun h=>?_) (fun h=>?_) <;> try (exfalso;omega))|(with_reducible refine aR aF hN ?_)|(first|refine bo hN (h1) ?_|refine bo hN (h3) ?_)|(simp only [aV,List.map_nil])|(with_reducible refine bn ?_)|(with_reducible refine And.intro ?_ ?_)|(refine ah ?_;omega)|(exact aQ hN (by decide))))
 all_goals first | (have hq : (((gr g.ar.nxt v).length : Int) == 1) = false := by assumption
                    exfalso;rw [h2] at hq;exact absurd hq (by decide))|skip
 (refine e9 hN [] (by decide) (.inr rfl) (by first|exact cM rfl rfl|exact cA hN rfl rfl rfl rfl|exact cj hN rfl rfl rfl rfl rfl|(simp (disch:=first|decide|omega|(simp only [List.length_cons,List.length_nil];omega)) only [bI,bJ,bL,bN,go_sem,beq_self_eq_true,↓au,↓ak hN,am hN,reduceIte,reduceCtorEq,Nat.reduceAdd,Nat.reduceLT,Nat.reduceLeDiff,Nat.reduceEqDiff,Nat.reduceSub];rfl)|rfl) ?_ fun νs hνs=>?_;(repeat' (first|exact Gone.nil|(refine Gone.cons rfl rfl ?_ ?_)|(with_reducible refine dL ?_)|(with_reducible refine dK ?_)|(with_reducible refine SVs.cons ?_ ?_)|(with_reducible exact SVs.nil)|(simp only [List.drop,List.take])|(simp (disch:=first|decide|omega) only [↓au,reduceIte,reduceCtorEq,Nat.reduceEqDiff])|(with_reducible exact ib _)|(with_reducible exact dI _)|(exact dJ rfl rfl rfl)|(exact eg 0 (by simp) rfl rfl)|(refine e8 hN rfl (dM hN (by decide)) ?_)|(with_reducible refine eZ ?_)|(with_reducible rfl)|(with_reducible refine ic ?_)|(with_reducible refine ig ?_)|(with_reducible refine ii ?_)|(with_reducible refine gP ?_)|(with_reducible refine gc ?_)|(refine ah ?_;omega))))
 all_goals rfl
theorem je (g : Pa) (hg : PaOk g) (v : Nat) (hv : v < g.prio.length) (u : Int) (hu : u ∈ gr g.ar.nxt v) : aq Try.prog 15 [paA g,.c (.int .i64 v),.c (.int .i64 u)] [] (fun _=>.c (.bool (tf ((gr g.ar.nxt v).length = 1 ∨ du (fB g v u) ≠ du g)))):=by
 have hl:=hg.len
 have hln:=hg.ar.len
 have hr:=(hg.ar.vert v (by omega)).2.2.1
 have h1:=fx g
 rw [aH hg] at h1
 have h3:=gV g.ar hg.ar v (by omega) u
 rw [aH hu] at h3
 by_cases h2 : (gr g.ar.nxt v).length = 1
 · have h4:=mb g hg v hv u hu h2
   rw [aH (.inl h2)]
   (refine be aF Try.func15 rfl rfl (by kernel_rfl) fun hp0 ν hX hN=>?_;simp only [bX,Nat.reduceAdd])
   (repeat' (first|(with_reducible first|(apply hK;clear hK K)|refine stZ ?_|refine aM rfl ?_|((first|apply ae|apply af);clear ae X af Y))|(with_reducible refine aP ?_;first|refine aN rfl ?_|refine aO rfl ?_)|(with_reducible refine bg ?_;first|refine aI rfl rfl rfl rfl ?_|refine bf rfl rfl rfl ?_|refine bp rfl rfl rfl rfl ?_)|((first|(with_reducible first|((first|refine aS ?_|refine aT ?_);intro K hK)|(refine ay ?_;intro X Y ae af)|refine az ?_)|(with_reducible refine bg ?_;refine aJ rfl rfl fun X Y ae af=>?_));simp (disch:=first|decide|omega|(simp only [List.length_cons,List.length_nil];omega)) only [go_sem,↓ak hN,am hN,reduceIte,reduceCtorEq,Nat.reduceAdd,Nat.reduceLT,Nat.reduceLeDiff,Nat.reduceEqDiff,Nat.reduceSub])|(with_reducible refine And.intro (fun h=>?_) (fun h=>?_) <;> try (exfalso;omega))|(with_reducible refine aR aF hN ?_)|(first|refine bo hN (h1) ?_|refine bo hN (h3) ?_)|(refine cS (h4) ?_ rfl rfl ?_;focus ((repeat' (first|(with_reducible first|exact a9|refine aK ?_ ?_|exact cF _|refine bB ?_|exact bD _|exact bQ _ _|refine bP ?_|exact bz _)|exact bC hN rfl rfl|(refine bO hN rfl ?_;first|exact ba _|exact bc _)|exact bA rfl rfl rfl));done))|(with_reducible first|exact a9|refine aK ?_ ?_|exact cF _|refine bB ?_|exact bD _|exact bQ _ _|refine bP ?_|exact bz _)|exact bC hN rfl rfl|(refine bO hN rfl ?_;first|exact ba _|exact bc _)|exact bA rfl rfl rfl|(simp only [aV,List.map_nil])|(with_reducible refine bn ?_)|(with_reducible refine And.intro ?_ ?_)|(refine ah ?_;omega)|(exact aQ hN (by decide))))
   (refine cf (.inr rfl) (by first|rfl|(simp (disch:=first|decide|omega|(simp only [List.length_cons,List.length_nil];omega)) only [bI,bJ,bL,bN,go_sem,beq_self_eq_true,↓au,↓ak hN,am hN,reduceIte,reduceCtorEq,Nat.reduceAdd,Nat.reduceLT,Nat.reduceLeDiff,Nat.reduceEqDiff,Nat.reduceSub];rfl)) ?_)
   all_goals rfl
 · have h4:=ma g hg v hv u hu (by omega)
   have h5:=l9 g (fB g v u)
   have hc:=py hg (u:=u) hv (by omega)
   by_cases hw : du (fB g v u) = du g
   · rw [aH (show pA g (fB g v u) from ⟨hg,hc,hw.symm⟩)] at h5
     rw [ap (fun h=>h.elim h2 fun h=>h hw)]
     (refine be aF Try.func15 rfl rfl (by kernel_rfl) fun hp0 ν hX hN=>?_;simp only [bX,Nat.reduceAdd])
     (repeat' (first|(with_reducible first|(apply hK;clear hK K)|refine stZ ?_|refine aM rfl ?_|((first|apply ae|apply af);clear ae X af Y))|(with_reducible refine aP ?_;first|refine aN rfl ?_|refine aO rfl ?_)|(with_reducible refine bg ?_;first|refine aI rfl rfl rfl rfl ?_|refine bf rfl rfl rfl ?_|refine bp rfl rfl rfl rfl ?_)|((first|(with_reducible first|((first|refine aS ?_|refine aT ?_);intro K hK)|(refine ay ?_;intro X Y ae af)|refine az ?_)|(with_reducible refine bg ?_;refine aJ rfl rfl fun X Y ae af=>?_));simp (disch:=first|decide|omega|(simp only [List.length_cons,List.length_nil];omega)) only [go_sem,↓ak hN,am hN,reduceIte,reduceCtorEq,Nat.reduceAdd,Nat.reduceLT,Nat.reduceLeDiff,Nat.reduceEqDiff,Nat.reduceSub])|(with_reducible refine And.intro (fun h=>?_) (fun h=>?_) <;> try (exfalso;omega))|(with_reducible refine aR aF hN ?_)|(first|refine bo hN (h1) ?_|refine bo hN (h3) ?_)|(refine cS (h4) ?_ rfl rfl ?_;focus ((repeat' (first|(with_reducible first|exact a9|refine aK ?_ ?_|exact cF _|refine bB ?_|exact bD _|exact bQ _ _|refine bP ?_|exact bz _)|exact bC hN rfl rfl|(refine bO hN rfl ?_;first|exact ba _|exact bc _)|exact bA rfl rfl rfl));done))|(refine bo hN (h5) ?_)|(with_reducible first|exact a9|refine aK ?_ ?_|exact cF _|refine bB ?_|exact bD _|exact bQ _ _|refine bP ?_|exact bz _)|exact bC hN rfl rfl|(refine bO hN rfl ?_;first|exact ba _|exact bc _)|exact bA rfl rfl rfl|(simp only [aV,List.map_nil])|(with_reducible refine bn ?_)|(with_reducible refine And.intro ?_ ?_)|(refine ah ?_;omega)|(exact aQ hN (by decide))))
     (refine cf (.inr rfl) (by first|rfl|(simp (disch:=first|decide|omega|(simp only [List.length_cons,List.length_nil];omega)) only [bI,bJ,bL,bN,go_sem,beq_self_eq_true,↓au,↓ak hN,am hN,reduceIte,reduceCtorEq,Nat.reduceAdd,Nat.reduceLT,Nat.reduceLeDiff,Nat.reduceEqDiff,Nat.reduceSub];rfl)) ?_)
     all_goals rfl
   · rw [ap (show ¬ pA g (fB g v u) from fun h=>hw h.2.2.symm)] at h5
     rw [aH (.inr hw)]
     (refine be aF Try.func15 rfl rfl (by kernel_rfl) fun hp0 ν hX hN=>?_;simp only [bX,Nat.reduceAdd])
     (repeat' (first|(with_reducible first|(apply hK;clear hK K)|refine stZ ?_|refine aM rfl ?_|((first|apply ae|apply af);clear ae X af Y))|(with_reducible refine aP ?_;first|refine aN rfl ?_|refine aO rfl ?_)|(with_reducible refine bg ?_;first|refine aI rfl rfl rfl rfl ?_|refine bf rfl rfl rfl ?_|refine bp rfl rfl rfl rfl ?_)|((first|(with_reducible first|((first|refine aS ?_|refine aT ?_);intro K hK)|(refine ay ?_;intro X Y ae af)|refine az ?_)|(with_reducible refine bg ?_;refine aJ rfl rfl fun X Y ae af=>?_));simp (disch:=first|decide|omega|(simp only [List.length_cons,List.length_nil];omega)) only [go_sem,↓ak hN,am hN,reduceIte,reduceCtorEq,Nat.reduceAdd,Nat.reduceLT,Nat.reduceLeDiff,Nat.reduceEqDiff,Nat.reduceSub])|(with_reducible refine And.intro (fun h=>?_) (fun h=>?_) <;> try (exfalso;omega))|(with_reducible refine aR aF hN ?_)|(first|refine bo hN (h1) ?_|refine bo hN (h3) ?_)|(refine cS (h4) ?_ rfl rfl ?_;focus ((repeat' (first|(with_reducible first|exact a9|refine aK ?_ ?_|exact cF _|refine bB ?_|exact bD _|exact bQ _ _|refine bP ?_|exact bz _)|exact bC hN rfl rfl|(refine bO hN rfl ?_;first|exact ba _|exact bc _)|exact bA rfl rfl rfl));done))|(refine bo hN (h5) ?_)|(with_reducible first|exact a9|refine aK ?_ ?_|exact cF _|refine bB ?_|exact bD _|exact bQ _ _|refine bP ?_|exact bz _)|exact bC hN rfl rfl|(refine bO hN rfl ?_;first|exact ba _|exact bc _)|exact bA rfl rfl rfl|(simp only [aV,List.map_nil])|(with_reducible refine bn ?_)|(with_reducible refine And.intro ?_ ?_)|(refine ah ?_;omega)|(exact aQ hN (by decide))))
     (refine cf (.inr rfl) (by first|rfl|(simp (disch:=first|decide|omega|(simp only [List.length_cons,List.length_nil];omega)) only [bI,bJ,bL,bN,go_sem,beq_self_eq_true,↓au,↓ak hN,am hN,reduceIte,reduceCtorEq,Nat.reduceAdd,Nat.reduceLT,Nat.reduceLeDiff,Nat.reduceEqDiff,Nat.reduceSub];rfl)) ?_)
     all_goals rfl
end Go.Proofs.Ytiadchinhofieaa
