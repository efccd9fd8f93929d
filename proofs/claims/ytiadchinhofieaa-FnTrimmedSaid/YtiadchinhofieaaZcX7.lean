/-
  The reference's EdgeNeeded, for a vertex's edge.
-/
import Derived.Test.YtiadchinhofieaaZcX4
import Derived.Test.YtiadchinhofieaaZcD5
import Derived.Test.YtiadchinhofieaaZcG3
import Derived.Test.YtiadchinhofieaaZcRA
import Derived.Test.YtiadchinhofieaaZcE16
namespace Go.Proofs.Ytiadchinhofieaa
set_option linter.unusedVariables false
set_option linter.unusedSimpArgs false
open Go.RowKit
attribute [local irreducible] aq ci Aw Le
noncomputable def woR (g : Pa) (v u : Int) (w : Nat) : List Int:=d9 (fun x=>¬ ((w : Int) = v ∧ x = u)) (gr g.ar.nxt w) (gr g.ar.nxt w).length
noncomputable def woP (g : Pa) (v u : Int) : Pa:=⟨⟨g.ar.own,cZ g.prio.length (woR g v u)⟩,g.prio⟩
theorem mE {p : Int → Prop} {xs : List Int} (h : ∀ x,p x) : d9 p xs xs.length = xs:=by
 have key : ∀ k,k ≤ xs.length → d9 p xs k = xs.take k:=by
  intro k
  induction k with
  | zero => intro _; rfl
  | succ k ih =>
    intro hk
    rw [dF (h _),ih (by omega),List.take_succ_eq_append_getElem (by omega),c9 (by omega)]
 rw [key _ (Nat.le_refl _),List.take_length]
theorem gh {p q : Int → Prop} {xs : List Int} (h : ∀ x,p x ↔ q x) : ∀ k,d9 p xs k = d9 q xs k
 | 0 => rfl
 | k + 1 => by
   by_cases e : p (gi xs k)
   · rw [dF e,dF ((h _).1 e),gh h k]
   · rw [fp e,fp (fun e'=>e ((h _).2 e')),gh h k]
theorem sY {g : Pa} (hg : PaOk g) {v : Nat} (hv : v < g.prio.length) (u : Int) : woP g v u = cP g v u:=by
 have hl:=hg.len
 have hln:=hg.ar.len
 unfold woP cP
 congr 2
 refine (jh (by rw [List.length_set];omega) fun w hw=>?_).symm
 rw [jl (by omega)]
 unfold woR
 by_cases e : w = v
 · rw [if_pos e,e]
   exact gh (fun x=>by simp) _
 · rw [if_neg e]
   exact (mE fun x h=>e (by omega)).symm
theorem uH {g : Pa} (hg : PaOk g) {v : Int} (hv : ∀ w : Nat,w < g.prio.length → (w : Int) ≠ v) (u : Int) : woP g v u = g:=by
 have hl:=hg.len
 have hln:=hg.ar.len
 obtain ⟨⟨o,x⟩,p⟩:=g
 unfold woP
 congr 2
 exact (jh (hln.trans hl.symm) fun w hw=>(mE fun x h=>hv w hw h.1).symm).symm
set_option maxHeartbeats 2000000 in
theorem gR (g : Pa) (hg : PaOk g) (v u : Int) : aq Try.prog 66 [paA g,.c (.int .i64 v),.c (.int .i64 u)] [] (fun _=>paA (woP g v u)):=by
 have hl:=hg.len
 have hle:=hg.ar.le
 have hln:=hg.ar.len
 have h1:=mB g.ar.own (by omega)
 have h2:=mB g.prio (by omega)
 (refine bh aG Try.func66 rfl rfl (by kernel_rfl) fun hp0 ν hX hN=>?_;simp only [cx,Nat.reduceAdd])
 (repeat' (first|(with_reducible first|(apply hK;clear hK K)|refine stZ ?_|refine aM rfl ?_|((first|apply ae|apply af);clear ae X af Y))|(with_reducible refine aP ?_;first|refine aN rfl ?_|refine aO rfl ?_)|(with_reducible refine be ?_;first|refine aK rfl rfl rfl rfl ?_|refine bc rfl rfl rfl ?_|refine bp rfl rfl rfl rfl ?_)|(with_reducible refine bU ?_;first|refine bN rfl rfl rfl rfl ?_|refine cn rfl rfl rfl ?_|refine cQ rfl rfl rfl rfl ?_|refine b8 hN ?_)|((first|(with_reducible first|((first|refine aS ?_|refine b9 ?_|refine aT ?_|refine ca ?_);intro K hK)|(refine az ?_;intro X Y ae af)|refine aA ?_)|(with_reducible refine be ?_;refine aL rfl rfl fun X Y ae af=>?_)|(with_reducible refine bU ?_;refine bO rfl rfl fun X Y ae af=>?_));simp (disch:=first|decide|omega|(simp only [List.length_cons,List.length_nil];omega)) only [go_sem,↓am hN,ao hN,reduceIte,reduceCtorEq,Nat.reduceAdd,Nat.reduceLT,Nat.reduceLeDiff,Nat.reduceEqDiff,Nat.reduceSub])|(with_reducible refine And.intro (fun h=>?_) (fun h=>?_) <;> try (exfalso;omega))|(with_reducible refine aR aG hN ?_)|(with_reducible refine bn aG hN ?_)|(refine bJ hN (h1) ?_)|(refine bJ hN (h2) ?_)|(simp only [ba,List.map_nil])|(with_reducible refine bo ?_)|(with_reducible refine And.intro ?_ ?_)|(refine ak ?_;omega)|(exact aQ hN (by decide))))
 (refine cj (fun (k : Nat)=>(tmL [(8,.c (.int .i64 k)),(7,.ad (ν 4) 0),(6,.ad (ν 1) 0),(3,.ad (ν 0) 0),(1,.c (.int .i64 v)),(2,.c (.int .i64 u))],hpL hp0 ν [.box [.c (.I g.ar.own),.c (.R g.ar.nxt),.c (.I g.prio)],.box [.c .nul,.c .nul,.c .nul],.arr 2 .yes (.I g.ar.own),.arr 2 .yes (.I g.prio),.box [.sl (ν 2),.sl (ν 5),.sl (ν 3)],.arr 22 .may (.R (cZ k (woR g v u)))])) (fun (k : Nat)=>k ≤ g.prio.length) (fun (k : Nat)=>g.prio.length - k) ⟨0,?_,bA hX hN [] ?_ ?_⟩ ?_;(repeat' (first|(with_reducible first|exact clZ|refine bB ?_ ?_|refine bC ?_ ?_|rfl|refine suZ ?_)|refine bD rfl ?_ ?_|exact aX hN _ rfl rfl rfl|exact aY hN _ rfl rfl rfl|exact aC hN _ rfl rfl rfl (Or.inr rfl)|(refine aU hN _ rfl rfl (by first|exact Or.inr rfl|exact Or.inl rfl) ?_;first|exact aZ _|exact a8 _)|refine aD hN rfl ?_|refine aE hN rfl rfl ?_|exact aB hN _ rfl rfl|exact aF hN rfl rfl rfl rfl|(with_reducible first|refine stZ ?_|refine aW ?_)));(try (any_goals (first|(with_reducible rfl)|(refine ak ?_;omega)))))
 intro k hk
 have htl:=fb k (woR g v u)
 by_cases hkn : k < g.prio.length
 · have hrow:=(hg.ar.vert k (by omega)).2.2
   (repeat' (first|(with_reducible first|(apply hK;clear hK K)|refine stZ ?_|refine aM rfl ?_|((first|apply ae|apply af);clear ae X af Y))|(with_reducible refine aP ?_;first|refine aN rfl ?_|refine aO rfl ?_)|(with_reducible refine be ?_;first|refine aK rfl rfl rfl rfl ?_|refine bc rfl rfl rfl ?_|refine bp rfl rfl rfl rfl ?_)|(with_reducible refine bU ?_;first|refine bN rfl rfl rfl rfl ?_|refine cn rfl rfl rfl ?_|refine cQ rfl rfl rfl rfl ?_|refine b8 hN ?_)|((first|(with_reducible first|((first|refine aS ?_|refine b9 ?_|refine aT ?_|refine ca ?_);intro K hK)|(refine az ?_;intro X Y ae af)|refine aA ?_)|(with_reducible refine be ?_;refine aL rfl rfl fun X Y ae af=>?_)|(with_reducible refine bU ?_;refine bO rfl rfl fun X Y ae af=>?_));simp (disch:=first|decide|omega|(simp only [List.length_cons,List.length_nil];omega)) only [go_sem,↓am hN,ao hN,reduceIte,reduceCtorEq,Nat.reduceAdd,Nat.reduceLT,Nat.reduceLeDiff,Nat.reduceEqDiff,Nat.reduceSub])|(with_reducible refine And.intro (fun h=>?_) (fun h=>?_) <;> try (exfalso;omega))|(with_reducible refine aR aG hN ?_)|(with_reducible refine bn aG hN ?_)|(with_reducible refine And.intro ?_ ?_)|(refine ak ?_;omega)|(exact aQ hN (by decide))))
   have hE : cZ (k + 1) (woR g v u) = cZ k (woR g v u) ++ [d9 (fun x=>¬ ((k : Int) = v ∧ x = u)) (gr g.ar.nxt k) (gr g.ar.nxt k).length]:=by simp [cZ,List.range_succ,woR]
   generalize cZ k (woR g v u) = N at *
   (refine cj (fun (j : Nat)=>(tmL [(10,.c (.int .i64 j)),(9,.sl (ν 6)),(8,.c (.int .i64 k)),(7,.ad (ν 4) 0),(6,.ad (ν 1) 0),(3,.ad (ν 0) 0),(1,.c (.int .i64 v)),(2,.c (.int .i64 u))],hpL hp0 ν [.box [.c (.I g.ar.own),.c (.R g.ar.nxt),.c (.I g.prio)],.box [.c .nul,.c .nul,.c .nul],.arr 2 .yes (.I g.ar.own),.arr 2 .yes (.I g.prio),.box [.sl (ν 2),.sl (ν 5),.sl (ν 3)],.arr 22 .may (.R N),.arr 2 .yes (.I (d9 (fun x=>¬ ((k : Int) = v ∧ x = u)) (gr g.ar.nxt k) j))])) (fun (j : Nat)=>j ≤ (gr g.ar.nxt k).length) (fun (j : Nat)=>(gr g.ar.nxt k).length - j) ⟨0,?_,bA hX hN [] ?_ ?_⟩ ?_;(repeat' (first|(with_reducible first|exact clZ|refine bB ?_ ?_|refine bC ?_ ?_|rfl|refine suZ ?_)|refine bD rfl ?_ ?_|exact aX hN _ rfl rfl rfl|exact aY hN _ rfl rfl rfl|exact aC hN _ rfl rfl rfl (Or.inr rfl)|(refine aU hN _ rfl rfl (by first|exact Or.inr rfl|exact Or.inl rfl) ?_;first|exact aZ _|exact a8 _)|refine aD hN rfl ?_|refine aE hN rfl rfl ?_|exact aB hN _ rfl rfl|exact aF hN rfl rfl rfl rfl|(with_reducible first|refine stZ ?_|refine aW ?_)));(try (any_goals (first|(with_reducible rfl)|(refine ak ?_;omega)))))
   · rfl
   intro j hj
   have hfl:=lR (fun x=>¬ ((k : Int) = v ∧ x = u)) (gr g.ar.nxt k) j
   by_cases hjl : j < (gr g.ar.nxt k).length
   · by_cases hm : (k : Int) = v ∧ gi (gr g.ar.nxt k) j = u
     · (repeat' (first|(with_reducible first|(apply hK;clear hK K)|refine stZ ?_|refine aM rfl ?_|((first|apply ae|apply af);clear ae X af Y))|(with_reducible refine aP ?_;first|refine aN rfl ?_|refine aO rfl ?_)|(with_reducible refine be ?_;first|refine aK rfl rfl rfl rfl ?_|refine bc rfl rfl rfl ?_|refine bp rfl rfl rfl rfl ?_)|(with_reducible refine bU ?_;first|refine bN rfl rfl rfl rfl ?_|refine cn rfl rfl rfl ?_|refine cQ rfl rfl rfl rfl ?_|refine b8 hN ?_)|((first|(with_reducible first|((first|refine aS ?_|refine b9 ?_|refine aT ?_|refine ca ?_);intro K hK)|(refine az ?_;intro X Y ae af)|refine aA ?_)|(with_reducible refine be ?_;refine aL rfl rfl fun X Y ae af=>?_)|(with_reducible refine bU ?_;refine bO rfl rfl fun X Y ae af=>?_));simp (disch:=first|decide|omega|(simp only [List.length_cons,List.length_nil];omega)) only [go_sem,↓am hN,ao hN,reduceIte,reduceCtorEq,Nat.reduceAdd,Nat.reduceLT,Nat.reduceLeDiff,Nat.reduceEqDiff,Nat.reduceSub])|(with_reducible refine And.intro (fun h=>?_) (fun h=>?_) <;> try (exfalso;omega))|(with_reducible refine aR aG hN ?_)|(with_reducible refine bn aG hN ?_)|(with_reducible refine And.intro ?_ ?_)|(refine ak ?_;omega)|(exact aQ hN (by decide))))
       all_goals first|(exact absurd hm.1 (sW (by assumption)))|(exact absurd hm.1 (by assumption))|(exact absurd hm.2 (by assumption))|skip
       (refine ⟨j + 1,⟨?_,?_⟩,bA hX hN [] ?_ ?_⟩;(try any_goals dsimp only);(repeat' (first|(with_reducible first|exact clZ|refine bB ?_ ?_|refine bC ?_ ?_|rfl|refine suZ ?_)|refine bD rfl ?_ ?_|exact aX hN _ rfl rfl rfl|exact aY hN _ rfl rfl rfl|exact aC hN _ rfl rfl rfl (Or.inr rfl)|(refine aU hN _ rfl rfl (by first|exact Or.inr rfl|exact Or.inl rfl) ?_;first|exact aZ _|exact a8 _)|refine aD hN rfl ?_|refine aE hN rfl rfl ?_|exact aB hN _ rfl rfl|exact aF hN rfl rfl rfl rfl|(with_reducible first|refine stZ ?_|refine aW ?_)));(try (any_goals (first|(with_reducible rfl)|(refine ak ?_;omega)))))
       exact fp fun h=>h hm
     · (repeat' (first|(with_reducible first|(apply hK;clear hK K)|refine stZ ?_|refine aM rfl ?_|((first|apply ae|apply af);clear ae X af Y))|(with_reducible refine aP ?_;first|refine aN rfl ?_|refine aO rfl ?_)|(with_reducible refine be ?_;first|refine aK rfl rfl rfl rfl ?_|refine bc rfl rfl rfl ?_|refine bp rfl rfl rfl rfl ?_)|(with_reducible refine bU ?_;first|refine bN rfl rfl rfl rfl ?_|refine cn rfl rfl rfl ?_|refine cQ rfl rfl rfl rfl ?_|refine b8 hN ?_)|((first|(with_reducible first|((first|refine aS ?_|refine b9 ?_|refine aT ?_|refine ca ?_);intro K hK)|(refine az ?_;intro X Y ae af)|refine aA ?_)|(with_reducible refine be ?_;refine aL rfl rfl fun X Y ae af=>?_)|(with_reducible refine bU ?_;refine bO rfl rfl fun X Y ae af=>?_));simp (disch:=first|decide|omega|(simp only [List.length_cons,List.length_nil];omega)) only [go_sem,↓am hN,ao hN,reduceIte,reduceCtorEq,Nat.reduceAdd,Nat.reduceLT,Nat.reduceLeDiff,Nat.reduceEqDiff,Nat.reduceSub])|(with_reducible refine And.intro (fun h=>?_) (fun h=>?_) <;> try (exfalso;omega))|(with_reducible refine aR aG hN ?_)|(with_reducible refine bn aG hN ?_)|(with_reducible refine And.intro ?_ ?_)|(refine ak ?_;omega)|(exact aQ hN (by decide))))
       all_goals first|(exact absurd ⟨mz (by assumption),mz (by assumption)⟩ hm)|skip
       all_goals ((refine ⟨j + 1,⟨?_,?_⟩,bA hX hN [(6,8)] ?_ ?_⟩;(try any_goals dsimp only);(repeat' (first|(with_reducible first|exact clZ|refine bB ?_ ?_|refine bC ?_ ?_|rfl|refine suZ ?_)|refine bD rfl ?_ ?_|exact aX hN _ rfl rfl rfl|exact aY hN _ rfl rfl rfl|exact aC hN _ rfl rfl rfl (Or.inr rfl)|(refine aU hN _ rfl rfl (by first|exact Or.inr rfl|exact Or.inl rfl) ?_;first|exact aZ _|exact a8 _)|refine aD hN rfl ?_|refine aE hN rfl rfl ?_|exact aB hN _ rfl rfl|exact aF hN rfl rfl rfl rfl|(with_reducible first|refine stZ ?_|refine aW ?_)));(try (any_goals (first|(with_reducible rfl)|(refine ak ?_;omega))))))
       all_goals exact dF hm
   obtain rfl : j = (gr g.ar.nxt k).length:=by omega
   (repeat' (first|(with_reducible first|(apply hK;clear hK K)|refine stZ ?_|refine aM rfl ?_|((first|apply ae|apply af);clear ae X af Y))|(with_reducible refine aP ?_;first|refine aN rfl ?_|refine aO rfl ?_)|(with_reducible refine be ?_;first|refine aK rfl rfl rfl rfl ?_|refine bc rfl rfl rfl ?_|refine bp rfl rfl rfl rfl ?_)|(with_reducible refine bU ?_;first|refine bN rfl rfl rfl rfl ?_|refine cn rfl rfl rfl ?_|refine cQ rfl rfl rfl rfl ?_|refine b8 hN ?_)|((first|(with_reducible first|((first|refine aS ?_|refine b9 ?_|refine aT ?_|refine ca ?_);intro K hK)|(refine az ?_;intro X Y ae af)|refine aA ?_)|(with_reducible refine be ?_;refine aL rfl rfl fun X Y ae af=>?_)|(with_reducible refine bU ?_;refine bO rfl rfl fun X Y ae af=>?_));simp (disch:=first|decide|omega|(simp only [List.length_cons,List.length_nil];omega)) only [go_sem,↓am hN,ao hN,reduceIte,reduceCtorEq,Nat.reduceAdd,Nat.reduceLT,Nat.reduceLeDiff,Nat.reduceEqDiff,Nat.reduceSub])|(with_reducible refine And.intro (fun h=>?_) (fun h=>?_) <;> try (exfalso;omega))|(with_reducible refine aR aG hN ?_)|(with_reducible refine bn aG hN ?_)|(with_reducible refine And.intro ?_ ?_)|(refine ak ?_;omega)|(exact aQ hN (by decide))))
   (refine ⟨k + 1,⟨?_,?_⟩,bA hX hN [(5,8)] ?_ ?_⟩;(try any_goals dsimp only);(repeat' (first|(with_reducible first|exact clZ|refine bB ?_ ?_|refine bC ?_ ?_|rfl|refine suZ ?_)|refine bD rfl ?_ ?_|exact aX hN _ rfl rfl rfl|exact aY hN _ rfl rfl rfl|exact aC hN _ rfl rfl rfl (Or.inr rfl)|(refine aU hN _ rfl rfl (by first|exact Or.inr rfl|exact Or.inl rfl) ?_;first|exact aZ _|exact a8 _)|refine aD hN rfl ?_|refine aE hN rfl rfl ?_|exact aB hN _ rfl rfl|exact aF hN rfl rfl rfl rfl|(with_reducible first|refine stZ ?_|refine aW ?_)));(try (any_goals (first|(with_reducible rfl)|(refine ak ?_;omega)))))
   all_goals exact hE
 obtain rfl : k = g.prio.length:=by omega
 (repeat' (first|(with_reducible first|(apply hK;clear hK K)|refine stZ ?_|refine aM rfl ?_|((first|apply ae|apply af);clear ae X af Y))|(with_reducible refine aP ?_;first|refine aN rfl ?_|refine aO rfl ?_)|(with_reducible refine be ?_;first|refine aK rfl rfl rfl rfl ?_|refine bc rfl rfl rfl ?_|refine bp rfl rfl rfl rfl ?_)|(with_reducible refine bU ?_;first|refine bN rfl rfl rfl rfl ?_|refine cn rfl rfl rfl ?_|refine cQ rfl rfl rfl rfl ?_|refine b8 hN ?_)|((first|(with_reducible first|((first|refine aS ?_|refine b9 ?_|refine aT ?_|refine ca ?_);intro K hK)|(refine az ?_;intro X Y ae af)|refine aA ?_)|(with_reducible refine be ?_;refine aL rfl rfl fun X Y ae af=>?_)|(with_reducible refine bU ?_;refine bO rfl rfl fun X Y ae af=>?_));simp (disch:=first|decide|omega|(simp only [List.length_cons,List.length_nil];omega)) only [go_sem,↓am hN,ao hN,reduceIte,reduceCtorEq,Nat.reduceAdd,Nat.reduceLT,Nat.reduceLeDiff,Nat.reduceEqDiff,Nat.reduceSub])|(with_reducible refine And.intro (fun h=>?_) (fun h=>?_) <;> try (exfalso;omega))|(with_reducible refine aR aG hN ?_)|(with_reducible refine bn aG hN ?_)|(with_reducible refine And.intro ?_ ?_)|(refine ak ?_;omega)|(exact aQ hN (by decide))))
 (refine dC hN [] (by decide) (.inr rfl) (by first|exact b7 rfl rfl|exact bL hN rfl rfl rfl rfl|exact bF hN rfl rfl rfl rfl rfl|(simp (disch:=first|decide|omega|(simp only [List.length_cons,List.length_nil];omega)) only [bK,bS,bV,bY,go_sem,beq_self_eq_true,↓au,↓am hN,ao hN,reduceIte,reduceCtorEq,Nat.reduceAdd,Nat.reduceLT,Nat.reduceLeDiff,Nat.reduceEqDiff,Nat.reduceSub];rfl)|rfl) ?_ fun νs hνs=>?_;(repeat' (first|exact Gone.nil|(refine Gone.cons rfl rfl ?_ ?_)|(with_reducible refine cX ?_)|(with_reducible refine cW ?_)|(with_reducible refine SVs.cons ?_ ?_)|(with_reducible exact SVs.nil)|(simp only [List.drop,List.take])|(simp (disch:=first|decide|omega) only [↓au,reduceIte,reduceCtorEq,Nat.reduceEqDiff])|(with_reducible exact eY _)|(with_reducible exact cU _)|(exact cV rfl rfl rfl)|(exact dp 0 (by simp) rfl rfl)|(refine dB hN rfl (cY hN (by decide)) ?_)|(with_reducible refine dA ?_)|(with_reducible rfl)|(with_reducible refine eZ ?_)|(with_reducible refine e8 ?_)|(with_reducible refine e9 ?_)|(with_reducible refine eR ?_)|(with_reducible refine fa ?_)|(refine ak ?_;omega))))
 all_goals rfl
end Go.Proofs.Ytiadchinhofieaa
namespace Go.Proofs.Ytiadchinhofieaa
set_option linter.unusedVariables false
set_option linter.unusedSimpArgs false
open Go.RowKit
attribute [local irreducible] aq ci Aw Le
theorem kH (a : Ar) (ha : ArOk a) (v : Nat) (hv : v < a.own.length) (u : Int) : aq Try.prog 31 [arA a,.c (.int .i64 v),.c (.int .i64 u)] [] (fun _=>.c (.bool (tf (u ∈ gr a.nxt v)))):=by
 have hln:=ha.len
 have h1:=og a
 rw [aH ha] at h1
 have h2:=py a v (by unfold iM;omega) (by have:=ha.le;omega)
 have h3:=oz (gr a.nxt v) u
 (refine bh aG Try.func31 rfl rfl (by kernel_rfl) fun hp0 ν hX hN=>?_;simp only [cx,Nat.reduceAdd])
 (repeat' (first|(with_reducible first|(apply hK;clear hK K)|refine stZ ?_|refine aM rfl ?_|((first|apply ae|apply af);clear ae X af Y))|(with_reducible refine aP ?_;first|refine aN rfl ?_|refine aO rfl ?_)|(with_reducible refine be ?_;first|refine aK rfl rfl rfl rfl ?_|refine bc rfl rfl rfl ?_|refine bp rfl rfl rfl rfl ?_)|((first|(with_reducible first|((first|refine aS ?_|refine aT ?_);intro K hK)|(refine az ?_;intro X Y ae af)|refine aA ?_)|(with_reducible refine be ?_;refine aL rfl rfl fun X Y ae af=>?_));simp (disch:=first|decide|omega|(simp only [List.length_cons,List.length_nil];omega)) only [go_sem,↓am hN,ao hN,reduceIte,reduceCtorEq,Nat.reduceAdd,Nat.reduceLT,Nat.reduceLeDiff,Nat.reduceEqDiff,Nat.reduceSub])|(with_reducible refine And.intro (fun h=>?_) (fun h=>?_) <;> try (exfalso;omega))|(with_reducible refine aR aG hN ?_)|(first|refine bJ hN (h1) ?_|refine bJ hN (h2) ?_|refine bJ hN (h3) ?_)|(simp only [ba,List.map_nil])|(with_reducible refine bo ?_)|(with_reducible refine And.intro ?_ ?_)|(refine ak ?_;omega)|(exact aQ hN (by decide))))
 (refine dd (.inr rfl) (by first|rfl|(simp (disch:=first|decide|omega|(simp only [List.length_cons,List.length_nil];omega)) only [bK,bS,bV,bY,go_sem,beq_self_eq_true,↓au,↓am hN,ao hN,reduceIte,reduceCtorEq,Nat.reduceAdd,Nat.reduceLT,Nat.reduceLeDiff,Nat.reduceEqDiff,Nat.reduceSub];rfl)) ?_)
 all_goals rfl
theorem jT (g : Pa) (hg : PaOk g) (v : Nat) (hv : v < g.prio.length) (u : Int) (hu : u ∈ gr g.ar.nxt v) (h2 : 2 ≤ (gr g.ar.nxt v).length) : aq Try.prog 19 [paA g,.c (.int .i64 v),.c (.int .i64 u)] [] (fun _=>.tup [paA (cP g v u),.c (.bool true)]):=by
 have hl:=hg.len
 have hln:=hg.ar.len
 have h1:=gc g
 rw [aH hg] at h1
 have h3:=kH g.ar hg.ar v (by omega) u
 rw [aH hu] at h3
 have h4:=gR g hg v u
 rw [sY hg hv] at h4
 (refine bh aG Try.func19 rfl rfl (by kernel_rfl) fun hp0 ν hX hN=>?_;simp only [cx,Nat.reduceAdd])
 (repeat' (first|(with_reducible first|(apply hK;clear hK K)|refine stZ ?_|refine aM rfl ?_|((first|apply ae|apply af);clear ae X af Y))|(with_reducible refine aP ?_;first|refine aN rfl ?_|refine aO rfl ?_)|(with_reducible refine be ?_;first|refine aK rfl rfl rfl rfl ?_|refine bc rfl rfl rfl ?_|refine bp rfl rfl rfl rfl ?_)|((first|(with_reducible first|((first|refine aS ?_|refine aT ?_);intro K hK)|(refine az ?_;intro X Y ae af)|refine aA ?_)|(with_reducible refine be ?_;refine aL rfl rfl fun X Y ae af=>?_));simp (disch:=first|decide|omega|(simp only [List.length_cons,List.length_nil];omega)) only [go_sem,↓am hN,ao hN,reduceIte,reduceCtorEq,Nat.reduceAdd,Nat.reduceLT,Nat.reduceLeDiff,Nat.reduceEqDiff,Nat.reduceSub])|(with_reducible refine And.intro (fun h=>?_) (fun h=>?_) <;> try (exfalso;omega))|(with_reducible refine aR aG hN ?_)|(first|refine bJ hN (h1) ?_|refine bJ hN (h3) ?_)|(refine cK (h4) ?_ rfl rfl ?_;focus ((repeat' (first|(with_reducible first|exact aV|refine aJ ?_ ?_|exact cF _|refine bv ?_|exact bz _|exact bR _ _|refine bQ ?_|exact bt _)|exact bw hN rfl rfl|(refine bP hN rfl ?_;first|exact aZ _|exact a8 _)|exact bu rfl rfl rfl));done))|(with_reducible first|exact aV|refine aJ ?_ ?_|exact cF _|refine bv ?_|exact bz _|exact bR _ _|refine bQ ?_|exact bt _)|exact bw hN rfl rfl|(refine bP hN rfl ?_;first|exact aZ _|exact a8 _)|exact bu rfl rfl rfl|(simp only [ba,List.map_nil])|(with_reducible refine bo ?_)|(with_reducible refine And.intro ?_ ?_)|(refine ak ?_;omega)|(exact aQ hN (by decide))))
 (refine dC hN [] (by decide) (.inr rfl) (by first|exact b7 rfl rfl|exact bL hN rfl rfl rfl rfl|exact bF hN rfl rfl rfl rfl rfl|(simp (disch:=first|decide|omega|(simp only [List.length_cons,List.length_nil];omega)) only [bK,bS,bV,bY,go_sem,beq_self_eq_true,↓au,↓am hN,ao hN,reduceIte,reduceCtorEq,Nat.reduceAdd,Nat.reduceLT,Nat.reduceLeDiff,Nat.reduceEqDiff,Nat.reduceSub];rfl)|rfl) ?_ fun νs hνs=>?_;(repeat' (first|exact Gone.nil|(refine Gone.cons rfl rfl ?_ ?_)|(with_reducible refine cX ?_)|(with_reducible refine cW ?_)|(with_reducible refine SVs.cons ?_ ?_)|(with_reducible exact SVs.nil)|(simp only [List.drop,List.take])|(simp (disch:=first|decide|omega) only [↓au,reduceIte,reduceCtorEq,Nat.reduceEqDiff])|(with_reducible exact eY _)|(with_reducible exact cU _)|(exact cV rfl rfl rfl)|(exact dp 0 (by simp) rfl rfl)|(refine dB hN rfl (cY hN (by decide)) ?_)|(with_reducible refine dA ?_)|(with_reducible rfl)|(with_reducible refine eZ ?_)|(with_reducible refine e8 ?_)|(with_reducible refine e9 ?_)|(with_reducible refine eR ?_)|(with_reducible refine fa ?_)|(refine ak ?_;omega))))
 all_goals rfl
end Go.Proofs.Ytiadchinhofieaa
namespace Go.Proofs.Ytiadchinhofieaa
set_option linter.unusedVariables false
set_option linter.unusedSimpArgs false
open Go.RowKit
attribute [local irreducible] aq ci Aw Le
theorem nK (g : Pa) (hg : PaOk g) (v : Nat) (hv : v < g.prio.length) (u : Int) (hu : u ∈ gr g.ar.nxt v) (h2 : (gr g.ar.nxt v).length = 1) : aq Try.prog 19 [paA g,.c (.int .i64 v),.c (.int .i64 u)] [] (fun _=>.tup [.agg [.c .nul,.c .nul,.c .nul],.c (.bool false)]):=by
 have hl:=hg.len
 have hln:=hg.ar.len
 have h1:=gc g
 rw [aH hg] at h1
 have h3:=kH g.ar hg.ar v (by omega) u
 rw [aH hu] at h3
 (refine bh aG Try.func19 rfl rfl (by kernel_rfl) fun hp0 ν hX hN=>?_;simp only [cx,Nat.reduceAdd])
 (repeat' (first|(with_reducible first|(apply hK;clear hK K)|refine stZ ?_|refine aM rfl ?_|((first|apply ae|apply af);clear ae X af Y))|(with_reducible refine aP ?_;first|refine aN rfl ?_|refine aO rfl ?_)|(with_reducible refine be ?_;first|refine aK rfl rfl rfl rfl ?_|refine bc rfl rfl rfl ?_|refine bp rfl rfl rfl rfl ?_)|((first|(with_reducible first|((first|refine aS ?_|refine aT ?_);intro K hK)|(refine az ?_;intro X Y ae af)|refine aA ?_)|(with_reducible refine be ?_;refine aL rfl rfl fun X Y ae af=>?_));simp (disch:=first|decide|omega|(simp only [List.length_cons,List.length_nil];omega)) only [go_sem,↓am hN,ao hN,reduceIte,reduceCtorEq,Nat.reduceAdd,Nat.reduceLT,Nat.reduceLeDiff,Nat.reduceEqDiff,Nat.reduceSub])|(with_reducible refine And.intro (fun h=>?_) (fun h=>?_) <;> try (exfalso;omega))|(with_reducible refine aR aG hN ?_)|(first|refine bJ hN (h1) ?_|refine bJ hN (h3) ?_)|(simp only [ba,List.map_nil])|(with_reducible refine bo ?_)|(with_reducible refine And.intro ?_ ?_)|(refine ak ?_;omega)|(exact aQ hN (by decide))))
 all_goals first | (have hq : (((gr g.ar.nxt v).length : Int) == 1) = false := by assumption
                    exfalso;rw [h2] at hq;exact absurd hq (by decide))|skip
 (refine dC hN [] (by decide) (.inr rfl) (by first|exact b7 rfl rfl|exact bL hN rfl rfl rfl rfl|exact bF hN rfl rfl rfl rfl rfl|(simp (disch:=first|decide|omega|(simp only [List.length_cons,List.length_nil];omega)) only [bK,bS,bV,bY,go_sem,beq_self_eq_true,↓au,↓am hN,ao hN,reduceIte,reduceCtorEq,Nat.reduceAdd,Nat.reduceLT,Nat.reduceLeDiff,Nat.reduceEqDiff,Nat.reduceSub];rfl)|rfl) ?_ fun νs hνs=>?_;(repeat' (first|exact Gone.nil|(refine Gone.cons rfl rfl ?_ ?_)|(with_reducible refine cX ?_)|(with_reducible refine cW ?_)|(with_reducible refine SVs.cons ?_ ?_)|(with_reducible exact SVs.nil)|(simp only [List.drop,List.take])|(simp (disch:=first|decide|omega) only [↓au,reduceIte,reduceCtorEq,Nat.reduceEqDiff])|(with_reducible exact eY _)|(with_reducible exact cU _)|(exact cV rfl rfl rfl)|(exact dp 0 (by simp) rfl rfl)|(refine dB hN rfl (cY hN (by decide)) ?_)|(with_reducible refine dA ?_)|(with_reducible rfl)|(with_reducible refine eZ ?_)|(with_reducible refine e8 ?_)|(with_reducible refine e9 ?_)|(with_reducible refine eR ?_)|(with_reducible refine fa ?_)|(refine ak ?_;omega))))
 all_goals rfl
end Go.Proofs.Ytiadchinhofieaa
