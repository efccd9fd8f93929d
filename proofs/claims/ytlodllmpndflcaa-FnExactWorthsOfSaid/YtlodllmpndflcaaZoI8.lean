/-
  The reference's worths: the order, insertion, the worth of a play.
-/
import Derived.Test.YtlodllmpndflcaaZoI6
import Derived.Test.YtlodllmpndflcaaZoT2
import Derived.Test.YtlodllmpndflcaaZoV2
namespace Go.Proofs.Ytlodllmpndflcaa
set_option linter.unusedVariables false
set_option linter.unusedSimpArgs false
open Go.RowKit
attribute [local irreducible] ba cM Aw Le
theorem mM (g : Pa) (hg : PaOk g) (σ τ : List Int) (h0 : cz g.ar 0 σ) (h1 : cz g.ar 1 τ) (x : Nat) (hx : x < g.prio.length) : ba Try.prog 47 [paA g,.c (.I σ),.c (.I τ),.c (.int .i64 x)] [] (fun _=>.c (.int .i64 (nxP g.ar σ τ x : Nat))):=by
 have hl:=hg.len
 have hs0:=h0.1.1
 have hs1:=h1.1.1
 have e3:=(jd hg h0 h1 hx).2.2
 rw [e3]
 by_cases e : gi g.ar.own x = 0
 · rw [if_pos e]
   (refine bA aF Try.func47 rfl rfl (by kernel_rfl) fun hp0 ν hX hN=>?_;simp only [cg,Nat.reduceAdd])
   (repeat' (first|(with_reducible first|(apply hK;clear hK K)|refine stZ ?_|refine aO rfl ?_|((first|apply ae|apply af);clear ae X af Y))|(with_reducible refine aR ?_;first|refine aP rfl ?_|refine aQ rfl ?_)|((with_reducible first|((first|refine aU ?_|refine aV ?_);intro K hK)|(refine aC ?_;intro X Y ae af)|refine aD ?_);simp (disch:=first|decide|omega|(simp only [List.length_cons,List.length_nil];omega)) only [go_sem,↓aj hN,an hN,reduceIte,reduceCtorEq,Nat.reduceAdd,Nat.reduceLT,Nat.reduceLeDiff,Nat.reduceEqDiff,Nat.reduceSub])|(with_reducible refine And.intro (fun h=>?_) (fun h=>?_) <;> try (exfalso;omega))|(with_reducible refine aT aF hN ?_)|(with_reducible refine And.intro ?_ ?_)|(refine ak ?_;omega)|(exact aS hN (by decide))))
   all_goals first|(exact absurd e (cU (by assumption)))|((refine bT (.inr rfl) (by first|rfl|(simp (disch:=first|decide|omega|(simp only [List.length_cons,List.length_nil];omega)) only [bR,bU,bX,bY,go_sem,beq_self_eq_true,↓aW,↓aj hN,an hN,reduceIte,reduceCtorEq,Nat.reduceAdd,Nat.reduceLT,Nat.reduceLeDiff,Nat.reduceEqDiff,Nat.reduceSub];rfl)) ?_);rfl)
 · rw [if_neg e]
   (refine bA aF Try.func47 rfl rfl (by kernel_rfl) fun hp0 ν hX hN=>?_;simp only [cg,Nat.reduceAdd])
   (repeat' (first|(with_reducible first|(apply hK;clear hK K)|refine stZ ?_|refine aO rfl ?_|((first|apply ae|apply af);clear ae X af Y))|(with_reducible refine aR ?_;first|refine aP rfl ?_|refine aQ rfl ?_)|((with_reducible first|((first|refine aU ?_|refine aV ?_);intro K hK)|(refine aC ?_;intro X Y ae af)|refine aD ?_);simp (disch:=first|decide|omega|(simp only [List.length_cons,List.length_nil];omega)) only [go_sem,↓aj hN,an hN,reduceIte,reduceCtorEq,Nat.reduceAdd,Nat.reduceLT,Nat.reduceLeDiff,Nat.reduceEqDiff,Nat.reduceSub])|(with_reducible refine And.intro (fun h=>?_) (fun h=>?_) <;> try (exfalso;omega))|(with_reducible refine aT aF hN ?_)|(with_reducible refine And.intro ?_ ?_)|(refine ak ?_;omega)|(exact aS hN (by decide))))
   all_goals first|(exact absurd (by assumption) e)|((refine bT (.inr rfl) (by first|rfl|(simp (disch:=first|decide|omega|(simp only [List.length_cons,List.length_nil];omega)) only [bR,bU,bX,bY,go_sem,beq_self_eq_true,↓aW,↓aj hN,an hN,reduceIte,reduceCtorEq,Nat.reduceAdd,Nat.reduceLT,Nat.reduceLeDiff,Nat.reduceEqDiff,Nat.reduceSub];rfl)) ?_);rfl)
theorem gc (g : Pa) (hg : PaOk g) (x : Int) (hx : f4 g.prio.length x) : ba Try.prog 50 [paA g,.c (.int .i64 x)] [] (fun _=>.c (.bool (tf (EvP g x)))):=by
 have he:=jf hg hx
 unfold f4 at hx
 (refine bA aF Try.func50 rfl rfl (by kernel_rfl) fun hp0 ν hX hN=>?_;simp only [cg,Nat.reduceAdd])
 (repeat' (first|(with_reducible first|(apply hK;clear hK K)|refine stZ ?_|refine aO rfl ?_|((first|apply ae|apply af);clear ae X af Y))|(with_reducible refine aR ?_;first|refine aP rfl ?_|refine aQ rfl ?_)|((with_reducible first|((first|refine aU ?_|refine aV ?_);intro K hK)|(refine aC ?_;intro X Y ae af)|refine aD ?_);simp (disch:=first|decide|omega|(simp only [List.length_cons,List.length_nil];omega)) only [go_sem,↓aj hN,an hN,reduceIte,reduceCtorEq,Nat.reduceAdd,Nat.reduceLT,Nat.reduceLeDiff,Nat.reduceEqDiff,Nat.reduceSub])|(with_reducible refine And.intro (fun h=>?_) (fun h=>?_) <;> try (exfalso;omega))|(with_reducible refine aT aF hN ?_)|(with_reducible refine And.intro ?_ ?_)|(refine ak ?_;omega)|(exact aS hN (by decide))))
 (refine bT (.inr rfl) (by first|rfl|(simp (disch:=first|decide|omega|(simp only [List.length_cons,List.length_nil];omega)) only [bR,bU,bX,bY,go_sem,beq_self_eq_true,↓aW,↓aj hN,an hN,reduceIte,reduceCtorEq,Nat.reduceAdd,Nat.reduceLT,Nat.reduceLeDiff,Nat.reduceEqDiff,Nat.reduceSub];rfl)) ?_)
 exact congrArg C.bool he
noncomputable def dA (g : Pa) (A B : List Int) : Nat → Int
 | 0 => -1
 | k + 1 => if tf (¬ Alk A B k ∧ (dA g A B k < 0 ∨ Hv g k (dA g A B k))) then k else dA g A B k
theorem eJ {g : Pa} {A B : List Int} {k : Nat} (h : ¬ Alk A B k) (h' : dA g A B k < 0 ∨ Hv g k (dA g A B k)) : dA g A B (k + 1) = k:=by
 show (if tf _ then _ else _) = _;rw [aA ⟨h,h'⟩,gT]
theorem ji {g : Pa} {A B : List Int} {k : Nat} (h : Alk A B k) : dA g A B (k + 1) = dA g A B k:=by
 show (if tf _ then _ else _) = _;rw [ao fun q=>q.1 h,fO]
theorem kO {g : Pa} {A B : List Int} {k : Nat} (h : 0 ≤ dA g A B k) (h' : ¬ Hv g k (dA g A B k)) : dA g A B (k + 1) = dA g A B k:=by
 show (if tf _ then _ else _) = _;rw [ao fun q=>q.2.elim (fun h=>by omega) h',fO]
theorem lS {g : Pa} {A B : List Int} : ∀ k,fQ g A B k (dA g A B k) (tf (dA g A B k ∈ A)):=by
 intro k
 induction k with
 | zero => exact .inl ⟨rfl, fun v hv => absurd hv (Nat.not_lt_zero _)⟩
 | succ k ih =>
   by_cases ha : Alk A B k
   · rw [ji ha];exact lK ih ha
   · rcases dJ ih with e|⟨y,e,_⟩
     · rw [eJ ha (.inl (by omega))]
       rw [e] at ih
       exact lL ih ha rfl
     · by_cases hh : Hv g k (dA g A B k)
       · rw [eJ ha (.inr hh)]
         rw [e] at ih hh
         exact qz ih ha hh rfl
       · rw [kO (by omega) hh]
         rw [e] at ih hh ⊢
         exact qA ih hh
theorem nH {g : Pa} {A B : List Int} (k : Nat) : -1 ≤ dA g A B k ∧ dA g A B k < k:=by
 rcases dJ (lS (g:=g) (A:=A) (B:=B) k) with e|⟨y,e,h⟩
 · omega
 · omega
set_option maxHeartbeats 2000000 in
theorem kP (g : Pa) (A B : List Int) (hn : g.prio.length ≤ 256) : ba Try.prog 51 [paA g,.c (.I A),.c (.I B)] [] (fun _=>.c (.int .i64 (dA g A B g.prio.length))):=by
 (refine bA aF Try.func51 rfl rfl (by kernel_rfl) fun hp0 ν hX hN=>?_;simp only [cg,Nat.reduceAdd])
 (repeat' (first|(with_reducible first|(apply hK;clear hK K)|refine stZ ?_|refine aO rfl ?_|((first|apply ae|apply af);clear ae X af Y))|(with_reducible refine aR ?_;first|refine aP rfl ?_|refine aQ rfl ?_)|(with_reducible refine bi ?_;first|refine aM rfl rfl rfl rfl ?_|refine bh rfl rfl rfl ?_|refine bz rfl rfl rfl rfl ?_)|((first|(with_reducible first|((first|refine aU ?_|refine aV ?_);intro K hK)|(refine aC ?_;intro X Y ae af)|refine aD ?_)|(with_reducible refine bi ?_;refine aN rfl rfl fun X Y ae af=>?_));simp (disch:=first|decide|omega|(simp only [List.length_cons,List.length_nil];omega)) only [go_sem,↓aj hN,an hN,reduceIte,reduceCtorEq,Nat.reduceAdd,Nat.reduceLT,Nat.reduceLeDiff,Nat.reduceEqDiff,Nat.reduceSub])|(with_reducible refine And.intro (fun h=>?_) (fun h=>?_) <;> try (exfalso;omega))|(with_reducible refine aT aF hN ?_)|(with_reducible refine And.intro ?_ ?_)|(refine ak ?_;omega)|(exact aS hN (by decide))))
 (refine cr (fun (k : Nat)=>(tmL [(8,.c (.int .i64 k)),(7,.c (.int .i64 (dA g A B k))),(3,.ad (ν 0) 0),(1,.c (.I A)),(2,.c (.I B))],hpL hp0 ν [.box [.c (.I g.ar.own),.c (.R g.ar.nxt),.c (.I g.prio)]])) (fun (k : Nat)=>k ≤ g.prio.length) (fun (k : Nat)=>g.prio.length - k) ⟨0,?_,bL hX hN [] ?_ ?_⟩ ?_;(repeat' (first|(with_reducible first|exact clZ|refine bM ?_ ?_|refine bN ?_ ?_|rfl|refine suZ ?_)|refine bO rfl ?_ ?_|exact bv hN _ rfl rfl rfl|exact bw hN _ rfl rfl rfl|exact be hN _ rfl rfl rfl (Or.inr rfl)|(refine bx hN _ rfl rfl (by first|exact Or.inr rfl|exact Or.inl rfl) ?_;first|exact aJ _|exact aK _)|refine bf hN rfl ?_|refine bg hN rfl rfl ?_|exact bd hN _ rfl rfl|exact bc hN rfl rfl rfl rfl|(with_reducible first|refine stZ ?_|refine bu ?_)));(try (any_goals (first|(with_reducible rfl)|(refine ak ?_;omega)))))
 · rfl
 intro k hk
 have hbd:=nH (g:=g) (A:=A) (B:=B) k
 by_cases hkl : k < g.prio.length
 · have ca:=g9 A k
   have cb:=g9 B k
   by_cases pA : (k : Int) ∈ A <;> by_cases pB : (k : Int) ∈ B
   · rw [aA pA] at ca
     rw [aA pB] at cb
     (repeat' (first|(with_reducible first|(apply hK;clear hK K)|refine stZ ?_|refine aO rfl ?_|((first|apply ae|apply af);clear ae X af Y))|(with_reducible refine aR ?_;first|refine aP rfl ?_|refine aQ rfl ?_)|(with_reducible refine bi ?_;first|refine aM rfl rfl rfl rfl ?_|refine bh rfl rfl rfl ?_|refine bz rfl rfl rfl rfl ?_)|((first|(with_reducible first|((first|refine aU ?_|refine aV ?_);intro K hK)|(refine aC ?_;intro X Y ae af)|refine aD ?_)|(with_reducible refine bi ?_;refine aN rfl rfl fun X Y ae af=>?_));simp (disch:=first|decide|omega|(simp only [List.length_cons,List.length_nil];omega)) only [go_sem,↓aj hN,an hN,reduceIte,reduceCtorEq,Nat.reduceAdd,Nat.reduceLT,Nat.reduceLeDiff,Nat.reduceEqDiff,Nat.reduceSub])|(with_reducible refine And.intro (fun h=>?_) (fun h=>?_) <;> try (exfalso;omega))|(with_reducible refine aT aF hN ?_)|(refine aE (ca) ?_ rfl (fun _=>rfl) ?_;focus ((repeat' (first|(with_reducible first|exact am|refine ah ?_ ?_|exact aZ _|refine ay ?_|exact ax _|exact aI _ _|refine aH ?_|exact au _)|exact az hN rfl rfl|(refine aG hN rfl ?_;first|exact aJ _|exact aK _)|exact aw rfl rfl rfl));done))|(refine aE (cb) ?_ rfl (fun _=>rfl) ?_;focus ((repeat' (first|(with_reducible first|exact am|refine ah ?_ ?_|exact aZ _|refine ay ?_|exact ax _|exact aI _ _|refine aH ?_|exact au _)|exact az hN rfl rfl|(refine aG hN rfl ?_;first|exact aJ _|exact aK _)|exact aw rfl rfl rfl));done))|(with_reducible first|exact am|refine ah ?_ ?_|exact aZ _|refine ay ?_|exact ax _|exact aI _ _|refine aH ?_|exact au _)|exact az hN rfl rfl|(refine aG hN rfl ?_;first|exact aJ _|exact aK _)|exact aw rfl rfl rfl|(simp only [aY,List.map_nil])|(with_reducible refine bm ?_)|(with_reducible refine And.intro ?_ ?_)|(refine ak ?_;omega)|(exact aS hN (by decide))))
     (refine ⟨k + 1,⟨?_,?_⟩,bL hX hN [] ?_ ?_⟩;(try any_goals dsimp only);(repeat' (first|(with_reducible first|exact clZ|refine bM ?_ ?_|refine bN ?_ ?_|rfl|refine suZ ?_)|refine bO rfl ?_ ?_|exact bv hN _ rfl rfl rfl|exact bw hN _ rfl rfl rfl|exact be hN _ rfl rfl rfl (Or.inr rfl)|(refine bx hN _ rfl rfl (by first|exact Or.inr rfl|exact Or.inl rfl) ?_;first|exact aJ _|exact aK _)|refine bf hN rfl ?_|refine bg hN rfl rfl ?_|exact bd hN _ rfl rfl|exact bc hN rfl rfl rfl rfl|(with_reducible first|refine stZ ?_|refine bu ?_)));(try (any_goals (first|(with_reducible rfl)|(refine ak ?_;omega)))))
     exact (ji ⟨fun _=>pB,fun _=>pA⟩).symm
   · rw [aA pA] at ca
     rw [ao pB] at cb
     have al : ¬ Alk A B k:=fun h=>pB (h.1 pA)
     by_cases hx : dA g A B k < 0
     · (repeat' (first|(with_reducible first|(apply hK;clear hK K)|refine stZ ?_|refine aO rfl ?_|((first|apply ae|apply af);clear ae X af Y))|(with_reducible refine aR ?_;first|refine aP rfl ?_|refine aQ rfl ?_)|(with_reducible refine bi ?_;first|refine aM rfl rfl rfl rfl ?_|refine bh rfl rfl rfl ?_|refine bz rfl rfl rfl rfl ?_)|((first|(with_reducible first|((first|refine aU ?_|refine aV ?_);intro K hK)|(refine aC ?_;intro X Y ae af)|refine aD ?_)|(with_reducible refine bi ?_;refine aN rfl rfl fun X Y ae af=>?_));simp (disch:=first|decide|omega|(simp only [List.length_cons,List.length_nil];omega)) only [go_sem,↓aj hN,an hN,reduceIte,reduceCtorEq,Nat.reduceAdd,Nat.reduceLT,Nat.reduceLeDiff,Nat.reduceEqDiff,Nat.reduceSub])|(with_reducible refine And.intro (fun h=>?_) (fun h=>?_) <;> try (exfalso;omega))|(with_reducible refine aT aF hN ?_)|(refine aE (ca) ?_ rfl (fun _=>rfl) ?_;focus ((repeat' (first|(with_reducible first|exact am|refine ah ?_ ?_|exact aZ _|refine ay ?_|exact ax _|exact aI _ _|refine aH ?_|exact au _)|exact az hN rfl rfl|(refine aG hN rfl ?_;first|exact aJ _|exact aK _)|exact aw rfl rfl rfl));done))|(refine aE (cb) ?_ rfl (fun _=>rfl) ?_;focus ((repeat' (first|(with_reducible first|exact am|refine ah ?_ ?_|exact aZ _|refine ay ?_|exact ax _|exact aI _ _|refine aH ?_|exact au _)|exact az hN rfl rfl|(refine aG hN rfl ?_;first|exact aJ _|exact aK _)|exact aw rfl rfl rfl));done))|(with_reducible first|exact am|refine ah ?_ ?_|exact aZ _|refine ay ?_|exact ax _|exact aI _ _|refine aH ?_|exact au _)|exact az hN rfl rfl|(refine aG hN rfl ?_;first|exact aJ _|exact aK _)|exact aw rfl rfl rfl|(simp only [aY,List.map_nil])|(with_reducible refine bm ?_)|(with_reducible refine And.intro ?_ ?_)|(refine ak ?_;omega)|(exact aS hN (by decide))))
       (refine ⟨k + 1,⟨?_,?_⟩,bL hX hN [] ?_ ?_⟩;(try any_goals dsimp only);(repeat' (first|(with_reducible first|exact clZ|refine bM ?_ ?_|refine bN ?_ ?_|rfl|refine suZ ?_)|refine bO rfl ?_ ?_|exact bv hN _ rfl rfl rfl|exact bw hN _ rfl rfl rfl|exact be hN _ rfl rfl rfl (Or.inr rfl)|(refine bx hN _ rfl rfl (by first|exact Or.inr rfl|exact Or.inl rfl) ?_;first|exact aJ _|exact aK _)|refine bf hN rfl ?_|refine bg hN rfl rfl ?_|exact bd hN _ rfl rfl|exact bc hN rfl rfl rfl rfl|(with_reducible first|refine stZ ?_|refine bu ?_)));(try (any_goals (first|(with_reducible rfl)|(refine ak ?_;omega)))))
       exact (eJ al (.inl hx)).symm
     · have ch:=dY g k (dA g A B k) ⟨by omega,by omega⟩ ⟨by omega,by omega⟩
       by_cases hh : Hv g k (dA g A B k)
       · rw [aA hh] at ch
         (repeat' (first|(with_reducible first|(apply hK;clear hK K)|refine stZ ?_|refine aO rfl ?_|((first|apply ae|apply af);clear ae X af Y))|(with_reducible refine aR ?_;first|refine aP rfl ?_|refine aQ rfl ?_)|(with_reducible refine bi ?_;first|refine aM rfl rfl rfl rfl ?_|refine bh rfl rfl rfl ?_|refine bz rfl rfl rfl rfl ?_)|((first|(with_reducible first|((first|refine aU ?_|refine aV ?_);intro K hK)|(refine aC ?_;intro X Y ae af)|refine aD ?_)|(with_reducible refine bi ?_;refine aN rfl rfl fun X Y ae af=>?_));simp (disch:=first|decide|omega|(simp only [List.length_cons,List.length_nil];omega)) only [go_sem,↓aj hN,an hN,reduceIte,reduceCtorEq,Nat.reduceAdd,Nat.reduceLT,Nat.reduceLeDiff,Nat.reduceEqDiff,Nat.reduceSub])|(with_reducible refine And.intro (fun h=>?_) (fun h=>?_) <;> try (exfalso;omega))|(with_reducible refine aT aF hN ?_)|((first|refine aE (ca) ?_ rfl (fun _=>rfl) ?_|refine aE (ch) ?_ rfl (fun _=>rfl) ?_);focus ((repeat' (first|(with_reducible first|exact am|refine ah ?_ ?_|exact aZ _|refine ay ?_|exact ax _|exact aI _ _|refine aH ?_|exact au _)|exact az hN rfl rfl|(refine aG hN rfl ?_;first|exact aJ _|exact aK _)|exact aw rfl rfl rfl));done))|(refine aE (cb) ?_ rfl (fun _=>rfl) ?_;focus ((repeat' (first|(with_reducible first|exact am|refine ah ?_ ?_|exact aZ _|refine ay ?_|exact ax _|exact aI _ _|refine aH ?_|exact au _)|exact az hN rfl rfl|(refine aG hN rfl ?_;first|exact aJ _|exact aK _)|exact aw rfl rfl rfl));done))|(with_reducible first|exact am|refine ah ?_ ?_|exact aZ _|refine ay ?_|exact ax _|exact aI _ _|refine aH ?_|exact au _)|exact az hN rfl rfl|(refine aG hN rfl ?_;first|exact aJ _|exact aK _)|exact aw rfl rfl rfl|(simp only [aY,List.map_nil])|(with_reducible refine bm ?_)|(with_reducible refine And.intro ?_ ?_)|(refine ak ?_;omega)|(exact aS hN (by decide))))
         (refine ⟨k + 1,⟨?_,?_⟩,bL hX hN [] ?_ ?_⟩;(try any_goals dsimp only);(repeat' (first|(with_reducible first|exact clZ|refine bM ?_ ?_|refine bN ?_ ?_|rfl|refine suZ ?_)|refine bO rfl ?_ ?_|exact bv hN _ rfl rfl rfl|exact bw hN _ rfl rfl rfl|exact be hN _ rfl rfl rfl (Or.inr rfl)|(refine bx hN _ rfl rfl (by first|exact Or.inr rfl|exact Or.inl rfl) ?_;first|exact aJ _|exact aK _)|refine bf hN rfl ?_|refine bg hN rfl rfl ?_|exact bd hN _ rfl rfl|exact bc hN rfl rfl rfl rfl|(with_reducible first|refine stZ ?_|refine bu ?_)));(try (any_goals (first|(with_reducible rfl)|(refine ak ?_;omega)))))
         exact (eJ al (.inr hh)).symm
       · rw [ao hh] at ch
         (repeat' (first|(with_reducible first|(apply hK;clear hK K)|refine stZ ?_|refine aO rfl ?_|((first|apply ae|apply af);clear ae X af Y))|(with_reducible refine aR ?_;first|refine aP rfl ?_|refine aQ rfl ?_)|(with_reducible refine bi ?_;first|refine aM rfl rfl rfl rfl ?_|refine bh rfl rfl rfl ?_|refine bz rfl rfl rfl rfl ?_)|((first|(with_reducible first|((first|refine aU ?_|refine aV ?_);intro K hK)|(refine aC ?_;intro X Y ae af)|refine aD ?_)|(with_reducible refine bi ?_;refine aN rfl rfl fun X Y ae af=>?_));simp (disch:=first|decide|omega|(simp only [List.length_cons,List.length_nil];omega)) only [go_sem,↓aj hN,an hN,reduceIte,reduceCtorEq,Nat.reduceAdd,Nat.reduceLT,Nat.reduceLeDiff,Nat.reduceEqDiff,Nat.reduceSub])|(with_reducible refine And.intro (fun h=>?_) (fun h=>?_) <;> try (exfalso;omega))|(with_reducible refine aT aF hN ?_)|((first|refine aE (ca) ?_ rfl (fun _=>rfl) ?_|refine aE (ch) ?_ rfl (fun _=>rfl) ?_);focus ((repeat' (first|(with_reducible first|exact am|refine ah ?_ ?_|exact aZ _|refine ay ?_|exact ax _|exact aI _ _|refine aH ?_|exact au _)|exact az hN rfl rfl|(refine aG hN rfl ?_;first|exact aJ _|exact aK _)|exact aw rfl rfl rfl));done))|(refine aE (cb) ?_ rfl (fun _=>rfl) ?_;focus ((repeat' (first|(with_reducible first|exact am|refine ah ?_ ?_|exact aZ _|refine ay ?_|exact ax _|exact aI _ _|refine aH ?_|exact au _)|exact az hN rfl rfl|(refine aG hN rfl ?_;first|exact aJ _|exact aK _)|exact aw rfl rfl rfl));done))|(with_reducible first|exact am|refine ah ?_ ?_|exact aZ _|refine ay ?_|exact ax _|exact aI _ _|refine aH ?_|exact au _)|exact az hN rfl rfl|(refine aG hN rfl ?_;first|exact aJ _|exact aK _)|exact aw rfl rfl rfl|(simp only [aY,List.map_nil])|(with_reducible refine bm ?_)|(with_reducible refine And.intro ?_ ?_)|(refine ak ?_;omega)|(exact aS hN (by decide))))
         (refine ⟨k + 1,⟨?_,?_⟩,bL hX hN [] ?_ ?_⟩;(try any_goals dsimp only);(repeat' (first|(with_reducible first|exact clZ|refine bM ?_ ?_|refine bN ?_ ?_|rfl|refine suZ ?_)|refine bO rfl ?_ ?_|exact bv hN _ rfl rfl rfl|exact bw hN _ rfl rfl rfl|exact be hN _ rfl rfl rfl (Or.inr rfl)|(refine bx hN _ rfl rfl (by first|exact Or.inr rfl|exact Or.inl rfl) ?_;first|exact aJ _|exact aK _)|refine bf hN rfl ?_|refine bg hN rfl rfl ?_|exact bd hN _ rfl rfl|exact bc hN rfl rfl rfl rfl|(with_reducible first|refine stZ ?_|refine bu ?_)));(try (any_goals (first|(with_reducible rfl)|(refine ak ?_;omega)))))
         exact (kO (by omega) hh).symm
   · rw [ao pA] at ca
     rw [aA pB] at cb
     have al : ¬ Alk A B k:=fun h=>pA (h.2 pB)
     by_cases hx : dA g A B k < 0
     · (repeat' (first|(with_reducible first|(apply hK;clear hK K)|refine stZ ?_|refine aO rfl ?_|((first|apply ae|apply af);clear ae X af Y))|(with_reducible refine aR ?_;first|refine aP rfl ?_|refine aQ rfl ?_)|(with_reducible refine bi ?_;first|refine aM rfl rfl rfl rfl ?_|refine bh rfl rfl rfl ?_|refine bz rfl rfl rfl rfl ?_)|((first|(with_reducible first|((first|refine aU ?_|refine aV ?_);intro K hK)|(refine aC ?_;intro X Y ae af)|refine aD ?_)|(with_reducible refine bi ?_;refine aN rfl rfl fun X Y ae af=>?_));simp (disch:=first|decide|omega|(simp only [List.length_cons,List.length_nil];omega)) only [go_sem,↓aj hN,an hN,reduceIte,reduceCtorEq,Nat.reduceAdd,Nat.reduceLT,Nat.reduceLeDiff,Nat.reduceEqDiff,Nat.reduceSub])|(with_reducible refine And.intro (fun h=>?_) (fun h=>?_) <;> try (exfalso;omega))|(with_reducible refine aT aF hN ?_)|(refine aE (ca) ?_ rfl (fun _=>rfl) ?_;focus ((repeat' (first|(with_reducible first|exact am|refine ah ?_ ?_|exact aZ _|refine ay ?_|exact ax _|exact aI _ _|refine aH ?_|exact au _)|exact az hN rfl rfl|(refine aG hN rfl ?_;first|exact aJ _|exact aK _)|exact aw rfl rfl rfl));done))|(refine aE (cb) ?_ rfl (fun _=>rfl) ?_;focus ((repeat' (first|(with_reducible first|exact am|refine ah ?_ ?_|exact aZ _|refine ay ?_|exact ax _|exact aI _ _|refine aH ?_|exact au _)|exact az hN rfl rfl|(refine aG hN rfl ?_;first|exact aJ _|exact aK _)|exact aw rfl rfl rfl));done))|(with_reducible first|exact am|refine ah ?_ ?_|exact aZ _|refine ay ?_|exact ax _|exact aI _ _|refine aH ?_|exact au _)|exact az hN rfl rfl|(refine aG hN rfl ?_;first|exact aJ _|exact aK _)|exact aw rfl rfl rfl|(simp only [aY,List.map_nil])|(with_reducible refine bm ?_)|(with_reducible refine And.intro ?_ ?_)|(refine ak ?_;omega)|(exact aS hN (by decide))))
       (refine ⟨k + 1,⟨?_,?_⟩,bL hX hN [] ?_ ?_⟩;(try any_goals dsimp only);(repeat' (first|(with_reducible first|exact clZ|refine bM ?_ ?_|refine bN ?_ ?_|rfl|refine suZ ?_)|refine bO rfl ?_ ?_|exact bv hN _ rfl rfl rfl|exact bw hN _ rfl rfl rfl|exact be hN _ rfl rfl rfl (Or.inr rfl)|(refine bx hN _ rfl rfl (by first|exact Or.inr rfl|exact Or.inl rfl) ?_;first|exact aJ _|exact aK _)|refine bf hN rfl ?_|refine bg hN rfl rfl ?_|exact bd hN _ rfl rfl|exact bc hN rfl rfl rfl rfl|(with_reducible first|refine stZ ?_|refine bu ?_)));(try (any_goals (first|(with_reducible rfl)|(refine ak ?_;omega)))))
       exact (eJ al (.inl hx)).symm
     · have ch:=dY g k (dA g A B k) ⟨by omega,by omega⟩ ⟨by omega,by omega⟩
       by_cases hh : Hv g k (dA g A B k)
       · rw [aA hh] at ch
         (repeat' (first|(with_reducible first|(apply hK;clear hK K)|refine stZ ?_|refine aO rfl ?_|((first|apply ae|apply af);clear ae X af Y))|(with_reducible refine aR ?_;first|refine aP rfl ?_|refine aQ rfl ?_)|(with_reducible refine bi ?_;first|refine aM rfl rfl rfl rfl ?_|refine bh rfl rfl rfl ?_|refine bz rfl rfl rfl rfl ?_)|((first|(with_reducible first|((first|refine aU ?_|refine aV ?_);intro K hK)|(refine aC ?_;intro X Y ae af)|refine aD ?_)|(with_reducible refine bi ?_;refine aN rfl rfl fun X Y ae af=>?_));simp (disch:=first|decide|omega|(simp only [List.length_cons,List.length_nil];omega)) only [go_sem,↓aj hN,an hN,reduceIte,reduceCtorEq,Nat.reduceAdd,Nat.reduceLT,Nat.reduceLeDiff,Nat.reduceEqDiff,Nat.reduceSub])|(with_reducible refine And.intro (fun h=>?_) (fun h=>?_) <;> try (exfalso;omega))|(with_reducible refine aT aF hN ?_)|((first|refine aE (ca) ?_ rfl (fun _=>rfl) ?_|refine aE (ch) ?_ rfl (fun _=>rfl) ?_);focus ((repeat' (first|(with_reducible first|exact am|refine ah ?_ ?_|exact aZ _|refine ay ?_|exact ax _|exact aI _ _|refine aH ?_|exact au _)|exact az hN rfl rfl|(refine aG hN rfl ?_;first|exact aJ _|exact aK _)|exact aw rfl rfl rfl));done))|(refine aE (cb) ?_ rfl (fun _=>rfl) ?_;focus ((repeat' (first|(with_reducible first|exact am|refine ah ?_ ?_|exact aZ _|refine ay ?_|exact ax _|exact aI _ _|refine aH ?_|exact au _)|exact az hN rfl rfl|(refine aG hN rfl ?_;first|exact aJ _|exact aK _)|exact aw rfl rfl rfl));done))|(with_reducible first|exact am|refine ah ?_ ?_|exact aZ _|refine ay ?_|exact ax _|exact aI _ _|refine aH ?_|exact au _)|exact az hN rfl rfl|(refine aG hN rfl ?_;first|exact aJ _|exact aK _)|exact aw rfl rfl rfl|(simp only [aY,List.map_nil])|(with_reducible refine bm ?_)|(with_reducible refine And.intro ?_ ?_)|(refine ak ?_;omega)|(exact aS hN (by decide))))
         (refine ⟨k + 1,⟨?_,?_⟩,bL hX hN [] ?_ ?_⟩;(try any_goals dsimp only);(repeat' (first|(with_reducible first|exact clZ|refine bM ?_ ?_|refine bN ?_ ?_|rfl|refine suZ ?_)|refine bO rfl ?_ ?_|exact bv hN _ rfl rfl rfl|exact bw hN _ rfl rfl rfl|exact be hN _ rfl rfl rfl (Or.inr rfl)|(refine bx hN _ rfl rfl (by first|exact Or.inr rfl|exact Or.inl rfl) ?_;first|exact aJ _|exact aK _)|refine bf hN rfl ?_|refine bg hN rfl rfl ?_|exact bd hN _ rfl rfl|exact bc hN rfl rfl rfl rfl|(with_reducible first|refine stZ ?_|refine bu ?_)));(try (any_goals (first|(with_reducible rfl)|(refine ak ?_;omega)))))
         exact (eJ al (.inr hh)).symm
       · rw [ao hh] at ch
         (repeat' (first|(with_reducible first|(apply hK;clear hK K)|refine stZ ?_|refine aO rfl ?_|((first|apply ae|apply af);clear ae X af Y))|(with_reducible refine aR ?_;first|refine aP rfl ?_|refine aQ rfl ?_)|(with_reducible refine bi ?_;first|refine aM rfl rfl rfl rfl ?_|refine bh rfl rfl rfl ?_|refine bz rfl rfl rfl rfl ?_)|((first|(with_reducible first|((first|refine aU ?_|refine aV ?_);intro K hK)|(refine aC ?_;intro X Y ae af)|refine aD ?_)|(with_reducible refine bi ?_;refine aN rfl rfl fun X Y ae af=>?_));simp (disch:=first|decide|omega|(simp only [List.length_cons,List.length_nil];omega)) only [go_sem,↓aj hN,an hN,reduceIte,reduceCtorEq,Nat.reduceAdd,Nat.reduceLT,Nat.reduceLeDiff,Nat.reduceEqDiff,Nat.reduceSub])|(with_reducible refine And.intro (fun h=>?_) (fun h=>?_) <;> try (exfalso;omega))|(with_reducible refine aT aF hN ?_)|((first|refine aE (ca) ?_ rfl (fun _=>rfl) ?_|refine aE (ch) ?_ rfl (fun _=>rfl) ?_);focus ((repeat' (first|(with_reducible first|exact am|refine ah ?_ ?_|exact aZ _|refine ay ?_|exact ax _|exact aI _ _|refine aH ?_|exact au _)|exact az hN rfl rfl|(refine aG hN rfl ?_;first|exact aJ _|exact aK _)|exact aw rfl rfl rfl));done))|(refine aE (cb) ?_ rfl (fun _=>rfl) ?_;focus ((repeat' (first|(with_reducible first|exact am|refine ah ?_ ?_|exact aZ _|refine ay ?_|exact ax _|exact aI _ _|refine aH ?_|exact au _)|exact az hN rfl rfl|(refine aG hN rfl ?_;first|exact aJ _|exact aK _)|exact aw rfl rfl rfl));done))|(with_reducible first|exact am|refine ah ?_ ?_|exact aZ _|refine ay ?_|exact ax _|exact aI _ _|refine aH ?_|exact au _)|exact az hN rfl rfl|(refine aG hN rfl ?_;first|exact aJ _|exact aK _)|exact aw rfl rfl rfl|(simp only [aY,List.map_nil])|(with_reducible refine bm ?_)|(with_reducible refine And.intro ?_ ?_)|(refine ak ?_;omega)|(exact aS hN (by decide))))
         (refine ⟨k + 1,⟨?_,?_⟩,bL hX hN [] ?_ ?_⟩;(try any_goals dsimp only);(repeat' (first|(with_reducible first|exact clZ|refine bM ?_ ?_|refine bN ?_ ?_|rfl|refine suZ ?_)|refine bO rfl ?_ ?_|exact bv hN _ rfl rfl rfl|exact bw hN _ rfl rfl rfl|exact be hN _ rfl rfl rfl (Or.inr rfl)|(refine bx hN _ rfl rfl (by first|exact Or.inr rfl|exact Or.inl rfl) ?_;first|exact aJ _|exact aK _)|refine bf hN rfl ?_|refine bg hN rfl rfl ?_|exact bd hN _ rfl rfl|exact bc hN rfl rfl rfl rfl|(with_reducible first|refine stZ ?_|refine bu ?_)));(try (any_goals (first|(with_reducible rfl)|(refine ak ?_;omega)))))
         exact (kO (by omega) hh).symm
   · rw [ao pA] at ca
     rw [ao pB] at cb
     (repeat' (first|(with_reducible first|(apply hK;clear hK K)|refine stZ ?_|refine aO rfl ?_|((first|apply ae|apply af);clear ae X af Y))|(with_reducible refine aR ?_;first|refine aP rfl ?_|refine aQ rfl ?_)|(with_reducible refine bi ?_;first|refine aM rfl rfl rfl rfl ?_|refine bh rfl rfl rfl ?_|refine bz rfl rfl rfl rfl ?_)|((first|(with_reducible first|((first|refine aU ?_|refine aV ?_);intro K hK)|(refine aC ?_;intro X Y ae af)|refine aD ?_)|(with_reducible refine bi ?_;refine aN rfl rfl fun X Y ae af=>?_));simp (disch:=first|decide|omega|(simp only [List.length_cons,List.length_nil];omega)) only [go_sem,↓aj hN,an hN,reduceIte,reduceCtorEq,Nat.reduceAdd,Nat.reduceLT,Nat.reduceLeDiff,Nat.reduceEqDiff,Nat.reduceSub])|(with_reducible refine And.intro (fun h=>?_) (fun h=>?_) <;> try (exfalso;omega))|(with_reducible refine aT aF hN ?_)|(refine aE (ca) ?_ rfl (fun _=>rfl) ?_;focus ((repeat' (first|(with_reducible first|exact am|refine ah ?_ ?_|exact aZ _|refine ay ?_|exact ax _|exact aI _ _|refine aH ?_|exact au _)|exact az hN rfl rfl|(refine aG hN rfl ?_;first|exact aJ _|exact aK _)|exact aw rfl rfl rfl));done))|(refine aE (cb) ?_ rfl (fun _=>rfl) ?_;focus ((repeat' (first|(with_reducible first|exact am|refine ah ?_ ?_|exact aZ _|refine ay ?_|exact ax _|exact aI _ _|refine aH ?_|exact au _)|exact az hN rfl rfl|(refine aG hN rfl ?_;first|exact aJ _|exact aK _)|exact aw rfl rfl rfl));done))|(with_reducible first|exact am|refine ah ?_ ?_|exact aZ _|refine ay ?_|exact ax _|exact aI _ _|refine aH ?_|exact au _)|exact az hN rfl rfl|(refine aG hN rfl ?_;first|exact aJ _|exact aK _)|exact aw rfl rfl rfl|(simp only [aY,List.map_nil])|(with_reducible refine bm ?_)|(with_reducible refine And.intro ?_ ?_)|(refine ak ?_;omega)|(exact aS hN (by decide))))
     (refine ⟨k + 1,⟨?_,?_⟩,bL hX hN [] ?_ ?_⟩;(try any_goals dsimp only);(repeat' (first|(with_reducible first|exact clZ|refine bM ?_ ?_|refine bN ?_ ?_|rfl|refine suZ ?_)|refine bO rfl ?_ ?_|exact bv hN _ rfl rfl rfl|exact bw hN _ rfl rfl rfl|exact be hN _ rfl rfl rfl (Or.inr rfl)|(refine bx hN _ rfl rfl (by first|exact Or.inr rfl|exact Or.inl rfl) ?_;first|exact aJ _|exact aK _)|refine bf hN rfl ?_|refine bg hN rfl rfl ?_|exact bd hN _ rfl rfl|exact bc hN rfl rfl rfl rfl|(with_reducible first|refine stZ ?_|refine bu ?_)));(try (any_goals (first|(with_reducible rfl)|(refine ak ?_;omega)))))
     exact (ji ⟨fun h=>absurd h pA,fun h=>absurd h pB⟩).symm
 · obtain rfl : k = g.prio.length:=by omega
   (repeat' (first|(with_reducible first|(apply hK;clear hK K)|refine stZ ?_|refine aO rfl ?_|((first|apply ae|apply af);clear ae X af Y))|(with_reducible refine aR ?_;first|refine aP rfl ?_|refine aQ rfl ?_)|(with_reducible refine bi ?_;first|refine aM rfl rfl rfl rfl ?_|refine bh rfl rfl rfl ?_|refine bz rfl rfl rfl rfl ?_)|((first|(with_reducible first|((first|refine aU ?_|refine aV ?_);intro K hK)|(refine aC ?_;intro X Y ae af)|refine aD ?_)|(with_reducible refine bi ?_;refine aN rfl rfl fun X Y ae af=>?_));simp (disch:=first|decide|omega|(simp only [List.length_cons,List.length_nil];omega)) only [go_sem,↓aj hN,an hN,reduceIte,reduceCtorEq,Nat.reduceAdd,Nat.reduceLT,Nat.reduceLeDiff,Nat.reduceEqDiff,Nat.reduceSub])|(with_reducible refine And.intro (fun h=>?_) (fun h=>?_) <;> try (exfalso;omega))|(with_reducible refine aT aF hN ?_)|(with_reducible refine And.intro ?_ ?_)|(refine ak ?_;omega)|(exact aS hN (by decide))))
   (refine bT (.inr rfl) (by first|rfl|(simp (disch:=first|decide|omega|(simp only [List.length_cons,List.length_nil];omega)) only [bR,bU,bX,bY,go_sem,beq_self_eq_true,↓aW,↓aj hN,an hN,reduceIte,reduceCtorEq,Nat.reduceAdd,Nat.reduceLT,Nat.reduceLeDiff,Nat.reduceEqDiff,Nat.reduceSub];rfl)) ?_)
   rfl
set_option maxHeartbeats 4000000 in
theorem kQ (g : Pa) (hg : PaOk g) (a b : Wt) (ha : WtOk g a) (hb : WtOk g b) : ba Try.prog 35 [paA g,wtA a,wtA b] [] (fun _=>.c (.bool (tf (d6 g a b)))):=by
 have hl:=hg.len
 have hle:=hg.ar.le
 have ha1:=ha.hd
 have hb1:=hb.hd
 have cea:=gc g hg a.hd ha1
 have ceb:=gc g hg b.hd hb1
 have ch1:=dY g a.hd b.hd ha1 hb1
 have cu:=kP g a.ov b.ov (by omega)
 have hI:=lS (g:=g) (A:=a.ov) (B:=b.ov) g.prio.length
 have hbd:=nH (g:=g) (A:=a.ov) (B:=b.ov) g.prio.length
 generalize dA g a.ov b.ov g.prio.length = x at *
 have cex : 0 ≤ x → ba Try.prog 50 [paA g,.c (.int .i64 x)] [] (fun _=>.c (.bool (tf (EvP g x)))):=fun h=>gc g hg x ⟨h,hbd.2⟩
 have chx:=g9 a.ov x
 by_cases hh : a.hd = b.hd
 · by_cases hx : 0 ≤ x
   · have cex:=cex hx
     rcases dJ hI with e|⟨y,rfl,y1⟩
     · omega
     obtain ⟨_,hbo⟩:=mH hI
     have key:=(mI ((y : Int) ∈ a.ov) (EvP g y)).trans (cQ (show (EvP g y ↔ (y : Int) ∈ a.ov) ↔ d6 g a b from ⟨fun h=>(iJ hh hI hbo).1 h.symm,fun h=>((iJ hh hI hbo).2 h).symm⟩))
     (refine bA aF Try.func35 rfl rfl (by kernel_rfl) fun hp0 ν hX hN=>?_;simp only [cg,Nat.reduceAdd])
     (repeat' (first|(with_reducible first|(apply hK;clear hK K)|refine stZ ?_|refine aO rfl ?_|((first|apply ae|apply af);clear ae X af Y))|(with_reducible refine aR ?_;first|refine aP rfl ?_|refine aQ rfl ?_)|(with_reducible refine bB ?_;refine bE hN ?_)|((with_reducible first|((first|refine aU ?_|refine bF ?_|refine aV ?_|refine bG ?_);intro K hK)|(refine aC ?_;intro X Y ae af)|refine aD ?_);simp (disch:=first|decide|omega|(simp only [List.length_cons,List.length_nil];omega)) only [go_sem,↓aj hN,an hN,reduceIte,reduceCtorEq,Nat.reduceAdd,Nat.reduceLT,Nat.reduceLeDiff,Nat.reduceEqDiff,Nat.reduceSub])|(with_reducible refine And.intro (fun h=>?_) (fun h=>?_) <;> try (exfalso;omega))|(with_reducible refine aT aF hN ?_)|(with_reducible refine aX aF hN ?_)|((first|refine aE (cu) ?_ rfl (fun _=>rfl) ?_|refine aE (chx) ?_ rfl (fun _=>rfl) ?_);focus ((repeat' (first|(with_reducible first|exact am|refine ah ?_ ?_|exact aZ _|refine ay ?_|exact ax _|exact aI _ _|refine aH ?_|exact au _)|exact az hN rfl rfl|(refine aG hN rfl ?_;first|exact aJ _|exact aK _)|exact aw rfl rfl rfl));done))|(refine aE (cex) ?_ rfl (fun _=>rfl) ?_;focus ((repeat' (first|(with_reducible first|exact am|refine ah ?_ ?_|exact aZ _|refine ay ?_|exact ax _|exact aI _ _|refine aH ?_|exact au _)|exact az hN rfl rfl|(refine aG hN rfl ?_;first|exact aJ _|exact aK _)|exact aw rfl rfl rfl));done))|(with_reducible first|exact am|refine ah ?_ ?_|exact aZ _|refine ay ?_|exact ax _|exact aI _ _|refine aH ?_|exact au _)|exact az hN rfl rfl|(refine aG hN rfl ?_;first|exact aJ _|exact aK _)|exact aw rfl rfl rfl|(simp only [aY,List.map_nil])|(with_reducible refine bm ?_)|(with_reducible refine And.intro ?_ ?_)|(refine ak ?_;omega)|(exact aS hN (by decide))))
     all_goals first|(exact absurd hh (cU (by assumption)))|((refine bT (.inr rfl) (by first|rfl|(simp (disch:=first|decide|omega|(simp only [List.length_cons,List.length_nil];omega)) only [bR,bU,bX,bY,go_sem,beq_self_eq_true,↓aW,↓aj hN,an hN,reduceIte,reduceCtorEq,Nat.reduceAdd,Nat.reduceLT,Nat.reduceLeDiff,Nat.reduceEqDiff,Nat.reduceSub];rfl)) ?_);exact congrArg C.bool key)
   · have e : x = -1:=by omega
     subst e
     have hal:=mG hI
     by_cases pe : EvP g a.hd
     · rw [aA pe] at cea
       (refine bA aF Try.func35 rfl rfl (by kernel_rfl) fun hp0 ν hX hN=>?_;simp only [cg,Nat.reduceAdd])
       (repeat' (first|(with_reducible first|(apply hK;clear hK K)|refine stZ ?_|refine aO rfl ?_|((first|apply ae|apply af);clear ae X af Y))|(with_reducible refine aR ?_;first|refine aP rfl ?_|refine aQ rfl ?_)|(with_reducible refine bB ?_;refine bE hN ?_)|((with_reducible first|((first|refine aU ?_|refine bF ?_|refine aV ?_|refine bG ?_);intro K hK)|(refine aC ?_;intro X Y ae af)|refine aD ?_);simp (disch:=first|decide|omega|(simp only [List.length_cons,List.length_nil];omega)) only [go_sem,↓aj hN,an hN,reduceIte,reduceCtorEq,Nat.reduceAdd,Nat.reduceLT,Nat.reduceLeDiff,Nat.reduceEqDiff,Nat.reduceSub])|(with_reducible refine And.intro (fun h=>?_) (fun h=>?_) <;> try (exfalso;omega))|(with_reducible refine aT aF hN ?_)|(with_reducible refine aX aF hN ?_)|((first|refine aE (cu) ?_ rfl (fun _=>rfl) ?_|refine aE (cea) ?_ rfl (fun _=>rfl) ?_);focus ((repeat' (first|(with_reducible first|exact am|refine ah ?_ ?_|exact aZ _|refine ay ?_|exact ax _|exact aI _ _|refine aH ?_|exact au _)|exact az hN rfl rfl|(refine aG hN rfl ?_;first|exact aJ _|exact aK _)|exact aw rfl rfl rfl));done))|(with_reducible first|exact am|refine ah ?_ ?_|exact aZ _|refine ay ?_|exact ax _|exact aI _ _|refine aH ?_|exact au _)|exact az hN rfl rfl|(refine aG hN rfl ?_;first|exact aJ _|exact aK _)|exact aw rfl rfl rfl|(simp only [aY,List.map_nil])|(with_reducible refine bm ?_)|(with_reducible refine And.intro ?_ ?_)|(refine ak ?_;omega)|(exact aS hN (by decide))))
       all_goals first|(exact absurd hh (cU (by assumption)))|((refine bT (.inr rfl) (by first|rfl|(simp (disch:=first|decide|omega|(simp only [List.length_cons,List.length_nil];omega)) only [bR,bU,bX,bY,go_sem,beq_self_eq_true,↓aW,↓aj hN,an hN,reduceIte,reduceCtorEq,Nat.reduceAdd,Nat.reduceLT,Nat.reduceLeDiff,Nat.reduceEqDiff,Nat.reduceSub];rfl)) ?_);exact congrArg C.bool (fY (nC hh hal pe)))
     · rw [ao pe] at cea
       (refine bA aF Try.func35 rfl rfl (by kernel_rfl) fun hp0 ν hX hN=>?_;simp only [cg,Nat.reduceAdd])
       (repeat' (first|(with_reducible first|(apply hK;clear hK K)|refine stZ ?_|refine aO rfl ?_|((first|apply ae|apply af);clear ae X af Y))|(with_reducible refine aR ?_;first|refine aP rfl ?_|refine aQ rfl ?_)|(with_reducible refine bB ?_;refine bE hN ?_)|((with_reducible first|((first|refine aU ?_|refine bF ?_|refine aV ?_|refine bG ?_);intro K hK)|(refine aC ?_;intro X Y ae af)|refine aD ?_);simp (disch:=first|decide|omega|(simp only [List.length_cons,List.length_nil];omega)) only [go_sem,↓aj hN,an hN,reduceIte,reduceCtorEq,Nat.reduceAdd,Nat.reduceLT,Nat.reduceLeDiff,Nat.reduceEqDiff,Nat.reduceSub])|(with_reducible refine And.intro (fun h=>?_) (fun h=>?_) <;> try (exfalso;omega))|(with_reducible refine aT aF hN ?_)|(with_reducible refine aX aF hN ?_)|((first|refine aE (cu) ?_ rfl (fun _=>rfl) ?_|refine aE (cea) ?_ rfl (fun _=>rfl) ?_);focus ((repeat' (first|(with_reducible first|exact am|refine ah ?_ ?_|exact aZ _|refine ay ?_|exact ax _|exact aI _ _|refine aH ?_|exact au _)|exact az hN rfl rfl|(refine aG hN rfl ?_;first|exact aJ _|exact aK _)|exact aw rfl rfl rfl));done))|(with_reducible first|exact am|refine ah ?_ ?_|exact aZ _|refine ay ?_|exact ax _|exact aI _ _|refine aH ?_|exact au _)|exact az hN rfl rfl|(refine aG hN rfl ?_;first|exact aJ _|exact aK _)|exact aw rfl rfl rfl|(simp only [aY,List.map_nil])|(with_reducible refine bm ?_)|(with_reducible refine And.intro ?_ ?_)|(refine ak ?_;omega)|(exact aS hN (by decide))))
       all_goals first|(exact absurd hh (cU (by assumption)))|((refine bT (.inr rfl) (by first|rfl|(simp (disch:=first|decide|omega|(simp only [List.length_cons,List.length_nil];omega)) only [bR,bU,bX,bY,go_sem,beq_self_eq_true,↓aW,↓aj hN,an hN,reduceIte,reduceCtorEq,Nat.reduceAdd,Nat.reduceLT,Nat.reduceLeDiff,Nat.reduceEqDiff,Nat.reduceSub];rfl)) ?_);exact congrArg C.bool (fY (nD hh hal pe)))
 · have hdif : d6 g a b ↔ HR g a.hd b.hd:=⟨fun h=>h.elim (fun h=>h.2) fun h=>absurd h.1 hh,fun h=>.inl ⟨hh,h⟩⟩
   rw [cQ hdif]
   by_cases pa : EvP g a.hd <;> by_cases pb : EvP g b.hd
   · have key : (tf (Hv g a.hd b.hd) == true) = tf (HR g a.hd b.hd):=by
      rw [cQ (show HR g a.hd b.hd ↔ Hv g a.hd b.hd from ⟨fun h=>h.elim (fun h=>absurd pb h.2) fun h=>h.elim (fun h=>h.2.2) fun h=>absurd pa h.1,fun h=>.inr (.inl ⟨pa,pb,h⟩)⟩)]
      exact beq_true _
     rw [aA pa] at cea
     rw [aA pb] at ceb
     (refine bA aF Try.func35 rfl rfl (by kernel_rfl) fun hp0 ν hX hN=>?_;simp only [cg,Nat.reduceAdd])
     (repeat' (first|(with_reducible first|(apply hK;clear hK K)|refine stZ ?_|refine aO rfl ?_|((first|apply ae|apply af);clear ae X af Y))|(with_reducible refine aR ?_;first|refine aP rfl ?_|refine aQ rfl ?_)|(with_reducible refine bB ?_;refine bE hN ?_)|((with_reducible first|((first|refine aU ?_|refine bF ?_|refine aV ?_|refine bG ?_);intro K hK)|(refine aC ?_;intro X Y ae af)|refine aD ?_);simp (disch:=first|decide|omega|(simp only [List.length_cons,List.length_nil];omega)) only [go_sem,↓aj hN,an hN,reduceIte,reduceCtorEq,Nat.reduceAdd,Nat.reduceLT,Nat.reduceLeDiff,Nat.reduceEqDiff,Nat.reduceSub])|(with_reducible refine And.intro (fun h=>?_) (fun h=>?_) <;> try (exfalso;omega))|(with_reducible refine aT aF hN ?_)|(with_reducible refine aX aF hN ?_)|((first|refine aE (cea) ?_ rfl (fun _=>rfl) ?_|refine aE (ch1) ?_ rfl (fun _=>rfl) ?_);focus ((repeat' (first|(with_reducible first|exact am|refine ah ?_ ?_|exact aZ _|refine ay ?_|exact ax _|exact aI _ _|refine aH ?_|exact au _)|exact az hN rfl rfl|(refine aG hN rfl ?_;first|exact aJ _|exact aK _)|exact aw rfl rfl rfl));done))|(refine aE (ceb) ?_ rfl (fun _=>rfl) ?_;focus ((repeat' (first|(with_reducible first|exact am|refine ah ?_ ?_|exact aZ _|refine ay ?_|exact ax _|exact aI _ _|refine aH ?_|exact au _)|exact az hN rfl rfl|(refine aG hN rfl ?_;first|exact aJ _|exact aK _)|exact aw rfl rfl rfl));done))|(with_reducible first|exact am|refine ah ?_ ?_|exact aZ _|refine ay ?_|exact ax _|exact aI _ _|refine aH ?_|exact au _)|exact az hN rfl rfl|(refine aG hN rfl ?_;first|exact aJ _|exact aK _)|exact aw rfl rfl rfl|(simp only [aY,List.map_nil])|(with_reducible refine bm ?_)|(with_reducible refine And.intro ?_ ?_)|(refine ak ?_;omega)|(exact aS hN (by decide))))
     all_goals first|(exact absurd (b9 (by assumption)) hh)|((refine bT (.inr rfl) (by first|rfl|(simp (disch:=first|decide|omega|(simp only [List.length_cons,List.length_nil];omega)) only [bR,bU,bX,bY,go_sem,beq_self_eq_true,↓aW,↓aj hN,an hN,reduceIte,reduceCtorEq,Nat.reduceAdd,Nat.reduceLT,Nat.reduceLeDiff,Nat.reduceEqDiff,Nat.reduceSub];rfl)) ?_);exact congrArg C.bool key)
   · rw [aA pa] at cea
     rw [ao pb] at ceb
     have key : true = tf (HR g a.hd b.hd):=(aA (.inl ⟨pa,pb⟩)).symm
     (refine bA aF Try.func35 rfl rfl (by kernel_rfl) fun hp0 ν hX hN=>?_;simp only [cg,Nat.reduceAdd])
     (repeat' (first|(with_reducible first|(apply hK;clear hK K)|refine stZ ?_|refine aO rfl ?_|((first|apply ae|apply af);clear ae X af Y))|(with_reducible refine aR ?_;first|refine aP rfl ?_|refine aQ rfl ?_)|(with_reducible refine bB ?_;refine bE hN ?_)|((with_reducible first|((first|refine aU ?_|refine bF ?_|refine aV ?_|refine bG ?_);intro K hK)|(refine aC ?_;intro X Y ae af)|refine aD ?_);simp (disch:=first|decide|omega|(simp only [List.length_cons,List.length_nil];omega)) only [go_sem,↓aj hN,an hN,reduceIte,reduceCtorEq,Nat.reduceAdd,Nat.reduceLT,Nat.reduceLeDiff,Nat.reduceEqDiff,Nat.reduceSub])|(with_reducible refine And.intro (fun h=>?_) (fun h=>?_) <;> try (exfalso;omega))|(with_reducible refine aT aF hN ?_)|(with_reducible refine aX aF hN ?_)|(refine aE (cea) ?_ rfl (fun _=>rfl) ?_;focus ((repeat' (first|(with_reducible first|exact am|refine ah ?_ ?_|exact aZ _|refine ay ?_|exact ax _|exact aI _ _|refine aH ?_|exact au _)|exact az hN rfl rfl|(refine aG hN rfl ?_;first|exact aJ _|exact aK _)|exact aw rfl rfl rfl));done))|(refine aE (ceb) ?_ rfl (fun _=>rfl) ?_;focus ((repeat' (first|(with_reducible first|exact am|refine ah ?_ ?_|exact aZ _|refine ay ?_|exact ax _|exact aI _ _|refine aH ?_|exact au _)|exact az hN rfl rfl|(refine aG hN rfl ?_;first|exact aJ _|exact aK _)|exact aw rfl rfl rfl));done))|(with_reducible first|exact am|refine ah ?_ ?_|exact aZ _|refine ay ?_|exact ax _|exact aI _ _|refine aH ?_|exact au _)|exact az hN rfl rfl|(refine aG hN rfl ?_;first|exact aJ _|exact aK _)|exact aw rfl rfl rfl|(simp only [aY,List.map_nil])|(with_reducible refine bm ?_)|(with_reducible refine And.intro ?_ ?_)|(refine ak ?_;omega)|(exact aS hN (by decide))))
     all_goals first|(exact absurd (b9 (by assumption)) hh)|((refine bT (.inr rfl) (by first|rfl|(simp (disch:=first|decide|omega|(simp only [List.length_cons,List.length_nil];omega)) only [bR,bU,bX,bY,go_sem,beq_self_eq_true,↓aW,↓aj hN,an hN,reduceIte,reduceCtorEq,Nat.reduceAdd,Nat.reduceLT,Nat.reduceLeDiff,Nat.reduceEqDiff,Nat.reduceSub];rfl)) ?_);exact congrArg C.bool key)
   · rw [ao pa] at cea
     rw [aA pb] at ceb
     have key : false = tf (HR g a.hd b.hd):=(ao fun h=>h.elim (fun h=>pa h.1) fun h=>h.elim (fun h=>pa h.1) fun h=>h.2.1 pb).symm
     (refine bA aF Try.func35 rfl rfl (by kernel_rfl) fun hp0 ν hX hN=>?_;simp only [cg,Nat.reduceAdd])
     (repeat' (first|(with_reducible first|(apply hK;clear hK K)|refine stZ ?_|refine aO rfl ?_|((first|apply ae|apply af);clear ae X af Y))|(with_reducible refine aR ?_;first|refine aP rfl ?_|refine aQ rfl ?_)|(with_reducible refine bB ?_;refine bE hN ?_)|((with_reducible first|((first|refine aU ?_|refine bF ?_|refine aV ?_|refine bG ?_);intro K hK)|(refine aC ?_;intro X Y ae af)|refine aD ?_);simp (disch:=first|decide|omega|(simp only [List.length_cons,List.length_nil];omega)) only [go_sem,↓aj hN,an hN,reduceIte,reduceCtorEq,Nat.reduceAdd,Nat.reduceLT,Nat.reduceLeDiff,Nat.reduceEqDiff,Nat.reduceSub])|(with_reducible refine And.intro (fun h=>?_) (fun h=>?_) <;> try (exfalso;omega))|(with_reducible refine aT aF hN ?_)|(with_reducible refine aX aF hN ?_)|(refine aE (cea) ?_ rfl (fun _=>rfl) ?_;focus ((repeat' (first|(with_reducible first|exact am|refine ah ?_ ?_|exact aZ _|refine ay ?_|exact ax _|exact aI _ _|refine aH ?_|exact au _)|exact az hN rfl rfl|(refine aG hN rfl ?_;first|exact aJ _|exact aK _)|exact aw rfl rfl rfl));done))|(refine aE (ceb) ?_ rfl (fun _=>rfl) ?_;focus ((repeat' (first|(with_reducible first|exact am|refine ah ?_ ?_|exact aZ _|refine ay ?_|exact ax _|exact aI _ _|refine aH ?_|exact au _)|exact az hN rfl rfl|(refine aG hN rfl ?_;first|exact aJ _|exact aK _)|exact aw rfl rfl rfl));done))|(with_reducible first|exact am|refine ah ?_ ?_|exact aZ _|refine ay ?_|exact ax _|exact aI _ _|refine aH ?_|exact au _)|exact az hN rfl rfl|(refine aG hN rfl ?_;first|exact aJ _|exact aK _)|exact aw rfl rfl rfl|(simp only [aY,List.map_nil])|(with_reducible refine bm ?_)|(with_reducible refine And.intro ?_ ?_)|(refine ak ?_;omega)|(exact aS hN (by decide))))
     all_goals first|(exact absurd (b9 (by assumption)) hh)|((refine bT (.inr rfl) (by first|rfl|(simp (disch:=first|decide|omega|(simp only [List.length_cons,List.length_nil];omega)) only [bR,bU,bX,bY,go_sem,beq_self_eq_true,↓aW,↓aj hN,an hN,reduceIte,reduceCtorEq,Nat.reduceAdd,Nat.reduceLT,Nat.reduceLeDiff,Nat.reduceEqDiff,Nat.reduceSub];rfl)) ?_);exact congrArg C.bool key)
   · have key : (tf (Hv g a.hd b.hd) == false) = tf (HR g a.hd b.hd):=by
      rw [beq_false,cQ (show HR g a.hd b.hd ↔ ¬ Hv g a.hd b.hd from ⟨fun h=>h.elim (fun h=>absurd h.1 pa) fun h=>h.elim (fun h=>absurd h.1 pa) fun h=>gz h.2.2,fun h=>.inr (.inr ⟨pa,pb,(kF hh).resolve_left h⟩)⟩)]
      by_cases q : Hv g a.hd b.hd
      · rw [aA q,ao fun h=>h q];rfl
      · rw [ao q,aA q];rfl
     rw [ao pa] at cea
     rw [ao pb] at ceb
     (refine bA aF Try.func35 rfl rfl (by kernel_rfl) fun hp0 ν hX hN=>?_;simp only [cg,Nat.reduceAdd])
     (repeat' (first|(with_reducible first|(apply hK;clear hK K)|refine stZ ?_|refine aO rfl ?_|((first|apply ae|apply af);clear ae X af Y))|(with_reducible refine aR ?_;first|refine aP rfl ?_|refine aQ rfl ?_)|(with_reducible refine bB ?_;refine bE hN ?_)|((with_reducible first|((first|refine aU ?_|refine bF ?_|refine aV ?_|refine bG ?_);intro K hK)|(refine aC ?_;intro X Y ae af)|refine aD ?_);simp (disch:=first|decide|omega|(simp only [List.length_cons,List.length_nil];omega)) only [go_sem,↓aj hN,an hN,reduceIte,reduceCtorEq,Nat.reduceAdd,Nat.reduceLT,Nat.reduceLeDiff,Nat.reduceEqDiff,Nat.reduceSub])|(with_reducible refine And.intro (fun h=>?_) (fun h=>?_) <;> try (exfalso;omega))|(with_reducible refine aT aF hN ?_)|(with_reducible refine aX aF hN ?_)|((first|refine aE (cea) ?_ rfl (fun _=>rfl) ?_|refine aE (ch1) ?_ rfl (fun _=>rfl) ?_);focus ((repeat' (first|(with_reducible first|exact am|refine ah ?_ ?_|exact aZ _|refine ay ?_|exact ax _|exact aI _ _|refine aH ?_|exact au _)|exact az hN rfl rfl|(refine aG hN rfl ?_;first|exact aJ _|exact aK _)|exact aw rfl rfl rfl));done))|(refine aE (ceb) ?_ rfl (fun _=>rfl) ?_;focus ((repeat' (first|(with_reducible first|exact am|refine ah ?_ ?_|exact aZ _|refine ay ?_|exact ax _|exact aI _ _|refine aH ?_|exact au _)|exact az hN rfl rfl|(refine aG hN rfl ?_;first|exact aJ _|exact aK _)|exact aw rfl rfl rfl));done))|(with_reducible first|exact am|refine ah ?_ ?_|exact aZ _|refine ay ?_|exact ax _|exact aI _ _|refine aH ?_|exact au _)|exact az hN rfl rfl|(refine aG hN rfl ?_;first|exact aJ _|exact aK _)|exact aw rfl rfl rfl|(simp only [aY,List.map_nil])|(with_reducible refine bm ?_)|(with_reducible refine And.intro ?_ ?_)|(refine ak ?_;omega)|(exact aS hN (by decide))))
     all_goals first|(exact absurd (b9 (by assumption)) hh)|((refine bT (.inr rfl) (by first|rfl|(simp (disch:=first|decide|omega|(simp only [List.length_cons,List.length_nil];omega)) only [bR,bU,bX,bY,go_sem,beq_self_eq_true,↓aW,↓aj hN,an hN,reduceIte,reduceCtorEq,Nat.reduceAdd,Nat.reduceLT,Nat.reduceLeDiff,Nat.reduceEqDiff,Nat.reduceSub];rfl)) ?_);exact congrArg C.bool key)
noncomputable def lT (xs : List Int) (x : Int) : List Int:=da (fun y=>y < x) xs xs.length ++ x :: da (fun y=>x < y) xs xs.length
noncomputable def d4 (xs : List Int) (x : Int) (k : Nat) : List Int:=if tf (∃ j,j < k ∧ x < gi xs j) then da (fun y=>y < x) xs k ++ x :: da (fun y=>x < y) xs k else da (fun y=>y < x) xs k
theorem j6 {p : Int → Prop} {xs : List Int} : ∀ k,(∀ j,j < k → ¬ p (gi xs j)) → da p xs k = []:=by
 intro k
 induction k with
 | zero => exact fun _ => rfl
 | succ k ih => intro h; rw [d7 (h k (by omega)), ih fun j hj => h j (by omega)]
theorem sc (xs : List Int) (x : Int) (k : Nat) : (d4 xs x k).length ≤ k + k + 1:=by
 have h1:=iS (fun y=>y < x) xs k
 have h2:=iS (fun y=>x < y) xs k
 unfold d4
 split
 · rw [List.length_append,List.length_cons];omega
 · omega
section
variable {xs : List Int} {x : Int} (hp : xs.Pairwise (· < ·)) {k : Nat} (hk : k < xs.length)
include hp hk in
theorem tL (h : gi xs k < x) : tf (∃ j,j < k ∧ x < gi xs j) = false ∧ tf (∃ j,j < k + 1 ∧ x < gi xs j) = false ∧ d4 xs x (k + 1) = d4 xs x k ++ [gi xs k]:=by
 have h1 : ¬ ∃ j,j < k ∧ x < gi xs j:=fun ⟨j,h2,h3⟩=>by
  have:=List.pairwise_iff_getElem.1 hp j k (by omega) hk h2
  rw [← dB (by omega),← dB hk] at this
  omega
 have h2 : ¬ ∃ j,j < k + 1 ∧ x < gi xs j:=fun ⟨j,h3,h4⟩=>by
  by_cases e : j = k
  · subst e;omega
  · exact h1 ⟨j,by omega,h4⟩
 refine ⟨ao h1,ao h2,?_⟩
 unfold d4
 rw [ao h1,ao h2,fO,fO,dv (p:=fun y=>y < x) h]
theorem tM (h : x < gi xs k) : tf (∃ j,j < k + 1 ∧ x < gi xs j) = true ∧ d4 xs x (k + 1) = (if tf (∃ j,j < k ∧ x < gi xs j) then d4 xs x k else d4 xs x k ++ [x]) ++ [gi xs k]:=by
 have h2 : ∃ j,j < k + 1 ∧ x < gi xs j:=⟨k,by omega,h⟩
 refine ⟨aA h2,?_⟩
 have e1 : da (fun y=>y < x) xs (k + 1) = da (fun y=>y < x) xs k:=d7 (by omega)
 have e2 : da (fun y=>x < y) xs (k + 1) = da (fun y=>x < y) xs k ++ [gi xs k]:=dv h
 unfold d4
 rw [aA h2,gT,e1,e2]
 by_cases h1 : ∃ j,j < k ∧ x < gi xs j
 · rw [aA h1,gT,gT];simp
 · rw [ao h1,fO,fO]
   have e3 : da (fun y=>x < y) xs k = []:=j6 k fun j hj h3=>h1 ⟨j,hj,h3⟩
   rw [e3];simp
theorem sd : lT xs x = if tf (∃ j,j < xs.length ∧ x < gi xs j) then d4 xs x xs.length else d4 xs x xs.length ++ [x]:=by
 unfold d4 lT
 by_cases h1 : ∃ j,j < xs.length ∧ x < gi xs j
 · rw [aA h1,gT,gT]
 · rw [ao h1,fO,fO]
   have e3 : da (fun y=>x < y) xs xs.length = []:=j6 _ fun j hj h3=>h1 ⟨j,hj,h3⟩
   rw [e3]
end
set_option maxHeartbeats 1000000 in
theorem oT (xs : List Int) (x : Int) (hp : xs.Pairwise (· < ·)) (hx : ¬ x ∈ xs) (hl : xs.length ≤ 256) : ba Try.prog 49 [.c (.I xs),.c (.int .i64 x)] [.arr 2 .yes (.I (lT xs x))] (fun ns=>.sl (ns.getD 0 0)):=by
 have n0 : tf (∃ j,j < 0 ∧ x < gi xs j) = false:=ao fun ⟨j,h,_⟩=>absurd h (Nat.not_lt_zero _)
 have n1 : d4 xs x 0 = []:=by unfold d4;rw [n0,fO];rfl
 (refine bA aF Try.func49 rfl rfl (by kernel_rfl) fun hp0 ν hX hN=>?_;simp only [cg,Nat.reduceAdd])
 (repeat' (first|(with_reducible first|(apply hK;clear hK K)|refine stZ ?_|refine aO rfl ?_|((first|apply ae|apply af);clear ae X af Y))|(with_reducible refine aR ?_;first|refine aP rfl ?_|refine aQ rfl ?_)|(with_reducible refine bi ?_;first|refine aM rfl rfl rfl rfl ?_|refine bh rfl rfl rfl ?_|refine bz rfl rfl rfl rfl ?_)|((first|(with_reducible first|((first|refine aU ?_|refine aV ?_);intro K hK)|(refine aC ?_;intro X Y ae af)|refine aD ?_)|(with_reducible refine bi ?_;refine aN rfl rfl fun X Y ae af=>?_));simp (disch:=first|decide|omega|(simp only [List.length_cons,List.length_nil];omega)) only [go_sem,↓aj hN,an hN,reduceIte,reduceCtorEq,Nat.reduceAdd,Nat.reduceLT,Nat.reduceLeDiff,Nat.reduceEqDiff,Nat.reduceSub])|(with_reducible refine And.intro (fun h=>?_) (fun h=>?_) <;> try (exfalso;omega))|(with_reducible refine aT aF hN ?_)|(with_reducible refine And.intro ?_ ?_)|(refine ak ?_;omega)|(exact aS hN (by decide))))
 (refine cr (fun (k : Nat)=>(tmL [(7,.c (.int .i64 k)),(6,.c (.bool (tf (∃ j,j < k ∧ x < gi xs j)))),(5,.sl (ν 0)),(0,.c (.I xs)),(1,.c (.int .i64 x))],hpL hp0 ν [.arr 2 .yes (.I (d4 xs x k))])) (fun (k : Nat)=>k ≤ xs.length) (fun (k : Nat)=>xs.length - k) ⟨0,?_,bL hX hN [] ?_ ?_⟩ ?_;(repeat' (first|(with_reducible first|exact clZ|refine bM ?_ ?_|refine bN ?_ ?_|rfl|refine suZ ?_)|refine bO rfl ?_ ?_|exact bv hN _ rfl rfl rfl|exact bw hN _ rfl rfl rfl|exact be hN _ rfl rfl rfl (Or.inr rfl)|(refine bx hN _ rfl rfl (by first|exact Or.inr rfl|exact Or.inl rfl) ?_;first|exact aJ _|exact aK _)|refine bf hN rfl ?_|refine bg hN rfl rfl ?_|exact bd hN _ rfl rfl|exact bc hN rfl rfl rfl rfl|(with_reducible first|refine stZ ?_|refine bu ?_)));(try (any_goals (first|(with_reducible rfl)|(refine ak ?_;omega)))))
 all_goals first|exact n0.symm|exact n1|exact n1.symm|exact congrArg C.I n1|exact congrArg C.I n1.symm|exact congrArg C.bool n0.symm|skip
 intro k hk
 have hil:=sc xs x k
 by_cases hkl : k < xs.length
 · have hne : gi xs k ≠ x:=fun e=>hx (e ▸ ee hkl)
   rcases Int.lt_or_gt_of_ne hne with hlt|hgt
   · obtain ⟨i1,i2,i3⟩:=tL hp hkl hlt
     rw [i1]
     (repeat' (first|(with_reducible first|(apply hK;clear hK K)|refine stZ ?_|refine aO rfl ?_|((first|apply ae|apply af);clear ae X af Y))|(with_reducible refine aR ?_;first|refine aP rfl ?_|refine aQ rfl ?_)|(with_reducible refine bi ?_;first|refine aM rfl rfl rfl rfl ?_|refine bh rfl rfl rfl ?_|refine bz rfl rfl rfl rfl ?_)|((first|(with_reducible first|((first|refine aU ?_|refine aV ?_);intro K hK)|(refine aC ?_;intro X Y ae af)|refine aD ?_)|(with_reducible refine bi ?_;refine aN rfl rfl fun X Y ae af=>?_));simp (disch:=first|decide|omega|(simp only [List.length_cons,List.length_nil];omega)) only [go_sem,↓aj hN,an hN,reduceIte,reduceCtorEq,Nat.reduceAdd,Nat.reduceLT,Nat.reduceLeDiff,Nat.reduceEqDiff,Nat.reduceSub])|(with_reducible refine And.intro (fun h=>?_) (fun h=>?_) <;> try (exfalso;omega))|(with_reducible refine aT aF hN ?_)|(with_reducible refine And.intro ?_ ?_)|(refine ak ?_;omega)|(exact aS hN (by decide))))
     all_goals first|(exfalso;omega)|((refine ⟨k + 1,⟨?_,?_⟩,bL hX hN [(0,2)] ?_ ?_⟩;(try any_goals dsimp only);(repeat' (first|(with_reducible first|exact clZ|refine bM ?_ ?_|refine bN ?_ ?_|rfl|refine suZ ?_)|refine bO rfl ?_ ?_|exact bv hN _ rfl rfl rfl|exact bw hN _ rfl rfl rfl|exact be hN _ rfl rfl rfl (Or.inr rfl)|(refine bx hN _ rfl rfl (by first|exact Or.inr rfl|exact Or.inl rfl) ?_;first|exact aJ _|exact aK _)|refine bf hN rfl ?_|refine bg hN rfl rfl ?_|exact bd hN _ rfl rfl|exact bc hN rfl rfl rfl rfl|(with_reducible first|refine stZ ?_|refine bu ?_)));(try (any_goals (first|(with_reducible rfl)|(refine ak ?_;omega)))));all_goals first|exact i2.symm|exact i3.symm)
   · obtain ⟨i2,i3⟩:=tM hgt
     by_cases h1 : ∃ j,j < k ∧ x < gi xs j
     · rw [aA h1,gT] at i3
       rw [aA h1]
       (repeat' (first|(with_reducible first|(apply hK;clear hK K)|refine stZ ?_|refine aO rfl ?_|((first|apply ae|apply af);clear ae X af Y))|(with_reducible refine aR ?_;first|refine aP rfl ?_|refine aQ rfl ?_)|(with_reducible refine bi ?_;first|refine aM rfl rfl rfl rfl ?_|refine bh rfl rfl rfl ?_|refine bz rfl rfl rfl rfl ?_)|((first|(with_reducible first|((first|refine aU ?_|refine aV ?_);intro K hK)|(refine aC ?_;intro X Y ae af)|refine aD ?_)|(with_reducible refine bi ?_;refine aN rfl rfl fun X Y ae af=>?_));simp (disch:=first|decide|omega|(simp only [List.length_cons,List.length_nil];omega)) only [go_sem,↓aj hN,an hN,reduceIte,reduceCtorEq,Nat.reduceAdd,Nat.reduceLT,Nat.reduceLeDiff,Nat.reduceEqDiff,Nat.reduceSub])|(with_reducible refine And.intro (fun h=>?_) (fun h=>?_) <;> try (exfalso;omega))|(with_reducible refine aT aF hN ?_)|(with_reducible refine And.intro ?_ ?_)|(refine ak ?_;omega)|(exact aS hN (by decide))))
       all_goals first|(exfalso;omega)|((refine ⟨k + 1,⟨?_,?_⟩,bL hX hN [(0,2)] ?_ ?_⟩;(try any_goals dsimp only);(repeat' (first|(with_reducible first|exact clZ|refine bM ?_ ?_|refine bN ?_ ?_|rfl|refine suZ ?_)|refine bO rfl ?_ ?_|exact bv hN _ rfl rfl rfl|exact bw hN _ rfl rfl rfl|exact be hN _ rfl rfl rfl (Or.inr rfl)|(refine bx hN _ rfl rfl (by first|exact Or.inr rfl|exact Or.inl rfl) ?_;first|exact aJ _|exact aK _)|refine bf hN rfl ?_|refine bg hN rfl rfl ?_|exact bd hN _ rfl rfl|exact bc hN rfl rfl rfl rfl|(with_reducible first|refine stZ ?_|refine bu ?_)));(try (any_goals (first|(with_reducible rfl)|(refine ak ?_;omega)))));all_goals first|exact i2.symm|exact i3.symm)
     · rw [ao h1,fO] at i3
       rw [ao h1]
       (repeat' (first|(with_reducible first|(apply hK;clear hK K)|refine stZ ?_|refine aO rfl ?_|((first|apply ae|apply af);clear ae X af Y))|(with_reducible refine aR ?_;first|refine aP rfl ?_|refine aQ rfl ?_)|(with_reducible refine bi ?_;first|refine aM rfl rfl rfl rfl ?_|refine bh rfl rfl rfl ?_|refine bz rfl rfl rfl rfl ?_)|((first|(with_reducible first|((first|refine aU ?_|refine aV ?_);intro K hK)|(refine aC ?_;intro X Y ae af)|refine aD ?_)|(with_reducible refine bi ?_;refine aN rfl rfl fun X Y ae af=>?_));simp (disch:=first|decide|omega|(simp only [List.length_cons,List.length_nil];omega)) only [go_sem,↓aj hN,an hN,reduceIte,reduceCtorEq,Nat.reduceAdd,Nat.reduceLT,Nat.reduceLeDiff,Nat.reduceEqDiff,Nat.reduceSub])|(with_reducible refine And.intro (fun h=>?_) (fun h=>?_) <;> try (exfalso;omega))|(with_reducible refine aT aF hN ?_)|(with_reducible refine And.intro ?_ ?_)|(refine ak ?_;omega)|(exact aS hN (by decide))))
       all_goals first|(exfalso;omega)|((refine ⟨k + 1,⟨?_,?_⟩,bL hX hN [(0,4)] ?_ ?_⟩;(try any_goals dsimp only);(repeat' (first|(with_reducible first|exact clZ|refine bM ?_ ?_|refine bN ?_ ?_|rfl|refine suZ ?_)|refine bO rfl ?_ ?_|exact bv hN _ rfl rfl rfl|exact bw hN _ rfl rfl rfl|exact be hN _ rfl rfl rfl (Or.inr rfl)|(refine bx hN _ rfl rfl (by first|exact Or.inr rfl|exact Or.inl rfl) ?_;first|exact aJ _|exact aK _)|refine bf hN rfl ?_|refine bg hN rfl rfl ?_|exact bd hN _ rfl rfl|exact bc hN rfl rfl rfl rfl|(with_reducible first|refine stZ ?_|refine bu ?_)));(try (any_goals (first|(with_reducible rfl)|(refine ak ?_;omega)))));all_goals first|exact i2.symm|exact i3.symm)
 · obtain rfl : k = xs.length:=by omega
   have he:=sd (xs:=xs) (x:=x)
   by_cases h1 : ∃ j,j < xs.length ∧ x < gi xs j
   · rw [aA h1,gT] at he
     rw [aA h1,he]
     (repeat' (first|(with_reducible first|(apply hK;clear hK K)|refine stZ ?_|refine aO rfl ?_|((first|apply ae|apply af);clear ae X af Y))|(with_reducible refine aR ?_;first|refine aP rfl ?_|refine aQ rfl ?_)|(with_reducible refine bi ?_;first|refine aM rfl rfl rfl rfl ?_|refine bh rfl rfl rfl ?_|refine bz rfl rfl rfl rfl ?_)|((first|(with_reducible first|((first|refine aU ?_|refine aV ?_);intro K hK)|(refine aC ?_;intro X Y ae af)|refine aD ?_)|(with_reducible refine bi ?_;refine aN rfl rfl fun X Y ae af=>?_));simp (disch:=first|decide|omega|(simp only [List.length_cons,List.length_nil];omega)) only [go_sem,↓aj hN,an hN,reduceIte,reduceCtorEq,Nat.reduceAdd,Nat.reduceLT,Nat.reduceLeDiff,Nat.reduceEqDiff,Nat.reduceSub])|(with_reducible refine And.intro (fun h=>?_) (fun h=>?_) <;> try (exfalso;omega))|(with_reducible refine aT aF hN ?_)|(with_reducible refine And.intro ?_ ?_)|(refine ak ?_;omega)|(exact aS hN (by decide))))
     (refine fX hN (i:=0) (.inr rfl) (by first|rfl|(simp (disch:=first|decide|omega|(simp only [List.length_cons,List.length_nil];omega)) only [bR,bU,bX,bY,go_sem,beq_self_eq_true,↓aW,↓aj hN,an hN,reduceIte,reduceCtorEq,Nat.reduceAdd,Nat.reduceLT,Nat.reduceLeDiff,Nat.reduceEqDiff,Nat.reduceSub];rfl)) rfl ?_ rfl)
     rfl
   · rw [ao h1,fO] at he
     rw [ao h1,he]
     (repeat' (first|(with_reducible first|(apply hK;clear hK K)|refine stZ ?_|refine aO rfl ?_|((first|apply ae|apply af);clear ae X af Y))|(with_reducible refine aR ?_;first|refine aP rfl ?_|refine aQ rfl ?_)|(with_reducible refine bi ?_;first|refine aM rfl rfl rfl rfl ?_|refine bh rfl rfl rfl ?_|refine bz rfl rfl rfl rfl ?_)|((first|(with_reducible first|((first|refine aU ?_|refine aV ?_);intro K hK)|(refine aC ?_;intro X Y ae af)|refine aD ?_)|(with_reducible refine bi ?_;refine aN rfl rfl fun X Y ae af=>?_));simp (disch:=first|decide|omega|(simp only [List.length_cons,List.length_nil];omega)) only [go_sem,↓aj hN,an hN,reduceIte,reduceCtorEq,Nat.reduceAdd,Nat.reduceLT,Nat.reduceLeDiff,Nat.reduceEqDiff,Nat.reduceSub])|(with_reducible refine And.intro (fun h=>?_) (fun h=>?_) <;> try (exfalso;omega))|(with_reducible refine aT aF hN ?_)|(with_reducible refine And.intro ?_ ?_)|(refine ak ?_;omega)|(exact aS hN (by decide))))
     (refine fX hN (i:=2) (.inr rfl) (by first|rfl|(simp (disch:=first|decide|omega|(simp only [List.length_cons,List.length_nil];omega)) only [bR,bU,bX,bY,go_sem,beq_self_eq_true,↓aW,↓aj hN,an hN,reduceIte,reduceCtorEq,Nat.reduceAdd,Nat.reduceLT,Nat.reduceLeDiff,Nat.reduceEqDiff,Nat.reduceSub];rfl)) rfl ?_ rfl)
     rfl
theorem qQ {xs : List Int} {x : Int} (hp : xs.Pairwise (· < ·)) : (lT xs x).Pairwise (· < ·):=by
 unfold lT
 rw [List.pairwise_append,List.pairwise_cons]
 refine ⟨fM hp _ (Nat.le_refl _),⟨fun y hy=>(eI.1 hy).2,fM hp _ (Nat.le_refl _)⟩,fun a ha b hb=>?_⟩
 have h1:=(eI.1 ha).2
 rcases List.mem_cons.1 hb with e|e
 · subst e;exact h1
 · have:=(eI.1 e).2
   omega
theorem qR {xs : List Int} {x : Int} (hx : ¬ x ∈ xs) {y : Int} : y ∈ lT xs x ↔ y ∈ xs ∨ y = x:=by
 unfold lT
 rw [List.mem_append,List.mem_cons,eI,eI]
 constructor
 · rintro (h|h|h)
   · exact .inl h.1
   · exact .inr h
   · exact .inl h.1
 · rintro (h|h)
   · rcases Int.lt_trichotomy y x with q|q|q
     · exact .inl ⟨h,q⟩
     · exact .inr (.inl q)
     · exact .inr (.inr ⟨h,q⟩)
   · exact .inr (.inl h)
end Go.Proofs.Ytlodllmpndflcaa
