/-
  Measures, the program: tables, demands, the least table.
-/
import Derived.Test.YtceonklhlpkfgaaZmM6
import Derived.Test.YtceonklhlpkfgaaZmKf
import Derived.Test.YtceonklhlpkfgaaZmCg
namespace Go.Proofs.Ytceonklhlpkfgaa
set_option linter.unusedVariables false
set_option linter.unusedSimpArgs false
open Go.RowKit
attribute [local irreducible] aw cz Aw Le
noncomputable def frm (p : Nat → Prop) : Nat → Int
 | 0 => -1
 | n + 1 => @ite _ (0 ≤ frm p n) (Classical.propDecidable _) (frm p n) (@ite _ (p n) (Classical.propDecidable _) (n : Int) (-1))
theorem fy (p : Nat → Prop) : ∀ n,(frm p n = -1 ∧ ∀ j,j < n → ¬ p j) ∨ ∃ k,k < n ∧ frm p n = k ∧ p k ∧ ∀ j,j < k → ¬ p j
 | 0 => .inl ⟨rfl, fun j h => absurd h (Nat.not_lt_zero _)⟩
 | n + 1 => by
   unfold frm
   rcases fy p n with ⟨h1,h2⟩|⟨k,h1,h2,h3,h4⟩
   · rw [h1,if_neg (by decide)]
     by_cases h : p n
     · rw [if_pos h];exact .inr ⟨n,by omega,rfl,h,h2⟩
     · rw [if_neg h]
       refine .inl ⟨rfl,fun j hj=>?_⟩
       rcases Nat.lt_or_ge j n with h'|h'
       · exact h2 j h'
       · rw [show j = n by omega];exact h
   · rw [h2,if_pos (by omega)]
     exact .inr ⟨k,by omega,rfl,h3,h4⟩
theorem pR {p : Nat → Prop} {n k : Nat} (hk : k < n) (h : p k) (hno : ∀ j,j < k → ¬ p j) : frm p n = k:=by
 rcases fy p n with ⟨_,h2⟩|⟨j,h1,h2,h3,h4⟩
 · exact absurd h (h2 k hk)
 · rcases Nat.lt_trichotomy j k with h'|h'|h'
   · exact absurd h3 (hno j h')
   · rw [h2,h']
   · exact absurd h (h4 k h')
theorem qZ {p : Nat → Prop} {n : Nat} (hno : ∀ j,j < n → ¬ p j) : frm p n = -1:=by
 rcases fy p n with ⟨h1,_⟩|⟨j,h1,h2,h3,h4⟩
 · exact h1
 · exact absurd h3 (hno j h1)
def dc (g : Pa) (t : List (List Int)) : Prop:=(bd g).Tab t
noncomputable def hH (g : Pa) (t : List (List Int)) (v : Nat) : List Int:=(bd g).dem t v
def Uns (g : Pa) (t : List (List Int)) (v : Nat) : Prop:=MS.lx (gr t v) (hH g t v)
noncomputable def dM (g : Pa) (t : List (List Int)) (v k : Nat) : List (List Int):=gY k fun i=>dY g v (gr t (gi (gr g.ar.nxt v) i).toNat)
theorem hM (g : Pa) (t : List (List Int)) (v k : Nat) : dM g t v (k + 1) = dM g t v k ++ [dY g v (gr t (gi (gr g.ar.nxt v) k).toNat)]:=by
 unfold dM gY
 simp [List.range_succ]
theorem eT (g : Pa) (t : List (List Int)) (v k : Nat) : (dM g t v k).length = k:=gZ _ _
theorem dc.row {g : Pa} {t : List (List Int)} (h : dc g t) {v : Nat} (hv : v < g.prio.length) : cL g (gr t v):=h.2 v hv
theorem dc.len {g : Pa} {t : List (List Int)} (h : dc g t) : t.length = g.prio.length:=h.1
theorem oz {g : Pa} (hg : PaOk g) {v i : Nat} (hv : v < g.prio.length) (hi : i < (gr g.ar.nxt v).length) : 0 ≤ gi (gr g.ar.nxt v) i ∧ gi (gr g.ar.nxt v) i < g.prio.length:=by
 have hl:=hg.len
 have:=(hg.ar.vert v (by omega)).2.2.2.2.bnd i hi
 exact ⟨this.1,by omega⟩
theorem hU {g : Pa} (hg : PaOk g) {t : List (List Int)} (ht : dc g t) {v : Nat} (hv : v < g.prio.length) {k : Nat} (hk : k ≤ (gr g.ar.nxt v).length) : ∀ i,i < (dM g t v k).length → (gr (dM g t v k) i).length ≤ 1048576:=fun i hi=>by
 rw [eT] at hi
 rw [dM,jz _ hi]
 have hn:=oz hg hv (i:=i) (by omega)
 have:=(cj (lY hg (v:=v) (ht.row (v:=(gi (gr g.ar.nxt v) i).toNat) (by omega)))).2
 omega
theorem jD {g : Pa} {t : List (List Int)} {v : Nat} {b : Bool} (hb : tf (gi g.ar.own v = 0) = b) : MS.bst b (gr (dM g t v (gr g.ar.nxt v).length)) (gr g.ar.nxt v).length = hH g t v:=by
 subst hb
 exact MS.bst_congr _ fun j hj=>jz _ hj
theorem ls (g : Pa) (hg : PaOk g) (t : List (List Int)) (ht : dc g t) (v : Nat) (hv : v < g.prio.length) : aw Try.prog 32 [paA g,.c (.R t),.c (.int .i64 v)] [] (fun _=>.c (.I (hH g t v))):=by
 have hle:=hg.ar.le
 have hln:=hg.len
 have hnl:=hg.ar.len
 have htl:=ht.len
 have hvt:=(hg.ar.vert v (by omega)).2.2
 obtain ⟨hv1,hv2,_⟩:=hvt
 (refine bc aF Try.func32 rfl rfl (by kernel_rfl) fun hp0 ν hX hN=>?_;simp only [ct,Nat.reduceAdd])
 (repeat' (first|(with_reducible first|(apply hK;clear hK K)|refine stZ ?_|refine be rfl ?_|((first|apply ae|apply af);clear ae X af Y))|(with_reducible refine bh ?_;first|refine bf rfl ?_|refine bg rfl ?_)|(with_reducible refine cW ?_;refine cA hN ?_)|((with_reducible first|((first|refine bm ?_|refine cB ?_|refine bn ?_|refine cC ?_);intro K hK)|(refine aL ?_;intro X Y ae af)|refine aM ?_);simp (disch:=first|decide|omega|(simp only [List.length_cons,List.length_nil];omega)) only [go_sem,↓aj hN,am hN,reduceIte,reduceCtorEq,Nat.reduceAdd,Nat.reduceLT,Nat.reduceLeDiff,Nat.reduceEqDiff,Nat.reduceSub])|(with_reducible refine And.intro (fun h=>?_) (fun h=>?_) <;> try (exfalso;omega))|(with_reducible refine bj aF hN ?_)|(with_reducible refine bE aF hN ?_)|(with_reducible refine And.intro ?_ ?_)|(refine an ?_;omega)|(exact bi hN (by decide))))
 (refine cw (fun (k : Nat)=>(tmL [(18,.c (.int .i64 k)),(17,.c (.int .i64 (gr g.ar.nxt v).length)),(16,.c (.I (gr g.ar.nxt v))),(7,.sl (ν 1)),(1,.c (.R t)),(2,.c (.int .i64 v)),(3,.ad (ν 0) 0)],hpL hp0 ν [.box [.c (.I g.ar.own),.c (.R g.ar.nxt),.c (.I g.prio)],.arr 22 .yes (.R (dM g t v k))])) (fun (k : Nat)=>k ≤ (gr g.ar.nxt v).length) (fun (k : Nat)=>(gr g.ar.nxt v).length - k) ⟨0,?_,bT hX hN [] ?_ ?_⟩ ?_;(repeat' (first|(with_reducible first|exact clZ|refine bU ?_ ?_|refine bV ?_ ?_|rfl|refine suZ ?_)|refine bW rfl ?_ ?_|exact bz hN _ rfl rfl rfl|exact bA hN _ rfl rfl rfl|exact aS hN _ rfl rfl rfl (Or.inr rfl)|(refine bB hN _ rfl rfl (by first|exact Or.inr rfl|exact Or.inl rfl) ?_;first|exact aN _|exact aO _)|refine aT hN rfl ?_|refine aU hN rfl rfl ?_|exact aR hN _ rfl rfl|exact aV hN rfl rfl rfl rfl|(with_reducible first|refine stZ ?_|refine bw ?_)));(try (any_goals (first|(with_reducible rfl)|(refine an ?_;omega)))))
 · rfl
 intro k hk
 have hn:=fun h=>oz hg hv (i:=k) h
 have hal:=eT g t v k
 (repeat' (first|(with_reducible first|(apply hK;clear hK K)|refine stZ ?_|refine be rfl ?_|((first|apply ae|apply af);clear ae X af Y))|(with_reducible refine bh ?_;first|refine bf rfl ?_|refine bg rfl ?_)|(with_reducible refine cW ?_;refine cA hN ?_)|((with_reducible first|((first|refine bm ?_|refine cB ?_|refine bn ?_|refine cC ?_);intro K hK)|(refine aL ?_;intro X Y ae af)|refine aM ?_);simp (disch:=first|decide|omega|(simp only [List.length_cons,List.length_nil];omega)) only [go_sem,↓aj hN,am hN,reduceIte,reduceCtorEq,Nat.reduceAdd,Nat.reduceLT,Nat.reduceLeDiff,Nat.reduceEqDiff,Nat.reduceSub])|(with_reducible refine And.intro (fun h=>?_) (fun h=>?_) <;> try (exfalso;omega))|(with_reducible refine bj aF hN ?_)|(with_reducible refine bE aF hN ?_)|(refine aW (iU g hg v hv (gr t (gi (gr g.ar.nxt v) k).toNat) (ht.row (by have:=hn (by omega);omega))) ?_ rfl (fun _=>rfl) ?_;focus ((repeat' (first|(with_reducible first|exact ay|refine aq ?_ ?_|exact bQ _|refine aI ?_|exact aK _|exact ba _ _|refine a8 ?_|exact aG _)|exact aJ hN rfl rfl|(refine aZ hN rfl ?_;first|exact aN _|exact aO _)|exact aH rfl rfl rfl));done))|(refine ks (mO (dM g t v k) (by omega) (by omega) (hU hg ht hv hk)) hN 1 ?_ rfl rfl rfl ?_;focus ((repeat' (first|(with_reducible first|exact ay|refine aq ?_ ?_|exact bQ _|refine aI ?_|exact aK _|exact ba _ _|refine a8 ?_|exact aG _)|exact aJ hN rfl rfl|(refine aZ hN rfl ?_;first|exact aN _|exact aO _)|exact aH rfl rfl rfl));done))|(refine ks (mP (dM g t v k) (by omega) (by omega) (hU hg ht hv hk)) hN 1 ?_ rfl rfl rfl ?_;focus ((repeat' (first|(with_reducible first|exact ay|refine aq ?_ ?_|exact bQ _|refine aI ?_|exact aK _|exact ba _ _|refine a8 ?_|exact aG _)|exact aJ hN rfl rfl|(refine aZ hN rfl ?_;first|exact aN _|exact aO _)|exact aH rfl rfl rfl));done))|(with_reducible first|exact ay|refine aq ?_ ?_|exact bQ _|refine aI ?_|exact aK _|exact ba _ _|refine a8 ?_|exact aG _)|exact aJ hN rfl rfl|(refine aZ hN rfl ?_;first|exact aN _|exact aO _)|exact aH rfl rfl rfl|(simp only [aD,List.map_nil])|(with_reducible refine bK ?_)|(simp (disch:=first|decide|omega|(simp only [List.length_cons,List.length_nil];omega)) only [aD,List.map_cons,List.map_nil,am hN,List.set_cons_zero,List.set_cons_succ])|(with_reducible refine And.intro ?_ ?_)|(refine an ?_;omega)|(exact bi hN (by decide))))
 · (refine ⟨k + 1,⟨?_,?_⟩,bT hX hN [(1,4)] ?_ ?_⟩;(try any_goals dsimp only);(repeat' (first|(with_reducible first|exact clZ|refine bU ?_ ?_|refine bV ?_ ?_|rfl|refine suZ ?_)|refine bW rfl ?_ ?_|exact bz hN _ rfl rfl rfl|exact bA hN _ rfl rfl rfl|exact aS hN _ rfl rfl rfl (Or.inr rfl)|(refine bB hN _ rfl rfl (by first|exact Or.inr rfl|exact Or.inl rfl) ?_;first|exact aN _|exact aO _)|refine aT hN rfl ?_|refine aU hN rfl rfl ?_|exact aR hN _ rfl rfl|exact aV hN rfl rfl rfl rfl|(with_reducible first|refine stZ ?_|refine bw ?_)));(try (any_goals (first|(with_reducible rfl)|(refine an ?_;omega)))))
   exact hM g t v k
 · (refine ce (.inr rfl) (by first|rfl|(simp (disch:=first|decide|omega|(simp only [List.length_cons,List.length_nil];omega)) only [bF,bH,bJ,bP,go_sem,beq_self_eq_true,↓aB,↓aj hN,am hN,reduceIte,reduceCtorEq,Nat.reduceAdd,Nat.reduceLT,Nat.reduceLeDiff,Nat.reduceEqDiff,Nat.reduceSub];rfl)) ?_)
   rw [hal,show k = (gr g.ar.nxt v).length by omega]
   exact congrArg C.I (jD (aE (by assumption)))
 · (refine ce (.inr rfl) (by first|rfl|(simp (disch:=first|decide|omega|(simp only [List.length_cons,List.length_nil];omega)) only [bF,bH,bJ,bP,go_sem,beq_self_eq_true,↓aB,↓aj hN,am hN,reduceIte,reduceCtorEq,Nat.reduceAdd,Nat.reduceLT,Nat.reduceLeDiff,Nat.reduceEqDiff,Nat.reduceSub];rfl)) ?_)
   rw [hal,show k = (gr g.ar.nxt v).length by omega]
   exact congrArg C.I (jD (ap (by simpa using (by assumption : (gi g.ar.own v == 0) = false))))
end Go.Proofs.Ytceonklhlpkfgaa
