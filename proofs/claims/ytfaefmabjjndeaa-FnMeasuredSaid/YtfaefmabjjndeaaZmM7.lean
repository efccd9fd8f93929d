/-
  Measures, the program: tables, demands, the least table.
-/
import Derived.Test.YtfaefmabjjndeaaZmM6
import Derived.Test.YtfaefmabjjndeaaZmKf
import Derived.Test.YtfaefmabjjndeaaZmCg
namespace Go.Proofs.Ytfaefmabjjndeaa
set_option linter.unusedVariables false
set_option linter.unusedSimpArgs false
open Go.RowKit
attribute [local irreducible] aG cP Aw Le
noncomputable def frm (p : Nat → Prop) : Nat → Int
 | 0 => -1
 | n + 1 => @ite _ (0 ≤ frm p n) (Classical.propDecidable _) (frm p n) (@ite _ (p n) (Classical.propDecidable _) (n : Int) (-1))
theorem ja (p : Nat → Prop) : ∀ n,(frm p n = -1 ∧ ∀ j,j < n → ¬ p j) ∨ ∃ k,k < n ∧ frm p n = k ∧ p k ∧ ∀ j,j < k → ¬ p j
 | 0 => .inl ⟨rfl, fun j h => absurd h (Nat.not_lt_zero _)⟩
 | n + 1 => by
   unfold frm
   rcases ja p n with ⟨h1,h2⟩|⟨k,h1,h2,h3,h4⟩
   · rw [h1,if_neg (by decide)]
     by_cases h : p n
     · rw [if_pos h];exact .inr ⟨n,by omega,rfl,h,h2⟩
     · rw [if_neg h]
       refine .inl ⟨rfl,fun j hj=>?_⟩
       rcases Nat.lt_or_ge j n with h'|h'
       · exact h2 j h'
       · rw [show j = n by omega];exact h
   · rw [h2,if_pos (by omega)]
     exact .inr ⟨k,by omega,rfl,h3,h4⟩
theorem vA {p : Nat → Prop} {n k : Nat} (hk : k < n) (h : p k) (hno : ∀ j,j < k → ¬ p j) : frm p n = k:=by
 rcases ja p n with ⟨_,h2⟩|⟨j,h1,h2,h3,h4⟩
 · exact absurd h (h2 k hk)
 · rcases Nat.lt_trichotomy j k with h'|h'|h'
   · exact absurd h3 (hno j h')
   · rw [h2,h']
   · exact absurd h (h4 k h')
theorem xo {p : Nat → Prop} {n : Nat} (hno : ∀ j,j < n → ¬ p j) : frm p n = -1:=by
 rcases ja p n with ⟨h1,_⟩|⟨j,h1,h2,h3,h4⟩
 · exact h1
 · exact absurd h3 (hno j h1)
def g0 (g : Pa) (t : List (List Int)) : Prop:=(cI g).Tab t
noncomputable def pP (g : Pa) (t : List (List Int)) (v : Nat) : List Int:=(cI g).dem t v
def Uns (g : Pa) (t : List (List Int)) (v : Nat) : Prop:=MS.lx (gr t v) (pP g t v)
noncomputable def fF (g : Pa) (t : List (List Int)) (v k : Nat) : List (List Int):=dv k fun i=>iw g v (gr t (gi (gr g.ar.nxt v) i).toNat)
theorem kU (g : Pa) (t : List (List Int)) (v k : Nat) : fF g t v (k + 1) = fF g t v k ++ [iw g v (gr t (gi (gr g.ar.nxt v) k).toNat)]:=by
 unfold fF dv
 simp [List.range_succ]
theorem jA (g : Pa) (t : List (List Int)) (v k : Nat) : (fF g t v k).length = k:=eI _ _
theorem g0.row {g : Pa} {t : List (List Int)} (h : g0 g t) {v : Nat} (hv : v < g.prio.length) : jO g (gr t v):=h.2 v hv
theorem g0.len {g : Pa} {t : List (List Int)} (h : g0 g t) : t.length = g.prio.length:=h.1
theorem vB {g : Pa} (hg : PaOk g) {v i : Nat} (hv : v < g.prio.length) (hi : i < (gr g.ar.nxt v).length) : 0 ≤ gi (gr g.ar.nxt v) i ∧ gi (gr g.ar.nxt v) i < g.prio.length:=by
 have hl:=hg.len
 have:=(hg.ar.vert v (by omega)).2.2.2.2.bnd i hi
 exact ⟨this.1,by omega⟩
theorem jb {g : Pa} (hg : PaOk g) {t : List (List Int)} (ht : g0 g t) {v : Nat} (hv : v < g.prio.length) {k : Nat} (hk : k ≤ (gr g.ar.nxt v).length) : ∀ i,i < (fF g t v k).length → (gr (fF g t v k) i).length ≤ 1048576:=fun i hi=>by
 rw [jA] at hi
 rw [fF,dy _ hi]
 have hn:=vB hg hv (i:=i) (by omega)
 have:=(fE (qH hg (v:=v) (ht.row (v:=(gi (gr g.ar.nxt v) i).toNat) (by omega)))).2
 omega
theorem kf {g : Pa} {t : List (List Int)} {v : Nat} {b : Bool} (hb : tf (gi g.ar.own v = 0) = b) : MS.bst b (gr (fF g t v (gr g.ar.nxt v).length)) (gr g.ar.nxt v).length = pP g t v:=by
 subst hb
 exact MS.bst_congr _ fun j hj=>dy _ hj
theorem pQ (g : Pa) (hg : PaOk g) (t : List (List Int)) (ht : g0 g t) (v : Nat) (hv : v < g.prio.length) : aG Try.prog 168 [paA g,.c (.R t),.c (.int .i64 v)] [] (fun _=>.c (.I (pP g t v))):=by
 have hle:=hg.ar.le
 have hln:=hg.len
 have hnl:=hg.ar.len
 have htl:=ht.len
 have hvt:=(hg.ar.vert v (by omega)).2.2
 obtain ⟨hv1,hv2,_⟩:=hvt
 (refine b8 aP Try.func168 rfl rfl (by kernel_rfl) fun hp0 ν hX hN=>?_;simp only [cS,Nat.reduceAdd])
 (repeat' (first|(with_reducible first|(refine hK _ _ ?_;clear hK K)|(refine aa _ ?_;clear aa K)|(refine ab _ _ _ ?_;clear ab K)|(refine ac _ _ ?_;clear ac K)|refine bm ?_|refine ce ?_|refine bd ?_|refine ax ?_|refine au ?_|refine cf ?_|refine aK ?_|refine be ?_|refine cg ?_|refine bf ?_|refine bg rfl ?_|refine bn ?_|refine bh ?_|refine ch ?_|refine bi ?_|refine aJ ?_|refine n_k ?_|refine bj ?_|(refine ae ?_;clear ae X af Y)|(refine af ?_;clear ae X af Y))|(with_reducible refine bt ?_;first|refine bp rfl ?_|refine br rfl ?_)|(with_reducible refine bA ?_;first|refine ay rfl rfl rfl rfl ?_|refine aM rfl rfl rfl ?_|refine bw rfl rfl rfl rfl ?_)|(with_reducible refine cx ?_;first|refine bM rfl rfl rfl rfl ?_|refine ci rfl rfl rfl ?_|refine cD rfl rfl rfl rfl ?_|refine cE hN (by apply Exists.intro;apply And.intro;(repeat' (first|apply FtI.nil|apply FI.nil|apply FI.cons|apply FtI.cons));kernel_rfl) ?_)|((first|(with_reducible first|refine bu rfl rfl fun K hK=>?_|refine cB rfl rfl fun K ab=>?_|refine bv rfl rfl fun K aa=>?_|refine cC rfl rfl fun K ac=>?_|refine aL fun X Y ae af=>?_|refine aN ?_));simp (disch:=first|decide|omega|(simp only [List.length_cons,List.length_nil];omega)) only [go_sem,beq_self_eq_true,↓aj,↓ak hN,am hN,reduceIte,reduceCtorEq,Nat.reduceAdd,Nat.reduceLT,Nat.reduceLeDiff,Nat.reduceEqDiff,Nat.reduceSub])|(with_reducible refine And.intro (fun h=>?_) (fun h=>?_) <;> try (exfalso;omega))|(with_reducible refine bo aP hN rfl ?_ ?_;kernel_rfl)|(with_reducible refine bO aP hN rfl ?_ ?_ ?_ ?_;(kernel_rfl);(kernel_rfl);(kernel_rfl))|(with_reducible refine And.intro ?_ ?_)|(refine ah ?_;omega)|(exact bz hN (by decide))))
 (refine cr (fun (k : Nat)=>(tmL [(18,.c (.int .i64 k)),(17,.c (.int .i64 (gr g.ar.nxt v).length)),(16,.c (.I (gr g.ar.nxt v))),(7,.sl (ν 1)),(1,.c (.R t)),(2,.c (.int .i64 v)),(3,.ad (ν 0) 0)],hpL hp0 ν [.box [.c (.I g.ar.own),.c (.R g.ar.nxt),.c (.I g.prio)],.arr 27 .yes (.R (fF g t v k))])) (fun (k : Nat)=>k ≤ (gr g.ar.nxt v).length) (fun (k : Nat)=>(gr g.ar.nxt v).length - k) ⟨0,?_,bZ hX hN [] ?_ ?_⟩ ?_;(repeat' (first|(with_reducible first|exact bS _|exact bT|exact bU|refine bV ?_ ?_|refine bW ?_ ?_|exact az _|exact bQ _|exact ap _|rfl|exact aU _ _|refine aB ?_|exact bR _|refine aY ?_)|refine bX rfl ?_ ?_|exact aV hN _ rfl rfl rfl|exact aW hN _ rfl rfl rfl|exact aC hN _ rfl rfl rfl (Or.inr rfl)|(refine aX hN _ rfl rfl (by first|exact Or.inr rfl|exact Or.inl rfl) ?_;first|exact aH _|exact aI _)|refine aD hN rfl ?_|refine aE hN rfl rfl ?_|exact aA hN _ rfl rfl|exact aF hN rfl rfl rfl rfl|(with_reducible first|refine aT ?_|refine bJ ?_|refine bK ?_|refine bL ?_|refine bH ?_|refine bI ?_)));(try (any_goals (first|(with_reducible rfl)|(refine ah ?_;omega)))))
 · rfl
 intro k hk
 have hn:=fun h=>vB hg hv (i:=k) h
 have hal:=jA g t v k
 (repeat' (first|(with_reducible first|(refine hK _ _ ?_;clear hK K)|(refine aa _ ?_;clear aa K)|(refine ab _ _ _ ?_;clear ab K)|(refine ac _ _ ?_;clear ac K)|refine bm ?_|refine ce ?_|refine bd ?_|refine ax ?_|refine au ?_|refine cf ?_|refine aK ?_|refine be ?_|refine cg ?_|refine bf ?_|refine bg rfl ?_|refine bn ?_|refine bh ?_|refine ch ?_|refine bi ?_|refine aJ ?_|refine n_k ?_|refine bj ?_|(refine ae ?_;clear ae X af Y)|(refine af ?_;clear ae X af Y))|(with_reducible refine bt ?_;first|refine bp rfl ?_|refine br rfl ?_)|(with_reducible refine bA ?_;first|refine ay rfl rfl rfl rfl ?_|refine aM rfl rfl rfl ?_|refine bw rfl rfl rfl rfl ?_)|(with_reducible refine cx ?_;first|refine bM rfl rfl rfl rfl ?_|refine ci rfl rfl rfl ?_|refine cD rfl rfl rfl rfl ?_|refine cE hN (by apply Exists.intro;apply And.intro;(repeat' (first|apply FtI.nil|apply FI.nil|apply FI.cons|apply FtI.cons));kernel_rfl) ?_)|((first|(with_reducible first|refine bu rfl rfl fun K hK=>?_|refine cB rfl rfl fun K ab=>?_|refine bv rfl rfl fun K aa=>?_|refine cC rfl rfl fun K ac=>?_|refine aL fun X Y ae af=>?_|refine aN ?_));simp (disch:=first|decide|omega|(simp only [List.length_cons,List.length_nil];omega)) only [go_sem,beq_self_eq_true,↓aj,↓ak hN,am hN,reduceIte,reduceCtorEq,Nat.reduceAdd,Nat.reduceLT,Nat.reduceLeDiff,Nat.reduceEqDiff,Nat.reduceSub])|(with_reducible refine And.intro (fun h=>?_) (fun h=>?_) <;> try (exfalso;omega))|(with_reducible refine bo aP hN rfl ?_ ?_;kernel_rfl)|(with_reducible refine bO aP hN rfl ?_ ?_ ?_ ?_;(kernel_rfl);(kernel_rfl);(kernel_rfl))|(refine bc (jz g hg v hv (gr t (gi (gr g.ar.nxt v) k).toNat) (ht.row (by have:=hn (by omega);omega))) ?_ rfl (fun _=>rfl) ?_;focus ((repeat' (first|(with_reducible first|exact aq|refine ao ?_ ?_|exact cn _|refine aZ ?_|exact aS _|exact bG _ _|refine bF ?_|exact aQ _)|exact a8 hN rfl rfl|(refine bE hN rfl ?_;first|exact aH _|exact aI _)|exact aR rfl rfl rfl));done))|(refine gZ (l7 (fF g t v k) (by omega) (by omega) (jb hg ht hv hk)) hN 1 ?_ rfl rfl rfl ?_;focus ((repeat' (first|(with_reducible first|exact aq|refine ao ?_ ?_|exact cn _|refine aZ ?_|exact aS _|exact bG _ _|refine bF ?_|exact aQ _)|exact a8 hN rfl rfl|(refine bE hN rfl ?_;first|exact aH _|exact aI _)|exact aR rfl rfl rfl));done))|(refine gZ (l8 (fF g t v k) (by omega) (by omega) (jb hg ht hv hk)) hN 1 ?_ rfl rfl rfl ?_;focus ((repeat' (first|(with_reducible first|exact aq|refine ao ?_ ?_|exact cn _|refine aZ ?_|exact aS _|exact bG _ _|refine bF ?_|exact aQ _)|exact a8 hN rfl rfl|(refine bE hN rfl ?_;first|exact aH _|exact aI _)|exact aR rfl rfl rfl));done))|(with_reducible first|exact aq|refine ao ?_ ?_|exact cn _|refine aZ ?_|exact aS _|exact bG _ _|refine bF ?_|exact aQ _)|exact a8 hN rfl rfl|(refine bE hN rfl ?_;first|exact aH _|exact aI _)|exact aR rfl rfl rfl|(simp only [bC,List.map_nil])|(with_reducible refine cc ?_)|(simp (disch:=first|decide|omega|(simp only [List.length_cons,List.length_nil];omega)) only [bC,List.map_cons,List.map_nil,am hN,List.set_cons_zero,List.set_cons_succ])|(with_reducible refine And.intro ?_ ?_)|(refine ah ?_;omega)|(exact bz hN (by decide))))
 · (refine ⟨k + 1,⟨?_,?_⟩,bZ hX hN [(1,4)] ?_ ?_⟩;(try any_goals dsimp only);(repeat' (first|(with_reducible first|exact bS _|exact bT|exact bU|refine bV ?_ ?_|refine bW ?_ ?_|exact az _|exact bQ _|exact ap _|rfl|exact aU _ _|refine aB ?_|exact bR _|refine aY ?_)|refine bX rfl ?_ ?_|exact aV hN _ rfl rfl rfl|exact aW hN _ rfl rfl rfl|exact aC hN _ rfl rfl rfl (Or.inr rfl)|(refine aX hN _ rfl rfl (by first|exact Or.inr rfl|exact Or.inl rfl) ?_;first|exact aH _|exact aI _)|refine aD hN rfl ?_|refine aE hN rfl rfl ?_|exact aA hN _ rfl rfl|exact aF hN rfl rfl rfl rfl|(with_reducible first|refine aT ?_|refine bJ ?_|refine bK ?_|refine bL ?_|refine bH ?_|refine bI ?_)));(try (any_goals (first|(with_reducible rfl)|(refine ah ?_;omega)))))
   exact kU g t v k
 · (refine cQ (.inr rfl) (by first|rfl|(simp (disch:=first|decide|omega|(simp only [List.length_cons,List.length_nil];omega)) only [cw,cA,cF,cG,go_sem,beq_self_eq_true,↓aj,↓ak hN,am hN,reduceIte,reduceCtorEq,Nat.reduceAdd,Nat.reduceLT,Nat.reduceLeDiff,Nat.reduceEqDiff,Nat.reduceSub];rfl)) ?_)
   rw [hal,show k = (gr g.ar.nxt v).length by omega]
   exact congrArg C.I (kf (bP (by assumption)))
 · (refine cQ (.inr rfl) (by first|rfl|(simp (disch:=first|decide|omega|(simp only [List.length_cons,List.length_nil];omega)) only [cw,cA,cF,cG,go_sem,beq_self_eq_true,↓aj,↓ak hN,am hN,reduceIte,reduceCtorEq,Nat.reduceAdd,Nat.reduceLT,Nat.reduceLeDiff,Nat.reduceEqDiff,Nat.reduceSub];rfl)) ?_)
   rw [hal,show k = (gr g.ar.nxt v).length by omega]
   exact congrArg C.I (kf (ba (by simpa using (by assumption : (gi g.ar.own v == 0) = false))))
end Go.Proofs.Ytfaefmabjjndeaa
