/-
  What is reached: a queue's and a stack's walk in plain words.
-/
import Derived.Test.YtlodllmpndflcaaZoR1
import Derived.Test.YtlodllmpndflcaaZoE14
import Derived.Test.YtlodllmpndflcaaZoD5
import Derived.Test.YtlodllmpndflcaaZoNp
namespace Go.Proofs.Ytlodllmpndflcaa
set_option linter.unusedVariables false
set_option linter.unusedSimpArgs false
open Go.RowKit
end Go.Proofs.Ytlodllmpndflcaa
namespace Go.Proofs.Ytlodllmpndflcaa
set_option linter.unusedVariables false
set_option linter.unusedSimpArgs false
open Go.RowKit
def edR (row : Nat → List Int) (v u : Nat) : Prop:=∃ t,t < (row v).length ∧ gi (row v) t = (u : Int)
inductive Rch (E : Nat → Nat → Prop) (F L : Nat → Prop) : Nat → Prop where
 | base {u : Nat} (h : F u) : Rch E F L u
 | step {w u : Nat} (t : Rch E F L w) (h : E w u) (l : L u) : Rch E F L u
structure RInv (row : Nat → List Int) (F L : Nat → Prop) (n i t : Nat) (q : List Int) (out : List Bool) : Prop where
 ol : out.length = n
 ql : q.length = num (fun v=>gb out v = true) n
 qr : ∀ j,j < q.length → 0 ≤ gi q j ∧ gi q j < n ∧ gb out (gi q j).toNat = true
 qo : ∀ v,v < n → gb out v = true → (v : Int) ∈ q
 rc : ∀ v,v < n → gb out v = true → Rch (edR row) F L v
 fo : ∀ v,v < n → F v → gb out v = true
 cl : ∀ j,j < i → ∀ s,s < (row (gi q j).toNat).length → L (gi (row (gi q j).toNat) s).toNat → gb out (gi (row (gi q j).toNat) s).toNat = true
 ct : ∀ s,s < t → s < (row (gi q i).toNat).length → L (gi (row (gi q i).toNat) s).toNat → gb out (gi (row (gi q i).toNat) s).toNat = true
theorem RInv.skip {row : Nat → List Int} {F L : Nat → Prop} {n i t : Nat} {q : List Int} {out : List Bool} (h : RInv row F L n i t q out) (hs : L (gi (row (gi q i).toNat) t).toNat → gb out (gi (row (gi q i).toNat) t).toNat = true) : RInv row F L n i (t + 1) q out:=by
 refine ⟨h.ol,h.ql,h.qr,h.qo,h.rc,h.fo,h.cl,fun s hs' hl hL=>?_⟩
 by_cases e : s = t
 · subst e;exact hs hL
 · exact h.ct s (by omega) hl hL
theorem RInv.next {row : Nat → List Int} {F L : Nat → Prop} {n i t : Nat} {q : List Int} {out : List Bool} (h : RInv row F L n i t q out) (ht : (row (gi q i).toNat).length ≤ t) : RInv row F L n (i + 1) 0 q out:=by
 refine ⟨h.ol,h.ql,h.qr,h.qo,h.rc,h.fo,fun j hj s hs hL=>?_,fun s hs=>absurd hs (Nat.not_lt_zero _)⟩
 by_cases e : j = i
 · subst e;exact h.ct s (by omega) hs hL
 · exact h.cl j (by omega) s hs hL
theorem RInv.fin {row : Nat → List Int} {F L : Nat → Prop} {n i : Nat} {q : List Int} {out : List Bool} (h : RInv row F L n i 0 q out) (hi : q.length ≤ i) (hF : ∀ v,F v → v < n) (hw : ∀ v,v < n → ∀ t,t < (row v).length → 0 ≤ gi (row v) t ∧ gi (row v) t < n) : out = mks n (Rch (edR row) F L):=by
 refine mX h.ol fun v hv=>?_
 have key : ∀ v,Rch (edR row) F L v → v < n ∧ gb out v = true:=by
  intro v hr
  induction hr with
  | base hf => exact ⟨hF _ hf, h.fo _ (hF _ hf) hf⟩
  | @step w u t he l ih =>
    obtain ⟨s,hs,e⟩:=he
    obtain ⟨j,hj,e2⟩:=fc (h.qo w ih.1 ih.2)
    have h1:=hw w ih.1 s hs
    have h2:=h.cl j (by omega) s
    rw [e2,Int.toNat_natCast,e,Int.toNat_natCast] at h2
    exact ⟨by omega,h2 hs l⟩
 by_cases hb : gb out v = true
 · rw [hb,aA (h.rc v hv hb)]
 · rw [ao fun hr=>hb (key v hr).2]
   simpa using hb
structure SInv (row : Nat → List Int) (L : Nat → Prop) (n v0 : Nat) (todo : List Int) (out : List Bool) (pd : Nat → Nat → Prop) : Prop where
 ol : out.length = n
 tl : todo.length ≤ num (fun v=>gb out v = true) n + 1
 tr : ∀ j,j < todo.length → 0 ≤ gi todo j ∧ gi todo j < n ∧ ((gi todo j).toNat = v0 ∨ gb out (gi todo j).toNat = true)
 rc : ∀ u,gb out u = true → PG.Way (edR row) L v0 u
 cl : ∀ w s,w < n → (w = v0 ∨ gb out w = true) → (w : Int) ∉ todo → s < (row w).length → ¬ pd w s → L (gi (row w) s).toNat → gb out (gi (row w) s).toNat = true
theorem SInv.skip {row : Nat → List Int} {L : Nat → Prop} {n v0 x t : Nat} {todo : List Int} {out : List Bool} (h : SInv row L n v0 todo out fun w s=>w = x ∧ t ≤ s) (hs : L (gi (row x) t).toNat → gb out (gi (row x) t).toNat = true) : SInv row L n v0 todo out fun w s=>w = x ∧ t + 1 ≤ s:=by
 refine ⟨h.ol,h.tl,h.tr,h.rc,fun w s hw hc hn hl hpd hL=>?_⟩
 by_cases e : w = x ∧ s = t
 · obtain ⟨rfl,rfl⟩:=e;exact hs hL
 · refine h.cl w s hw hc hn hl (fun ⟨a,b⟩=>e ⟨a,?_⟩) hL
   have : ¬ t + 1 ≤ s:=fun c=>hpd ⟨a,c⟩
   omega
theorem SInv.done {row : Nat → List Int} {L : Nat → Prop} {n v0 x t : Nat} {todo : List Int} {out : List Bool} (h : SInv row L n v0 todo out fun w s=>w = x ∧ t ≤ s) (ht : (row x).length ≤ t) : SInv row L n v0 todo out fun _ _=>False:=by
 refine ⟨h.ol,h.tl,h.tr,h.rc,fun w s hw hc hn hl _ hL=>h.cl w s hw hc hn hl (fun ⟨a,b⟩=>?_) hL⟩
 subst a
 omega
theorem SInv.fin {row : Nat → List Int} {L : Nat → Prop} {n v0 : Nat} {out : List Bool} (h : SInv row L n v0 [] out fun _ _=>False) (hv : v0 < n) (hw : ∀ v,v < n → ∀ t,t < (row v).length → 0 ≤ gi (row v) t ∧ gi (row v) t < n) : out = mks n (PG.Way (edR row) L v0):=by
 refine mX h.ol fun v hv'=>?_
 have step : ∀ w u,w < n → (w = v0 ∨ gb out w = true) → edR row w u → L u → u < n ∧ gb out u = true:=fun w u hwn hc ⟨s,hs,e⟩ l=>by
  have h1:=hw w hwn s hs
  have h2:=h.cl w s hwn hc (List.not_mem_nil) hs (fun x=>x)
  rw [e,Int.toNat_natCast] at h2
  exact ⟨by omega,h2 l⟩
 have key : ∀ v,PG.Way (edR row) L v0 v → v < n ∧ gb out v = true:=by
  intro v hr
  induction hr with
  | one he l => exact step _ _ hv (.inl rfl) he l
  | more t he l ih => exact step _ _ ih.1 (.inr ih.2) he l
 by_cases hb : gb out v = true
 · rw [hb,aA (h.rc v hb)]
 · rw [ao fun hr=>hb (key v hr).2]
   simpa using hb
end Go.Proofs.Ytlodllmpndflcaa
