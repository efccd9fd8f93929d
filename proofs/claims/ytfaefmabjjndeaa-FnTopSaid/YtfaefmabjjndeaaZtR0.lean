/-
  Right answers: what they are.
-/
import Derived.Test.YtfaefmabjjndeaaZtR1
import Derived.Test.YtfaefmabjjndeaaZtE14
import Derived.Test.YtfaefmabjjndeaaZtD9
import Derived.Test.YtfaefmabjjndeaaZtNp
namespace Go.Proofs.Ytfaefmabjjndeaa
set_option linter.unusedVariables false
set_option linter.unusedSimpArgs false
open Go.RowKit
theorem nxt_nn' {g : Pa} (hg : PaOk g) {v : Nat} (hv : v < g.prio.length) {u : Int} (hu : u ∈ gr g.ar.nxt v) : 0 ≤ u ∧ u < g.prio.length:=by
  obtain ⟨t,ht,e⟩:=mem_gi hu
  have hl:=hg.len
  have:=(hg.ar.vert v (by omega)).2.2.2.2 t ht
  rw [e] at this;exact ⟨this.1,by omega⟩
def partL (g : Pa) (P : List Int) (i : Int) : List Int:=tab g.prio.length fun v=>if gi g.ar.own v = i then gi P v else -1
theorem partL_len (g : Pa) (P : List Int) (i : Int) : (partL g P i).length = g.prio.length:=tab_len _ _
theorem gi_part {g : Pa} {P : List Int} {i : Int} {v : Nat} (hv : v < g.prio.length) : gi (partL g P i) v = if gi g.ar.own v = i then gi P v else -1:=gi_tab _ hv
def FormAt (g : Pa) (W P : List Int) (v : Nat) : Prop:=(gi W v = 0 ∨ gi W v = 1) ∧ (gi g.ar.own v = gi W v → gi P v ∈ gr g.ar.nxt v) ∧ (gi g.ar.own v ≠ gi W v → gi P v = -1)
def AForm (g : Pa) (W P : List Int) : Prop:=(W.length = g.prio.length ∧ P.length = g.prio.length) ∧ ∀ v,v < g.prio.length → FormAt g W P v
def ClosAt (g : Pa) (i : Int) (R ps : List Int) (x : Int) : Prop:=(gi g.ar.own x.toNat = i → 0 ≤ gi ps x.toNat ∧ gi ps x.toNat ∈ R) ∧ (gi g.ar.own x.toNat ≠ i → ∀ t,t < (gr g.ar.nxt x.toNat).length → gi (gr g.ar.nxt x.toNat) t ∈ R)
def ClosP (g : Pa) (i : Int) (R ps : List Int) : Prop:=∀ j,j < R.length → ClosAt g i R ps (gi R j)
def BadV (g : Pa) (R ps : List Int) (x : Int) : Prop:=PG.Way (pgP (onlyP g ps)).E (fun u : Nat=>(u : Int) ∈ R ∧ gi g.prio u ≤ gi g.prio x.toNat) x.toNat x.toNat
def CleanP (g : Pa) (i : Int) (R ps : List Int) : Prop:=∀ j,j < R.length → gi g.prio (gi R j).toNat % 2 = i ∨ ¬ BadV g R ps (gi R j)
def WinsP (g : Pa) (i : Int) (R ps : List Int) : Prop:=ClosP g i R ps ∧ CleanP g i R ps
def AOk (g : Pa) (W P : List Int) : Prop:=(PaOk g ∧ AForm g W P) ∧ WinsP g 0 (atL W 0) (partL g P 0) ∧ WinsP g 1 (atL W 1) (partL g P 1)
end Go.Proofs.Ytfaefmabjjndeaa
