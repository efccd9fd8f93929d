/-
  Lists of lists in the exact laws' walks.
-/
import Derived.Test.YtfkiloibifigfaaLaw
import Derived.Test.YtfkiloibifigfaaCb
namespace Go.Proofs.Ytfkiloibifigfaa
set_option linter.unusedVariables false
set_option linter.unusedSimpArgs false
open Go.RowKit

def WfII (xss : List (List Int)) : Prop := ∀ k, k < xss.length → Wf (gr xss k)
theorem Is2R {w : World} {s : Option Addr} {n c : Nat} {g : List (List Int)} (h : IsII w (.slice s n c) g) : Rws w s n c g := h.rws
def RetII' (w : World) (g : List (List Int)) (e : Ending) (w' : World) : Prop := ∃ s n c, e = .returned (.slice s n c) ∧ OwnII w.heap.size w'.heap.size w' (.slice s n c) g ∧ Below w.heap.size w w'
theorem toII_any' {s : Option Addr} {n c : Nat} {g : List (List Int)} {w : World} (h : IsII w (.slice s n c) g) (hs : szII g ≤ 1048576) : Calls Try.prog 18 #[.slice s n c] w (RetII' w g) := by
  have hl : g.length = n := h.rws.len
  unfold szII at hs
  exact (toII_any _ _ _ _ _ h.rws (by omega) fun k hk => by
    have := psum_mono g (j := k + 1) (k := g.length) (by omega)
    simp only [psum] at this; omega).mono fun _ _ ⟨_, sa, c, e, h1, h2⟩ => ⟨sa, n, c, e, h1, h2⟩
theorem eqII_any' {a b : Value} {x y : List (List Int)} {w : World} (hx : IsII w a x) (hy : IsII w b y) : Calls Try.prog 21 #[a, b] w (Bb w (tf (x = y))) := by
  obtain ⟨_, _, _, rfl, h1⟩ := hx
  obtain ⟨_, _, _, rfl, h2⟩ := hy
  exact (eqII_any _ _ _ _ _ _ _ _ _ h1 h2).mono fun _ _ h => h.bb
end Go.Proofs.Ytfkiloibifigfaa
