/-
  Solved: the reference's side.
-/
import Derived.Test.YtfaefmabjjndeaaZtE22
namespace Go.Proofs.Ytfaefmabjjndeaa
set_option linter.unusedVariables false
set_option linter.unusedSimpArgs false
open Go.RowKit
attribute [local irreducible] FunSpec CallR Aw Le
theorem only_noP {g : Pa} (hg : PaOk g) : pgP (onlyP g (noP g.prio.length)) = pgP g:=(pg_pick hg (noP_ok hg).pk).symm
theorem winL_noP {g : Pa} (hg : PaOk g) : winL (onlyP g (noP g.prio.length)) = winL g:=by
  show (tab g.prio.length fun v=>if tf (PG.Won (pgP (onlyP g (noP g.prio.length))) 0 (allN g) v) then 0 else 1) = winL g
  rw [only_noP hg];rfl
theorem fits_noP {g : Pa} (hg : PaOk g) : Fits g (noP g.prio.length) :=
  ⟨⟨⟨hg,(noP_ok hg).pk⟩,winL_noP hg⟩,fun v hv h=>by rw [noP,tab_len] at hv;rw [noP,gi_tab _ hv] at h;omega⟩
end Go.Proofs.Ytfaefmabjjndeaa
