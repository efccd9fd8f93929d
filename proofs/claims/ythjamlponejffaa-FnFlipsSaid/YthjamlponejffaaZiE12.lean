/-
  Who wins which vertex: the program's and the reference's.
-/
import Derived.Test.YthjamlponejffaaZiE8
import Derived.Test.YthjamlponejffaaZiE9
import Derived.Test.YthjamlponejffaaZiCe
import Derived.Test.YthjamlponejffaaZiFc
import Derived.Test.YthjamlponejffaaZiCq
namespace Go.Proofs.Ythjamlponejffaa
set_option linter.unusedVariables false
set_option linter.unusedSimpArgs false
open Go.RowKit
end Go.Proofs.Ythjamlponejffaa
namespace Go.Proofs.Ythjamlponejffaa
set_option linter.unusedVariables false
set_option linter.unusedSimpArgs false
open Go.RowKit
end Go.Proofs.Ythjamlponejffaa
namespace Go.Proofs.Ythjamlponejffaa
set_option linter.unusedVariables false
set_option linter.unusedSimpArgs false
open Go.RowKit
def pgP (g : Pa) : PG.Gm:=cR (c9 g) g.prio.length
theorem li {g : Pa} (v u : Nat) : (pgP g).E v u ↔ v < g.prio.length ∧ u < g.prio.length ∧ ∃ t,t < (gr g.ar.nxt v).length ∧ gi (gr g.ar.nxt v) t = (u : Int):=by
 show v < _ ∧ u < _ ∧ edg (c9 g) v u = true ∧ _ ↔ _
 constructor
 · rintro ⟨a,b,_,c⟩;exact ⟨a,b,c⟩
 · rintro ⟨a,b,c⟩;exact ⟨a,b,pJ v u (by omega) (by omega),c⟩
def dy (g : Pa) (v : Nat) : Prop:=v < g.prio.length
theorem dQ {g : Pa} (hg : PaOk g) : PG.Total (pgP g) (dy g):=by
 intro v hv
 have hl:=hg.len
 have hv' : v < g.prio.length:=hv
 obtain ⟨_,_,h1,h2,h3⟩:=hg.ar.vert v (by omega)
 have h4:=h3 0 (by omega)
 exact ⟨(gi (gr g.ar.nxt v) 0).toNat,(li _ _).2 ⟨hv',by omega,0,by omega,by omega⟩,show _ < _ by omega⟩
theorem qV {n v : Nat} {p : Nat → Prop} (hp : ∀ v,p v → v < n) : gb (mks n p) v = true ↔ p v:=by
 rcases Nat.lt_or_ge v n with h|h
 · rw [fh _ h];exact mC
 · refine ⟨fun h'=>?_,fun h'=>?_⟩
   · have:=jG h';rw [dG] at this;omega
   · have:=hp v h';omega
noncomputable def cE (g : Pa) : List Int:=tab g.prio.length fun v=>if tf (PG.Won (pgP g) 0 (dy g) v) then 0 else 1
theorem lj {g : Pa} : PG.Fin (pgP g) g.prio.length:=fun v u h=>h.2.1
end Go.Proofs.Ythjamlponejffaa
