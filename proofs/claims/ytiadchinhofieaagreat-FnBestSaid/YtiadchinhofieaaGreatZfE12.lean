/-
  Who wins which vertex: the program's and the reference's.
-/
import Derived.Test.YtiadchinhofieaaGreatZfE11
import Derived.Test.YtiadchinhofieaaGreatZfCe
import Derived.Test.YtiadchinhofieaaGreatZfCq
namespace Go.Proofs.YtiadchinhofieaaGreat
set_option linter.unusedVariables false
set_option linter.unusedSimpArgs false
open Go.RowKit
def pgP (g : Pa) : PG.Gm:=df (dE g) g.prio.length
theorem il {g : Pa} (v u : Nat) : (pgP g).E v u ↔ v < g.prio.length ∧ u < g.prio.length ∧ ∃ t,t < (gr g.ar.nxt v).length ∧ gi (gr g.ar.nxt v) t = (u : Int):=by
 show v < _ ∧ u < _ ∧ edg (dE g) v u = true ∧ _ ↔ _
 constructor
 · rintro ⟨a,b,_,c⟩;exact ⟨a,b,c⟩
 · rintro ⟨a,b,c⟩;exact ⟨a,b,yA v u (by omega) (by omega),c⟩
theorem ph {g : Pa} (hg : PaOk g) {xs : List Int} (h : uf g.ar xs) : PG.Total (pgP g) fun v=>(v : Int) ∈ xs:=by
 intro v hv
 obtain ⟨k,hk,e⟩:=cR hv
 obtain ⟨i,h1,h2⟩:=h.2 k hk
 have h3:=h.1 k hk
 have hl:=hg.len
 rw [e,Int.toNat_natCast] at h1 h2
 obtain ⟨j,hj,e'⟩:=cR h2
 have h4:=h.1 j hj
 rw [e'] at h4
 have e5 : (((gi (gr g.ar.nxt v) i).toNat : Nat) : Int) = gi (gr g.ar.nxt v) i:=Int.toNat_of_nonneg h4.1
 exact ⟨(gi (gr g.ar.nxt v) i).toNat,(il _ _).2 ⟨by omega,by omega,i,h1,e5.symm⟩,by show _ ∈ xs;rw [e5];exact h2⟩
def ja (g : Pa) (v : Nat) : Prop:=v < g.prio.length
theorem jY {g : Pa} (hg : PaOk g) : PG.Total (pgP g) (ja g):=by
 intro v hv
 have hl:=hg.len
 have hv' : v < g.prio.length:=hv
 obtain ⟨_,_,h1,h2,h3⟩:=hg.ar.vert v (by omega)
 have h4:=h3 0 (by omega)
 exact ⟨(gi (gr g.ar.nxt v) 0).toNat,(il _ _).2 ⟨hv',by omega,0,by omega,by omega⟩,show _ < _ by omega⟩
noncomputable def bL (g : Pa) : List Int:=tab g.prio.length fun v=>if tf (PG.Won (pgP g) 0 (ja g) v) then 0 else 1
theorem uv {g : Pa} : PG.Fin (pgP g) g.prio.length:=fun v u h=>h.2.1
end Go.Proofs.YtiadchinhofieaaGreat
