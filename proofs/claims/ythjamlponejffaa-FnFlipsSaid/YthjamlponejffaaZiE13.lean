/-
  The winners of a whole game, on both sides.
-/
import Derived.Test.YthjamlponejffaaZiE12
import Derived.Test.YthjamlponejffaaZiG3
namespace Go.Proofs.Ythjamlponejffaa
set_option linter.unusedVariables false
set_option linter.unusedSimpArgs false
open Go.RowKit
attribute [local irreducible] ap b9 Aw Le
theorem mo {g : Pa} (hg : PaOk g) : r8 g.ar (tab g.ar.own.length fun v=>v):=by
 have hm : ∀ x : Int,x ∈ (tab g.ar.own.length fun v=>(v : Int)) ↔ 0 ≤ x ∧ x < g.ar.own.length:=fun x=>by
  constructor
  · intro h
    obtain ⟨k,hk,e⟩:=dS h
    rw [bD] at hk
    rw [bH _ hk] at e
    omega
  · intro h
    have : gi (tab g.ar.own.length fun v=>(v : Int)) x.toNat = x:=by rw [bH _ (by omega)];omega
    rw [← this]
    exact dz (by rw [bD];omega)
 refine ⟨fun k hk=>?_,fun k hk=>?_⟩
 · rw [bD] at hk
   rw [bH _ hk]
   refine ⟨by omega,by omega,fun h=>?_⟩
   rw [bH _ (by omega)];omega
 · rw [bD] at hk
   rw [bH _ hk,Int.toNat_natCast]
   obtain ⟨_,_,h1,h2,h3⟩:=hg.ar.vert k hk
   have h4:=h3 0 (by omega)
   exact ⟨0,by omega,(hm _).2 ⟨h4.1,h4.2.1⟩⟩
theorem fu (g : Pa) : (cE g).length = g.prio.length:=bD _ _
end Go.Proofs.Ythjamlponejffaa
