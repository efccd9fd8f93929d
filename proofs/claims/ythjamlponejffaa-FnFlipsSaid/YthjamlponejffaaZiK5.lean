/-
  The winners of the dual game and of the game with compressed priorities.
-/
import Derived.Test.YthjamlponejffaaZiK1
namespace Go.Proofs.Ythjamlponejffaa
set_option linter.unusedVariables false
set_option linter.unusedSimpArgs false
open Go.RowKit
theorem c8 (g : Pa) : (dD g).prio.length = g.prio.length:=bD _ _
theorem cS (g : Pa) : (cH g).prio.length = g.prio.length:=bD _ _
theorem eN (g : Pa) : (cH g).ar.own.length = g.ar.own.length:=bD _ _
theorem kr {g : Pa} (hg : PaOk g) : PaOk (dD g):=by
 refine ⟨hg.ar,(c8 g).trans hg.len,fun v hv=>?_⟩
 rw [c8] at hv
 obtain ⟨h1,h2,h3,h4⟩:=mw hg hv
 have hn:=nb h1
 rw [show gi (dD g).prio v = _ from bH _ hv]
 omega
theorem ij {g : Pa} (hg : PaOk g) (hm : ∀ v,v < g.prio.length → gi g.prio v < 40) : PaOk (cH g):=by
 have hl:=hg.len
 refine ⟨⟨?_,?_,?_,fun v hv=>?_⟩,(cS g).trans (hg.len.trans (eN g).symm),fun v hv=>?_⟩
 · rw [eN];exact hg.ar.pos
 · rw [eN];exact hg.ar.le
 · rw [eN];exact hg.ar.len
 · rw [eN] at hv ⊢
   obtain ⟨h1,h2,h3⟩:=hg.ar.vert v hv
   rw [show gi (cH g).ar.own v = _ from bH _ hv]
   exact ⟨by omega,by omega,h3⟩
 · rw [cS] at hv
   have h1:=hg.prio v hv
   have h2:=hm v hv
   rw [show gi (cH g).prio v = _ from bH _ hv]
   omega
theorem pW (g : Pa) : dy (dD g) = dy g:=funext fun v=>by unfold dy;rw [c8]
theorem pX (g : Pa) : dy (cH g) = dy g:=funext fun v=>by unfold dy;rw [cS]
theorem u5 (g : Pa) (hg : PaOk g) (v : Nat) {i : Int} (hi : i = 0 ∨ i = 1) : PG.Won (pgP (dD g)) i (dy (dD g)) v ↔ PG.Won (pgP g) i (dy g) v:=by
 have hp:=kr hg
 have ht:=dQ hp
 have hf:=lj (g:=dD g)
 rw [c8] at hf
 rw [pW] at ht ⊢
 have pr : ∀ v,dy g v → (pgP g).prio v = gi g.prio v:=fun v hv=>fI (dL hg) hv
 refine pT (h:=fun p=>cJ (dm g) (p.toNat + 1)) lj hf hi hi rh (dQ hg) ht (fun v u hv=>?_) (fun v hv=>?_) (fun v hv=>?_) (fun a b hab=>?_) (fun v hv=>?_) v
 · rw [li,li,c8];rfl
 · rw [m9 hg hv,m9 hp (by rw [c8];exact hv)];rfl
 · rw [pr v hv]
   exact (fI (dL hp) (by rw [c8];exact hv)).trans (bH _ hv)
 · obtain ⟨k,hk⟩:=Nat.exists_eq_add_of_le (show a.toNat + 1 ≤ b.toNat + 1 by omega)
   show cJ _ (a.toNat + 1) ≤ cJ _ (b.toNat + 1)
   rw [hk]
   exact jI _ k
 · have h:=mw hg hv
   have hn:=nb h.1
   show cJ _ (((pgP g).prio v).toNat + 1) % 2 = i ↔ (pgP g).prio v % 2 = i
   rw [pr v hv,hn.2.2,h.2.1]
theorem u6 (g : Pa) (hg : PaOk g) (hm : ∀ v,v < g.prio.length → gi g.prio v < 40) (v : Nat) {i : Int} (hi : i = 0 ∨ i = 1) : PG.Won (pgP (cH g)) (1 - i) (dy (cH g)) v ↔ PG.Won (pgP g) i (dy g) v:=by
 have hp:=ij hg hm
 have hl:=hg.len
 have ht:=dQ hp
 have hf:=lj (g:=cH g)
 rw [cS] at hf
 rw [pX] at ht ⊢
 have pr : ∀ v,dy g v → (pgP g).prio v = gi g.prio v:=fun v hv=>fI (dL hg) hv
 refine pT (h:=fun p=>p + 1) lj hf hi (by omega) rh (dQ hg) ht (fun v u hv=>?_) (fun v hv=>?_) (fun v hv=>?_) (fun a b hab=>?_) (fun v hv=>?_) v
 · rw [li,li,cS];rfl
 · have hv' : v < g.prio.length:=hv
   rw [m9 hg hv,m9 hp (by rw [cS];exact hv),show gi (cH g).ar.own v = 1 - gi g.ar.own v from bH _ (by omega)]
   omega
 · rw [pr v hv]
   exact (fI (dL hp) (by rw [cS];exact hv)).trans (bH _ hv)
 · show a + 1 ≤ b + 1
   omega
 · have h:=hg.prio v hv
   show ((pgP g).prio v + 1) % 2 = 1 - i ↔ (pgP g).prio v % 2 = i
   rw [pr v hv]
   omega
theorem pY {g : Pa} (hg : PaOk g) : cE (dD g) = cE g:=by
 unfold cE
 rw [c8]
 exact ci fun v hv=>by rw [ew (u5 g hg v (.inl rfl))]
theorem lD {g : Pa} (hg : PaOk g) (hm : ∀ v,v < g.prio.length → gi g.prio v < 40) {i : Int} (hi : i = 0 ∨ i = 1) : atL (cE (cH g)) (1 - i) = atL (cE g) i:=by
 unfold atL
 rw [fu,fu,cS]
 refine congrArg (cX · g.prio.length) (cC fun v hv=>?_)
 have h : gi (cE (cH g)) v = 1 - i ↔ gi (cE g) v = i:=by
  rw [na (ij hg hm) (by rw [cS];exact hv) (by omega),na hg hv hi,u6 g hg hm v hi]
 rw [Bool.eq_iff_iff,beq_iff_eq,beq_iff_eq,h]
theorem oh (g : Pa) : (⟨tab (cH g).ar.own.length fun v=>1 - gi (cH g).ar.own v,(cH g).ar.nxt⟩ : Ar) = g.ar:=by
 have h : (tab (cH g).ar.own.length fun v=>1 - gi (cH g).ar.own v) = g.ar.own:=by
  rw [eN]
  refine (il rfl fun v hv=>?_).symm
  rw [show gi (cH g).ar.own v = 1 - gi g.ar.own v from bH _ hv]
  omega
 rw [h];rfl
end Go.Proofs.Ythjamlponejffaa
