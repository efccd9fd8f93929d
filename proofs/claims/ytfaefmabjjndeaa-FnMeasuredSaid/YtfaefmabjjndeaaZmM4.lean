/-
  Measures of a game: the odds from a priority on, what is asked for; the small functions of both sides.
-/
import Derived.Test.YtfaefmabjjndeaaZmMeas2
import Derived.Test.YtfaefmabjjndeaaZmM3
import Derived.Test.YtfaefmabjjndeaaZmG3
namespace Go.Proofs.Ytfaefmabjjndeaa
set_option linter.unusedVariables false
set_option linter.unusedSimpArgs false
open Go.RowKit
def mZ (p : Int) : List Int → Nat
 | [] => 0
 | o :: os => if p ≤ o then mZ p os + 1 else 0
theorem qF (p : Int) : ∀ os,mZ p os ≤ os.length
 | [] => Nat.le_refl _
 | o :: os => by
   unfold mZ
   split
   · exact Nat.succ_le_succ (qF p os)
   · exact Nat.zero_le _
theorem oy {p : Int} : ∀ {os : List Int},os.Pairwise (fun a b=>b < a) → ∀ i,i < os.length → (p ≤ gi os i ↔ i < mZ p os)
 | [], _, i, h => absurd h (Nat.not_lt_zero _)
 | o :: os, hp, i, h => by
   rw [List.pairwise_cons] at hp
   unfold mZ
   rcases i with _|i
   · show p ≤ o ↔ _
     split
     · rename_i e;exact ⟨fun _=>Nat.succ_pos _,fun _=>e⟩
     · rename_i e;exact ⟨fun h=>absurd h e,fun h=>absurd h (Nat.not_lt_zero _)⟩
   · have hi : i < os.length:=by simpa using h
     show p ≤ gi os i ↔ _
     have ih:=oy (p:=p) hp.2 i hi
     split
     · rw [ih];omega
     · rename_i e
       have:=hp.1 _ (dz hi)
       exact ⟨fun h=>absurd h (by omega),fun h=>absurd h (Nat.not_lt_zero _)⟩
theorem rM (g : Pa) : (cu g).Pairwise (fun a b=>b < a):=by rw [← pJ];exact kN g 20
noncomputable def odC (g : Pa) (p : Int) : Nat:=mZ p (cu g)
theorem kT (g : Pa) (p : Int) : odC g p ≤ (cu g).length:=qF _ _
theorem kc (g : Pa) (p : Int) {i : Nat} (h : i < (cu g).length) : p ≤ gi (cu g) i ↔ i < odC g p:=oy (rM g) i h
theorem kd (g : Pa) (p : Int) : 0 ≤ fO g p:=Int.natCast_nonneg _
theorem qG (g : Pa) (p : Int) : fO g p ≤ g.prio.length:=by have:=rJ g.prio p g.prio.length;unfold fO;omega
noncomputable def cI (g : Pa) : MS.Gt:=⟨g.prio.length,(cu g).length,fun i=>fO g (gi (cu g) i),fun v=>gr g.ar.nxt v,fun v=>odC g (gi g.prio v),fun v=>tf (gi g.prio v % 2 = 1),fun v=>tf (gi g.ar.own v = 0)⟩
theorem ee {g : Pa} (hg : PaOk g) : (cI g).Right where
 mx0:=fun i=>kd _ _
 ck:=fun v _=>kT _ _
 pos:=fun v hv=>(hg.ar.vert v (by have:=hg.len;exact this ▸ hv)).2.2.1
 nxt:=fun v hv i hi=>by
  have hv' : v < g.ar.own.length:=by have:=hg.len;exact this ▸ hv
  have:=(hg.ar.vert v hv').2.2.2.2.bnd i hi
  show _ < g.prio.length
  have:=hg.len
  show (gi (gr g.ar.nxt v) i).toNat < _
  omega
theorem v7 {g : Pa} (hs : ec g) : ∀ i,i < (cI g).K → (cI g).mx i < (13 : Nat):=fun i _=>by
 have h1:=qG g (gi (cu g) i)
 have h2:=hs.2
 show fO g _ < _
 omega
noncomputable def iw (g : Pa) (v : Nat) (m : List Int) : List Int:=MS.ask (cu g).length (cI g).mx (odC g (gi g.prio v)) (tf (gi g.prio v % 2 = 1)) m
theorem xe {g : Pa} {m : List Int} : jO g m ↔ MS.Ok (cI g).K (cI g).mx m:=Iff.rfl
theorem fE {g : Pa} {m : List Int} (h : jO g m) : 0 < m.length ∧ m.length ≤ 42:=by
 have:=ip g
 rcases h with rfl|h
 · exact ⟨by decide,by simp⟩
 · omega
theorem qH {g : Pa} (hg : PaOk g) {v : Nat} {m : List Int} (h : jO g m) : jO g (iw g v m):=MS.ask_ok (kT _ _) (fun _=>kd _ _) h
theorem ke (g : Pa) (hg : PaOk g) : aG Try.prog 166 [paA g] [.arr 2 .may (.I (cu g))] (fun ns=>.sl (ns.getD 0 0)) :=
 oo Try.func166 rfl rfl fun φ hp w vs h=>by
  obtain ⟨a,rfl,h1⟩:=pN h
  exact tv a g w (rD h1) hg
theorem m7 (g : Pa) (hg : PaOk g) : aG Try.prog 170 [paA g] [.arr 2 .may (.I (tab (cu g).length fun i=>fO g (gi (cu g) i)))] (fun ns=>.sl (ns.getD 0 0)) :=
 oo Try.func170 rfl rfl fun φ hp w vs h=>by
  obtain ⟨a,rfl,h1⟩:=pN h
  exact tw a g w (rD h1) hg
end Go.Proofs.Ytfaefmabjjndeaa
