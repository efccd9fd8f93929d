/-
  Measures of a game: the odds from a priority on, what is asked for; the small functions of both sides.
-/
import Derived.Test.YtceonklhlpkfgaaZmMeas2
import Derived.Test.YtceonklhlpkfgaaZmM3
import Derived.Test.YtceonklhlpkfgaaZmG2
namespace Go.Proofs.Ytceonklhlpkfgaa
set_option linter.unusedVariables false
set_option linter.unusedSimpArgs false
open Go.RowKit
def mL (p : Int) : List Int → Nat
 | [] => 0
 | o :: os => if p ≤ o then mL p os + 1 else 0
theorem lW (p : Int) : ∀ os,mL p os ≤ os.length
 | [] => Nat.le_refl _
 | o :: os => by
   unfold mL
   split
   · exact Nat.succ_le_succ (lW p os)
   · exact Nat.zero_le _
theorem kr {p : Int} : ∀ {os : List Int},os.Pairwise (fun a b=>b < a) → ∀ i,i < os.length → (p ≤ gi os i ↔ i < mL p os)
 | [], _, i, h => absurd h (Nat.not_lt_zero _)
 | o :: os, hp, i, h => by
   rw [List.pairwise_cons] at hp
   unfold mL
   rcases i with _|i
   · show p ≤ o ↔ _
     split
     · rename_i e;exact ⟨fun _=>Nat.succ_pos _,fun _=>e⟩
     · rename_i e;exact ⟨fun h=>absurd h e,fun h=>absurd h (Nat.not_lt_zero _)⟩
   · have hi : i < os.length:=by simpa using h
     show p ≤ gi os i ↔ _
     have ih:=kr (p:=p) hp.2 i hi
     split
     · rw [ih];omega
     · rename_i e
       have:=hp.1 _ (fC hi)
       exact ⟨fun h=>absurd h (by omega),fun h=>absurd h (Nat.not_lt_zero _)⟩
theorem mM (g : Pa) : (au g).Pairwise (fun a b=>b < a):=by rw [← gL];exact gK g 20
noncomputable def odC (g : Pa) (p : Int) : Nat:=mL p (au g)
theorem fS (g : Pa) (p : Int) : odC g p ≤ (au g).length:=lW _ _
theorem dz (g : Pa) (p : Int) {i : Nat} (h : i < (au g).length) : p ≤ gi (au g) i ↔ i < odC g p:=kr (mM g) i h
theorem lX (g : Pa) (p : Int) : 0 ≤ dD g p:=Int.natCast_nonneg _
theorem jA (g : Pa) (p : Int) : dD g p ≤ g.prio.length:=by have:=iA g.prio p g.prio.length;unfold dD;omega
theorem ox (g : Pa) {i : Nat} (h : i < (au g).length) : 0 < gi (au g) i:=by
 have:=fC h
 unfold au at this
 rw [List.mem_reverse,dt] at this
 obtain ⟨v,h1,⟨h2,h3⟩,e⟩:=this
 unfold au
 omega
theorem pJ (g : Pa) {p : Int} (hp : p ≤ 1) : odC g p = (au g).length:=by
 have h:=fS g p
 rcases Nat.lt_or_ge (odC g p) (au g).length with h'|h'
 · have:=(dz g p h').1 (by have:=ox g h';omega)
   omega
 · omega
noncomputable def bd (g : Pa) : MS.Gt:=⟨g.prio.length,(au g).length,fun i=>dD g (gi (au g) i),fun v=>gr g.ar.nxt v,fun v=>odC g (gi g.prio v),fun v=>tf (gi g.prio v % 2 = 1),fun v=>tf (gi g.ar.own v = 0)⟩
theorem cX {g : Pa} (hg : PaOk g) : (bd g).Right where
 mx0:=fun i=>lX _ _
 ck:=fun v _=>fS _ _
 pos:=fun v hv=>(hg.ar.vert v (by have:=hg.len;exact this ▸ hv)).2.2.1
 nxt:=fun v hv i hi=>by
  have hv' : v < g.ar.own.length:=by have:=hg.len;exact this ▸ hv
  have:=(hg.ar.vert v hv').2.2.2.2.bnd i hi
  show _ < g.prio.length
  have:=hg.len
  show (gi (gr g.ar.nxt v) i).toNat < _
  omega
theorem oy {g : Pa} (hs : cH g) : ∀ i,i < (bd g).K → (bd g).mx i < (13 : Nat):=fun i _=>by
 have h1:=jA g (gi (au g) i)
 have h2:=hs.2
 show dD g _ < _
 omega
noncomputable def dY (g : Pa) (v : Nat) (m : List Int) : List Int:=MS.ask (au g).length (bd g).mx (odC g (gi g.prio v)) (tf (gi g.prio v % 2 = 1)) m
theorem g9 {g : Pa} {m : List Int} : cL g m ↔ MS.Ok (bd g).K (bd g).mx m:=Iff.rfl
theorem cj {g : Pa} {m : List Int} (h : cL g m) : 0 < m.length ∧ m.length ≤ 42:=by
 have:=cM g
 rcases h with rfl|h
 · exact ⟨by decide,by simp⟩
 · omega
theorem lY {g : Pa} (hg : PaOk g) {v : Nat} {m : List Int} (h : cL g m) : cL g (dY g v m):=MS.ask_ok (fS _ _) (fun _=>lX _ _) h
theorem gt (g : Pa) (hg : PaOk g) : aw Try.prog 55 [paA g] [.arr 2 .may (.I (au g))] (fun ns=>.sl (ns.getD 0 0)) :=
 gX Try.func55 rfl rfl fun φ hp w vs h=>by
  obtain ⟨a,rfl,h1⟩:=om h
  exact nk a g w (mG h1) hg
theorem pK (g : Pa) : aw Try.prog 23 [paA g] [.arr 2 .may (.I (au g))] (fun ns=>.sl (ns.getD 0 0)) :=
 gX Try.func23 rfl rfl fun φ hp w vs h=>by
  obtain ⟨a,rfl,h1⟩:=om h
  exact qj a g w (mG h1)
theorem jB (g : Pa) (hg : PaOk g) : aw Try.prog 62 [paA g] [.arr 2 .may (.I (tab (au g).length fun i=>dD g (gi (au g) i)))] (fun ns=>.sl (ns.getD 0 0)) :=
 gX Try.func62 rfl rfl fun φ hp w vs h=>by
  obtain ⟨a,rfl,h1⟩:=om h
  exact nl a g w (mG h1) hg
theorem pL (g : Pa) (p : Int) : aw Try.prog 57 [paA g,.c (.int .i64 p)] [] (fun _=>.c (.int .i64 (dD g p))) :=
 jv Try.func57 rfl rfl (u:=.int .i64 _) (fun O w=>.int _ _) fun φ hp w vs h=>by
  obtain ⟨a,b,rfl,h1,h2⟩:=tM h
  obtain rfl:=bZ h2
  exact (qk a g p w (mG h1)).mono fun e w' h=>h
end Go.Proofs.Ytceonklhlpkfgaa
