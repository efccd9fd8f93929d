/-
  Measures of a game: the odds from a priority on, what is asked for; the small functions of both sides.
-/
import Derived.Test.YtceonklhlpkfgaaZlMeas2
import Derived.Test.YtceonklhlpkfgaaZlM3
import Derived.Test.YtceonklhlpkfgaaZlG2
namespace Go.Proofs.Ytceonklhlpkfgaa
set_option linter.unusedVariables false
set_option linter.unusedSimpArgs false
open Go.RowKit
def mU (p : Int) : List Int → Nat
 | [] => 0
 | o :: os => if p ≤ o then mU p os + 1 else 0
theorem l4 (p : Int) : ∀ os,mU p os ≤ os.length
 | [] => Nat.le_refl _
 | o :: os => by
   unfold mU
   split
   · exact Nat.succ_le_succ (l4 p os)
   · exact Nat.zero_le _
theorem ku {p : Int} : ∀ {os : List Int},os.Pairwise (fun a b=>b < a) → ∀ i,i < os.length → (p ≤ gi os i ↔ i < mU p os)
 | [], _, i, h => absurd h (Nat.not_lt_zero _)
 | o :: os, hp, i, h => by
   rw [List.pairwise_cons] at hp
   unfold mU
   rcases i with _|i
   · show p ≤ o ↔ _
     split
     · rename_i e;exact ⟨fun _=>Nat.succ_pos _,fun _=>e⟩
     · rename_i e;exact ⟨fun h=>absurd h e,fun h=>absurd h (Nat.not_lt_zero _)⟩
   · have hi : i < os.length:=by simpa using h
     show p ≤ gi os i ↔ _
     have ih:=ku (p:=p) hp.2 i hi
     split
     · rw [ih];omega
     · rename_i e
       have:=hp.1 _ (fH hi)
       exact ⟨fun h=>absurd h (by omega),fun h=>absurd h (Nat.not_lt_zero _)⟩
theorem mV (g : Pa) : (ax g).Pairwise (fun a b=>b < a):=by rw [← gM];exact gL g 20
noncomputable def odC (g : Pa) (p : Int) : Nat:=mU p (ax g)
theorem fT (g : Pa) (p : Int) : odC g p ≤ (ax g).length:=l4 _ _
theorem dB (g : Pa) (p : Int) {i : Nat} (h : i < (ax g).length) : p ≤ gi (ax g) i ↔ i < odC g p:=ku (mV g) i h
theorem l5 (g : Pa) (p : Int) : 0 ≤ di g p:=Int.natCast_nonneg _
theorem l6 (g : Pa) (p : Int) : di g p ≤ g.prio.length:=by have:=iC g.prio p g.prio.length;unfold di;omega
theorem ow (g : Pa) {i : Nat} (h : i < (ax g).length) : 0 < gi (ax g) i:=by
 have:=fH h
 unfold ax at this
 rw [List.mem_reverse,dy] at this
 obtain ⟨v,h1,⟨h2,h3⟩,e⟩:=this
 unfold ax
 omega
theorem pH (g : Pa) {p : Int} (hp : p ≤ 1) : odC g p = (ax g).length:=by
 have h:=fT g p
 rcases Nat.lt_or_ge (odC g p) (ax g).length with h'|h'
 · have:=(dB g p h').1 (by have:=ow g h';omega)
   omega
 · omega
noncomputable def cy (g : Pa) : MS.Gt:=⟨g.prio.length,(ax g).length,fun i=>di g (gi (ax g) i),fun v=>gr g.ar.nxt v,fun v=>odC g (gi g.prio v),fun v=>tf (gi g.prio v % 2 = 1),fun v=>tf (gi g.ar.own v = 0)⟩
theorem hH {g : Pa} (hg : PaOk g) : (cy g).Right where
 mx0:=fun i=>l5 _ _
 ck:=fun v _=>fT _ _
 pos:=fun v hv=>(hg.ar.vert v (by have:=hg.len;exact this ▸ hv)).2.2.1
 nxt:=fun v hv i hi=>by
  have hv' : v < g.ar.own.length:=by have:=hg.len;exact this ▸ hv
  have:=(hg.ar.vert v hv').2.2.2.2.bnd i hi
  show _ < g.prio.length
  have:=hg.len
  show (gi (gr g.ar.nxt v) i).toNat < _
  omega
noncomputable def d5 (g : Pa) (v : Nat) (m : List Int) : List Int:=MS.ask (ax g).length (cy g).mx (odC g (gi g.prio v)) (tf (gi g.prio v % 2 = 1)) m
theorem hM {g : Pa} {m : List Int} : bJ g m ↔ MS.Ok (cy g).K (cy g).mx m:=Iff.rfl
theorem cf {g : Pa} {m : List Int} (h : bJ g m) : 0 < m.length ∧ m.length ≤ 42:=by
 have:=cO g
 rcases h with rfl|h
 · exact ⟨by decide,by simp⟩
 · omega
theorem l7 {g : Pa} (hg : PaOk g) {v : Nat} {m : List Int} (h : bJ g m) : bJ g (d5 g v m):=MS.ask_ok (fT _ _) (fun _=>l5 _ _) h
theorem jE (g : Pa) (hg : PaOk g) : ay Try.prog 55 [paA g] [.arr 2 .may (.I (ax g))] (fun ns=>.sl (ns.getD 0 0)) :=
 g7 Try.func55 rfl rfl fun φ hp w vs h=>by
  obtain ⟨a,rfl,h1⟩:=oi h
  exact no a g w (kp h1) hg
theorem l8 (g : Pa) : ay Try.prog 23 [paA g] [.arr 2 .may (.I (ax g))] (fun ns=>.sl (ns.getD 0 0)) :=
 g7 Try.func23 rfl rfl fun φ hp w vs h=>by
  obtain ⟨a,rfl,h1⟩:=oi h
  exact qe a g w (kp h1)
theorem jF (g : Pa) (hg : PaOk g) : ay Try.prog 62 [paA g] [.arr 2 .may (.I (tab (ax g).length fun i=>di g (gi (ax g) i)))] (fun ns=>.sl (ns.getD 0 0)) :=
 g7 Try.func62 rfl rfl fun φ hp w vs h=>by
  obtain ⟨a,rfl,h1⟩:=oi h
  exact jY a g w (kp h1) hg
theorem pI (g : Pa) (p : Int) : ay Try.prog 57 [paA g,.c (.int .i64 p)] [] (fun _=>.c (.int .i64 (di g p))) :=
 eX Try.func57 rfl rfl (u:=.int .i64 _) (fun O w=>.int _ _) fun φ hp w vs h=>by
  obtain ⟨a,b,rfl,h1,h2⟩:=sk h
  obtain rfl:=bP h2
  exact (np a g p w (kp h1)).mono fun e w' h=>h
theorem jG (g : Pa) (hg : PaOk g) (m : List Int) : ay Try.prog 48 [paA g,.c (.I m)] [] (fun _=>.c (.bool (tf (bJ g m)))) :=
 eX Try.func48 rfl rfl (u:=.bool _) (fun O w=>.bool _) fun φ hp w vs h=>by
  obtain ⟨a,b,rfl,h1,h2⟩:=sk h
  exact (j0 a b g m w (kp h1) (mQ (dc h2)) hg).mono fun e w' h=>h
theorem pJ (g : Pa) (m : List Int) : ay Try.prog 42 [paA g,.c (.I (ax g)),.c (.I m)] [] (fun _=>.c (.bool (tf (bJ g m)))) :=
 eX Try.func42 rfl rfl (u:=.bool _) (fun O w=>.bool _) fun φ hp w vs h=>by
  obtain ⟨a,b,c,rfl,h1,h2,h3⟩:=sm h
  exact (qf a b c g m w (kp h1) (mQ (dc h2)) (mQ (dc h3))).mono fun e w' h=>h
end Go.Proofs.Ytceonklhlpkfgaa
