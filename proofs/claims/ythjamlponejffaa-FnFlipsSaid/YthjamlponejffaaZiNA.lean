/-
  Queries in plain words: rounds and answers.
-/
import Derived.Test.YthjamlponejffaaZiCp
import Derived.Test.YthjamlponejffaaZiCb
import Derived.Maps.OwnSet
import Derived.DeepKeys4
namespace Go.Proofs.Ythjamlponejffaa
set_option linter.unusedVariables false
set_option linter.unusedSimpArgs false
open Go.RowKit
structure Mv (b : Nat) (w w' : World) : Prop where
 out : Outside b (b + 1) w w'
 was : ∃ es c,w.heap[b]? = some (.map es c)
theorem Mv.cell {b : Nat} {w w' : World} (h : Mv b w w') {k o : Nat} {v : Value} (hc : w.cell? ⟨k,o,none⟩ = some v) : w'.cell? ⟨k,o,none⟩ = some v:=by
 have hlt : k < w.heap.size:=World.block_lt_of_cell? w _ hc
 have hne : k ≠ b:=fun e=>by
  obtain ⟨es,c,hm⟩:=h.was
  subst e
  simp [World.cell?,hm] at hc
 rw [← hc]
 simp only [World.cell?,h.out.block k hlt (by omega)]
theorem Cells.mv {b : Nat} {w w' : World} {sa : Option Addr} {n c : Nat} {vs : Nat → Value} (h : Cells w sa n c vs) (hb : Mv b w w') : Cells w' sa n c vs :=
 ⟨h.cap,h.max,h.nil,h.spot,fun ad e k hk=>hb.cell (h.cell ad e k hk)⟩
theorem cK.mv {b : Nat} {w w' : World} {sa : Option Addr} {n c : Nat} {xs : List Int} (h : cK w sa n c xs) (hb : Mv b w w') : cK w' sa n c xs:=⟨h.1,h.2.mv hb⟩
theorem IsI.mv {b : Nat} {w w' : World} {v : Value} {xs : List Int} (h : IsI w v xs) (hb : Mv b w w') : IsI w' v xs:=let ⟨sa,n,c,e,h⟩:=h;⟨sa,n,c,e,h.mv hb⟩
theorem dT.mv {b : Nat} {w w' : World} {v : Value} {xss : List (List Int)} (h : dT w v xss) (hb : Mv b w w') : dT w' v xss:=by
 obtain ⟨sa,n,c,e,h⟩:=h
 obtain ⟨A,L,C,h1,h2⟩:=h.cells
 exact ⟨sa,n,c,e,h.len,A,L,C,h1.mv hb,fun k hk=>(h2 k hk).mv hb⟩
theorem IsP.mv {b : Nat} {w w' : World} {v : Value} {g : Pa} (h : IsP w v g) (hb : Mv b w w') : IsP w' v g:=let ⟨x,y,z,e,h1,h2,h3⟩:=h;⟨x,y,z,e,h1.mv hb,h2.mv hb,h3.mv hb⟩
abbrev Dm:=DataW Value
def rdV (v : Value) : Option (Dm × List MemPlace):=some (.held v,[])
theorem qN {v u : Value} {ps : List MemPlace} (h : rdV v = some (.held u,ps)) : u = v:=by
 simp only [rdV,Option.some.injEq,Prod.mk.injEq,DataW.held.injEq] at h
 exact h.1.symm
theorem ml {P : Program} {k : TypeId} {w w' : World} {b n : Nat} {D : Dm} (h : w.ownsMap P k rdV b n D) (hg : w.grownBy w' (some b)) : Mv b w w':=by
 obtain ⟨es,clock,hb,_⟩:=h
 exact ⟨⟨hg.os,hg.tape,hg.output,hg.size,fun j hj ho=>hg.block j hj fun e=>by injection e with e;omega⟩,es,clock,hb⟩
theorem gK {P : Program} {k : TypeId} {w w' : World} {b n : Nat} {D : Dm} (h : w.ownsMap P k rdV b n D) (hg : Below w.heap.size w w') : w'.ownsMap P k rdV b n D:=by
 have hlt:=h.lt
 obtain ⟨es,clock,hb,r⟩:=h
 exact ⟨es,clock,(hg.block b hlt).trans hb,r⟩
theorem Mv.trans {b : Nat} {x y z : World} (h : Mv b x y) (k : Mv b y z) : Mv b x z:=⟨h.out.trans k.out,h.was⟩
theorem Mv.below {b : Nat} {w w' : World} (h : Mv b w w') {B : Nat} (hB : B ≤ b) (hs : B ≤ w.heap.size) : Below B w w':=h.out.below ⟨hB,hs⟩
end Go.Proofs.Ythjamlponejffaa
namespace Go.Proofs.Ythjamlponejffaa
set_option linter.unusedVariables false
set_option linter.unusedSimpArgs false
open Go.RowKit
end Go.Proofs.Ythjamlponejffaa
