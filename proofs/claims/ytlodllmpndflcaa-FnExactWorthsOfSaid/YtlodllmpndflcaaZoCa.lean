/-
  Words on memory: when a slice value reads as a list of numbers, as a list of lists; what a call owns; how these facts are kept.
-/
import Derived.Test.YtlodllmpndflcaaRows
import Derived.WalkKit
import Derived.ProofKit
import Derived.OpenShut
import Derived.Deep.QuietTactic
import Derived.BigQuiet
import Derived.Lib.Hide
import Derived.StillTailTactics
import Derived.Deep.RegionHeld3
import Derived.Deep.DrawnRows
namespace Go.Proofs.Ytlodllmpndflcaa
set_option linter.unusedVariables false
set_option linter.unusedSimpArgs false
open Go.RowKit
noncomputable def tf (p : Prop) : Bool:=@decide p (Classical.propDecidable p)
theorem aA {p : Prop} (h : p) : tf p = true:=by unfold tf;simp [h]
theorem ao {p : Prop} (h : ¬ p) : tf p = false:=by unfold tf;simp [h]
theorem tS {p : Prop} : tf p = true ↔ p:=by unfold tf;simp
theorem tT {p : Prop} : tf p = false ↔ ¬ p:=by unfold tf;simp
theorem cQ {p q : Prop} (h : p ↔ q) : tf p = tf q:=by rw [propext h]
def gi (xs : List Int) (k : Nat) : Int:=xs.getD k 0
def gr (xss : List (List Int)) (k : Nat) : List Int:=xss.getD k []
def gb (bs : List Bool) (k : Nat) : Bool:=bs.getD k false
theorem tU {xs : List Int} {k : Nat} (h : k < xs.length) : xs[k]? = some (gi xs k):=by simp [gi,List.getD,h]
theorem dB {xs : List Int} {k : Nat} (h : k < xs.length) : gi xs k = xs[k]:=by simp [gi,List.getD,h]
theorem oX {xs : List (List Int)} {k : Nat} (h : k < xs.length) : gr xs k = xs[k]:=by simp [gr,List.getD,h]
theorem oY {xs : List Bool} {k : Nat} (h : k < xs.length) : gb xs k = xs[k]:=by simp [gb,List.getD,h]
theorem ee {xs : List Int} {k : Nat} (h : k < xs.length) : gi xs k ∈ xs:=by rw [dB h];exact List.getElem_mem h
theorem fc {xs : List Int} {x : Int} (h : x ∈ xs) : ∃ k,k < xs.length ∧ gi xs k = x:=by
 obtain ⟨k,hk,e⟩:=List.getElem_of_mem h
 exact ⟨k,hk,by rw [dB hk,e]⟩
theorem oZ {xs ys : List Int} (hl : xs.length = ys.length) (h : ∀ k,k < xs.length → gi xs k = gi ys k) : xs = ys :=
 List.ext_getElem hl fun k h1 h2=>by have:=h k h1;rwa [dB h1,dB h2] at this
theorem o6 {xs ys : List (List Int)} (hl : xs.length = ys.length) (h : ∀ k,k < xs.length → gr xs k = gr ys k) : xs = ys :=
 List.ext_getElem hl fun k h1 h2=>by have:=h k h1;rwa [oX h1,oX h2] at this
theorem sA {xs ys : List Bool} (hl : xs.length = ys.length) (h : ∀ k,k < xs.length → gb xs k = gb ys k) : xs = ys :=
 List.ext_getElem hl fun k h1 h2=>by have:=h k h1;rwa [oY h1,oY h2] at this
theorem bq {a b : Bool} (h : a = b) : Ending.returned (.bool a) = .returned (.bool b):=by rw [h]
theorem cD {k : IntKind} {a b : Int} (h : a = b) : Ending.returned (.int k a) = .returned (.int k b):=by rw [h]
structure Cells (w : World) (sa : Option Addr) (n c : Nat) (vs : Nat → Value) : Prop where
 cap : n ≤ c
 max : c ≤ 9223372036854775807
 nil : sa = none → n = 0 ∧ c = 0
 spot : ∀ ad,sa = some ad → 0 < n → ad.spot = none
 cell : ∀ ad,sa = some ad → ∀ k,k < n → w.cell? ⟨ad.block,ad.off + k,none⟩ = some (vs k)
theorem Cells.get {w : World} {sa : Option Addr} {n c : Nat} {vs : Nat → Value} (h : Cells w sa n c vs) {k : Nat} (hk : k < n) :
  ∃ b o,sa = some ⟨b,o,none⟩ ∧ b < w.heap.size ∧ ∀ k,k < n → w.cell? ⟨b,o + k,none⟩ = some (vs k):=by
 cases sa with
 | none => have := (h.nil rfl).1; omega
 | some ad =>
   have h1:=h.spot ad rfl (by omega)
   have h3:=h.cell ad rfl
   obtain ⟨b,o,s⟩:=ad
   simp only at h1 h3
   subst h1
   exact ⟨b,o,rfl,World.block_lt_of_cell? w _ (h3 k hk),h3⟩
theorem Cells.below {w w' : World} {sa : Option Addr} {n c : Nat} {vs : Nat → Value} (h : Cells w sa n c vs) (hb : Below w.heap.size w w') : Cells w' sa n c vs :=
 ⟨h.cap,h.max,h.nil,h.spot,fun ad e k hk=>by
  have hc:=h.cell ad e k hk
  rw [hb.cell (World.block_lt_of_cell? w _ hc)];exact hc⟩
def cy (w : World) (sa : Option Addr) (n c : Nat) (xs : List Int) : Prop:=xs.length = n ∧ Cells w sa n c fun k=>.int .i64 (gi xs k)
def dE (w : World) (sa : Option Addr) (n c : Nat) (xs : List Bool) : Prop:=xs.length = n ∧ Cells w sa n c fun k=>.bool (gb xs k)
structure Rws (w : World) (sa : Option Addr) (n c : Nat) (xss : List (List Int)) : Prop where
 len : xss.length = n
 cells : ∃ (A : Nat → Option Addr) (L C : Nat → Nat),Cells w sa n c (fun k=>.slice (A k) (L k) (C k)) ∧ ∀ k,k < n → cy w (A k) (L k) (C k) (gr xss k)
theorem cy.below {w w' : World} {sa : Option Addr} {n c : Nat} {xs : List Int} (h : cy w sa n c xs) (hb : Below w.heap.size w w') : cy w' sa n c xs:=⟨h.1,h.2.below hb⟩
theorem dE.below {w w' : World} {sa : Option Addr} {n c : Nat} {xs : List Bool} (h : dE w sa n c xs) (hb : Below w.heap.size w w') : dE w' sa n c xs:=⟨h.1,h.2.below hb⟩
theorem Rws.below {w w' : World} {sa : Option Addr} {n c : Nat} {xss : List (List Int)} (h : Rws w sa n c xss) (hb : Below w.heap.size w w') : Rws w' sa n c xss :=
 ⟨h.len,let ⟨A,L,C,h1,h2⟩:=h.cells;⟨A,L,C,h1.below hb,fun k hk=>(h2 k hk).below hb⟩⟩
theorem aL (w : World) (o : Obj) : Below w.heap.size w (w.alloc o):=(Below.refl _ _).alloc (Nat.le_refl _) o
theorem cW (w : World) (m : Nat) : Below w.heap.size w (w.drewN m):=⟨rfl,rfl,rfl,Nat.le_refl _,fun _ _=>rfl⟩
theorem ap {B : Nat} {a w : World} (h : Below B a w) (m : Nat) : Below B a (w.drewN m):=⟨h.os,h.tape,h.output,h.size,h.block⟩
theorem bW (w : World) : Below w.heap.size w w.drew:=(Below.refl _ _).drew
theorem cy.alloc {w : World} {sa : Option Addr} {n c : Nat} {xs : List Int} (h : cy w sa n c xs) (o : Obj) : cy (w.alloc o) sa n c xs:=h.below (aL w o)
theorem cy.drew {w : World} {sa : Option Addr} {n c : Nat} {xs : List Int} (h : cy w sa n c xs) : cy w.drew sa n c xs:=h.below (bW w)
theorem dE.alloc {w : World} {sa : Option Addr} {n c : Nat} {xs : List Bool} (h : dE w sa n c xs) (o : Obj) : dE (w.alloc o) sa n c xs:=h.below (aL w o)
theorem dE.drew {w : World} {sa : Option Addr} {n c : Nat} {xs : List Bool} (h : dE w sa n c xs) : dE w.drew sa n c xs:=h.below (bW w)
theorem Rws.alloc {w : World} {sa : Option Addr} {n c : Nat} {xs : List (List Int)} (h : Rws w sa n c xs) (o : Obj) : Rws (w.alloc o) sa n c xs:=h.below (aL w o)
theorem Rws.drew {w : World} {sa : Option Addr} {n c : Nat} {xs : List (List Int)} (h : Rws w sa n c xs) : Rws w.drew sa n c xs:=h.below (bW w)
theorem cy.max {w : World} {sa : Option Addr} {n c : Nat} {xs : List Int} (h : cy w sa n c xs) : n ≤ 9223372036854775807:=Nat.le_trans h.2.cap h.2.max
theorem dE.max {w : World} {sa : Option Addr} {n c : Nat} {xs : List Bool} (h : dE w sa n c xs) : n ≤ 9223372036854775807:=Nat.le_trans h.2.cap h.2.max
theorem Rws.max {w : World} {sa : Option Addr} {n c : Nat} {xs : List (List Int)} (h : Rws w sa n c xs) : n ≤ 9223372036854775807:=by
 obtain ⟨A,L,C,h1,_⟩:=h.cells
 exact Nat.le_trans h1.cap h1.max
theorem cy.get {w : World} {sa : Option Addr} {n c : Nat} {xs : List Int} (h : cy w sa n c xs) {k : Nat} (hk : k < n) :
  ∃ b o,sa = some ⟨b,o,none⟩ ∧ b < w.heap.size ∧ ∀ k,k < n → w.cell? ⟨b,o + k,none⟩ = some (.int .i64 (gi xs k)):=h.2.get hk
theorem dE.get {w : World} {sa : Option Addr} {n c : Nat} {xs : List Bool} (h : dE w sa n c xs) {k : Nat} (hk : k < n) :
  ∃ b o,sa = some ⟨b,o,none⟩ ∧ b < w.heap.size ∧ ∀ k,k < n → w.cell? ⟨b,o + k,none⟩ = some (.bool (gb xs k)):=h.2.get hk
theorem Rws.get {w : World} {sa : Option Addr} {n c : Nat} {xss : List (List Int)} (h : Rws w sa n c xss) {k : Nat} (hk : k < n) :
  ∃ b o,sa = some ⟨b,o,none⟩ ∧ b < w.heap.size ∧ ∃ (A : Nat → Option Addr) (L C : Nat → Nat),∀ k,k < n → w.cell? ⟨b,o + k,none⟩ = some (.slice (A k) (L k) (C k)) ∧ cy w (A k) (L k) (C k) (gr xss k):=by
 obtain ⟨A,L,C,h1,h2⟩:=h.cells
 obtain ⟨b,o,e,hb,hc⟩:=h1.get hk
 exact ⟨b,o,e,hb,A,L,C,fun k hk=>⟨hc k hk,h2 k hk⟩⟩
theorem gH (w : World) (vs : Nat → Value) : Cells w none 0 0 vs:=⟨Nat.le_refl _,by omega,fun _=>⟨rfl,rfl⟩,fun _ h _=>(by cases h),fun _ h=>(by cases h)⟩
theorem o7 (w : World) : cy w none 0 0 []:=⟨rfl,gH w _⟩
theorem o9 (w : World) : Rws w none 0 0 []:=⟨rfl,fun _=>none,fun _=>0,fun _=>0,gH w _,fun k hk=>by omega⟩
def IsI (w : World) (v : Value) (xs : List Int) : Prop:=∃ sa n c,v = .slice sa n c ∧ cy w sa n c xs
def IsB (w : World) (v : Value) (xs : List Bool) : Prop:=∃ sa n c,v = .slice sa n c ∧ dE w sa n c xs
def d5 (w : World) (v : Value) (xss : List (List Int)) : Prop:=∃ sa n c,v = .slice sa n c ∧ Rws w sa n c xss
theorem IsI.below {w w' : World} {v : Value} {xs : List Int} (h : IsI w v xs) (hb : Below w.heap.size w w') : IsI w' v xs:=let ⟨sa,n,c,e,h⟩:=h;⟨sa,n,c,e,h.below hb⟩
theorem IsB.below {w w' : World} {v : Value} {xs : List Bool} (h : IsB w v xs) (hb : Below w.heap.size w w') : IsB w' v xs:=let ⟨sa,n,c,e,h⟩:=h;⟨sa,n,c,e,h.below hb⟩
theorem d5.below {w w' : World} {v : Value} {xs : List (List Int)} (h : d5 w v xs) (hb : Below w.heap.size w w') : d5 w' v xs:=let ⟨sa,n,c,e,h⟩:=h;⟨sa,n,c,e,h.below hb⟩
theorem cy.is {w : World} {sa : Option Addr} {n c : Nat} {xs : List Int} (h : cy w sa n c xs) : IsI w (.slice sa n c) xs:=⟨sa,n,c,rfl,h⟩
theorem dE.is {w : World} {sa : Option Addr} {n c : Nat} {xs : List Bool} (h : dE w sa n c xs) : IsB w (.slice sa n c) xs:=⟨sa,n,c,rfl,h⟩
theorem Rws.is {w : World} {sa : Option Addr} {n c : Nat} {xs : List (List Int)} (h : Rws w sa n c xs) : d5 w (.slice sa n c) xs:=⟨sa,n,c,rfl,h⟩
theorem IsI.alloc {w : World} {v : Value} {xs : List Int} (h : IsI w v xs) (o : Obj) : IsI (w.alloc o) v xs:=h.below (aL w o)
theorem IsI.drew {w : World} {v : Value} {xs : List Int} (h : IsI w v xs) : IsI w.drew v xs:=h.below (bW w)
theorem IsB.alloc {w : World} {v : Value} {xs : List Bool} (h : IsB w v xs) (o : Obj) : IsB (w.alloc o) v xs:=h.below (aL w o)
theorem IsB.drew {w : World} {v : Value} {xs : List Bool} (h : IsB w v xs) : IsB w.drew v xs:=h.below (bW w)
theorem d5.alloc {w : World} {v : Value} {xs : List (List Int)} (h : d5 w v xs) (o : Obj) : d5 (w.alloc o) v xs:=h.below (aL w o)
theorem d5.drew {w : World} {v : Value} {xs : List (List Int)} (h : d5 w v xs) : d5 w.drew v xs:=h.below (bW w)
structure Ar where
 own : List Int
 nxt : List (List Int)
structure Pa where
 ar : Ar
 prio : List Int
def IsA (w : World) (v : Value) (a : Ar) : Prop:=∃ vo vn,v = .agg #[vo,vn] ∧ IsI w vo a.own ∧ d5 w vn a.nxt
def IsP (w : World) (v : Value) (g : Pa) : Prop:=∃ vo vn vp,v = .agg #[vo,vn,vp] ∧ IsI w vo g.ar.own ∧ d5 w vn g.ar.nxt ∧ IsI w vp g.prio
theorem IsA.below {w w' : World} {v : Value} {a : Ar} (h : IsA w v a) (hb : Below w.heap.size w w') : IsA w' v a:=let ⟨x,y,e,h1,h2⟩:=h;⟨x,y,e,h1.below hb,h2.below hb⟩
theorem IsP.below {w w' : World} {v : Value} {a : Pa} (h : IsP w v a) (hb : Below w.heap.size w w') : IsP w' v a:=let ⟨x,y,z,e,h1,h2,h3⟩:=h;⟨x,y,z,e,h1.below hb,h2.below hb,h3.below hb⟩
theorem IsA.alloc {w : World} {v : Value} {a : Ar} (h : IsA w v a) (o : Obj) : IsA (w.alloc o) v a:=h.below (aL w o)
theorem IsA.drew {w : World} {v : Value} {a : Ar} (h : IsA w v a) : IsA w.drew v a:=h.below (bW w)
theorem IsP.alloc {w : World} {v : Value} {a : Pa} (h : IsP w v a) (o : Obj) : IsP (w.alloc o) v a:=h.below (aL w o)
theorem IsP.drew {w : World} {v : Value} {a : Pa} (h : IsP w v a) : IsP w.drew v a:=h.below (bW w)
theorem IsP.arena {w : World} {vo vn vp : Value} {g : Pa} (h : IsP w (.agg #[vo,vn,vp]) g) : IsA w (.agg #[vo,vn]) g.ar:=by
 obtain ⟨a,b,c,e,h1,h2,h3⟩:=h
 simp only [Value.agg.injEq,Array.mk.injEq,List.cons.injEq,and_true] at e
 obtain ⟨rfl,rfl,rfl⟩:=e
 exact ⟨_,_,rfl,h1,h2⟩
theorem di {W w1 : World} (hb : Below W.heap.size W w1) : (∀ b o,b < W.heap.size → w1.cell? ⟨b,o,none⟩ = W.cell? ⟨b,o,none⟩) ∧ (∀ b o,b < W.heap.size → w1.frozen? ⟨b,o,none⟩ = W.frozen? ⟨b,o,none⟩) :=
 ⟨fun b o h=>hb.cell (p:=⟨b,o,none⟩) h,fun b o h=>hb.frozen (p:=⟨b,o,none⟩) h⟩
end Go.Proofs.Ytlodllmpndflcaa
namespace Go.Proofs.Ytlodllmpndflcaa
set_option linter.unusedVariables false
set_option linter.unusedSimpArgs false
open Go.RowKit
theorem Try.infoI : (Try.prog.info? 2).map (fun i=>(i.zero,i.size,i.bytes)) = some (some (.int .i64 0),1,8):=by kernel_rfl
theorem Try.infoS : (Try.prog.info? 22).map (fun i=>(i.zero,i.size,i.bytes)) = some (some (.slice none 0 0),1,24):=by kernel_rfl
abbrev blk (v : Value) : Option Nat:=v.ownBlock
def bH (e : TypeId) (lo hi : Nat) (w : World) (v : Value) (vs : List Value) : Prop :=
 (v = .slice none 0 0 ∧ vs = []) ∨
 ∃ g cap cur,v = .slice (some ⟨g,0,none⟩) vs.length cap ∧ lo ≤ g ∧ g < hi ∧ w.heap[g]? = some (.cells cur e (0,0)) ∧ vs.length ≤ cap ∧ cap ≤ maxLen ∧ cur.size = cap ∧ cur.toList.take vs.length = vs
theorem bH.row {e : TypeId} {lo hi : Nat} {w : World} {v : Value} {vs : List Value} (h : bH e lo hi w v vs) : w.ownsRow lo e 1 v vs.length vs:=by
 refine ⟨by omega,?_⟩
 rcases h with ⟨rfl,rfl⟩|⟨g,cap,cur,rfl,h1,_,h2,h3,h4,h5,h6⟩
 · exact .inl ⟨rfl,rfl⟩
 · exact .inr ⟨g,cap,cur,rfl,h1,h2,h3,h4,by omega,by rw [Nat.mul_one];exact h6⟩
theorem fe {e : TypeId} {lo n : Nat} {w : World} {v : Value} {vs : List Value} (h : w.ownsRow lo e 1 v n vs) : bH e lo w.heap.size w v vs:=by
 obtain ⟨hl,h⟩:=h
 have hl' : vs.length = n:=by omega
 subst hl'
 rcases h with ⟨rfl,h0⟩|⟨g,cap,cur,rfl,h1,h2,h3,h4,h5,h6⟩
 · exact .inl ⟨rfl,List.eq_nil_of_length_eq_zero h0⟩
 · exact .inr ⟨g,cap,cur,rfl,h1,(Array.getElem?_eq_some_iff.1 h2).1,h2,h3,h4,by omega,by rw [Nat.mul_one] at h6;exact h6⟩
theorem bH.keep {e : TypeId} {lo hi : Nat} {w w' : World} {v : Value} {vs : List Value} (h : bH e lo hi w v vs) (hk : ∀ g,blk v = some g → w'.heap[g]? = w.heap[g]?) : bH e lo hi w' v vs:=by
 rcases h with h|⟨g,cap,cur,rfl,h1,h1',h2,h3⟩
 · exact .inl h
 · exact .inr ⟨g,cap,cur,rfl,h1,h1',(hk g rfl).trans h2,h3⟩
theorem bH.lt {e : TypeId} {lo hi : Nat} {w : World} {v : Value} {vs : List Value} (h : bH e lo hi w v vs) : ∀ g,blk v = some g → lo ≤ g ∧ g < hi ∧ g < w.heap.size:=by
 intro g hg
 rcases h with ⟨rfl,_⟩|⟨g',cap,cur,rfl,h1,h1',h2,h3⟩
 · simp [blk,Value.ownBlock] at hg
 · simp [blk,Value.ownBlock] at hg
   subst hg
   exact ⟨h1,h1',(Array.getElem?_eq_some_iff.1 h2).1⟩
theorem bH.below {e : TypeId} {lo hi : Nat} {w w' : World} {v : Value} {vs : List Value} (h : bH e lo hi w v vs) (hb : Below w.heap.size w w') : bH e lo hi w' v vs :=
 h.keep fun g hg=>hb.block g (h.lt g hg).2.2
theorem bH.mono {e : TypeId} {lo hi lo' hi' : Nat} {w : World} {v : Value} {vs : List Value} (h : bH e lo hi w v vs) (hl : lo' ≤ lo) (hh : hi ≤ hi') : bH e lo' hi' w v vs:=by
 rcases h with h|⟨g,cap,cur,rfl,h1,h1',h2,h3⟩
 · exact .inl h
 · exact .inr ⟨g,cap,cur,rfl,by omega,by omega,h2,h3⟩
theorem bH.top {e : TypeId} {lo hi : Nat} {w : World} {v : Value} {vs : List Value} (h : bH e lo hi w v vs) : bH e lo w.heap.size w v vs:=by
 rcases h with h|⟨g,cap,cur,rfl,h1,h1',h2,h3⟩
 · exact .inl h
 · exact .inr ⟨g,cap,cur,rfl,h1,(Array.getElem?_eq_some_iff.1 h2).1,h2,h3⟩
theorem bH.alloc {e : TypeId} {lo hi : Nat} {w : World} {v : Value} {vs : List Value} (h : bH e lo hi w v vs) (o : Obj) : bH e lo hi (w.alloc o) v vs:=h.below (aL w o)
theorem bH.drew {e : TypeId} {lo hi : Nat} {w : World} {v : Value} {vs : List Value} (h : bH e lo hi w v vs) : bH e lo hi w.drew v vs:=h.below (bW w)
theorem bH.form {e : TypeId} {lo hi : Nat} {w : World} {v : Value} {vs : List Value} (h : bH e lo hi w v vs) (d : Value) : ∃ sa c,v = .slice sa vs.length c ∧ Cells w sa vs.length c fun k=>vs.getD k d:=by
 rcases h with ⟨rfl,rfl⟩|⟨g,cap,cur,rfl,h1,h1',h2,h3,h4,h5,h6⟩
 · exact ⟨none,0,rfl,gH w _⟩
 · unfold maxLen at h4
   refine ⟨some ⟨g,0,none⟩,cap,rfl,⟨h3,by omega,fun h=>(by cases h),fun ad h _=>(by cases h;rfl),fun ad h k hk=>?_⟩⟩
   cases h
   rw [cell_of_row w g _ cur e (0,0) h2]
   simp only [Nat.zero_add]
   have hk' : cur.toList[k]? = vs[k]?:=by
    have:=congrArg (·[k]?) h6
    simpa [List.getElem?_take,hk] using this
   rw [← Array.getElem?_toList,hk',List.getD_eq_getElem?_getD,List.getElem?_eq_getElem hk]
   rfl
theorem bH.at {e : TypeId} {lo hi : Nat} {w : World} {v : Value} {vs : List Value} (h : bH e lo hi w v vs) (d : Value) {k : Nat} (hk : k < vs.length) :
  ∃ g cap,v = .slice (some ⟨g,0,none⟩) vs.length cap ∧ lo ≤ g ∧ g < hi ∧ g < w.heap.size ∧ (∀ k,k < vs.length → w.cell? ⟨g,k,none⟩ = some (vs.getD k d)) ∧ ∀ k,w.frozen? ⟨g,k,none⟩ = false:=by
 obtain ⟨sa,c,hv,hc⟩:=h.form d
 rcases h with ⟨rfl,rfl⟩|⟨g,cap,cur,rfl,h1,h1',h2,h3,h4,h5,h6⟩
 · simp at hk
 · simp only [Value.slice.injEq,true_and] at hv
   obtain ⟨rfl,rfl⟩:=hv
   exact ⟨g,cap,rfl,h1,h1',(Array.getElem?_eq_some_iff.1 h2).1,fun k hk=>by have:=hc.cell _ rfl k hk;simpa using this,fun k=>by simp [World.frozen?,h2]⟩
theorem bH.set {e : TypeId} {lo hi : Nat} {w : World} {g n cap : Nat} {vs : List Value} (h : bH e lo hi w (.slice (some ⟨g,0,none⟩) n cap) vs) (k : Nat) (u : Value) :
  bH e lo hi (w.setCell ⟨g,k,none⟩ u) (.slice (some ⟨g,0,none⟩) n cap) (vs.set k u):=by
 rcases h with ⟨h,_⟩|⟨g',cap',cur,h0,h1,h1',h2,h3,h4,h5,h6⟩
 · cases h
 · simp only [Value.slice.injEq,Option.some.injEq,Addr.mk.injEq,and_true] at h0
   obtain ⟨rfl,rfl,rfl⟩:=h0
   refine .inr ⟨g,cap,cur.setIfInBounds k u,by rw [List.length_set],h1,h1',?_,by rw [List.length_set];exact h3,h4,by rw [Array.size_setIfInBounds];exact h5,?_⟩
   · simp [World.setCell,Array.getElem?_modify,h2]
   · rw [List.length_set,Array.toList_setIfInBounds,List.take_set,h6]
theorem aB {B : Nat} {a w : World} (h : Below B a w) {g k : Nat} (hp : B ≤ g) (u : Value) : Below B a (w.setCell ⟨g,k,none⟩ u):=h.setCell (p:=⟨g,k,none⟩) hp u
theorem bH.other {e : TypeId} {lo hi : Nat} {w : World} {v : Value} {vs : List Value} (h : bH e lo hi w v vs) {g : Nat} (hne : blk v ≠ some g) (k : Nat) (u : Value) : bH e lo hi (w.setCell ⟨g,k,none⟩ u) v vs :=
 h.keep fun g' hg=>Below.heap_setCell _ _ _ _ (fun e=>hne (by rw [hg];exact congrArg some e))
def tab (n : Nat) (f : Nat → Int) : List Int:=(List.range n).map f
def nM (n : Nat) (f : Nat → Bool) : List Bool:=(List.range n).map f
@[simp] theorem dG (n : Nat) (f : Nat → Int) : (tab n f).length = n:=by simp [tab]
@[simp] theorem pc (n : Nat) (f : Nat → Bool) : (nM n f).length = n:=by simp [nM]
theorem dj {n k : Nat} (f : Nat → Int) (h : k < n) : gi (tab n f) k = f k:=by simp [gi,tab,List.getD,h]
theorem mW {n k : Nat} (f : Nat → Bool) (h : k < n) : gb (nM n f) k = f k:=by simp [gb,nM,List.getD,h]
theorem iK {xs : List Int} {n : Nat} {f : Nat → Int} (hl : xs.length = n) (h : ∀ k,k < n → gi xs k = f k) : xs = tab n f :=
 oZ (by simp [hl]) fun k hk=>by rw [h k (by omega),dj f (by omega)]
theorem mX {xs : List Bool} {n : Nat} {f : Nat → Bool} (hl : xs.length = n) (h : ∀ k,k < n → gb xs k = f k) : xs = nM n f :=
 sA (by simp [hl]) fun k hk=>by rw [h k (by omega),mW f (by omega)]
theorem pf {xs : List Int} {k j : Nat} {x : Int} (hk : k < xs.length) : gi (xs.set k x) j = if j = k then x else gi xs j:=by
 simp only [gi,List.getD_eq_getElem?_getD,List.getElem?_set]
 by_cases e : k = j
 · subst e;simp [hk]
 · rw [if_neg e,if_neg (fun h=>e h.symm)]
theorem sB {xs : List (List Int)} {k j : Nat} {x : List Int} (hk : k < xs.length) : gr (xs.set k x) j = if j = k then x else gr xs j:=by
 simp only [gr,List.getD_eq_getElem?_getD,List.getElem?_set]
 by_cases e : k = j
 · subst e;simp [hk]
 · rw [if_neg e,if_neg (fun h=>e h.symm)]
theorem re {n k : Nat} {f : Nat → Int} {x : Int} (hk : k < n) : (tab n f).set k x = tab n fun i=>if i = k then x else f i :=
 iK (by simp) fun j hj=>by rw [pf (by simpa using hk),dj f hj]
def bj (lo hi : Nat) (w : World) (v : Value) (xs : List Int) : Prop:=bH 2 lo hi w v (xs.map (.int .i64))
def cH (lo hi : Nat) (w : World) (v : Value) (xs : List Bool) : Prop:=bH 4 lo hi w v (xs.map .bool)
theorem jv (xs : List Int) (k : Nat) : (xs.map (Value.int .i64)).getD k (.int .i64 0) = .int .i64 (gi xs k):=by
 simp only [gi,List.getD_eq_getElem?_getD,List.getElem?_map]
 cases xs[k]? <;> rfl
theorem iL (xs : List Bool) (k : Nat) : (xs.map Value.bool).getD k (.bool false) = .bool (gb xs k):=by
 simp only [gb,List.getD_eq_getElem?_getD,List.getElem?_map]
 cases xs[k]? <;> rfl
theorem bj.is {lo hi : Nat} {w : World} {v : Value} {xs : List Int} (h : bj lo hi w v xs) : IsI w v xs:=by
 obtain ⟨sa,c,hv,hc⟩:=h.form (.int .i64 0)
 rw [List.length_map] at hv hc
 exact ⟨sa,_,c,hv,rfl,by simpa only [jv] using hc⟩
theorem cH.is {lo hi : Nat} {w : World} {v : Value} {xs : List Bool} (h : cH lo hi w v xs) : IsB w v xs:=by
 obtain ⟨sa,c,hv,hc⟩:=h.form (.bool false)
 rw [List.length_map] at hv hc
 exact ⟨sa,_,c,hv,rfl,by simpa only [iL] using hc⟩
theorem bj.below {lo hi : Nat} {w w' : World} {v : Value} {xs : List Int} (h : bj lo hi w v xs) (hb : Below w.heap.size w w') : bj lo hi w' v xs:=bH.below h hb
theorem cH.below {lo hi : Nat} {w w' : World} {v : Value} {xs : List Bool} (h : cH lo hi w v xs) (hb : Below w.heap.size w w') : cH lo hi w' v xs:=bH.below h hb
theorem bj.alloc {lo hi : Nat} {w : World} {v : Value} {xs : List Int} (h : bj lo hi w v xs) (o : Obj) : bj lo hi (w.alloc o) v xs:=bH.alloc h o
theorem cH.alloc {lo hi : Nat} {w : World} {v : Value} {xs : List Bool} (h : cH lo hi w v xs) (o : Obj) : cH lo hi (w.alloc o) v xs:=bH.alloc h o
theorem bj.drew {lo hi : Nat} {w : World} {v : Value} {xs : List Int} (h : bj lo hi w v xs) : bj lo hi w.drew v xs:=bH.drew h
theorem cH.drew {lo hi : Nat} {w : World} {v : Value} {xs : List Bool} (h : cH lo hi w v xs) : cH lo hi w.drew v xs:=bH.drew h
theorem bj.mono {lo hi lo' hi' : Nat} {w : World} {v : Value} {xs : List Int} (h : bj lo hi w v xs) (hl : lo' ≤ lo) (hh : hi ≤ hi') : bj lo' hi' w v xs:=bH.mono h hl hh
theorem cH.mono {lo hi lo' hi' : Nat} {w : World} {v : Value} {xs : List Bool} (h : cH lo hi w v xs) (hl : lo' ≤ lo) (hh : hi ≤ hi') : cH lo' hi' w v xs:=bH.mono h hl hh
theorem bj.top {lo hi : Nat} {w : World} {v : Value} {xs : List Int} (h : bj lo hi w v xs) : bj lo w.heap.size w v xs:=bH.top h
theorem cH.top {lo hi : Nat} {w : World} {v : Value} {xs : List Bool} (h : cH lo hi w v xs) : cH lo w.heap.size w v xs:=bH.top h
theorem bj.at {lo hi : Nat} {w : World} {v : Value} {xs : List Int} (h : bj lo hi w v xs) {k : Nat} (hk : k < xs.length) :
  ∃ g cap,v = .slice (some ⟨g,0,none⟩) xs.length cap ∧ lo ≤ g ∧ g < hi ∧ g < w.heap.size ∧ (∀ k,k < xs.length → w.cell? ⟨g,k,none⟩ = some (.int .i64 (gi xs k))) ∧ ∀ k,w.frozen? ⟨g,k,none⟩ = false:=by
 have:=bH.at h (.int .i64 0) (k:=k) (by simpa using hk)
 simpa only [List.length_map,jv] using this
theorem cH.at {lo hi : Nat} {w : World} {v : Value} {xs : List Bool} (h : cH lo hi w v xs) {k : Nat} (hk : k < xs.length) :
  ∃ g cap,v = .slice (some ⟨g,0,none⟩) xs.length cap ∧ lo ≤ g ∧ g < hi ∧ g < w.heap.size ∧ (∀ k,k < xs.length → w.cell? ⟨g,k,none⟩ = some (.bool (gb xs k))) ∧ ∀ k,w.frozen? ⟨g,k,none⟩ = false:=by
 have:=bH.at h (.bool false) (k:=k) (by simpa using hk)
 simpa only [List.length_map,iL] using this
theorem bj.set {lo hi : Nat} {w : World} {g n cap : Nat} {xs : List Int} (h : bj lo hi w (.slice (some ⟨g,0,none⟩) n cap) xs) (k : Nat) (x : Int) :
  bj lo hi (w.setCell ⟨g,k,none⟩ (.int .i64 x)) (.slice (some ⟨g,0,none⟩) n cap) (xs.set k x):=by
 have:=bH.set h k (.int .i64 x)
 rwa [← List.map_set] at this
theorem cH.set {lo hi : Nat} {w : World} {g n cap : Nat} {xs : List Bool} (h : cH lo hi w (.slice (some ⟨g,0,none⟩) n cap) xs) (k : Nat) (x : Bool) :
  cH lo hi (w.setCell ⟨g,k,none⟩ (.bool x)) (.slice (some ⟨g,0,none⟩) n cap) (xs.set k x):=by
 have:=bH.set h k (.bool x)
 rwa [← List.map_set] at this
theorem bj.len {lo hi : Nat} {w : World} {sa : Option Addr} {n cap : Nat} {xs : List Int} (h : bj lo hi w (.slice sa n cap) xs) : xs.length = n:=by
 obtain ⟨sa',n',c',e,h1,_⟩:=h.is
 simp only [Value.slice.injEq] at e
 omega
theorem cH.len {lo hi : Nat} {w : World} {sa : Option Addr} {n cap : Nat} {xs : List Bool} (h : cH lo hi w (.slice sa n cap) xs) : xs.length = n:=by
 obtain ⟨sa',n',c',e,h1,_⟩:=h.is
 simp only [Value.slice.injEq] at e
 omega
theorem nN (n : Nat) : (madeCells #[Value.int .i64 0] n).toList = (tab n fun _=>0).map (.int .i64):=by
 simp [madeCells,tab,Nat.mod_one]
theorem bj.cell {lo hi : Nat} {w : World} {g n cap : Nat} {xs : List Int} (h : bj lo hi w (.slice (some ⟨g,0,none⟩) n cap) xs) {k : Nat} (hk : k < n) :
  w.cell? ⟨g,k,none⟩ = some (.int .i64 (gi xs k)) ∧ w.frozen? ⟨g,k,none⟩ = false ∧ lo ≤ g ∧ g < w.heap.size:=by
 have hl:=h.len
 obtain ⟨g',cap',e,h1,_,h2,h3,h4⟩:=h.at (k:=k) (by omega)
 simp only [Value.slice.injEq,Option.some.injEq,Addr.mk.injEq,and_true] at e
 obtain ⟨rfl,_,rfl⟩:=e
 exact ⟨h3 k (by omega),h4 k,h1,h2⟩
theorem cH.cell {lo hi : Nat} {w : World} {g n cap : Nat} {xs : List Bool} (h : cH lo hi w (.slice (some ⟨g,0,none⟩) n cap) xs) {k : Nat} (hk : k < n) :
  w.cell? ⟨g,k,none⟩ = some (.bool (gb xs k)) ∧ w.frozen? ⟨g,k,none⟩ = false ∧ lo ≤ g ∧ g < w.heap.size:=by
 have hl:=h.len
 obtain ⟨g',cap',e,h1,_,h2,h3,h4⟩:=h.at (k:=k) (by omega)
 simp only [Value.slice.injEq,Option.some.injEq,Addr.mk.injEq,and_true] at e
 obtain ⟨rfl,_,rfl⟩:=e
 exact ⟨h3 k (by omega),h4 k,h1,h2⟩
theorem cX {n : Nat} {f g : Nat → Int} (h : ∀ k,k < n → f k = g k) : tab n f = tab n g:=iK (by simp) fun k hk=>by rw [dj f hk,h k hk]
theorem iM {n k : Nat} {f : Nat → Int} {d : Nat → Int} (hk : k < n) : (tab n fun j=>if j < k then f j else d j).set k (f k) = tab n fun j=>if j < k + 1 then f j else d j:=by
 rw [re hk]
 refine cX fun j hj=>?_
 by_cases e : j = k
 · subst e;simp
 · rw [if_neg e];by_cases h : j < k
   · rw [if_pos h,if_pos (by omega)]
   · rw [if_neg h,if_neg (by omega)]
theorem kV (xs : List Int) : tab xs.length (gi xs) = xs:=(iK rfl fun _ _=>rfl).symm
def vK (w : World) (n : Nat) (xs : List Int) (e : Ending) (w' : World) : Prop :=
 xs.length = n ∧ ∃ sa c,e = .returned (.slice sa n c) ∧ bj w.heap.size w'.heap.size w' (.slice sa n c) xs ∧ Below w.heap.size w w'
def cj (lo hi : Nat) (w : World) (v : Value) (xss : List (List Int)) (vs : List Value) : Prop :=
 vs.length = xss.length ∧ bH 22 lo hi w v vs ∧ (∀ k,k < xss.length → bj lo hi w (vs.getD k (.slice none 0 0)) (gr xss k)) ∧ (vs.filterMap blk).Nodup
def gd (lo hi : Nat) (w : World) (v : Value) (xss : List (List Int)) : Prop:=∃ vs,cj lo hi w v xss vs
def eo (lo hi : Nat) (w : World) (v : Value) (a : Ar) : Prop:=∃ vo vn vs,v = .agg #[vo,vn] ∧ bj lo hi w vo a.own ∧ cj lo hi w vn a.nxt vs ∧ ((vo :: vs).filterMap blk).Nodup
def dc (lo hi : Nat) (w : World) (v : Value) (g : Pa) : Prop:=∃ vo vn vp vs,v = .agg #[vo,vn,vp] ∧ bj lo hi w vo g.ar.own ∧ cj lo hi w vn g.ar.nxt vs ∧ bj lo hi w vp g.prio ∧ ((vo :: vp :: vs).filterMap blk).Nodup
theorem cj.below {lo hi : Nat} {w w' : World} {v : Value} {xss : List (List Int)} {vs : List Value} (h : cj lo hi w v xss vs) (hb : Below w.heap.size w w') : cj lo hi w' v xss vs :=
 ⟨h.1,h.2.1.below hb,fun k hk=>(h.2.2.1 k hk).below hb,h.2.2.2⟩
theorem cj.mono {lo hi lo' hi' : Nat} {w : World} {v : Value} {xss : List (List Int)} {vs : List Value} (h : cj lo hi w v xss vs) (hl : lo' ≤ lo) (hh : hi ≤ hi') : cj lo' hi' w v xss vs :=
 ⟨h.1,h.2.1.mono hl hh,fun k hk=>(h.2.2.1 k hk).mono hl hh,h.2.2.2⟩
theorem cj.top {lo hi : Nat} {w : World} {v : Value} {xss : List (List Int)} {vs : List Value} (h : cj lo hi w v xss vs) : cj lo w.heap.size w v xss vs :=
 ⟨h.1,h.2.1.top,fun k hk=>(h.2.2.1 k hk).top,h.2.2.2⟩
theorem cj.is {lo hi : Nat} {w : World} {v : Value} {xss : List (List Int)} {vs : List Value} (h : cj lo hi w v xss vs) : d5 w v xss:=by
 obtain ⟨h1,h2,h3,_⟩:=h
 obtain ⟨sa,c,hv,hc⟩:=h2.form (.slice none 0 0)
 rw [h1] at hv hc
 have each : ∀ k,∃ y : Option Addr × Nat × Nat,k < xss.length → vs.getD k (.slice none 0 0) = .slice y.1 y.2.1 y.2.2 ∧ cy w y.1 y.2.1 y.2.2 (gr xss k):=by
  intro k
  by_cases hk : k < xss.length
  · obtain ⟨a,n,c,e,hi⟩:=(h3 k hk).is
    exact ⟨(a,n,c),fun _=>⟨e,hi⟩⟩
  · exact ⟨(none,0,0),fun h=>absurd h hk⟩
 refine ⟨sa,_,c,hv,rfl,fun k=>(Classical.choose (each k)).1,fun k=>(Classical.choose (each k)).2.1,fun k=>(Classical.choose (each k)).2.2,⟨hc.cap,hc.max,hc.nil,hc.spot,fun ad ha k hk=>?_⟩,fun k hk=>((Classical.choose_spec (each k)) hk).2⟩
 rw [hc.cell ad ha k hk]
 exact congrArg some ((Classical.choose_spec (each k)) hk).1
theorem eo.is {lo hi : Nat} {w : World} {v : Value} {a : Ar} (h : eo lo hi w v a) : IsA w v a:=let ⟨vo,vn,_,e,h1,h2,_⟩:=h;⟨vo,vn,e,h1.is,h2.is⟩
theorem dc.is {lo hi : Nat} {w : World} {v : Value} {a : Pa} (h : dc lo hi w v a) : IsP w v a:=let ⟨vo,vn,vp,_,e,h1,h2,h3,_⟩:=h;⟨vo,vn,vp,e,h1.is,h2.is,h3.is⟩
theorem eo.below {lo hi : Nat} {w w' : World} {v : Value} {a : Ar} (h : eo lo hi w v a) (hb : Below w.heap.size w w') : eo lo hi w' v a:=let ⟨vo,vn,vs,e,h1,h2,h3⟩:=h;⟨vo,vn,vs,e,h1.below hb,h2.below hb,h3⟩
theorem dc.below {lo hi : Nat} {w w' : World} {v : Value} {a : Pa} (h : dc lo hi w v a) (hb : Below w.heap.size w w') : dc lo hi w' v a:=let ⟨vo,vn,vp,vs,e,h1,h2,h3,h4⟩:=h;⟨vo,vn,vp,vs,e,h1.below hb,h2.below hb,h3.below hb,h4⟩
theorem eo.mono {lo hi lo' hi' : Nat} {w : World} {v : Value} {a : Ar} (h : eo lo hi w v a) (hl : lo' ≤ lo) (hh : hi ≤ hi') : eo lo' hi' w v a:=let ⟨vo,vn,vs,e,h1,h2,h3⟩:=h;⟨vo,vn,vs,e,h1.mono hl hh,h2.mono hl hh,h3⟩
theorem dc.mono {lo hi lo' hi' : Nat} {w : World} {v : Value} {a : Pa} (h : dc lo hi w v a) (hl : lo' ≤ lo) (hh : hi ≤ hi') : dc lo' hi' w v a:=let ⟨vo,vn,vp,vs,e,h1,h2,h3,h4⟩:=h;⟨vo,vn,vp,vs,e,h1.mono hl hh,h2.mono hl hh,h3.mono hl hh,h4⟩
theorem eo.top {lo hi : Nat} {w : World} {v : Value} {a : Ar} (h : eo lo hi w v a) : eo lo w.heap.size w v a:=let ⟨vo,vn,vs,e,h1,h2,h3⟩:=h;⟨vo,vn,vs,e,h1.top,h2.top,h3⟩
theorem dc.top {lo hi : Nat} {w : World} {v : Value} {a : Pa} (h : dc lo hi w v a) : dc lo w.heap.size w v a:=let ⟨vo,vn,vp,vs,e,h1,h2,h3,h4⟩:=h;⟨vo,vn,vp,vs,e,h1.top,h2.top,h3.top,h4⟩
theorem bj.blks {lo hi : Nat} {w : World} {v : Value} {xs : List Int} (h : bj lo hi w v xs) : ∀ g,blk v = some g → lo ≤ g ∧ g < hi:=fun g hg=>⟨(bH.lt h g hg).1,(bH.lt h g hg).2.1⟩
theorem cj.blks {lo hi : Nat} {w : World} {v : Value} {xss : List (List Int)} {vs : List Value} (h : cj lo hi w v xss vs) : ∀ g,g ∈ vs.filterMap blk → lo ≤ g ∧ g < hi:=by
 intro g hg
 obtain ⟨u,hu,e⟩:=List.mem_filterMap.1 hg
 obtain ⟨k,hk,e2⟩:=List.getElem_of_mem hu
 have:=h.2.2.1 k (by rw [← h.1];exact hk)
 rw [List.getD_eq_getElem?_getD,List.getElem?_eq_getElem hk] at this
 simp only [Option.getD_some,e2] at this
 exact this.blks g e
def bZ (lo hi : Nat) (w w' : World) : Prop:=w.heap.size ≤ w'.heap.size ∧ ∀ g,lo ≤ g → g < hi → g < w.heap.size → w'.heap[g]? = w.heap[g]?
theorem bZ.refl (lo hi : Nat) (w : World) : bZ lo hi w w:=⟨Nat.le_refl _,fun _ _ _ _=>rfl⟩
theorem bZ.trans {lo hi : Nat} {a b c : World} (h : bZ lo hi a b) (k : bZ lo hi b c) : bZ lo hi a c :=
 ⟨Nat.le_trans h.1 k.1,fun g h1 h2 h3=>(k.2 g h1 h2 (Nat.lt_of_lt_of_le h3 h.1)).trans (h.2 g h1 h2 h3)⟩
theorem bZ.below {lo hi : Nat} {a b c : World} (h : bZ lo hi a b) (k : Below b.heap.size b c) : bZ lo hi a c :=
 h.trans ⟨k.size,fun g _ _ h3=>k.block g h3⟩
theorem bZ.alloc {lo hi : Nat} {a b : World} (h : bZ lo hi a b) (o : Obj) : bZ lo hi a (b.alloc o):=h.below (aL b o)
theorem bZ.drew {lo hi : Nat} {a b : World} (h : bZ lo hi a b) : bZ lo hi a b.drew:=h.below (bW b)
theorem bZ.drewN {lo hi : Nat} {a b : World} (h : bZ lo hi a b) (m : Nat) : bZ lo hi a (b.drewN m):=h.below (cW b m)
theorem bZ.set {lo hi : Nat} {a b : World} (h : bZ lo hi a b) {g k : Nat} (hg : g < lo ∨ hi ≤ g) (u : Value) : bZ lo hi a (b.setCell ⟨g,k,none⟩ u) :=
 h.trans ⟨by rw [World.size_setCell];exact Nat.le_refl _,fun g' h1 h2 h3=>Below.heap_setCell _ _ _ _ (fun e=>by simp only at e;omega)⟩
theorem bH.kept {e : TypeId} {lo hi : Nat} {w w' : World} {v : Value} {vs : List Value} (h : bH e lo hi w v vs) (hk : bZ lo hi w w') : bH e lo hi w' v vs :=
 h.keep fun g hg=>by have:=h.lt g hg;exact hk.2 g this.1 this.2.1 this.2.2
theorem bj.final {lo hi lo' : Nat} {w W : World} {v : Value} {xs : List Int} (h : bj lo hi w v xs) (hk : bZ lo hi w W) (hl : lo' ≤ lo) : bj lo' W.heap.size W v xs:=bj.mono (bj.top (bH.kept h hk)) hl (Nat.le_refl _)
theorem cH.final {lo hi lo' : Nat} {w W : World} {v : Value} {xs : List Bool} (h : cH lo hi w v xs) (hk : bZ lo hi w W) (hl : lo' ≤ lo) : cH lo' W.heap.size W v xs:=cH.mono (cH.top (bH.kept h hk)) hl (Nat.le_refl _)
theorem bj.kept {lo hi : Nat} {w w' : World} {v : Value} {xs : List Int} (h : bj lo hi w v xs) (hk : bZ lo hi w w') : bj lo hi w' v xs:=bH.kept h hk
theorem cH.kept {lo hi : Nat} {w w' : World} {v : Value} {xs : List Bool} (h : cH lo hi w v xs) (hk : bZ lo hi w w') : cH lo hi w' v xs:=bH.kept h hk
theorem cj.kept {lo hi : Nat} {w w' : World} {v : Value} {xss : List (List Int)} {vs : List Value} (h : cj lo hi w v xss vs) (hk : bZ lo hi w w') : cj lo hi w' v xss vs :=
 ⟨h.1,h.2.1.kept hk,fun k h'=>(h.2.2.1 k h').kept hk,h.2.2.2⟩
theorem cj.final {lo hi lo' : Nat} {w W : World} {v : Value} {xss : List (List Int)} {vs : List Value} (h : cj lo hi w v xss vs) (hk : bZ lo hi w W) (hl : lo' ≤ lo) : cj lo' W.heap.size W v xss vs:=cj.mono (cj.top (h.kept hk)) hl (Nat.le_refl _)
theorem eo.kept {lo hi : Nat} {w w' : World} {v : Value} {a : Ar} (h : eo lo hi w v a) (hk : bZ lo hi w w') : eo lo hi w' v a:=let ⟨vo,vn,vs,e,h1,h2,h3⟩:=h;⟨vo,vn,vs,e,h1.kept hk,h2.kept hk,h3⟩
theorem dc.kept {lo hi : Nat} {w w' : World} {v : Value} {a : Pa} (h : dc lo hi w v a) (hk : bZ lo hi w w') : dc lo hi w' v a:=let ⟨vo,vn,vp,vs,e,h1,h2,h3,h4⟩:=h;⟨vo,vn,vp,vs,e,h1.kept hk,h2.kept hk,h3.kept hk,h4⟩
theorem eo.final {lo hi lo' : Nat} {w W : World} {v : Value} {a : Ar} (h : eo lo hi w v a) (hk : bZ lo hi w W) (hl : lo' ≤ lo) : eo lo' W.heap.size W v a:=eo.mono (eo.top (h.kept hk)) hl (Nat.le_refl _)
theorem dc.final {lo hi lo' : Nat} {w W : World} {v : Value} {a : Pa} (h : dc lo hi w v a) (hk : bZ lo hi w W) (hl : lo' ≤ lo) : dc lo' W.heap.size W v a:=dc.mono (dc.top (h.kept hk)) hl (Nat.le_refl _)
end Go.Proofs.Ytlodllmpndflcaa
namespace Go.Proofs.Ytlodllmpndflcaa
set_option linter.unusedVariables false
set_option linter.unusedSimpArgs false
open Go.RowKit
def dh (xss : List (List Int)) : Nat → Nat
 | 0 => 0
 | k + 1 => dh xss k + (gr xss k).length
theorem gI (xss : List (List Int)) {j k : Nat} (h : j ≤ k) : dh xss j ≤ dh xss k:=by
 induction k with
 | zero => have : j = 0 := by omega
           subst this;exact Nat.le_refl _
 | succ k ih =>
   by_cases e : j = k + 1
   · subst e;exact Nat.le_refl _
   · have:=ih (by omega);simp only [dh];omega
def gJ (xss : List (List Int)) : Nat:=xss.length + dh xss xss.length
def szA (a : Ar) : Nat:=a.own.length + gJ a.nxt
def szP (g : Pa) : Nat:=szA g.ar + g.prio.length
def lft (l : Int) (n : Nat) : Int:=if l < n then -1 else l - n
theorem eK {l : Int} {n : Nat} (h : (n : Int) ≤ l) : lft l n = l - n:=if_neg (by omega)
theorem dC {l : Int} {n : Nat} (h : l < (n : Int)) : lft l n = -1:=if_pos h
set_option maxHeartbeats 400000 in
theorem eL (sa : Option Addr) (n c : Nat) (l : Int) (w : World) (hn : n ≤ 9223372036854775807) (h0 : 0 ≤ l) (hl : l ≤ 1048576) :
  Calls Try.prog 17 #[.slice sa n c,.int .i64 l] w fun e w'=>e = .returned (.int .i64 (lft l n)) ∧ w = w':=by
 go_enter Try.func17,Try.ntmps17
 go_wp2
 all_goals go_ret
 all_goals exact ⟨cD (by unfold lft;split <;> omega),rfl⟩
set_option maxHeartbeats 400000 in
theorem kW (sa : Option Addr) (n c : Nat) (xss : List (List Int)) (l : Int) (w : World) (hR : Rws w sa n c xss) (h0 : 0 ≤ l) (hl : l ≤ 1048576) :
  Calls Try.prog 29 #[.slice sa n c,.int .i64 l] w fun e w'=>e = .returned (.int .i64 (lft l (gJ xss))) ∧ w = w':=by
 have hmax:=hR.max
 have HL:=Lib.hid hR.len
 by_cases hn : l < n
 · go_enter Try.func29,Try.ntmps29
   go_wp2
   all_goals go_ret
   all_goals exact ⟨cD (by rw [dC];unfold gJ;rw [HL.out];omega),rfl⟩
 · go_enter Try.func29,Try.ntmps29
   go_wp2
   go_loop [1,5] (fun l' i=>∃ k : Nat,k ≤ n ∧ i = .int .i64 k ∧ (n : Int) + dh xss k ≤ l ∧ l' = .int .i64 (l - n - dh xss k)) (fun _ i=>n - (intOf i).toNat)
   case atStart=>exact ⟨0,by omega,rfl,by simp only [dh];omega,by simp only [dh];congr 1;omega⟩
   case round =>
    obtain ⟨k,hk,rfl,hp,rfl⟩:=hrel
    by_cases hlt : k < n
    · obtain ⟨b,o,rfl,hb,A,L,C,hc⟩:=hR.get hlt
      obtain ⟨hck,hI⟩:=hc k hlt
      have hm:=hI.max
      have hs : dh xss (k + 1) = dh xss k + L k:=by simp only [dh];rw [hI.1]
      have HS:=Lib.hid hs
      clear hc hs
      generalize hq : dh xss k = q at *
      have HQ:=Lib.hid hq
      clear hq
      by_cases hfit : (n : Int) + q + L k ≤ l
      · have hz:=eK (l:=l - n - q) (n:=L k) (by omega)
        go_wp2_with (go_at_call 17;refine (eL _ _ _ _ _ hm (by omega) (by omega)).mono ?_;rw [hz];rintro e w' ⟨rfl,rfl⟩)
        go_round
        case rel=>exact ⟨k + 1,by omega,by go_num,by rw [HS.out];omega,by rw [HS.out];congr 1;omega⟩
        case measure=>simp [intOf];omega
      · have hz:=dC (l:=l - n - q) (n:=L k) (by omega)
        go_wp2_with (go_at_call 17;refine (eL _ _ _ _ _ hm (by omega) (by omega)).mono ?_;rw [hz];rintro e w' ⟨rfl,rfl⟩)
        go_ret
        exact ⟨cD (by rw [dC];unfold gJ;rw [HL.out];have:=gI xss (j:=k + 1) (k:=n) (by omega);have:=HS.out;omega),rfl⟩
    · go_wp2
      go_ret
      have e : k = n:=by omega
      subst e
      exact ⟨cD (by rw [eK] <;> (unfold gJ;rw [HL.out];omega)),rfl⟩
set_option maxHeartbeats 400000 in
theorem j7 (v : Value) (a : Ar) (l : Int) (w : World) (hA : IsA w v a) (h0 : 0 ≤ l) (hl : l ≤ 1048576) :
  Calls Try.prog 16 #[v,.int .i64 l] w fun e w'=>e = .returned (.int .i64 (lft l (szA a))) ∧ Below w.heap.size w w':=by
 obtain ⟨_,_,rfl,⟨s1,n1,c1,rfl,h1⟩,⟨s2,n2,c2,rfl,h2⟩⟩:=hA
 have hm1:=h1.max
 have HL:=Lib.hid h1.1
 by_cases hf : (n1 : Int) ≤ l
 · have hz:=eK hf
   by_cases hg : (n1 : Int) + gJ a.nxt ≤ l
   · have hz2:=eK (l:=l - n1) (n:=gJ a.nxt) (by omega)
     go_enter Try.func16,Try.ntmps16
     go_wp2_with (first|(go_at_call 17;refine (eL _ _ _ _ _ hm1 (by omega) (by omega)).mono ?_;rw [hz];rintro e w' ⟨rfl,rfl⟩)|(go_at_call 29;refine (kW _ _ _ _ _ _ (h2.alloc _) (by omega) (by omega)).mono ?_;rw [hz2];rintro e w' ⟨rfl,rfl⟩))
     go_ret
     exact ⟨cD (by rw [eK] <;> (unfold szA;rw [HL.out];omega)),aL _ _⟩
   · have hz2:=dC (l:=l - n1) (n:=gJ a.nxt) (by omega)
     go_enter Try.func16,Try.ntmps16
     go_wp2_with (first|(go_at_call 17;refine (eL _ _ _ _ _ hm1 (by omega) (by omega)).mono ?_;rw [hz];rintro e w' ⟨rfl,rfl⟩)|(go_at_call 29;refine (kW _ _ _ _ _ _ (h2.alloc _) (by omega) (by omega)).mono ?_;rw [hz2];rintro e w' ⟨rfl,rfl⟩))
     go_ret
     exact ⟨cD (by rw [dC];unfold szA;rw [HL.out];omega),aL _ _⟩
 · have hz:=dC (l:=l) (n:=n1) (by omega)
   go_enter Try.func16,Try.ntmps16
   go_wp2_with (go_at_call 17;refine (eL _ _ _ _ _ hm1 (by omega) (by omega)).mono ?_;rw [hz];rintro e w' ⟨rfl,rfl⟩)
   go_ret
   exact ⟨cD (by rw [dC];unfold szA;rw [HL.out];omega),aL _ _⟩
end Go.Proofs.Ytlodllmpndflcaa
namespace Go.Proofs.Ytlodllmpndflcaa
set_option linter.unusedVariables false
set_option linter.unusedSimpArgs false
open Go.RowKit
set_option maxHeartbeats 400000 in
theorem iw (sa : Option Addr) (n c : Nat) (xs : List Int) (w : World) (hI : cy w sa n c xs) (hn : n ≤ 1048576) :
  Calls Try.prog 7 #[.slice sa n c] w (vK w n xs):=by
 have hmax:=hI.max
 have HL:=Lib.hid hI.1
 obtain ⟨i0,hi,hz0,hz1,hz2⟩:=info_parts Try.infoI
 go_enter Try.func7,Try.ntmps7
 go_wp2_with (at_make;refine wpList_make_full _ rfl _ _ 22 rfl w.heap.size 2 i0 (.int .i64 0) 1 Try.underlying22 hi hz0 hz1 _ _ _ _ n rfl rfl rfl rfl (by rw [hz2];omega) (by unfold maxLen;omega) (Nat.le_refl _) ?_)
 intro w1 hown hgrow
 rw [nN] at hown
 have ho1 : bj w.heap.size w1.heap.size w1 (.slice (some ⟨w.heap.size,0,none⟩) n n) (tab n fun j=>if j < 0 then gi xs j else 0):=by
  have:=fe hown
  exact this
 have hb1 : Below w.heap.size w w1:=(Below.refl _ _).grown hgrow (Nat.le_refl _) (fun k h=>by cases h)
 clear hown hgrow
 go_wp2
 go_loopw [4] (fun i wr=>∃ k : Nat,k ≤ n ∧ i = .int .i64 k ∧ bj w.heap.size wr.heap.size wr (.slice (some ⟨w.heap.size,0,none⟩) n n) (tab n fun j=>if j < k then gi xs j else 0) ∧ Below w.heap.size w wr) (fun i _=>n - (intOf i).toNat)
 case atStart=>exact ⟨0,by omega,rfl,ho1,hb1⟩
 case round =>
  obtain ⟨k,hk,rfl,ho,hb⟩:=hrel
  by_cases hlt : k < n
  · obtain ⟨b,o,rfl,hbl,hc⟩:=hI.get hlt
    have hck:=(di hb).1 b (o + k) hbl
    rw [hc k hlt] at hck
    obtain ⟨h1,h2,h3,h4⟩:=ho.cell hlt
    clear hc
    go_wp2
    go_roundw
    case rel =>
     refine ⟨k + 1,by omega,by go_num,?_,aB hb (Nat.le_refl _) _⟩
     have:=(bj.set ho k (gi xs k)).top
     rwa [iM (f:=gi xs) (d:=fun _=>0) hlt] at this
    case measure=>simp [intOf];omega
  · go_wp2
    go_ret
    have e : k = n:=by omega
    subst e
    refine ⟨HL.out,_,_,rfl,?_,hb⟩
    have e2 : (tab k fun j=>if j < k then gi xs j else 0) = xs:=by
     rw [cX (g:=gi xs) (fun j hj=>if_pos hj),← HL.out]
     exact kV xs
    rwa [e2] at ho
def tV (w : World) (n : Nat) (xss : List (List Int)) (e : Ending) (w' : World) : Prop :=
 xss.length = n ∧ ∃ sa c,e = .returned (.slice sa n c) ∧ gd w.heap.size w'.heap.size w' (.slice sa n c) xss ∧ Below w.heap.size w w'
def e8 (lo : Nat) (w : World) (v : Value) (n : Nat) (xss : List (List Int)) (k : Nat) (vs : List Value) : Prop :=
 vs.length = k ∧ bH 22 lo w.heap.size w v (vs ++ List.replicate (n - k) (.slice none 0 0)) ∧ (∀ i,i < k → bj lo w.heap.size w (vs.getD i (.slice none 0 0)) (gr xss i)) ∧ (vs.filterMap blk).Nodup
theorem e8.below {lo : Nat} {w w' : World} {v : Value} {n : Nat} {xss : List (List Int)} {k : Nat} {vs : List Value} (h : e8 lo w v n xss k vs) (hb : Below w.heap.size w w') : e8 lo w' v n xss k vs :=
 ⟨h.1,(h.2.1.below hb).top,fun i hi=>((h.2.2.1 i hi).below hb).top,h.2.2.2⟩
theorem e8.mem {lo : Nat} {w : World} {v : Value} {n : Nat} {xss : List (List Int)} {k : Nat} {vs : List Value} (h : e8 lo w v n xss k vs) : ∀ g,g ∈ vs.filterMap blk → lo ≤ g ∧ g < w.heap.size:=by
 intro g hg
 obtain ⟨u,hu,e⟩:=List.mem_filterMap.1 hg
 obtain ⟨j,hj,e2⟩:=List.getElem_of_mem hu
 have:=h.2.2.1 j (by rw [← h.1];exact hj)
 rw [List.getD_eq_getElem?_getD,List.getElem?_eq_getElem hj] at this
 simp only [Option.getD_some,e2] at this
 exact this.blks g e
theorem e8.cell {lo : Nat} {w : World} {g n cap : Nat} {xss : List (List Int)} {k : Nat} {vs : List Value} (h : e8 lo w (.slice (some ⟨g,0,none⟩) n cap) n xss k vs) (hk : k < n) :
  (∃ u,w.cell? ⟨g,k,none⟩ = some u) ∧ w.frozen? ⟨g,k,none⟩ = false:=by
 obtain ⟨g',cap',e,_,_,_,h3,h4⟩:=h.2.1.at (k:=k) (.slice none 0 0) (by have:=h.1;simp;omega)
 simp only [Value.slice.injEq,Option.some.injEq,Addr.mk.injEq,and_true] at e
 obtain ⟨rfl,_,rfl⟩:=e
 exact ⟨⟨_,h3 k (by have:=h.1;simp;omega)⟩,h4 k⟩
theorem e8.step {lo : Nat} {w w1 : World} {g n cap : Nat} {xss : List (List Int)} {k : Nat} {vs : List Value} {u : Value} (h : e8 lo w (.slice (some ⟨g,0,none⟩) n cap) n xss k vs) (hk : k < n)
  (hb : Below w.heap.size w w1) (hu : bj w.heap.size w1.heap.size w1 u (gr xss k)) (hlo : lo ≤ w.heap.size) (hg : g < w.heap.size) :
  e8 lo (w1.setCell ⟨g,k,none⟩ u) (.slice (some ⟨g,0,none⟩) n cap) n xss (k + 1) (vs ++ [u]):=by
 have h':=h.below hb
 have hne : ∀ x,bj lo w1.heap.size w1 x (gr xss k) → blk x ≠ some g:=by
  intro x hx e
  have h1:=bH.lt hx g e
  rcases hx with ⟨rfl,_⟩|⟨g',c',cur,rfl,_,_,hh,_⟩
  · simp [blk,Value.ownBlock] at e
  · simp [blk,Value.ownBlock] at e
    subst e
    rcases h'.2.1 with ⟨hq,_⟩|⟨g2,c2,cur2,hq,_,_,hh2,_⟩
    · cases hq
    · simp only [Value.slice.injEq,Option.some.injEq,Addr.mk.injEq,and_true] at hq
      obtain ⟨rfl,_⟩:=hq
      rw [hh] at hh2
      simp at hh2
 have hne' : ∀ (ys : List Int) x,bj lo w1.heap.size w1 x ys → blk x ≠ some g:=by
  intro ys x hx e
  rcases hx with ⟨rfl,_⟩|⟨g',c',cur,rfl,_,_,hh,_⟩
  · simp [blk,Value.ownBlock] at e
  · simp [blk,Value.ownBlock] at e
    subst e
    rcases h'.2.1 with ⟨hq,_⟩|⟨g2,c2,cur2,hq,_,_,hh2,_⟩
    · cases hq
    · simp only [Value.slice.injEq,Option.some.injEq,Addr.mk.injEq,and_true] at hq
      obtain ⟨rfl,_⟩:=hq
      rw [hh] at hh2
      simp at hh2
 refine ⟨by simp [h.1],?_,?_,?_⟩
 · have:=bH.set h'.2.1 k u
   have e : (vs ++ List.replicate (n - k) (Value.slice none 0 0)).set k u = (vs ++ [u]) ++ List.replicate (n - (k + 1)) (.slice none 0 0):=by
    rw [List.set_append,if_neg (by have:=h.1;omega),h.1,Nat.sub_self,show n - k = (n - (k + 1)) + 1 by omega,List.replicate_succ,List.set_cons_zero,List.append_assoc]
    rfl
   rw [e] at this
   exact this.top
 · intro i hi
   by_cases e : i = k
   · rw [e]
     have e2 : (vs ++ [u]).getD k (.slice none 0 0) = u:=by
      rw [List.getD_eq_getElem?_getD,List.getElem?_append_right (by have:=h.1;omega),h.1];simp
     rw [e2]
     have hu':=hu.mono hlo (Nat.le_refl _)
     exact (bH.other hu' (hne' _ _ hu') k u).top
   · have e2 : (vs ++ [u]).getD i (.slice none 0 0) = vs.getD i (.slice none 0 0):=by
      rw [List.getD_eq_getElem?_getD,List.getElem?_append_left (by have:=h.1;omega),← List.getD_eq_getElem?_getD]
     rw [e2]
     have hx:=h'.2.2.1 i (by omega)
     exact (bH.other hx (hne' _ _ hx) k u).top
 · rw [List.filterMap_append,List.nodup_append]
   refine ⟨h.2.2.2,?_,?_⟩
   · cases hq : blk u <;> simp [hq]
   · intro a ha b' hb' e
     subst e
     have h1:=h.mem a ha
     have h2 : blk u = some a:=by
      cases hq : blk u with
      | none => simp [hq] at hb'
      | some x => simp [hq] at hb'; rw [hb']
     have:=hu.blks a h2
     omega
theorem kX (n : Nat) : (madeCells #[Value.slice none 0 0] n).toList = List.replicate n (.slice none 0 0):=by
 apply List.ext_getElem
 · simp [madeCells]
 · intro i h1 h2
   simp [madeCells,Nat.mod_one]
set_option maxHeartbeats 400000 in
theorem pg (sa : Option Addr) (n c : Nat) (xss : List (List Int)) (w : World) (hR : Rws w sa n c xss) (hn : n ≤ 1048576) (hl : ∀ k,k < n → (gr xss k).length ≤ 1048576) :
  Calls Try.prog 36 #[.slice sa n c] w (tV w n xss):=by
 have hmax:=hR.max
 have HL:=Lib.hid hR.len
 have HN:=Lib.hid hl
 clear hl
 obtain ⟨i0,hi,hz0,hz1,hz2⟩:=info_parts Try.infoS
 go_enter Try.func36,Try.ntmps36
 go_wp2_with (at_make;refine wpList_make_full _ rfl _ _ 23 rfl w.heap.size 22 i0 (.slice none 0 0) 1 Try.underlying23 hi hz0 hz1 _ _ _ _ n rfl rfl rfl rfl (by rw [hz2];omega) (by unfold maxLen;omega) (Nat.le_refl _) ?_)
 intro w1 hown hgrow
 rw [kX] at hown
 have hg1 : w.heap.size < w1.heap.size:=(hown.lt _ rfl).2
 have ho1 : e8 w.heap.size w1 (.slice (some ⟨w.heap.size,0,none⟩) n n) n xss 0 [] :=
  ⟨rfl,by simpa using fe hown,fun i hi=>by omega,by simp⟩
 have hb1 : Below w.heap.size w w1:=(Below.refl _ _).grown hgrow (Nat.le_refl _) (fun k h=>by cases h)
 clear hown hgrow
 go_wp2
 go_loopw [4] (fun i wr=>∃ (k : Nat) (vs : List Value),k ≤ n ∧ i = .int .i64 k ∧ e8 w.heap.size wr (.slice (some ⟨w.heap.size,0,none⟩) n n) n xss k vs ∧ Below w.heap.size w wr ∧ w.heap.size < wr.heap.size) (fun i _=>n - (intOf i).toNat)
 case atStart=>exact ⟨0,[],by omega,rfl,ho1,hb1,hg1⟩
 case round =>
  obtain ⟨k,vs,hk,rfl,ho,hb,hg⟩:=hrel
  by_cases hlt : k < n
  · obtain ⟨b,o,rfl,hbl,A,L,C,hc⟩:=hR.get hlt
    have hck:=(di hb).1 b (o + k) hbl
    obtain ⟨hc1,hc2⟩:=hc k hlt
    rw [hc1] at hck
    have hL : L k ≤ 1048576:=by have:=HN.out k hlt;rw [hc2.1] at this;exact this
    have hI:=hc2.below hb
    clear hc hc1 hc2
    go_wp2_with (go_at_call 7;refine (iw _ _ _ _ _ hI hL).mono ?_;rintro e w2 ⟨hlk,s2,c2,rfl,ho2,hb2⟩;clear hlk;have hP:=ho.below hb2;have hq:=hP.cell hlt;obtain ⟨⟨q,hq1⟩,hq2⟩:=hq)
    go_roundw
    case rel =>
     exact ⟨k + 1,vs ++ [_],by omega,by go_num,ho.step hlt hb2 ho2 (by omega) hg,aB (hb.trans (hb2.mono hb.size)) (Nat.le_refl _) _,by rw [World.size_setCell];exact Nat.lt_of_lt_of_le hg hb2.size⟩
    case measure=>simp [intOf];omega
  · go_wp2
    go_ret
    have e : k = n:=by omega
    subst e
    refine ⟨HL.out,_,_,rfl,⟨vs,?_,?_,?_,ho.2.2.2⟩,hb⟩
    · rw [ho.1,HL.out]
    · simpa using ho.2.1
    · intro i hi;exact ho.2.2.1 i (by rw [HL.out] at hi;exact hi)
theorem nodup_cons {lo m hi : Nat} {u : Value} {vs : List Value} (hu : ∀ g,blk u = some g → g < m) (hv : ∀ g,g ∈ vs.filterMap blk → m ≤ g) (hn : (vs.filterMap blk).Nodup) : ((u :: vs).filterMap blk).Nodup:=by
 cases hq : blk u with
 | none => rw [List.filterMap_cons_none hq]; exact hn
 | some g =>
   rw [List.filterMap_cons_some hq,List.nodup_cons]
   exact ⟨fun hm=>by have:=hu g hq;have:=hv g hm;omega,hn⟩
theorem kY {m : Nat} {u : Value} {vs : List Value} (hu : ∀ g,blk u = some g → m ≤ g) (hv : ∀ g,g ∈ vs.filterMap blk → g < m) (hn : (vs.filterMap blk).Nodup) : ((u :: vs).filterMap blk).Nodup:=by
 cases hq : blk u with
 | none => rw [List.filterMap_cons_none hq]; exact hn
 | some g =>
   rw [List.filterMap_cons_some hq,List.nodup_cons]
   exact ⟨fun hm=>by have:=hu g hq;have:=hv g hm;omega,hn⟩
def vL (w : World) (a : Ar) (e : Ending) (w' : World) : Prop:=∃ s1 n1 c1 s2 n2 c2,e = .returned (.agg #[.slice s1 n1 c1,.slice s2 n2 c2]) ∧ eo w.heap.size w'.heap.size w' (.agg #[.slice s1 n1 c1,.slice s2 n2 c2]) a ∧ Below w.heap.size w w'
def vM (w : World) (g : Pa) (e : Ending) (w' : World) : Prop:=∃ s1 n1 c1 s2 n2 c2 s3 n3 c3,e = .returned (.agg #[.slice s1 n1 c1,.slice s2 n2 c2,.slice s3 n3 c3]) ∧ dc w.heap.size w'.heap.size w' (.agg #[.slice s1 n1 c1,.slice s2 n2 c2,.slice s3 n3 c3]) g ∧ Below w.heap.size w w'
set_option maxHeartbeats 1000000 in
theorem rf (v : Value) (a : Ar) (w : World) (hA : IsA w v a) (hn : szA a ≤ 1048576) :
  Calls Try.prog 20 #[v] w (vL w a):=by
 obtain ⟨_,_,rfl,⟨s1,n1,c1,rfl,h1⟩,⟨s2,n2,c2,rfl,h2⟩⟩:=hA
 have hl1 : n1 ≤ 1048576:=by have:=h1.1;unfold szA at hn;omega
 have hl2 : n2 ≤ 1048576:=by have:=h2.len;unfold szA gJ at hn;omega
 have hl3 : ∀ k,k < n2 → (gr a.nxt k).length ≤ 1048576:=fun k hk=>by
  have:=gI a.nxt (j:=k + 1) (k:=a.nxt.length) (by have:=h2.len;omega)
  unfold szA gJ at hn;simp only [dh] at this;omega
 have HL:=Lib.hid hl3
 clear hl3 hn
 go_enter Try.func20,Try.ntmps20
 go_wp2_with (first
  | (go_at_call 7; refine (iw _ _ _ _ _ (((h1.alloc _).alloc _).alloc _) hl1).mono ?_; rintro e w2 ⟨hlk, s3, c3, rfl, ho2, hb2⟩; clear hlk; have hcf := di hb2; obtain ⟨hcell2, hfr2⟩ := hcf; have hz2 := hb2.size; simp only [World.size_alloc, World.size_setCell, World.size_drew] at hz2; have hz2a : w.heap.size < w2.heap.size := (by omega); have hz2b : w.heap.size + 1 < w2.heap.size := (by omega); have hz2c : w.heap.size + 1 + 1 < w2.heap.size := (by omega))
  | (go_at_call 36; refine (pg _ _ _ _ _ (h2.below (by repeat' (first | (with_reducible exact Below.refl _ _) | (with_reducible assumption) | (with_reducible apply aB) | (with_reducible apply Below.alloc) | (with_reducible apply Below.drew) | (with_reducible apply ap) | (with_reducible refine Below.trans ?_ (Below.mono (by assumption) ?_)) | omega | (simp only [World.size_alloc, World.size_setCell, World.size_drew]; omega)))) hl2 HL.out).mono ?_; rintro e w3 ⟨hlk, s4, c4, rfl, ho3, hb3⟩; clear hlk; have hcf3 := di hb3; obtain ⟨hcell3, hfr3⟩ := hcf3; have hz3 := hb3.size; simp only [World.size_alloc, World.size_setCell, World.size_drew] at hz3; have hz3a : w.heap.size < w3.heap.size := (by omega); have hz3b : w.heap.size + 1 < w3.heap.size := (by omega); have hz3c : w.heap.size + 1 + 1 < w3.heap.size := (by omega)))
 refine bodyPost_ret (v:=.agg #[.slice s3 n1 c3,.slice s4 n2 c4]) (by simp [results,Try.results20,go_sem,hcell3,hfr3,hcell2,hfr2,hz2a,hz2b,hz2c,hz3a,hz3b,hz3c]) rfl ?_
 obtain ⟨vs,ho3⟩:=ho3
 refine ⟨_,_,_,_,_,_,rfl,⟨_,_,vs,rfl,?_,?_,?_⟩,?_⟩
 · exact ho2.final (by repeat' (first|(with_reducible exact bZ.refl _ _ _)|(with_reducible apply bZ.set)|(with_reducible apply bZ.alloc)|(with_reducible apply bZ.drew)|(with_reducible apply bZ.drewN)|(with_reducible refine bZ.below ?_ (by assumption))|omega|(simp only [World.size_alloc,World.size_setCell,World.size_drew];omega))) (by first|omega|(simp only [World.size_alloc,World.size_setCell,World.size_drew];omega))
 · exact ho3.final (by repeat' (first|(with_reducible exact bZ.refl _ _ _)|(with_reducible apply bZ.set)|(with_reducible apply bZ.alloc)|(with_reducible apply bZ.drew)|(with_reducible apply bZ.drewN)|(with_reducible refine bZ.below ?_ (by assumption))|omega|(simp only [World.size_alloc,World.size_setCell,World.size_drew];omega))) (by first|omega|(simp only [World.size_alloc,World.size_setCell,World.size_drew];omega))
 · exact nodup_cons (m:=w2.heap.size) (lo:=0) (hi:=0) (fun g hg=>(ho2.blks g hg).2) (fun g hg=>by have:=(ho3.blks g hg).1;rw [World.size_setCell] at this;exact this) ho3.2.2.2
 · exact (by repeat' (first|(with_reducible exact Below.refl _ _)|(with_reducible assumption)|(with_reducible apply aB)|(with_reducible apply Below.alloc)|(with_reducible apply Below.drew)|(with_reducible apply ap)|(with_reducible refine Below.trans ?_ (Below.mono (by assumption) ?_))|omega|(simp only [World.size_alloc,World.size_setCell,World.size_drew];omega)))
set_option maxHeartbeats 1000000 in
theorem iy (v : Value) (g : Pa) (w : World) (hP : IsP w v g) (hn : szP g ≤ 1048576) :
  Calls Try.prog 6 #[v] w (vM w g):=by
 obtain ⟨_,_,_,rfl,⟨s1,n1,c1,rfl,h1⟩,⟨s2,n2,c2,rfl,h2⟩,⟨s3,n3,c3,rfl,h3⟩⟩:=hP
 have hl1 : szA g.ar ≤ 1048576:=by unfold szP at hn;omega
 have hl3 : n3 ≤ 1048576:=by have:=h3.1;unfold szP at hn;omega
 have hA : IsA w (.agg #[.slice s1 n1 c1,.slice s2 n2 c2]) g.ar:=⟨_,_,rfl,h1.is,h2.is⟩
 clear hn
 go_enter Try.func6,Try.ntmps6
 go_wp2_with fail
 refine (rf _ _ _ (hA.below (by repeat' (first|(with_reducible exact Below.refl _ _)|(with_reducible assumption)|(with_reducible apply aB)|(with_reducible apply Below.alloc)|(with_reducible apply Below.drew)|(with_reducible apply ap)|(with_reducible refine Below.trans ?_ (Below.mono (by assumption) ?_))|omega|(simp only [World.size_alloc,World.size_setCell,World.size_drew];omega)))) hl1).mono ?_
 rintro e w2 ⟨t1,m1,d1,t2,m2,d2,rfl,ho2,hb2⟩
 have hcf:=di hb2
 obtain ⟨hcell2,hfr2⟩:=hcf
 have hz2:=hb2.size
 simp only [World.size_alloc,World.size_setCell,World.size_drew] at hz2
 have hz2a : w.heap.size < w2.heap.size:=(by omega)
 have hz2b : w.heap.size + 1 < w2.heap.size:=(by omega)
 have hz2c : w.heap.size + 1 + 1 < w2.heap.size:=(by omega)
 have ho2':=ho2
 obtain ⟨_,_,vs,e,ha,hb,hd⟩:=ho2'
 simp only [Value.agg.injEq,Array.mk.injEq,List.cons.injEq,and_true] at e
 obtain ⟨rfl,rfl⟩:=e
 go_wp2_with fail
 refine (iw _ _ _ _ _ (h3.below (by repeat' (first|(with_reducible exact Below.refl _ _)|(with_reducible assumption)|(with_reducible apply aB)|(with_reducible apply Below.alloc)|(with_reducible apply Below.drew)|(with_reducible apply ap)|(with_reducible refine Below.trans ?_ (Below.mono (by assumption) ?_))|omega|(simp only [World.size_alloc,World.size_setCell,World.size_drew];omega)))) hl3).mono ?_
 rintro e w3 ⟨hlk,s4,c4,rfl,ho3,hb3⟩
 clear hlk
 have hcf3:=di hb3
 obtain ⟨hcell3,hfr3⟩:=hcf3
 have hz3:=hb3.size
 simp only [World.size_alloc,World.size_setCell,World.size_drew] at hz3
 have hz3a : w.heap.size < w3.heap.size:=(by omega)
 have hz3b : w.heap.size + 1 < w3.heap.size:=(by omega)
 have hz3c : w.heap.size + 1 + 1 < w3.heap.size:=(by omega)
 go_wp2_with fail
 refine bodyPost_ret (v:=.agg #[.slice t1 m1 d1,.slice t2 m2 d2,.slice s4 n3 c4]) (by simp [results,Try.results6,go_sem,hcell3,hfr3,hcell2,hfr2,hz2a,hz2b,hz2c,hz3a,hz3b,hz3c]) rfl ?_
 refine ⟨_,_,_,_,_,_,_,_,_,rfl,⟨_,_,_,vs,rfl,?_,?_,?_,?_⟩,?_⟩
 · exact ha.final (by repeat' (first|(with_reducible exact bZ.refl _ _ _)|(with_reducible apply bZ.set)|(with_reducible apply bZ.alloc)|(with_reducible apply bZ.drew)|(with_reducible apply bZ.drewN)|(with_reducible refine bZ.below ?_ (by assumption))|omega|(simp only [World.size_alloc,World.size_setCell,World.size_drew];omega))) (by first|omega|(simp only [World.size_alloc,World.size_setCell,World.size_drew];omega))
 · exact hb.final (by repeat' (first|(with_reducible exact bZ.refl _ _ _)|(with_reducible apply bZ.set)|(with_reducible apply bZ.alloc)|(with_reducible apply bZ.drew)|(with_reducible apply bZ.drewN)|(with_reducible refine bZ.below ?_ (by assumption))|omega|(simp only [World.size_alloc,World.size_setCell,World.size_drew];omega))) (by first|omega|(simp only [World.size_alloc,World.size_setCell,World.size_drew];omega))
 · exact ho3.final (by repeat' (first|(with_reducible exact bZ.refl _ _ _)|(with_reducible apply bZ.set)|(with_reducible apply bZ.alloc)|(with_reducible apply bZ.drew)|(with_reducible apply bZ.drewN)|(with_reducible refine bZ.below ?_ (by assumption))|omega|(simp only [World.size_alloc,World.size_setCell,World.size_drew];omega))) (by first|omega|(simp only [World.size_alloc,World.size_setCell,World.size_drew];omega))
 · have:=kY (m:=w2.heap.size) (u:=.slice s4 n3 c4) (vs:=.slice t1 m1 d1 :: vs) (fun g hg=>by have:=(ho3.blks g hg).1;simp only [World.size_setCell] at this;exact this) (fun g hg=>by
    rcases List.mem_filterMap.1 hg with ⟨u,hu,e⟩
    rcases List.mem_cons.1 hu with rfl|hu
    · exact (ha.blks g e).2
    · exact (hb.blks g (List.mem_filterMap.2 ⟨u,hu,e⟩)).2) hd
   exact this.perm (List.Perm.filterMap _ (List.Perm.swap _ _ _))
 · exact (by repeat' (first|(with_reducible exact Below.refl _ _)|(with_reducible assumption)|(with_reducible apply aB)|(with_reducible apply Below.alloc)|(with_reducible apply Below.drew)|(with_reducible apply ap)|(with_reducible refine Below.trans ?_ (Below.mono (by assumption) ?_))|omega|(simp only [World.size_alloc,World.size_setCell,World.size_drew];omega)))
end Go.Proofs.Ytlodllmpndflcaa
namespace Go.Proofs.Ytlodllmpndflcaa
set_option linter.unusedVariables false
set_option linter.unusedSimpArgs false
open Go.RowKit
def Qb (w : World) (b : Bool) (e : Ending) (w' : World) : Prop:=e = .returned (.bool b) ∧ ∃ m,w' = w.drewN m
def Bb (w : World) (b : Bool) (e : Ending) (w' : World) : Prop:=e = .returned (.bool b) ∧ Below w.heap.size w w'
theorem Qb.bb {w : World} {b : Bool} {e : Ending} {w' : World} (h : Qb w b e w') : Bb w b e w':=by
 obtain ⟨h,m,rfl⟩:=h
 exact ⟨h,cW w m⟩
def Qt (w w' : World) : Prop:=∃ m,w' = w.drewN m
theorem Qt.refl (w : World) : Qt w w:=⟨0,rfl⟩
theorem Qt.drewN {w w' : World} (h : Qt w w') (m : Nat) : Qt w (w'.drewN m):=by
 obtain ⟨q,rfl⟩:=h
 exact ⟨q + m,World.drewN_drewN _ _ _⟩
theorem Qt.below {w w' : World} (h : Qt w w') : Below w.heap.size w w':=by
 obtain ⟨q,rfl⟩:=h
 exact cW w q
theorem IsI.drewN {w : World} {v : Value} {xs : List Int} (h : IsI w v xs) (m : Nat) : IsI (w.drewN m) v xs:=h.below (cW w m)
theorem cy.drewN {w : World} {sa : Option Addr} {n c : Nat} {xs : List Int} (h : cy w sa n c xs) (m : Nat) : cy (w.drewN m) sa n c xs:=h.below (cW w m)
theorem Rws.drewN {w : World} {sa : Option Addr} {n c : Nat} {xs : List (List Int)} (h : Rws w sa n c xs) (m : Nat) : Rws (w.drewN m) sa n c xs:=h.below (cW w m)
theorem tW {xs ys : List Int} {n : Nat} (h1 : xs.length = n) (h2 : ys.length = n) (h : ∀ j,j < n → gi xs j = gi ys j) : xs = ys:=oZ (by omega) fun k hk=>h k (by omega)
theorem sC {xs ys : List (List Int)} {n : Nat} (h1 : xs.length = n) (h2 : ys.length = n) (h : ∀ j,j < n → gr xs j = gr ys j) : xs = ys:=o6 (by omega) fun k hk=>h k (by omega)
set_option maxHeartbeats 400000 in
theorem dn (sa : Option Addr) (n c : Nat) (xs : List Int) (sb : Option Addr) (m d : Nat) (ys : List Int) (w : World) (hx : cy w sa n c xs) (hy : cy w sb m d ys) :
  Calls Try.prog 11 #[.slice sa n c,.slice sb m d] w (Qb w (tf (xs = ys))):=by
 have hmax:=hx.max
 have hmay:=hy.max
 have HX:=Lib.hid hx.1
 have HY:=Lib.hid hy.1
 by_cases hnm : n = m
 · subst hnm
   go_enter Try.func11,Try.ntmps11
   go_wp2
   go_loopw [5] (fun i wr=>∃ k : Nat,k ≤ n ∧ i = .int .i64 k ∧ (∀ j,j < k → gi xs j = gi ys j) ∧ Qt w wr) (fun i _=>n - (intOf i).toNat)
   case atStart=>exact ⟨0,by omega,rfl,fun j hj=>by omega,Qt.refl w⟩
   case round =>
    obtain ⟨k,hk,rfl,he,hq⟩:=hrel
    have HE:=Lib.hid he
    clear he
    by_cases hlt : k < n
    · obtain ⟨b1,o1,rfl,hb1,hc1⟩:=(hx.below hq.below).get hlt
      obtain ⟨b2,o2,rfl,hb2,hc2⟩:=(hy.below hq.below).get hlt
      have hk1:=hc1 k hlt
      have hk2:=hc2 k hlt
      have i0 : (0 : Int) ≤ (k : Int):=by omega
      have i1 : (k : Int) < (n : Int):=by omega
      clear hc1 hc2
      go_wp2
      go_quiet (fail)
      by_cases heq : gi xs k = gi ys k
      · have HQ:=Lib.hid heq
        have hb : (gi xs k != gi ys k) = false:=by simp [heq]
        clear heq
        go_wp2
        go_roundw
        case rel=>exact ⟨k + 1,by omega,by go_num,fun j hj=>by
         by_cases e : j = k
         · rw [e];exact HQ.out
         · exact HE.out j (by omega),hq.drewN _⟩
        case measure=>simp [intOf];omega
      · have hb : (gi xs k != gi ys k) = true:=by simp [heq]
        go_wp2
        go_ret
        exact ⟨bq (ao (fun e=>heq (by rw [e]))).symm,hq.drewN _⟩
    · go_wp2
      go_ret
      exact ⟨bq (aA (tW HX.out HY.out (fun j hj=>HE.out j (by omega)))).symm,hq⟩
 · go_enter Try.func11,Try.ntmps11
   go_wp2
   go_ret
   exact ⟨bq (ao (fun e=>hnm (by rw [← HX.out,← HY.out,e]))).symm,0,rfl⟩
set_option maxHeartbeats 400000 in
theorem iN (sa : Option Addr) (n c : Nat) (xs : List (List Int)) (sb : Option Addr) (m d : Nat) (ys : List (List Int)) (w : World) (hx : Rws w sa n c xs) (hy : Rws w sb m d ys) :
  Calls Try.prog 43 #[.slice sa n c,.slice sb m d] w (Qb w (tf (xs = ys))):=by
 have hmax:=hx.max
 have hmay:=hy.max
 have HX:=Lib.hid hx.len
 have HY:=Lib.hid hy.len
 by_cases hnm : n = m
 · subst hnm
   go_enter Try.func43,Try.ntmps43
   go_wp2
   go_loopw [5] (fun i wr=>∃ k : Nat,k ≤ n ∧ i = .int .i64 k ∧ (∀ j,j < k → gr xs j = gr ys j) ∧ Qt w wr) (fun i _=>n - (intOf i).toNat)
   case atStart=>exact ⟨0,by omega,rfl,fun j hj=>by omega,Qt.refl w⟩
   case round =>
    obtain ⟨k,hk,rfl,he,hq⟩:=hrel
    have HE:=Lib.hid he
    clear he
    by_cases hlt : k < n
    · obtain ⟨b1,o1,rfl,hb1,A1,L1,C1,hc1⟩:=(hx.below hq.below).get hlt
      obtain ⟨b2,o2,rfl,hb2,A2,L2,C2,hc2⟩:=(hy.below hq.below).get hlt
      obtain ⟨hk1,hi1⟩:=hc1 k hlt
      obtain ⟨hk2,hi2⟩:=hc2 k hlt
      have i0 : (0 : Int) ≤ (k : Int):=by omega
      have i1 : (k : Int) < (n : Int):=by omega
      clear hc1 hc2
      by_cases heq : gr xs k = gr ys k
      · have hcall : ∀ q,Calls Try.prog 11 #[.slice (A1 k) (L1 k) (C1 k),.slice (A2 k) (L2 k) (C2 k)] (wr.drewN q) (Qb (wr.drewN q) true):=fun q=>by
         have:=dn _ _ _ _ _ _ _ _ _ (hi1.drewN q) (hi2.drewN q)
         rwa [aA heq] at this
        have HC:=Lib.hid hcall
        have HQ:=Lib.hid heq
        clear heq hcall
        go_wp2
        go_quiet ((go_at_call 11;exact Calls.quiet_of (HC.out _)))
        go_wp2
        go_roundw
        case rel=>exact ⟨k + 1,by omega,by go_num,fun j hj=>by
         by_cases e : j = k
         · rw [e];exact HQ.out
         · exact HE.out j (by omega),hq.drewN _⟩
        case measure=>simp [intOf];omega
      · have hcall : ∀ q,Calls Try.prog 11 #[.slice (A1 k) (L1 k) (C1 k),.slice (A2 k) (L2 k) (C2 k)] (wr.drewN q) (Qb (wr.drewN q) false):=fun q=>by
         have:=dn _ _ _ _ _ _ _ _ _ (hi1.drewN q) (hi2.drewN q)
         rwa [ao heq] at this
        have HC:=Lib.hid hcall
        have HQ:=Lib.hid heq
        clear heq hcall
        go_wp2
        go_quiet ((go_at_call 11;exact Calls.quiet_of (HC.out _)))
        go_wp2
        go_ret
        exact ⟨bq (ao (fun e=>HQ.out (by rw [e]))).symm,hq.drewN _⟩
    · go_wp2
      go_ret
      exact ⟨bq (aA (sC HX.out HY.out (fun j hj=>HE.out j (by omega)))).symm,hq⟩
 · go_enter Try.func43,Try.ntmps43
   go_wp2
   go_ret
   exact ⟨bq (ao (fun e=>hnm (by rw [← HX.out,← HY.out,e]))).symm,0,rfl⟩
theorem tX {a b : Ar} (h1 : a.own = b.own) (h2 : a.nxt = b.nxt) : a = b:=by cases a;cases b;simp_all
theorem tY {a b : Pa} (h1 : a.ar = b.ar) (h2 : a.prio = b.prio) : a = b:=by cases a;cases b;simp_all
set_option maxHeartbeats 1000000 in
theorem j8 (v u : Value) (a b : Ar) (w : World) (hA : IsA w v a) (hB : IsA w u b) :
  Calls Try.prog 26 #[v,u] w (Bb w (tf (a = b))):=by
 obtain ⟨_,_,rfl,⟨s1,n1,c1,rfl,h1⟩,⟨s2,n2,c2,rfl,h2⟩⟩:=hA
 obtain ⟨_,_,rfl,⟨s3,n3,c3,rfl,h3⟩,⟨s4,n4,c4,rfl,h4⟩⟩:=hB
 by_cases ho : a.own = b.own
 · have k1 : tf (a.own = b.own) = true:=aA ho
   have HO:=Lib.hid ho
   clear ho
   by_cases hn : a.nxt = b.nxt
   · have k2 : tf (a.nxt = b.nxt) = true:=aA hn
     have HN:=Lib.hid hn
     clear hn
     go_enter Try.func26,Try.ntmps26
     go_wp2_with (first
      | (go_at_call 11; refine (dn _ _ _ _ _ _ _ _ _ ((h1.alloc _).alloc _) ((h3.alloc _).alloc _)).mono ?_; rw [k1]; rintro e w2 ⟨rfl, m2, rfl⟩)
      | (go_at_call 43; refine (iN _ _ _ _ _ _ _ _ _ ((h2.below (by repeat' (first | (with_reducible exact Below.refl _ _) | (with_reducible assumption) | (with_reducible apply aB) | (with_reducible apply Below.alloc) | (with_reducible apply Below.drew) | (with_reducible apply ap) | (with_reducible refine Below.trans ?_ (Below.mono (by assumption) ?_)) | omega | (simp only [World.size_alloc, World.size_setCell, World.size_drew]; omega))))) ((h4.below (by repeat' (first | (with_reducible exact Below.refl _ _) | (with_reducible assumption) | (with_reducible apply aB) | (with_reducible apply Below.alloc) | (with_reducible apply Below.drew) | (with_reducible apply ap) | (with_reducible refine Below.trans ?_ (Below.mono (by assumption) ?_)) | omega | (simp only [World.size_alloc, World.size_setCell, World.size_drew]; omega)))))).mono ?_; rw [k2]; rintro e w2 ⟨rfl, m2, rfl⟩))
     go_ret
     exact ⟨bq (aA (tX HO.out HN.out)).symm,(by repeat' (first|(with_reducible exact Below.refl _ _)|(with_reducible assumption)|(with_reducible apply aB)|(with_reducible apply Below.alloc)|(with_reducible apply Below.drew)|(with_reducible apply ap)|(with_reducible refine Below.trans ?_ (Below.mono (by assumption) ?_))|omega|(simp only [World.size_alloc,World.size_setCell,World.size_drew];omega)))⟩
   · have k2 : tf (a.nxt = b.nxt) = false:=ao hn
     have HN:=Lib.hid hn
     clear hn
     go_enter Try.func26,Try.ntmps26
     go_wp2_with (first
      | (go_at_call 11; refine (dn _ _ _ _ _ _ _ _ _ ((h1.alloc _).alloc _) ((h3.alloc _).alloc _)).mono ?_; rw [k1]; rintro e w2 ⟨rfl, m2, rfl⟩)
      | (go_at_call 43; refine (iN _ _ _ _ _ _ _ _ _ ((h2.below (by repeat' (first | (with_reducible exact Below.refl _ _) | (with_reducible assumption) | (with_reducible apply aB) | (with_reducible apply Below.alloc) | (with_reducible apply Below.drew) | (with_reducible apply ap) | (with_reducible refine Below.trans ?_ (Below.mono (by assumption) ?_)) | omega | (simp only [World.size_alloc, World.size_setCell, World.size_drew]; omega))))) ((h4.below (by repeat' (first | (with_reducible exact Below.refl _ _) | (with_reducible assumption) | (with_reducible apply aB) | (with_reducible apply Below.alloc) | (with_reducible apply Below.drew) | (with_reducible apply ap) | (with_reducible refine Below.trans ?_ (Below.mono (by assumption) ?_)) | omega | (simp only [World.size_alloc, World.size_setCell, World.size_drew]; omega)))))).mono ?_; rw [k2]; rintro e w2 ⟨rfl, m2, rfl⟩))
     go_ret
     exact ⟨bq (ao (fun e=>HN.out (by rw [e]))).symm,(by repeat' (first|(with_reducible exact Below.refl _ _)|(with_reducible assumption)|(with_reducible apply aB)|(with_reducible apply Below.alloc)|(with_reducible apply Below.drew)|(with_reducible apply ap)|(with_reducible refine Below.trans ?_ (Below.mono (by assumption) ?_))|omega|(simp only [World.size_alloc,World.size_setCell,World.size_drew];omega)))⟩
 · have k1 : tf (a.own = b.own) = false:=ao ho
   have HO:=Lib.hid ho
   clear ho
   go_enter Try.func26,Try.ntmps26
   go_wp2_with (first
    | (go_at_call 11; refine (dn _ _ _ _ _ _ _ _ _ ((h1.alloc _).alloc _) ((h3.alloc _).alloc _)).mono ?_; rw [k1]; rintro e w2 ⟨rfl, m2, rfl⟩)
    | (go_at_call 43; refine (iN _ _ _ _ _ _ _ _ _ ((h2.below (by repeat' (first | (with_reducible exact Below.refl _ _) | (with_reducible assumption) | (with_reducible apply aB) | (with_reducible apply Below.alloc) | (with_reducible apply Below.drew) | (with_reducible apply ap) | (with_reducible refine Below.trans ?_ (Below.mono (by assumption) ?_)) | omega | (simp only [World.size_alloc, World.size_setCell, World.size_drew]; omega))))) ((h4.below (by repeat' (first | (with_reducible exact Below.refl _ _) | (with_reducible assumption) | (with_reducible apply aB) | (with_reducible apply Below.alloc) | (with_reducible apply Below.drew) | (with_reducible apply ap) | (with_reducible refine Below.trans ?_ (Below.mono (by assumption) ?_)) | omega | (simp only [World.size_alloc, World.size_setCell, World.size_drew]; omega)))))).mono ?_; rw [k2]; rintro e w2 ⟨rfl, m2, rfl⟩))
   go_ret
   exact ⟨bq (ao (fun e=>HO.out (by rw [e]))).symm,(by repeat' (first|(with_reducible exact Below.refl _ _)|(with_reducible assumption)|(with_reducible apply aB)|(with_reducible apply Below.alloc)|(with_reducible apply Below.drew)|(with_reducible apply ap)|(with_reducible refine Below.trans ?_ (Below.mono (by assumption) ?_))|omega|(simp only [World.size_alloc,World.size_setCell,World.size_drew];omega)))⟩
set_option maxHeartbeats 1000000 in
theorem rg (v u : Value) (a b : Pa) (w : World) (hA : IsP w v a) (hB : IsP w u b) :
  Calls Try.prog 10 #[v,u] w (Bb w (tf (a = b))):=by
 obtain ⟨_,_,_,rfl,⟨s1,n1,c1,rfl,h1⟩,⟨s2,n2,c2,rfl,h2⟩,⟨s5,n5,c5,rfl,h5⟩⟩:=hA
 obtain ⟨_,_,_,rfl,⟨s3,n3,c3,rfl,h3⟩,⟨s4,n4,c4,rfl,h4⟩,⟨s6,n6,c6,rfl,h6⟩⟩:=hB
 have hX : IsA w (.agg #[.slice s1 n1 c1,.slice s2 n2 c2]) a.ar:=⟨_,_,rfl,h1.is,h2.is⟩
 have hY : IsA w (.agg #[.slice s3 n3 c3,.slice s4 n4 c4]) b.ar:=⟨_,_,rfl,h3.is,h4.is⟩
 by_cases ho : a.ar = b.ar
 · have k1 : tf (a.ar = b.ar) = true:=aA ho
   have HO:=Lib.hid ho
   clear ho
   by_cases hn : a.prio = b.prio
   · have k2 : tf (a.prio = b.prio) = true:=aA hn
     have HN:=Lib.hid hn
     clear hn
     go_enter Try.func10,Try.ntmps10
     go_wp2_with (first
      | (go_at_call 26; refine (j8 _ _ _ _ _ (hX.below (by repeat' (first | (with_reducible exact Below.refl _ _) | (with_reducible assumption) | (with_reducible apply aB) | (with_reducible apply Below.alloc) | (with_reducible apply Below.drew) | (with_reducible apply ap) | (with_reducible refine Below.trans ?_ (Below.mono (by assumption) ?_)) | omega | (simp only [World.size_alloc, World.size_setCell, World.size_drew]; omega)))) (hY.below (by repeat' (first | (with_reducible exact Below.refl _ _) | (with_reducible assumption) | (with_reducible apply aB) | (with_reducible apply Below.alloc) | (with_reducible apply Below.drew) | (with_reducible apply ap) | (with_reducible refine Below.trans ?_ (Below.mono (by assumption) ?_)) | omega | (simp only [World.size_alloc, World.size_setCell, World.size_drew]; omega))))).mono ?_; rw [k1]; rintro e w2 ⟨rfl, hb2⟩; have hcf := di hb2; obtain ⟨hcell2, hfr2⟩ := hcf)
      | (go_at_call 11; refine (dn _ _ _ _ _ _ _ _ _ ((h5.below (by repeat' (first | (with_reducible exact Below.refl _ _) | (with_reducible assumption) | (with_reducible apply aB) | (with_reducible apply Below.alloc) | (with_reducible apply Below.drew) | (with_reducible apply ap) | (with_reducible refine Below.trans ?_ (Below.mono (by assumption) ?_)) | omega | (simp only [World.size_alloc, World.size_setCell, World.size_drew]; omega))))) ((h6.below (by repeat' (first | (with_reducible exact Below.refl _ _) | (with_reducible assumption) | (with_reducible apply aB) | (with_reducible apply Below.alloc) | (with_reducible apply Below.drew) | (with_reducible apply ap) | (with_reducible refine Below.trans ?_ (Below.mono (by assumption) ?_)) | omega | (simp only [World.size_alloc, World.size_setCell, World.size_drew]; omega)))))).mono ?_; rw [k2]; rintro e w3 ⟨rfl, m3, rfl⟩))
     go_ret
     exact ⟨bq (aA (tY HO.out HN.out)).symm,(by repeat' (first|(with_reducible exact Below.refl _ _)|(with_reducible assumption)|(with_reducible apply aB)|(with_reducible apply Below.alloc)|(with_reducible apply Below.drew)|(with_reducible apply ap)|(with_reducible refine Below.trans ?_ (Below.mono (by assumption) ?_))|omega|(simp only [World.size_alloc,World.size_setCell,World.size_drew];omega)))⟩
   · have k2 : tf (a.prio = b.prio) = false:=ao hn
     have HN:=Lib.hid hn
     clear hn
     go_enter Try.func10,Try.ntmps10
     go_wp2_with (first
      | (go_at_call 26; refine (j8 _ _ _ _ _ (hX.below (by repeat' (first | (with_reducible exact Below.refl _ _) | (with_reducible assumption) | (with_reducible apply aB) | (with_reducible apply Below.alloc) | (with_reducible apply Below.drew) | (with_reducible apply ap) | (with_reducible refine Below.trans ?_ (Below.mono (by assumption) ?_)) | omega | (simp only [World.size_alloc, World.size_setCell, World.size_drew]; omega)))) (hY.below (by repeat' (first | (with_reducible exact Below.refl _ _) | (with_reducible assumption) | (with_reducible apply aB) | (with_reducible apply Below.alloc) | (with_reducible apply Below.drew) | (with_reducible apply ap) | (with_reducible refine Below.trans ?_ (Below.mono (by assumption) ?_)) | omega | (simp only [World.size_alloc, World.size_setCell, World.size_drew]; omega))))).mono ?_; rw [k1]; rintro e w2 ⟨rfl, hb2⟩; have hcf := di hb2; obtain ⟨hcell2, hfr2⟩ := hcf)
      | (go_at_call 11; refine (dn _ _ _ _ _ _ _ _ _ ((h5.below (by repeat' (first | (with_reducible exact Below.refl _ _) | (with_reducible assumption) | (with_reducible apply aB) | (with_reducible apply Below.alloc) | (with_reducible apply Below.drew) | (with_reducible apply ap) | (with_reducible refine Below.trans ?_ (Below.mono (by assumption) ?_)) | omega | (simp only [World.size_alloc, World.size_setCell, World.size_drew]; omega))))) ((h6.below (by repeat' (first | (with_reducible exact Below.refl _ _) | (with_reducible assumption) | (with_reducible apply aB) | (with_reducible apply Below.alloc) | (with_reducible apply Below.drew) | (with_reducible apply ap) | (with_reducible refine Below.trans ?_ (Below.mono (by assumption) ?_)) | omega | (simp only [World.size_alloc, World.size_setCell, World.size_drew]; omega)))))).mono ?_; rw [k2]; rintro e w3 ⟨rfl, m3, rfl⟩))
     go_ret
     exact ⟨bq (ao (fun e=>HN.out (by rw [e]))).symm,(by repeat' (first|(with_reducible exact Below.refl _ _)|(with_reducible assumption)|(with_reducible apply aB)|(with_reducible apply Below.alloc)|(with_reducible apply Below.drew)|(with_reducible apply ap)|(with_reducible refine Below.trans ?_ (Below.mono (by assumption) ?_))|omega|(simp only [World.size_alloc,World.size_setCell,World.size_drew];omega)))⟩
 · have k1 : tf (a.ar = b.ar) = false:=ao ho
   have HO:=Lib.hid ho
   clear ho
   go_enter Try.func10,Try.ntmps10
   go_wp2_with (first
    | (go_at_call 26; refine (j8 _ _ _ _ _ (hX.below (by repeat' (first | (with_reducible exact Below.refl _ _) | (with_reducible assumption) | (with_reducible apply aB) | (with_reducible apply Below.alloc) | (with_reducible apply Below.drew) | (with_reducible apply ap) | (with_reducible refine Below.trans ?_ (Below.mono (by assumption) ?_)) | omega | (simp only [World.size_alloc, World.size_setCell, World.size_drew]; omega)))) (hY.below (by repeat' (first | (with_reducible exact Below.refl _ _) | (with_reducible assumption) | (with_reducible apply aB) | (with_reducible apply Below.alloc) | (with_reducible apply Below.drew) | (with_reducible apply ap) | (with_reducible refine Below.trans ?_ (Below.mono (by assumption) ?_)) | omega | (simp only [World.size_alloc, World.size_setCell, World.size_drew]; omega))))).mono ?_; rw [k1]; rintro e w2 ⟨rfl, hb2⟩; have hcf := di hb2; obtain ⟨hcell2, hfr2⟩ := hcf)
    | (go_at_call 11; refine (dn _ _ _ _ _ _ _ _ _ ((h5.below (by repeat' (first | (with_reducible exact Below.refl _ _) | (with_reducible assumption) | (with_reducible apply aB) | (with_reducible apply Below.alloc) | (with_reducible apply Below.drew) | (with_reducible apply ap) | (with_reducible refine Below.trans ?_ (Below.mono (by assumption) ?_)) | omega | (simp only [World.size_alloc, World.size_setCell, World.size_drew]; omega))))) ((h6.below (by repeat' (first | (with_reducible exact Below.refl _ _) | (with_reducible assumption) | (with_reducible apply aB) | (with_reducible apply Below.alloc) | (with_reducible apply Below.drew) | (with_reducible apply ap) | (with_reducible refine Below.trans ?_ (Below.mono (by assumption) ?_)) | omega | (simp only [World.size_alloc, World.size_setCell, World.size_drew]; omega)))))).mono ?_; rw [k2]; rintro e w3 ⟨rfl, m3, rfl⟩))
   go_ret
   exact ⟨bq (ao (fun e=>HO.out (by rw [e]))).symm,(by repeat' (first|(with_reducible exact Below.refl _ _)|(with_reducible assumption)|(with_reducible apply aB)|(with_reducible apply Below.alloc)|(with_reducible apply Below.drew)|(with_reducible apply ap)|(with_reducible refine Below.trans ?_ (Below.mono (by assumption) ?_))|omega|(simp only [World.size_alloc,World.size_setCell,World.size_drew];omega)))⟩
end Go.Proofs.Ytlodllmpndflcaa
