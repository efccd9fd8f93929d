/-
  Words on memory: when a slice value reads as a list of numbers, as a list of lists; what a call owns; how these facts are kept.
-/
import Derived.Test.YtdkkhhfhdijfmaaRows
import Derived.WalkKit
import Derived.ProofKit
import Derived.OpenShut
import Derived.Deep.QuietTactic
import Derived.BigQuiet
import Derived.Lib.Hide
import Derived.StillTailTactics
import Derived.Deep.RegionHeld3
import Derived.Deep.DrawnRows
namespace Go.Proofs.Ytdkkhhfhdijfmaa
set_option linter.unusedVariables false
set_option linter.unusedSimpArgs false
open Go.RowKit
noncomputable def tf (p : Prop) : Bool:=@decide p (Classical.propDecidable p)
theorem bg {p : Prop} (h : p) : tf p = true:=by unfold tf;simp [h]
theorem aB {p : Prop} (h : ¬ p) : tf p = false:=by unfold tf;simp [h]
theorem fu {p : Prop} : tf p = true ↔ p:=by unfold tf;simp
theorem ur {p : Prop} : tf p = false ↔ ¬ p:=by unfold tf;simp
theorem dp {p q : Prop} (h : p ↔ q) : tf p = tf q:=by rw [propext h]
def gi (xs : List Int) (k : Nat) : Int:=xs.getD k 0
def gr (xss : List (List Int)) (k : Nat) : List Int:=xss.getD k []
def gb (bs : List Bool) (k : Nat) : Bool:=bs.getD k false
theorem dq {xs : List Int} {k : Nat} (h : k < xs.length) : gi xs k = xs[k]:=by simp [gi,List.getD,h]
theorem kE {xs : List (List Int)} {k : Nat} (h : k < xs.length) : gr xs k = xs[k]:=by simp [gr,List.getD,h]
theorem pF {xs : List Bool} {k : Nat} (h : k < xs.length) : gb xs k = xs[k]:=by simp [gb,List.getD,h]
theorem pG {xs : List Int} {k : Nat} (h : xs.length ≤ k) : gi xs k = 0:=by simp [gi,List.getD,h]
theorem db {xs : List Int} {k : Nat} (h : k < xs.length) : gi xs k ∈ xs:=by rw [dq h];exact List.getElem_mem h
theorem d4 {xs : List Int} {x : Int} (h : x ∈ xs) : ∃ k,k < xs.length ∧ gi xs k = x:=by
 obtain ⟨k,hk,e⟩:=List.getElem_of_mem h
 exact ⟨k,hk,by rw [dq hk,e]⟩
theorem pH {xs ys : List Int} (hl : xs.length = ys.length) (h : ∀ k,k < xs.length → gi xs k = gi ys k) : xs = ys :=
 List.ext_getElem hl fun k h1 h2=>by have:=h k h1;rwa [dq h1,dq h2] at this
theorem pI {xs ys : List (List Int)} (hl : xs.length = ys.length) (h : ∀ k,k < xs.length → gr xs k = gr ys k) : xs = ys :=
 List.ext_getElem hl fun k h1 h2=>by have:=h k h1;rwa [kE h1,kE h2] at this
theorem s8 {xs ys : List Bool} (hl : xs.length = ys.length) (h : ∀ k,k < xs.length → gb xs k = gb ys k) : xs = ys :=
 List.ext_getElem hl fun k h1 h2=>by have:=h k h1;rwa [pF h1,pF h2] at this
theorem bu {a b : Bool} (h : a = b) : Ending.returned (.bool a) = .returned (.bool b):=by rw [h]
theorem da {k : IntKind} {a b : Int} (h : a = b) : Ending.returned (.int k a) = .returned (.int k b):=by rw [h]
structure Cells (w : World) (sa : Option Addr) (n c : Nat) (vs : Nat → Value) : Prop where
 cap : n ≤ c
 max : c ≤ 9223372036854775807
 nil : sa = none → n = 0 ∧ c = 0
 spot : ∀ ad,sa = some ad → 0 < n → ad.spot = none
 cell : ∀ ad,sa = some ad → ∀ k,k < n → w.cell? ⟨ad.block,ad.off + k,none⟩ = some (vs k)
theorem Cells.get {w : World} {sa : Option Addr} {n c : Nat} {vs : Nat → Value} (h : Cells w sa n c vs) {k : Nat} (hk : k < n) :
  ∃ b o,sa = some ⟨b,o,none⟩ ∧ b < w.heap.size ∧ ∀ k,k < n → w.cell? ⟨b,o + k,none⟩ = some (vs k):=by
 cases sa with
 | none => have := (h.nil rfl).1; omega
 | some ad =>
   have h1:=h.spot ad rfl (by omega)
   have h3:=h.cell ad rfl
   obtain ⟨b,o,s⟩:=ad
   simp only at h1 h3
   subst h1
   exact ⟨b,o,rfl,World.block_lt_of_cell? w _ (h3 k hk),h3⟩
theorem Cells.below {w w' : World} {sa : Option Addr} {n c : Nat} {vs : Nat → Value} (h : Cells w sa n c vs) (hb : Below w.heap.size w w') : Cells w' sa n c vs :=
 ⟨h.cap,h.max,h.nil,h.spot,fun ad e k hk=>by
  have hc:=h.cell ad e k hk
  rw [hb.cell (World.block_lt_of_cell? w _ hc)];exact hc⟩
def cS (w : World) (sa : Option Addr) (n c : Nat) (xs : List Int) : Prop:=xs.length = n ∧ Cells w sa n c fun k=>.int .i64 (gi xs k)
def dS (w : World) (sa : Option Addr) (n c : Nat) (xs : List Bool) : Prop:=xs.length = n ∧ Cells w sa n c fun k=>.bool (gb xs k)
structure Rws (w : World) (sa : Option Addr) (n c : Nat) (xss : List (List Int)) : Prop where
 len : xss.length = n
 cells : ∃ (A : Nat → Option Addr) (L C : Nat → Nat),Cells w sa n c (fun k=>.slice (A k) (L k) (C k)) ∧ ∀ k,k < n → cS w (A k) (L k) (C k) (gr xss k)
theorem cS.below {w w' : World} {sa : Option Addr} {n c : Nat} {xs : List Int} (h : cS w sa n c xs) (hb : Below w.heap.size w w') : cS w' sa n c xs:=⟨h.1,h.2.below hb⟩
theorem dS.below {w w' : World} {sa : Option Addr} {n c : Nat} {xs : List Bool} (h : dS w sa n c xs) (hb : Below w.heap.size w w') : dS w' sa n c xs:=⟨h.1,h.2.below hb⟩
theorem Rws.below {w w' : World} {sa : Option Addr} {n c : Nat} {xss : List (List Int)} (h : Rws w sa n c xss) (hb : Below w.heap.size w w') : Rws w' sa n c xss :=
 ⟨h.len,let ⟨A,L,C,h1,h2⟩:=h.cells;⟨A,L,C,h1.below hb,fun k hk=>(h2 k hk).below hb⟩⟩
theorem aP (w : World) (o : Obj) : Below w.heap.size w (w.alloc o):=(Below.refl _ _).alloc (Nat.le_refl _) o
theorem dl (w : World) (m : Nat) : Below w.heap.size w (w.drewN m):=⟨rfl,rfl,rfl,Nat.le_refl _,fun _ _=>rfl⟩
theorem ak {B : Nat} {a w : World} (h : Below B a w) (m : Nat) : Below B a (w.drewN m):=⟨h.os,h.tape,h.output,h.size,h.block⟩
theorem bU (w : World) : Below w.heap.size w w.drew:=(Below.refl _ _).drew
theorem cS.alloc {w : World} {sa : Option Addr} {n c : Nat} {xs : List Int} (h : cS w sa n c xs) (o : Obj) : cS (w.alloc o) sa n c xs:=h.below (aP w o)
theorem cS.drew {w : World} {sa : Option Addr} {n c : Nat} {xs : List Int} (h : cS w sa n c xs) : cS w.drew sa n c xs:=h.below (bU w)
theorem dS.alloc {w : World} {sa : Option Addr} {n c : Nat} {xs : List Bool} (h : dS w sa n c xs) (o : Obj) : dS (w.alloc o) sa n c xs:=h.below (aP w o)
theorem dS.drew {w : World} {sa : Option Addr} {n c : Nat} {xs : List Bool} (h : dS w sa n c xs) : dS w.drew sa n c xs:=h.below (bU w)
theorem Rws.alloc {w : World} {sa : Option Addr} {n c : Nat} {xs : List (List Int)} (h : Rws w sa n c xs) (o : Obj) : Rws (w.alloc o) sa n c xs:=h.below (aP w o)
theorem Rws.drew {w : World} {sa : Option Addr} {n c : Nat} {xs : List (List Int)} (h : Rws w sa n c xs) : Rws w.drew sa n c xs:=h.below (bU w)
theorem cS.max {w : World} {sa : Option Addr} {n c : Nat} {xs : List Int} (h : cS w sa n c xs) : n ≤ 9223372036854775807:=Nat.le_trans h.2.cap h.2.max
theorem dS.max {w : World} {sa : Option Addr} {n c : Nat} {xs : List Bool} (h : dS w sa n c xs) : n ≤ 9223372036854775807:=Nat.le_trans h.2.cap h.2.max
theorem Rws.max {w : World} {sa : Option Addr} {n c : Nat} {xs : List (List Int)} (h : Rws w sa n c xs) : n ≤ 9223372036854775807:=by
 obtain ⟨A,L,C,h1,_⟩:=h.cells
 exact Nat.le_trans h1.cap h1.max
theorem cS.get {w : World} {sa : Option Addr} {n c : Nat} {xs : List Int} (h : cS w sa n c xs) {k : Nat} (hk : k < n) :
  ∃ b o,sa = some ⟨b,o,none⟩ ∧ b < w.heap.size ∧ ∀ k,k < n → w.cell? ⟨b,o + k,none⟩ = some (.int .i64 (gi xs k)):=h.2.get hk
theorem dS.get {w : World} {sa : Option Addr} {n c : Nat} {xs : List Bool} (h : dS w sa n c xs) {k : Nat} (hk : k < n) :
  ∃ b o,sa = some ⟨b,o,none⟩ ∧ b < w.heap.size ∧ ∀ k,k < n → w.cell? ⟨b,o + k,none⟩ = some (.bool (gb xs k)):=h.2.get hk
theorem Rws.get {w : World} {sa : Option Addr} {n c : Nat} {xss : List (List Int)} (h : Rws w sa n c xss) {k : Nat} (hk : k < n) :
  ∃ b o,sa = some ⟨b,o,none⟩ ∧ b < w.heap.size ∧ ∃ (A : Nat → Option Addr) (L C : Nat → Nat),∀ k,k < n → w.cell? ⟨b,o + k,none⟩ = some (.slice (A k) (L k) (C k)) ∧ cS w (A k) (L k) (C k) (gr xss k):=by
 obtain ⟨A,L,C,h1,h2⟩:=h.cells
 obtain ⟨b,o,e,hb,hc⟩:=h1.get hk
 exact ⟨b,o,e,hb,A,L,C,fun k hk=>⟨hc k hk,h2 k hk⟩⟩
theorem iu (w : World) (vs : Nat → Value) : Cells w none 0 0 vs:=⟨Nat.le_refl _,by omega,fun _=>⟨rfl,rfl⟩,fun _ h _=>(by cases h),fun _ h=>(by cases h)⟩
theorem pJ (w : World) : cS w none 0 0 []:=⟨rfl,iu w _⟩
theorem pK (w : World) : Rws w none 0 0 []:=⟨rfl,fun _=>none,fun _=>0,fun _=>0,iu w _,fun k hk=>by omega⟩
def IsI (w : World) (v : Value) (xs : List Int) : Prop:=∃ sa n c,v = .slice sa n c ∧ cS w sa n c xs
def IsB (w : World) (v : Value) (xs : List Bool) : Prop:=∃ sa n c,v = .slice sa n c ∧ dS w sa n c xs
def d5 (w : World) (v : Value) (xss : List (List Int)) : Prop:=∃ sa n c,v = .slice sa n c ∧ Rws w sa n c xss
theorem IsI.below {w w' : World} {v : Value} {xs : List Int} (h : IsI w v xs) (hb : Below w.heap.size w w') : IsI w' v xs:=let ⟨sa,n,c,e,h⟩:=h;⟨sa,n,c,e,h.below hb⟩
theorem IsB.below {w w' : World} {v : Value} {xs : List Bool} (h : IsB w v xs) (hb : Below w.heap.size w w') : IsB w' v xs:=let ⟨sa,n,c,e,h⟩:=h;⟨sa,n,c,e,h.below hb⟩
theorem d5.below {w w' : World} {v : Value} {xs : List (List Int)} (h : d5 w v xs) (hb : Below w.heap.size w w') : d5 w' v xs:=let ⟨sa,n,c,e,h⟩:=h;⟨sa,n,c,e,h.below hb⟩
theorem cS.is {w : World} {sa : Option Addr} {n c : Nat} {xs : List Int} (h : cS w sa n c xs) : IsI w (.slice sa n c) xs:=⟨sa,n,c,rfl,h⟩
theorem dS.is {w : World} {sa : Option Addr} {n c : Nat} {xs : List Bool} (h : dS w sa n c xs) : IsB w (.slice sa n c) xs:=⟨sa,n,c,rfl,h⟩
theorem Rws.is {w : World} {sa : Option Addr} {n c : Nat} {xs : List (List Int)} (h : Rws w sa n c xs) : d5 w (.slice sa n c) xs:=⟨sa,n,c,rfl,h⟩
theorem IsI.alloc {w : World} {v : Value} {xs : List Int} (h : IsI w v xs) (o : Obj) : IsI (w.alloc o) v xs:=h.below (aP w o)
theorem IsI.drew {w : World} {v : Value} {xs : List Int} (h : IsI w v xs) : IsI w.drew v xs:=h.below (bU w)
theorem IsB.alloc {w : World} {v : Value} {xs : List Bool} (h : IsB w v xs) (o : Obj) : IsB (w.alloc o) v xs:=h.below (aP w o)
theorem IsB.drew {w : World} {v : Value} {xs : List Bool} (h : IsB w v xs) : IsB w.drew v xs:=h.below (bU w)
theorem d5.alloc {w : World} {v : Value} {xs : List (List Int)} (h : d5 w v xs) (o : Obj) : d5 (w.alloc o) v xs:=h.below (aP w o)
theorem d5.drew {w : World} {v : Value} {xs : List (List Int)} (h : d5 w v xs) : d5 w.drew v xs:=h.below (bU w)
structure Ar where
 own : List Int
 nxt : List (List Int)
structure Pa where
 ar : Ar
 prio : List Int
def IsA (w : World) (v : Value) (a : Ar) : Prop:=∃ vo vn,v = .agg #[vo,vn] ∧ IsI w vo a.own ∧ d5 w vn a.nxt
def IsP (w : World) (v : Value) (g : Pa) : Prop:=∃ vo vn vp,v = .agg #[vo,vn,vp] ∧ IsI w vo g.ar.own ∧ d5 w vn g.ar.nxt ∧ IsI w vp g.prio
theorem IsA.below {w w' : World} {v : Value} {a : Ar} (h : IsA w v a) (hb : Below w.heap.size w w') : IsA w' v a:=let ⟨x,y,e,h1,h2⟩:=h;⟨x,y,e,h1.below hb,h2.below hb⟩
theorem IsP.below {w w' : World} {v : Value} {a : Pa} (h : IsP w v a) (hb : Below w.heap.size w w') : IsP w' v a:=let ⟨x,y,z,e,h1,h2,h3⟩:=h;⟨x,y,z,e,h1.below hb,h2.below hb,h3.below hb⟩
theorem IsA.alloc {w : World} {v : Value} {a : Ar} (h : IsA w v a) (o : Obj) : IsA (w.alloc o) v a:=h.below (aP w o)
theorem IsA.drew {w : World} {v : Value} {a : Ar} (h : IsA w v a) : IsA w.drew v a:=h.below (bU w)
theorem IsP.alloc {w : World} {v : Value} {a : Pa} (h : IsP w v a) (o : Obj) : IsP (w.alloc o) v a:=h.below (aP w o)
theorem IsP.drew {w : World} {v : Value} {a : Pa} (h : IsP w v a) : IsP w.drew v a:=h.below (bU w)
theorem dA {W w1 : World} (hb : Below W.heap.size W w1) : (∀ b o,b < W.heap.size → w1.cell? ⟨b,o,none⟩ = W.cell? ⟨b,o,none⟩) ∧ (∀ b o,b < W.heap.size → w1.frozen? ⟨b,o,none⟩ = W.frozen? ⟨b,o,none⟩) :=
 ⟨fun b o h=>hb.cell (p:=⟨b,o,none⟩) h,fun b o h=>hb.frozen (p:=⟨b,o,none⟩) h⟩
end Go.Proofs.Ytdkkhhfhdijfmaa
namespace Go.Proofs.Ytdkkhhfhdijfmaa
set_option linter.unusedVariables false
set_option linter.unusedSimpArgs false
open Go.RowKit
theorem Try.infoI : (Try.prog.info? 2).map (fun i=>(i.zero,i.size,i.bytes)) = some (some (.int .i64 0),1,8):=by kernel_rfl
theorem Try.infoS : (Try.prog.info? 22).map (fun i=>(i.zero,i.size,i.bytes)) = some (some (.slice none 0 0),1,24):=by kernel_rfl
abbrev blk (v : Value) : Option Nat:=v.ownBlock
def aY (e : TypeId) (lo hi : Nat) (w : World) (v : Value) (vs : List Value) : Prop :=
 (v = .slice none 0 0 ∧ vs = []) ∨
 ∃ g cap cur,v = .slice (some ⟨g,0,none⟩) vs.length cap ∧ lo ≤ g ∧ g < hi ∧ w.heap[g]? = some (.cells cur e (0,0)) ∧ vs.length ≤ cap ∧ cap ≤ maxLen ∧ cur.size = cap ∧ cur.toList.take vs.length = vs
theorem aY.row {e : TypeId} {lo hi : Nat} {w : World} {v : Value} {vs : List Value} (h : aY e lo hi w v vs) : w.ownsRow lo e 1 v vs.length vs:=by
 refine ⟨by omega,?_⟩
 rcases h with ⟨rfl,rfl⟩|⟨g,cap,cur,rfl,h1,_,h2,h3,h4,h5,h6⟩
 · exact .inl ⟨rfl,rfl⟩
 · exact .inr ⟨g,cap,cur,rfl,h1,h2,h3,h4,by omega,by rw [Nat.mul_one];exact h6⟩
theorem fv {e : TypeId} {lo n : Nat} {w : World} {v : Value} {vs : List Value} (h : w.ownsRow lo e 1 v n vs) : aY e lo w.heap.size w v vs:=by
 obtain ⟨hl,h⟩:=h
 have hl' : vs.length = n:=by omega
 subst hl'
 rcases h with ⟨rfl,h0⟩|⟨g,cap,cur,rfl,h1,h2,h3,h4,h5,h6⟩
 · exact .inl ⟨rfl,List.eq_nil_of_length_eq_zero h0⟩
 · exact .inr ⟨g,cap,cur,rfl,h1,(Array.getElem?_eq_some_iff.1 h2).1,h2,h3,h4,by omega,by rw [Nat.mul_one] at h6;exact h6⟩
theorem aY.keep {e : TypeId} {lo hi : Nat} {w w' : World} {v : Value} {vs : List Value} (h : aY e lo hi w v vs) (hk : ∀ g,blk v = some g → w'.heap[g]? = w.heap[g]?) : aY e lo hi w' v vs:=by
 rcases h with h|⟨g,cap,cur,rfl,h1,h1',h2,h3⟩
 · exact .inl h
 · exact .inr ⟨g,cap,cur,rfl,h1,h1',(hk g rfl).trans h2,h3⟩
theorem aY.lt {e : TypeId} {lo hi : Nat} {w : World} {v : Value} {vs : List Value} (h : aY e lo hi w v vs) : ∀ g,blk v = some g → lo ≤ g ∧ g < hi ∧ g < w.heap.size:=by
 intro g hg
 rcases h with ⟨rfl,_⟩|⟨g',cap,cur,rfl,h1,h1',h2,h3⟩
 · simp [blk,Value.ownBlock] at hg
 · simp [blk,Value.ownBlock] at hg
   subst hg
   exact ⟨h1,h1',(Array.getElem?_eq_some_iff.1 h2).1⟩
theorem aY.below {e : TypeId} {lo hi : Nat} {w w' : World} {v : Value} {vs : List Value} (h : aY e lo hi w v vs) (hb : Below w.heap.size w w') : aY e lo hi w' v vs :=
 h.keep fun g hg=>hb.block g (h.lt g hg).2.2
theorem aY.mono {e : TypeId} {lo hi lo' hi' : Nat} {w : World} {v : Value} {vs : List Value} (h : aY e lo hi w v vs) (hl : lo' ≤ lo) (hh : hi ≤ hi') : aY e lo' hi' w v vs:=by
 rcases h with h|⟨g,cap,cur,rfl,h1,h1',h2,h3⟩
 · exact .inl h
 · exact .inr ⟨g,cap,cur,rfl,by omega,by omega,h2,h3⟩
theorem aY.top {e : TypeId} {lo hi : Nat} {w : World} {v : Value} {vs : List Value} (h : aY e lo hi w v vs) : aY e lo w.heap.size w v vs:=by
 rcases h with h|⟨g,cap,cur,rfl,h1,h1',h2,h3⟩
 · exact .inl h
 · exact .inr ⟨g,cap,cur,rfl,h1,(Array.getElem?_eq_some_iff.1 h2).1,h2,h3⟩
theorem aY.alloc {e : TypeId} {lo hi : Nat} {w : World} {v : Value} {vs : List Value} (h : aY e lo hi w v vs) (o : Obj) : aY e lo hi (w.alloc o) v vs:=h.below (aP w o)
theorem aY.drew {e : TypeId} {lo hi : Nat} {w : World} {v : Value} {vs : List Value} (h : aY e lo hi w v vs) : aY e lo hi w.drew v vs:=h.below (bU w)
theorem pL (e : TypeId) (lo hi : Nat) (w : World) : aY e lo hi w (.slice none 0 0) []:=.inl ⟨rfl,rfl⟩
theorem aY.form {e : TypeId} {lo hi : Nat} {w : World} {v : Value} {vs : List Value} (h : aY e lo hi w v vs) (d : Value) : ∃ sa c,v = .slice sa vs.length c ∧ Cells w sa vs.length c fun k=>vs.getD k d:=by
 rcases h with ⟨rfl,rfl⟩|⟨g,cap,cur,rfl,h1,h1',h2,h3,h4,h5,h6⟩
 · exact ⟨none,0,rfl,iu w _⟩
 · unfold maxLen at h4
   refine ⟨some ⟨g,0,none⟩,cap,rfl,⟨h3,by omega,fun h=>(by cases h),fun ad h _=>(by cases h;rfl),fun ad h k hk=>?_⟩⟩
   cases h
   rw [cell_of_row w g _ cur e (0,0) h2]
   simp only [Nat.zero_add]
   have hk' : cur.toList[k]? = vs[k]?:=by
    have:=congrArg (·[k]?) h6
    simpa [List.getElem?_take,hk] using this
   rw [← Array.getElem?_toList,hk',List.getD_eq_getElem?_getD,List.getElem?_eq_getElem hk]
   rfl
theorem aY.at {e : TypeId} {lo hi : Nat} {w : World} {v : Value} {vs : List Value} (h : aY e lo hi w v vs) (d : Value) {k : Nat} (hk : k < vs.length) :
  ∃ g cap,v = .slice (some ⟨g,0,none⟩) vs.length cap ∧ lo ≤ g ∧ g < hi ∧ g < w.heap.size ∧ (∀ k,k < vs.length → w.cell? ⟨g,k,none⟩ = some (vs.getD k d)) ∧ ∀ k,w.frozen? ⟨g,k,none⟩ = false:=by
 obtain ⟨sa,c,hv,hc⟩:=h.form d
 rcases h with ⟨rfl,rfl⟩|⟨g,cap,cur,rfl,h1,h1',h2,h3,h4,h5,h6⟩
 · simp at hk
 · simp only [Value.slice.injEq,true_and] at hv
   obtain ⟨rfl,rfl⟩:=hv
   exact ⟨g,cap,rfl,h1,h1',(Array.getElem?_eq_some_iff.1 h2).1,fun k hk=>by have:=hc.cell _ rfl k hk;simpa using this,fun k=>by simp [World.frozen?,h2]⟩
theorem aY.set {e : TypeId} {lo hi : Nat} {w : World} {g n cap : Nat} {vs : List Value} (h : aY e lo hi w (.slice (some ⟨g,0,none⟩) n cap) vs) (k : Nat) (u : Value) :
  aY e lo hi (w.setCell ⟨g,k,none⟩ u) (.slice (some ⟨g,0,none⟩) n cap) (vs.set k u):=by
 rcases h with ⟨h,_⟩|⟨g',cap',cur,h0,h1,h1',h2,h3,h4,h5,h6⟩
 · cases h
 · simp only [Value.slice.injEq,Option.some.injEq,Addr.mk.injEq,and_true] at h0
   obtain ⟨rfl,rfl,rfl⟩:=h0
   refine .inr ⟨g,cap,cur.setIfInBounds k u,by rw [List.length_set],h1,h1',?_,by rw [List.length_set];exact h3,h4,by rw [Array.size_setIfInBounds];exact h5,?_⟩
   · simp [World.setCell,Array.getElem?_modify,h2]
   · rw [List.length_set,Array.toList_setIfInBounds,List.take_set,h6]
theorem an {B : Nat} {a w : World} (h : Below B a w) {g k : Nat} (hp : B ≤ g) (u : Value) : Below B a (w.setCell ⟨g,k,none⟩ u):=h.setCell (p:=⟨g,k,none⟩) hp u
theorem aY.other {e : TypeId} {lo hi : Nat} {w : World} {v : Value} {vs : List Value} (h : aY e lo hi w v vs) {g : Nat} (hne : blk v ≠ some g) (k : Nat) (u : Value) : aY e lo hi (w.setCell ⟨g,k,none⟩ u) v vs :=
 h.keep fun g' hg=>Below.heap_setCell _ _ _ _ (fun e=>hne (by rw [hg];exact congrArg some e))
def tab (n : Nat) (f : Nat → Int) : List Int:=(List.range n).map f
def dc (n : Nat) (f : Nat → Bool) : List Bool:=(List.range n).map f
@[simp] theorem bK (n : Nat) (f : Nat → Int) : (tab n f).length = n:=by simp [tab]
@[simp] theorem fw (n : Nat) (f : Nat → Bool) : (dc n f).length = n:=by simp [dc]
theorem cI {n k : Nat} (f : Nat → Int) (h : k < n) : gi (tab n f) k = f k:=by simp [gi,tab,List.getD,h]
theorem eV {n k : Nat} (f : Nat → Bool) (h : k < n) : gb (dc n f) k = f k:=by simp [gb,dc,List.getD,h]
theorem kF {xs : List Int} {n : Nat} {f : Nat → Int} (hl : xs.length = n) (h : ∀ k,k < n → gi xs k = f k) : xs = tab n f :=
 pH (by simp [hl]) fun k hk=>by rw [h k (by omega),cI f (by omega)]
theorem ja {xs : List Bool} {n : Nat} {f : Nat → Bool} (hl : xs.length = n) (h : ∀ k,k < n → gb xs k = f k) : xs = dc n f :=
 s8 (by simp [hl]) fun k hk=>by rw [h k (by omega),eV f (by omega)]
theorem eW {xs : List Int} {k j : Nat} {x : Int} (hk : k < xs.length) : gi (xs.set k x) j = if j = k then x else gi xs j:=by
 simp only [gi,List.getD_eq_getElem?_getD,List.getElem?_set]
 by_cases e : k = j
 · subst e;simp [hk]
 · rw [if_neg e,if_neg (fun h=>e h.symm)]
theorem pM {xs : List Bool} {k j : Nat} {x : Bool} (hk : k < xs.length) : gb (xs.set k x) j = if j = k then x else gb xs j:=by
 simp only [gb,List.getD_eq_getElem?_getD,List.getElem?_set]
 by_cases e : k = j
 · subst e;simp [hk]
 · rw [if_neg e,if_neg (fun h=>e h.symm)]
theorem pN {xs : List (List Int)} {k j : Nat} {x : List Int} (hk : k < xs.length) : gr (xs.set k x) j = if j = k then x else gr xs j:=by
 simp only [gr,List.getD_eq_getElem?_getD,List.getElem?_set]
 by_cases e : k = j
 · subst e;simp [hk]
 · rw [if_neg e,if_neg (fun h=>e h.symm)]
theorem gQ {n k : Nat} {f : Nat → Int} {x : Int} (hk : k < n) : (tab n f).set k x = tab n fun i=>if i = k then x else f i :=
 kF (by simp) fun j hj=>by rw [eW (by simpa using hk),cI f hj]
theorem lF {n k : Nat} {f : Nat → Bool} {x : Bool} (hk : k < n) : (dc n f).set k x = dc n fun i=>if i = k then x else f i :=
 ja (by simp) fun j hj=>by rw [pM (by simpa using hk),eV f hj]
def aO (lo hi : Nat) (w : World) (v : Value) (xs : List Int) : Prop:=aY 2 lo hi w v (xs.map (.int .i64))
def cP (lo hi : Nat) (w : World) (v : Value) (xs : List Bool) : Prop:=aY 4 lo hi w v (xs.map .bool)
theorem iv (xs : List Int) (k : Nat) : (xs.map (Value.int .i64)).getD k (.int .i64 0) = .int .i64 (gi xs k):=by
 simp only [gi,List.getD_eq_getElem?_getD,List.getElem?_map]
 cases xs[k]? <;> rfl
theorem jn (xs : List Bool) (k : Nat) : (xs.map Value.bool).getD k (.bool false) = .bool (gb xs k):=by
 simp only [gb,List.getD_eq_getElem?_getD,List.getElem?_map]
 cases xs[k]? <;> rfl
theorem aO.is {lo hi : Nat} {w : World} {v : Value} {xs : List Int} (h : aO lo hi w v xs) : IsI w v xs:=by
 obtain ⟨sa,c,hv,hc⟩:=h.form (.int .i64 0)
 rw [List.length_map] at hv hc
 exact ⟨sa,_,c,hv,rfl,by simpa only [iv] using hc⟩
theorem cP.is {lo hi : Nat} {w : World} {v : Value} {xs : List Bool} (h : cP lo hi w v xs) : IsB w v xs:=by
 obtain ⟨sa,c,hv,hc⟩:=h.form (.bool false)
 rw [List.length_map] at hv hc
 exact ⟨sa,_,c,hv,rfl,by simpa only [jn] using hc⟩
theorem aO.below {lo hi : Nat} {w w' : World} {v : Value} {xs : List Int} (h : aO lo hi w v xs) (hb : Below w.heap.size w w') : aO lo hi w' v xs:=aY.below h hb
theorem cP.below {lo hi : Nat} {w w' : World} {v : Value} {xs : List Bool} (h : cP lo hi w v xs) (hb : Below w.heap.size w w') : cP lo hi w' v xs:=aY.below h hb
theorem aO.alloc {lo hi : Nat} {w : World} {v : Value} {xs : List Int} (h : aO lo hi w v xs) (o : Obj) : aO lo hi (w.alloc o) v xs:=aY.alloc h o
theorem cP.alloc {lo hi : Nat} {w : World} {v : Value} {xs : List Bool} (h : cP lo hi w v xs) (o : Obj) : cP lo hi (w.alloc o) v xs:=aY.alloc h o
theorem aO.drew {lo hi : Nat} {w : World} {v : Value} {xs : List Int} (h : aO lo hi w v xs) : aO lo hi w.drew v xs:=aY.drew h
theorem cP.drew {lo hi : Nat} {w : World} {v : Value} {xs : List Bool} (h : cP lo hi w v xs) : cP lo hi w.drew v xs:=aY.drew h
theorem aO.mono {lo hi lo' hi' : Nat} {w : World} {v : Value} {xs : List Int} (h : aO lo hi w v xs) (hl : lo' ≤ lo) (hh : hi ≤ hi') : aO lo' hi' w v xs:=aY.mono h hl hh
theorem cP.mono {lo hi lo' hi' : Nat} {w : World} {v : Value} {xs : List Bool} (h : cP lo hi w v xs) (hl : lo' ≤ lo) (hh : hi ≤ hi') : cP lo' hi' w v xs:=aY.mono h hl hh
theorem aO.top {lo hi : Nat} {w : World} {v : Value} {xs : List Int} (h : aO lo hi w v xs) : aO lo w.heap.size w v xs:=aY.top h
theorem cP.top {lo hi : Nat} {w : World} {v : Value} {xs : List Bool} (h : cP lo hi w v xs) : cP lo w.heap.size w v xs:=aY.top h
theorem aO.at {lo hi : Nat} {w : World} {v : Value} {xs : List Int} (h : aO lo hi w v xs) {k : Nat} (hk : k < xs.length) :
  ∃ g cap,v = .slice (some ⟨g,0,none⟩) xs.length cap ∧ lo ≤ g ∧ g < hi ∧ g < w.heap.size ∧ (∀ k,k < xs.length → w.cell? ⟨g,k,none⟩ = some (.int .i64 (gi xs k))) ∧ ∀ k,w.frozen? ⟨g,k,none⟩ = false:=by
 have:=aY.at h (.int .i64 0) (k:=k) (by simpa using hk)
 simpa only [List.length_map,iv] using this
theorem cP.at {lo hi : Nat} {w : World} {v : Value} {xs : List Bool} (h : cP lo hi w v xs) {k : Nat} (hk : k < xs.length) :
  ∃ g cap,v = .slice (some ⟨g,0,none⟩) xs.length cap ∧ lo ≤ g ∧ g < hi ∧ g < w.heap.size ∧ (∀ k,k < xs.length → w.cell? ⟨g,k,none⟩ = some (.bool (gb xs k))) ∧ ∀ k,w.frozen? ⟨g,k,none⟩ = false:=by
 have:=aY.at h (.bool false) (k:=k) (by simpa using hk)
 simpa only [List.length_map,jn] using this
theorem aO.set {lo hi : Nat} {w : World} {g n cap : Nat} {xs : List Int} (h : aO lo hi w (.slice (some ⟨g,0,none⟩) n cap) xs) (k : Nat) (x : Int) :
  aO lo hi (w.setCell ⟨g,k,none⟩ (.int .i64 x)) (.slice (some ⟨g,0,none⟩) n cap) (xs.set k x):=by
 have:=aY.set h k (.int .i64 x)
 rwa [← List.map_set] at this
theorem cP.set {lo hi : Nat} {w : World} {g n cap : Nat} {xs : List Bool} (h : cP lo hi w (.slice (some ⟨g,0,none⟩) n cap) xs) (k : Nat) (x : Bool) :
  cP lo hi (w.setCell ⟨g,k,none⟩ (.bool x)) (.slice (some ⟨g,0,none⟩) n cap) (xs.set k x):=by
 have:=aY.set h k (.bool x)
 rwa [← List.map_set] at this
theorem aO.len {lo hi : Nat} {w : World} {sa : Option Addr} {n cap : Nat} {xs : List Int} (h : aO lo hi w (.slice sa n cap) xs) : xs.length = n:=by
 obtain ⟨sa',n',c',e,h1,_⟩:=h.is
 simp only [Value.slice.injEq] at e
 omega
theorem cP.len {lo hi : Nat} {w : World} {sa : Option Addr} {n cap : Nat} {xs : List Bool} (h : cP lo hi w (.slice sa n cap) xs) : xs.length = n:=by
 obtain ⟨sa',n',c',e,h1,_⟩:=h.is
 simp only [Value.slice.injEq] at e
 omega
theorem iw (n : Nat) : (madeCells #[Value.int .i64 0] n).toList = (tab n fun _=>0).map (.int .i64):=by
 simp [madeCells,tab,Nat.mod_one]
theorem aO.cell {lo hi : Nat} {w : World} {g n cap : Nat} {xs : List Int} (h : aO lo hi w (.slice (some ⟨g,0,none⟩) n cap) xs) {k : Nat} (hk : k < n) :
  w.cell? ⟨g,k,none⟩ = some (.int .i64 (gi xs k)) ∧ w.frozen? ⟨g,k,none⟩ = false ∧ lo ≤ g ∧ g < w.heap.size:=by
 have hl:=h.len
 obtain ⟨g',cap',e,h1,_,h2,h3,h4⟩:=h.at (k:=k) (by omega)
 simp only [Value.slice.injEq,Option.some.injEq,Addr.mk.injEq,and_true] at e
 obtain ⟨rfl,_,rfl⟩:=e
 exact ⟨h3 k (by omega),h4 k,h1,h2⟩
theorem cP.cell {lo hi : Nat} {w : World} {g n cap : Nat} {xs : List Bool} (h : cP lo hi w (.slice (some ⟨g,0,none⟩) n cap) xs) {k : Nat} (hk : k < n) :
  w.cell? ⟨g,k,none⟩ = some (.bool (gb xs k)) ∧ w.frozen? ⟨g,k,none⟩ = false ∧ lo ≤ g ∧ g < w.heap.size:=by
 have hl:=h.len
 obtain ⟨g',cap',e,h1,_,h2,h3,h4⟩:=h.at (k:=k) (by omega)
 simp only [Value.slice.injEq,Option.some.injEq,Addr.mk.injEq,and_true] at e
 obtain ⟨rfl,_,rfl⟩:=e
 exact ⟨h3 k (by omega),h4 k,h1,h2⟩
theorem bp {n : Nat} {f g : Nat → Int} (h : ∀ k,k < n → f k = g k) : tab n f = tab n g:=kF (by simp) fun k hk=>by rw [cI f hk,h k hk]
theorem dB {n : Nat} {f g : Nat → Bool} (h : ∀ k,k < n → f k = g k) : dc n f = dc n g:=ja (by simp) fun k hk=>by rw [eV f hk,h k hk]
theorem jo {n k : Nat} {f : Nat → Int} {d : Nat → Int} (hk : k < n) : (tab n fun j=>if j < k then f j else d j).set k (f k) = tab n fun j=>if j < k + 1 then f j else d j:=by
 rw [gQ hk]
 refine bp fun j hj=>?_
 by_cases e : j = k
 · subst e;simp
 · rw [if_neg e];by_cases h : j < k
   · rw [if_pos h,if_pos (by omega)]
   · rw [if_neg h,if_neg (by omega)]
theorem oK {n k : Nat} {f : Nat → Bool} {d : Nat → Bool} (hk : k < n) : (dc n fun j=>if j < k then f j else d j).set k (f k) = dc n fun j=>if j < k + 1 then f j else d j:=by
 rw [lF hk]
 refine dB fun j hj=>?_
 by_cases e : j = k
 · subst e;simp
 · rw [if_neg e];by_cases h : j < k
   · rw [if_pos h,if_pos (by omega)]
   · rw [if_neg h,if_neg (by omega)]
theorem dg (xs : List Int) : tab xs.length (gi xs) = xs:=(kF rfl fun _ _=>rfl).symm
def vT (w : World) (n : Nat) (xs : List Int) (e : Ending) (w' : World) : Prop :=
 xs.length = n ∧ ∃ sa c,e = .returned (.slice sa n c) ∧ aO w.heap.size w'.heap.size w' (.slice sa n c) xs ∧ Below w.heap.size w w'
def bF (lo hi : Nat) (w : World) (v : Value) (xss : List (List Int)) (vs : List Value) : Prop :=
 vs.length = xss.length ∧ aY 22 lo hi w v vs ∧ (∀ k,k < xss.length → aO lo hi w (vs.getD k (.slice none 0 0)) (gr xss k)) ∧ (vs.filterMap blk).Nodup
def gR (lo hi : Nat) (w : World) (v : Value) (xss : List (List Int)) : Prop:=∃ vs,bF lo hi w v xss vs
def eF (lo hi : Nat) (w : World) (v : Value) (a : Ar) : Prop:=∃ vo vn vs,v = .agg #[vo,vn] ∧ aO lo hi w vo a.own ∧ bF lo hi w vn a.nxt vs ∧ ((vo :: vs).filterMap blk).Nodup
def dr (lo hi : Nat) (w : World) (v : Value) (g : Pa) : Prop:=∃ vo vn vp vs,v = .agg #[vo,vn,vp] ∧ aO lo hi w vo g.ar.own ∧ bF lo hi w vn g.ar.nxt vs ∧ aO lo hi w vp g.prio ∧ ((vo :: vp :: vs).filterMap blk).Nodup
theorem bF.below {lo hi : Nat} {w w' : World} {v : Value} {xss : List (List Int)} {vs : List Value} (h : bF lo hi w v xss vs) (hb : Below w.heap.size w w') : bF lo hi w' v xss vs :=
 ⟨h.1,h.2.1.below hb,fun k hk=>(h.2.2.1 k hk).below hb,h.2.2.2⟩
theorem bF.mono {lo hi lo' hi' : Nat} {w : World} {v : Value} {xss : List (List Int)} {vs : List Value} (h : bF lo hi w v xss vs) (hl : lo' ≤ lo) (hh : hi ≤ hi') : bF lo' hi' w v xss vs :=
 ⟨h.1,h.2.1.mono hl hh,fun k hk=>(h.2.2.1 k hk).mono hl hh,h.2.2.2⟩
theorem bF.top {lo hi : Nat} {w : World} {v : Value} {xss : List (List Int)} {vs : List Value} (h : bF lo hi w v xss vs) : bF lo w.heap.size w v xss vs :=
 ⟨h.1,h.2.1.top,fun k hk=>(h.2.2.1 k hk).top,h.2.2.2⟩
theorem bF.is {lo hi : Nat} {w : World} {v : Value} {xss : List (List Int)} {vs : List Value} (h : bF lo hi w v xss vs) : d5 w v xss:=by
 obtain ⟨h1,h2,h3,_⟩:=h
 obtain ⟨sa,c,hv,hc⟩:=h2.form (.slice none 0 0)
 rw [h1] at hv hc
 have each : ∀ k,∃ y : Option Addr × Nat × Nat,k < xss.length → vs.getD k (.slice none 0 0) = .slice y.1 y.2.1 y.2.2 ∧ cS w y.1 y.2.1 y.2.2 (gr xss k):=by
  intro k
  by_cases hk : k < xss.length
  · obtain ⟨a,n,c,e,hi⟩:=(h3 k hk).is
    exact ⟨(a,n,c),fun _=>⟨e,hi⟩⟩
  · exact ⟨(none,0,0),fun h=>absurd h hk⟩
 refine ⟨sa,_,c,hv,rfl,fun k=>(Classical.choose (each k)).1,fun k=>(Classical.choose (each k)).2.1,fun k=>(Classical.choose (each k)).2.2,⟨hc.cap,hc.max,hc.nil,hc.spot,fun ad ha k hk=>?_⟩,fun k hk=>((Classical.choose_spec (each k)) hk).2⟩
 rw [hc.cell ad ha k hk]
 exact congrArg some ((Classical.choose_spec (each k)) hk).1
theorem eF.is {lo hi : Nat} {w : World} {v : Value} {a : Ar} (h : eF lo hi w v a) : IsA w v a:=let ⟨vo,vn,_,e,h1,h2,_⟩:=h;⟨vo,vn,e,h1.is,h2.is⟩
theorem dr.is {lo hi : Nat} {w : World} {v : Value} {a : Pa} (h : dr lo hi w v a) : IsP w v a:=let ⟨vo,vn,vp,_,e,h1,h2,h3,_⟩:=h;⟨vo,vn,vp,e,h1.is,h2.is,h3.is⟩
theorem eF.below {lo hi : Nat} {w w' : World} {v : Value} {a : Ar} (h : eF lo hi w v a) (hb : Below w.heap.size w w') : eF lo hi w' v a:=let ⟨vo,vn,vs,e,h1,h2,h3⟩:=h;⟨vo,vn,vs,e,h1.below hb,h2.below hb,h3⟩
theorem dr.below {lo hi : Nat} {w w' : World} {v : Value} {a : Pa} (h : dr lo hi w v a) (hb : Below w.heap.size w w') : dr lo hi w' v a:=let ⟨vo,vn,vp,vs,e,h1,h2,h3,h4⟩:=h;⟨vo,vn,vp,vs,e,h1.below hb,h2.below hb,h3.below hb,h4⟩
theorem eF.mono {lo hi lo' hi' : Nat} {w : World} {v : Value} {a : Ar} (h : eF lo hi w v a) (hl : lo' ≤ lo) (hh : hi ≤ hi') : eF lo' hi' w v a:=let ⟨vo,vn,vs,e,h1,h2,h3⟩:=h;⟨vo,vn,vs,e,h1.mono hl hh,h2.mono hl hh,h3⟩
theorem dr.mono {lo hi lo' hi' : Nat} {w : World} {v : Value} {a : Pa} (h : dr lo hi w v a) (hl : lo' ≤ lo) (hh : hi ≤ hi') : dr lo' hi' w v a:=let ⟨vo,vn,vp,vs,e,h1,h2,h3,h4⟩:=h;⟨vo,vn,vp,vs,e,h1.mono hl hh,h2.mono hl hh,h3.mono hl hh,h4⟩
theorem eF.top {lo hi : Nat} {w : World} {v : Value} {a : Ar} (h : eF lo hi w v a) : eF lo w.heap.size w v a:=let ⟨vo,vn,vs,e,h1,h2,h3⟩:=h;⟨vo,vn,vs,e,h1.top,h2.top,h3⟩
theorem dr.top {lo hi : Nat} {w : World} {v : Value} {a : Pa} (h : dr lo hi w v a) : dr lo w.heap.size w v a:=let ⟨vo,vn,vp,vs,e,h1,h2,h3,h4⟩:=h;⟨vo,vn,vp,vs,e,h1.top,h2.top,h3.top,h4⟩
theorem aO.blks {lo hi : Nat} {w : World} {v : Value} {xs : List Int} (h : aO lo hi w v xs) : ∀ g,blk v = some g → lo ≤ g ∧ g < hi:=fun g hg=>⟨(aY.lt h g hg).1,(aY.lt h g hg).2.1⟩
theorem bF.blks {lo hi : Nat} {w : World} {v : Value} {xss : List (List Int)} {vs : List Value} (h : bF lo hi w v xss vs) : ∀ g,g ∈ vs.filterMap blk → lo ≤ g ∧ g < hi:=by
 intro g hg
 obtain ⟨u,hu,e⟩:=List.mem_filterMap.1 hg
 obtain ⟨k,hk,e2⟩:=List.getElem_of_mem hu
 have:=h.2.2.1 k (by rw [← h.1];exact hk)
 rw [List.getD_eq_getElem?_getD,List.getElem?_eq_getElem hk] at this
 simp only [Option.getD_some,e2] at this
 exact this.blks g e
def bO (lo hi : Nat) (w w' : World) : Prop:=w.heap.size ≤ w'.heap.size ∧ ∀ g,lo ≤ g → g < hi → g < w.heap.size → w'.heap[g]? = w.heap[g]?
theorem bO.refl (lo hi : Nat) (w : World) : bO lo hi w w:=⟨Nat.le_refl _,fun _ _ _ _=>rfl⟩
theorem bO.trans {lo hi : Nat} {a b c : World} (h : bO lo hi a b) (k : bO lo hi b c) : bO lo hi a c :=
 ⟨Nat.le_trans h.1 k.1,fun g h1 h2 h3=>(k.2 g h1 h2 (Nat.lt_of_lt_of_le h3 h.1)).trans (h.2 g h1 h2 h3)⟩
theorem bO.below {lo hi : Nat} {a b c : World} (h : bO lo hi a b) (k : Below b.heap.size b c) : bO lo hi a c :=
 h.trans ⟨k.size,fun g _ _ h3=>k.block g h3⟩
theorem bO.alloc {lo hi : Nat} {a b : World} (h : bO lo hi a b) (o : Obj) : bO lo hi a (b.alloc o):=h.below (aP b o)
theorem bO.drew {lo hi : Nat} {a b : World} (h : bO lo hi a b) : bO lo hi a b.drew:=h.below (bU b)
theorem bO.drewN {lo hi : Nat} {a b : World} (h : bO lo hi a b) (m : Nat) : bO lo hi a (b.drewN m):=h.below (dl b m)
theorem bO.set {lo hi : Nat} {a b : World} (h : bO lo hi a b) {g k : Nat} (hg : g < lo ∨ hi ≤ g) (u : Value) : bO lo hi a (b.setCell ⟨g,k,none⟩ u) :=
 h.trans ⟨by rw [World.size_setCell];exact Nat.le_refl _,fun g' h1 h2 h3=>Below.heap_setCell _ _ _ _ (fun e=>by simp only at e;omega)⟩
theorem aY.kept {e : TypeId} {lo hi : Nat} {w w' : World} {v : Value} {vs : List Value} (h : aY e lo hi w v vs) (hk : bO lo hi w w') : aY e lo hi w' v vs :=
 h.keep fun g hg=>by have:=h.lt g hg;exact hk.2 g this.1 this.2.1 this.2.2
theorem aO.final {lo hi lo' : Nat} {w W : World} {v : Value} {xs : List Int} (h : aO lo hi w v xs) (hk : bO lo hi w W) (hl : lo' ≤ lo) : aO lo' W.heap.size W v xs:=aO.mono (aO.top (aY.kept h hk)) hl (Nat.le_refl _)
theorem cP.final {lo hi lo' : Nat} {w W : World} {v : Value} {xs : List Bool} (h : cP lo hi w v xs) (hk : bO lo hi w W) (hl : lo' ≤ lo) : cP lo' W.heap.size W v xs:=cP.mono (cP.top (aY.kept h hk)) hl (Nat.le_refl _)
theorem aO.kept {lo hi : Nat} {w w' : World} {v : Value} {xs : List Int} (h : aO lo hi w v xs) (hk : bO lo hi w w') : aO lo hi w' v xs:=aY.kept h hk
theorem cP.kept {lo hi : Nat} {w w' : World} {v : Value} {xs : List Bool} (h : cP lo hi w v xs) (hk : bO lo hi w w') : cP lo hi w' v xs:=aY.kept h hk
theorem bF.kept {lo hi : Nat} {w w' : World} {v : Value} {xss : List (List Int)} {vs : List Value} (h : bF lo hi w v xss vs) (hk : bO lo hi w w') : bF lo hi w' v xss vs :=
 ⟨h.1,h.2.1.kept hk,fun k h'=>(h.2.2.1 k h').kept hk,h.2.2.2⟩
theorem bF.final {lo hi lo' : Nat} {w W : World} {v : Value} {xss : List (List Int)} {vs : List Value} (h : bF lo hi w v xss vs) (hk : bO lo hi w W) (hl : lo' ≤ lo) : bF lo' W.heap.size W v xss vs:=bF.mono (bF.top (h.kept hk)) hl (Nat.le_refl _)
theorem eF.kept {lo hi : Nat} {w w' : World} {v : Value} {a : Ar} (h : eF lo hi w v a) (hk : bO lo hi w w') : eF lo hi w' v a:=let ⟨vo,vn,vs,e,h1,h2,h3⟩:=h;⟨vo,vn,vs,e,h1.kept hk,h2.kept hk,h3⟩
theorem dr.kept {lo hi : Nat} {w w' : World} {v : Value} {a : Pa} (h : dr lo hi w v a) (hk : bO lo hi w w') : dr lo hi w' v a:=let ⟨vo,vn,vp,vs,e,h1,h2,h3,h4⟩:=h;⟨vo,vn,vp,vs,e,h1.kept hk,h2.kept hk,h3.kept hk,h4⟩
theorem eF.final {lo hi lo' : Nat} {w W : World} {v : Value} {a : Ar} (h : eF lo hi w v a) (hk : bO lo hi w W) (hl : lo' ≤ lo) : eF lo' W.heap.size W v a:=eF.mono (eF.top (h.kept hk)) hl (Nat.le_refl _)
theorem dr.final {lo hi lo' : Nat} {w W : World} {v : Value} {a : Pa} (h : dr lo hi w v a) (hk : bO lo hi w W) (hl : lo' ≤ lo) : dr lo' W.heap.size W v a:=dr.mono (dr.top (h.kept hk)) hl (Nat.le_refl _)
end Go.Proofs.Ytdkkhhfhdijfmaa
namespace Go.Proofs.Ytdkkhhfhdijfmaa
set_option linter.unusedVariables false
set_option linter.unusedSimpArgs false
open Go.RowKit
def dz (xss : List (List Int)) : Nat → Nat
 | 0 => 0
 | k + 1 => dz xss k + (gr xss k).length
theorem iy (xss : List (List Int)) {j k : Nat} (h : j ≤ k) : dz xss j ≤ dz xss k:=by
 induction k with
 | zero => have : j = 0 := by omega
           subst this;exact Nat.le_refl _
 | succ k ih =>
   by_cases e : j = k + 1
   · subst e;exact Nat.le_refl _
   · have:=ih (by omega);simp only [dz];omega
def iz (xss : List (List Int)) : Nat:=xss.length + dz xss xss.length
def szA (a : Ar) : Nat:=a.own.length + iz a.nxt
def szP (g : Pa) : Nat:=szA g.ar + g.prio.length
def lft (l : Int) (n : Nat) : Int:=if l < n then -1 else l - n
theorem eX {l : Int} {n : Nat} (h : (n : Int) ≤ l) : lft l n = l - n:=if_neg (by omega)
theorem dO {l : Int} {n : Nat} (h : l < (n : Int)) : lft l n = -1:=if_pos h
set_option maxHeartbeats 400000 in
theorem eY (sa : Option Addr) (n c : Nat) (l : Int) (w : World) (hn : n ≤ 9223372036854775807) (h0 : 0 ≤ l) (hl : l ≤ 1048576) :
  Calls Try.prog 20 #[.slice sa n c,.int .i64 l] w fun e w'=>e = .returned (.int .i64 (lft l n)) ∧ w = w':=by
 go_enter Try.func20,Try.ntmps20
 go_wp2
 all_goals go_ret
 all_goals exact ⟨da (by unfold lft;split <;> omega),rfl⟩
set_option maxHeartbeats 400000 in
theorem lG (sa : Option Addr) (n c : Nat) (xss : List (List Int)) (l : Int) (w : World) (hR : Rws w sa n c xss) (h0 : 0 ≤ l) (hl : l ≤ 1048576) :
  Calls Try.prog 30 #[.slice sa n c,.int .i64 l] w fun e w'=>e = .returned (.int .i64 (lft l (iz xss))) ∧ w = w':=by
 have hmax:=hR.max
 have HL:=Lib.hid hR.len
 by_cases hn : l < n
 · go_enter Try.func30,Try.ntmps30
   go_wp2
   all_goals go_ret
   all_goals exact ⟨da (by rw [dO];unfold iz;rw [HL.out];omega),rfl⟩
 · go_enter Try.func30,Try.ntmps30
   go_wp2
   go_loop [1,5] (fun l' i=>∃ k : Nat,k ≤ n ∧ i = .int .i64 k ∧ (n : Int) + dz xss k ≤ l ∧ l' = .int .i64 (l - n - dz xss k)) (fun _ i=>n - (intOf i).toNat)
   case atStart=>exact ⟨0,by omega,rfl,by simp only [dz];omega,by simp only [dz];congr 1;omega⟩
   case round =>
    obtain ⟨k,hk,rfl,hp,rfl⟩:=hrel
    by_cases hlt : k < n
    · obtain ⟨b,o,rfl,hb,A,L,C,hc⟩:=hR.get hlt
      obtain ⟨hck,hI⟩:=hc k hlt
      have hm:=hI.max
      have hs : dz xss (k + 1) = dz xss k + L k:=by simp only [dz];rw [hI.1]
      have HS:=Lib.hid hs
      clear hc hs
      generalize hq : dz xss k = q at *
      have HQ:=Lib.hid hq
      clear hq
      by_cases hfit : (n : Int) + q + L k ≤ l
      · have hz:=eX (l:=l - n - q) (n:=L k) (by omega)
        go_wp2_with (go_at_call 20;refine (eY _ _ _ _ _ hm (by omega) (by omega)).mono ?_;rw [hz];rintro e w' ⟨rfl,rfl⟩)
        go_round
        case rel=>exact ⟨k + 1,by omega,by go_num,by rw [HS.out];omega,by rw [HS.out];congr 1;omega⟩
        case measure=>simp [intOf];omega
      · have hz:=dO (l:=l - n - q) (n:=L k) (by omega)
        go_wp2_with (go_at_call 20;refine (eY _ _ _ _ _ hm (by omega) (by omega)).mono ?_;rw [hz];rintro e w' ⟨rfl,rfl⟩)
        go_ret
        exact ⟨da (by rw [dO];unfold iz;rw [HL.out];have:=iy xss (j:=k + 1) (k:=n) (by omega);have:=HS.out;omega),rfl⟩
    · go_wp2
      go_ret
      have e : k = n:=by omega
      subst e
      exact ⟨da (by rw [eX] <;> (unfold iz;rw [HL.out];omega)),rfl⟩
set_option maxHeartbeats 400000 in
theorem kG (v : Value) (a : Ar) (l : Int) (w : World) (hA : IsA w v a) (h0 : 0 ≤ l) (hl : l ≤ 1048576) :
  Calls Try.prog 19 #[v,.int .i64 l] w fun e w'=>e = .returned (.int .i64 (lft l (szA a))) ∧ Below w.heap.size w w':=by
 obtain ⟨_,_,rfl,⟨s1,n1,c1,rfl,h1⟩,⟨s2,n2,c2,rfl,h2⟩⟩:=hA
 have hm1:=h1.max
 have HL:=Lib.hid h1.1
 by_cases hf : (n1 : Int) ≤ l
 · have hz:=eX hf
   by_cases hg : (n1 : Int) + iz a.nxt ≤ l
   · have hz2:=eX (l:=l - n1) (n:=iz a.nxt) (by omega)
     go_enter Try.func19,Try.ntmps19
     go_wp2_with (first|(go_at_call 20;refine (eY _ _ _ _ _ hm1 (by omega) (by omega)).mono ?_;rw [hz];rintro e w' ⟨rfl,rfl⟩)|(go_at_call 30;refine (lG _ _ _ _ _ _ (h2.alloc _) (by omega) (by omega)).mono ?_;rw [hz2];rintro e w' ⟨rfl,rfl⟩))
     go_ret
     exact ⟨da (by rw [eX] <;> (unfold szA;rw [HL.out];omega)),aP _ _⟩
   · have hz2:=dO (l:=l - n1) (n:=iz a.nxt) (by omega)
     go_enter Try.func19,Try.ntmps19
     go_wp2_with (first|(go_at_call 20;refine (eY _ _ _ _ _ hm1 (by omega) (by omega)).mono ?_;rw [hz];rintro e w' ⟨rfl,rfl⟩)|(go_at_call 30;refine (lG _ _ _ _ _ _ (h2.alloc _) (by omega) (by omega)).mono ?_;rw [hz2];rintro e w' ⟨rfl,rfl⟩))
     go_ret
     exact ⟨da (by rw [dO];unfold szA;rw [HL.out];omega),aP _ _⟩
 · have hz:=dO (l:=l) (n:=n1) (by omega)
   go_enter Try.func19,Try.ntmps19
   go_wp2_with (go_at_call 20;refine (eY _ _ _ _ _ hm1 (by omega) (by omega)).mono ?_;rw [hz];rintro e w' ⟨rfl,rfl⟩)
   go_ret
   exact ⟨da (by rw [dO];unfold szA;rw [HL.out];omega),aP _ _⟩
end Go.Proofs.Ytdkkhhfhdijfmaa
namespace Go.Proofs.Ytdkkhhfhdijfmaa
set_option linter.unusedVariables false
set_option linter.unusedSimpArgs false
open Go.RowKit
set_option maxHeartbeats 400000 in
theorem kH (sa : Option Addr) (n c : Nat) (xs : List Int) (w : World) (hI : cS w sa n c xs) (hn : n ≤ 1048576) :
  Calls Try.prog 24 #[.slice sa n c] w (vT w n xs):=by
 have hmax:=hI.max
 have HL:=Lib.hid hI.1
 obtain ⟨i0,hi,hz0,hz1,hz2⟩:=info_parts Try.infoI
 go_enter Try.func24,Try.ntmps24
 go_wp2_with (at_make;refine wpList_make_full _ rfl _ _ 22 rfl w.heap.size 2 i0 (.int .i64 0) 1 Try.underlying22 hi hz0 hz1 _ _ _ _ n rfl rfl rfl rfl (by rw [hz2];omega) (by unfold maxLen;omega) (Nat.le_refl _) ?_)
 intro w1 hown hgrow
 rw [iw] at hown
 have ho1 : aO w.heap.size w1.heap.size w1 (.slice (some ⟨w.heap.size,0,none⟩) n n) (tab n fun j=>if j < 0 then gi xs j else 0):=by
  have:=fv hown
  exact this
 have hb1 : Below w.heap.size w w1:=(Below.refl _ _).grown hgrow (Nat.le_refl _) (fun k h=>by cases h)
 clear hown hgrow
 go_wp2
 go_loopw [4] (fun i wr=>∃ k : Nat,k ≤ n ∧ i = .int .i64 k ∧ aO w.heap.size wr.heap.size wr (.slice (some ⟨w.heap.size,0,none⟩) n n) (tab n fun j=>if j < k then gi xs j else 0) ∧ Below w.heap.size w wr) (fun i _=>n - (intOf i).toNat)
 case atStart=>exact ⟨0,by omega,rfl,ho1,hb1⟩
 case round =>
  obtain ⟨k,hk,rfl,ho,hb⟩:=hrel
  by_cases hlt : k < n
  · obtain ⟨b,o,rfl,hbl,hc⟩:=hI.get hlt
    have hck:=(dA hb).1 b (o + k) hbl
    rw [hc k hlt] at hck
    obtain ⟨h1,h2,h3,h4⟩:=ho.cell hlt
    clear hc
    go_wp2
    go_roundw
    case rel =>
     refine ⟨k + 1,by omega,by go_num,?_,an hb (Nat.le_refl _) _⟩
     have:=(aO.set ho k (gi xs k)).top
     rwa [jo (f:=gi xs) (d:=fun _=>0) hlt] at this
    case measure=>simp [intOf];omega
  · go_wp2
    go_ret
    have e : k = n:=by omega
    subst e
    refine ⟨HL.out,_,_,rfl,?_,hb⟩
    have e2 : (tab k fun j=>if j < k then gi xs j else 0) = xs:=by
     rw [bp (g:=gi xs) (fun j hj=>if_pos hj),← HL.out]
     exact dg xs
    rwa [e2] at ho
def ut (w : World) (n : Nat) (xss : List (List Int)) (e : Ending) (w' : World) : Prop :=
 xss.length = n ∧ ∃ sa c,e = .returned (.slice sa n c) ∧ gR w.heap.size w'.heap.size w' (.slice sa n c) xss ∧ Below w.heap.size w w'
def fj (lo : Nat) (w : World) (v : Value) (n : Nat) (xss : List (List Int)) (k : Nat) (vs : List Value) : Prop :=
 vs.length = k ∧ aY 22 lo w.heap.size w v (vs ++ List.replicate (n - k) (.slice none 0 0)) ∧ (∀ i,i < k → aO lo w.heap.size w (vs.getD i (.slice none 0 0)) (gr xss i)) ∧ (vs.filterMap blk).Nodup
theorem fj.below {lo : Nat} {w w' : World} {v : Value} {n : Nat} {xss : List (List Int)} {k : Nat} {vs : List Value} (h : fj lo w v n xss k vs) (hb : Below w.heap.size w w') : fj lo w' v n xss k vs :=
 ⟨h.1,(h.2.1.below hb).top,fun i hi=>((h.2.2.1 i hi).below hb).top,h.2.2.2⟩
theorem fj.mem {lo : Nat} {w : World} {v : Value} {n : Nat} {xss : List (List Int)} {k : Nat} {vs : List Value} (h : fj lo w v n xss k vs) : ∀ g,g ∈ vs.filterMap blk → lo ≤ g ∧ g < w.heap.size:=by
 intro g hg
 obtain ⟨u,hu,e⟩:=List.mem_filterMap.1 hg
 obtain ⟨j,hj,e2⟩:=List.getElem_of_mem hu
 have:=h.2.2.1 j (by rw [← h.1];exact hj)
 rw [List.getD_eq_getElem?_getD,List.getElem?_eq_getElem hj] at this
 simp only [Option.getD_some,e2] at this
 exact this.blks g e
theorem fj.cell {lo : Nat} {w : World} {g n cap : Nat} {xss : List (List Int)} {k : Nat} {vs : List Value} (h : fj lo w (.slice (some ⟨g,0,none⟩) n cap) n xss k vs) (hk : k < n) :
  (∃ u,w.cell? ⟨g,k,none⟩ = some u) ∧ w.frozen? ⟨g,k,none⟩ = false:=by
 obtain ⟨g',cap',e,_,_,_,h3,h4⟩:=h.2.1.at (k:=k) (.slice none 0 0) (by have:=h.1;simp;omega)
 simp only [Value.slice.injEq,Option.some.injEq,Addr.mk.injEq,and_true] at e
 obtain ⟨rfl,_,rfl⟩:=e
 exact ⟨⟨_,h3 k (by have:=h.1;simp;omega)⟩,h4 k⟩
theorem fj.step {lo : Nat} {w w1 : World} {g n cap : Nat} {xss : List (List Int)} {k : Nat} {vs : List Value} {u : Value} (h : fj lo w (.slice (some ⟨g,0,none⟩) n cap) n xss k vs) (hk : k < n)
  (hb : Below w.heap.size w w1) (hu : aO w.heap.size w1.heap.size w1 u (gr xss k)) (hlo : lo ≤ w.heap.size) (hg : g < w.heap.size) :
  fj lo (w1.setCell ⟨g,k,none⟩ u) (.slice (some ⟨g,0,none⟩) n cap) n xss (k + 1) (vs ++ [u]):=by
 have h':=h.below hb
 have hne : ∀ x,aO lo w1.heap.size w1 x (gr xss k) → blk x ≠ some g:=by
  intro x hx e
  have h1:=aY.lt hx g e
  rcases hx with ⟨rfl,_⟩|⟨g',c',cur,rfl,_,_,hh,_⟩
  · simp [blk,Value.ownBlock] at e
  · simp [blk,Value.ownBlock] at e
    subst e
    rcases h'.2.1 with ⟨hq,_⟩|⟨g2,c2,cur2,hq,_,_,hh2,_⟩
    · cases hq
    · simp only [Value.slice.injEq,Option.some.injEq,Addr.mk.injEq,and_true] at hq
      obtain ⟨rfl,_⟩:=hq
      rw [hh] at hh2
      simp at hh2
 have hne' : ∀ (ys : List Int) x,aO lo w1.heap.size w1 x ys → blk x ≠ some g:=by
  intro ys x hx e
  rcases hx with ⟨rfl,_⟩|⟨g',c',cur,rfl,_,_,hh,_⟩
  · simp [blk,Value.ownBlock] at e
  · simp [blk,Value.ownBlock] at e
    subst e
    rcases h'.2.1 with ⟨hq,_⟩|⟨g2,c2,cur2,hq,_,_,hh2,_⟩
    · cases hq
    · simp only [Value.slice.injEq,Option.some.injEq,Addr.mk.injEq,and_true] at hq
      obtain ⟨rfl,_⟩:=hq
      rw [hh] at hh2
      simp at hh2
 refine ⟨by simp [h.1],?_,?_,?_⟩
 · have:=aY.set h'.2.1 k u
   have e : (vs ++ List.replicate (n - k) (Value.slice none 0 0)).set k u = (vs ++ [u]) ++ List.replicate (n - (k + 1)) (.slice none 0 0):=by
    rw [List.set_append,if_neg (by have:=h.1;omega),h.1,Nat.sub_self,show n - k = (n - (k + 1)) + 1 by omega,List.replicate_succ,List.set_cons_zero,List.append_assoc]
    rfl
   rw [e] at this
   exact this.top
 · intro i hi
   by_cases e : i = k
   · rw [e]
     have e2 : (vs ++ [u]).getD k (.slice none 0 0) = u:=by
      rw [List.getD_eq_getElem?_getD,List.getElem?_append_right (by have:=h.1;omega),h.1];simp
     rw [e2]
     have hu':=hu.mono hlo (Nat.le_refl _)
     exact (aY.other hu' (hne' _ _ hu') k u).top
   · have e2 : (vs ++ [u]).getD i (.slice none 0 0) = vs.getD i (.slice none 0 0):=by
      rw [List.getD_eq_getElem?_getD,List.getElem?_append_left (by have:=h.1;omega),← List.getD_eq_getElem?_getD]
     rw [e2]
     have hx:=h'.2.2.1 i (by omega)
     exact (aY.other hx (hne' _ _ hx) k u).top
 · rw [List.filterMap_append,List.nodup_append]
   refine ⟨h.2.2.2,?_,?_⟩
   · cases hq : blk u <;> simp [hq]
   · intro a ha b' hb' e
     subst e
     have h1:=h.mem a ha
     have h2 : blk u = some a:=by
      cases hq : blk u with
      | none => simp [hq] at hb'
      | some x => simp [hq] at hb'; rw [hb']
     have:=hu.blks a h2
     omega
theorem fx (n : Nat) : (madeCells #[Value.slice none 0 0] n).toList = List.replicate n (.slice none 0 0):=by
 apply List.ext_getElem
 · simp [madeCells]
 · intro i h1 h2
   simp [madeCells,Nat.mod_one]
set_option maxHeartbeats 400000 in
theorem pO (sa : Option Addr) (n c : Nat) (xss : List (List Int)) (w : World) (hR : Rws w sa n c xss) (hn : n ≤ 1048576) (hl : ∀ k,k < n → (gr xss k).length ≤ 1048576) :
  Calls Try.prog 34 #[.slice sa n c] w (ut w n xss):=by
 have hmax:=hR.max
 have HL:=Lib.hid hR.len
 have HN:=Lib.hid hl
 clear hl
 obtain ⟨i0,hi,hz0,hz1,hz2⟩:=info_parts Try.infoS
 go_enter Try.func34,Try.ntmps34
 go_wp2_with (at_make;refine wpList_make_full _ rfl _ _ 23 rfl w.heap.size 22 i0 (.slice none 0 0) 1 Try.underlying23 hi hz0 hz1 _ _ _ _ n rfl rfl rfl rfl (by rw [hz2];omega) (by unfold maxLen;omega) (Nat.le_refl _) ?_)
 intro w1 hown hgrow
 rw [fx] at hown
 have hg1 : w.heap.size < w1.heap.size:=(hown.lt _ rfl).2
 have ho1 : fj w.heap.size w1 (.slice (some ⟨w.heap.size,0,none⟩) n n) n xss 0 [] :=
  ⟨rfl,by simpa using fv hown,fun i hi=>by omega,by simp⟩
 have hb1 : Below w.heap.size w w1:=(Below.refl _ _).grown hgrow (Nat.le_refl _) (fun k h=>by cases h)
 clear hown hgrow
 go_wp2
 go_loopw [4] (fun i wr=>∃ (k : Nat) (vs : List Value),k ≤ n ∧ i = .int .i64 k ∧ fj w.heap.size wr (.slice (some ⟨w.heap.size,0,none⟩) n n) n xss k vs ∧ Below w.heap.size w wr ∧ w.heap.size < wr.heap.size) (fun i _=>n - (intOf i).toNat)
 case atStart=>exact ⟨0,[],by omega,rfl,ho1,hb1,hg1⟩
 case round =>
  obtain ⟨k,vs,hk,rfl,ho,hb,hg⟩:=hrel
  by_cases hlt : k < n
  · obtain ⟨b,o,rfl,hbl,A,L,C,hc⟩:=hR.get hlt
    have hck:=(dA hb).1 b (o + k) hbl
    obtain ⟨hc1,hc2⟩:=hc k hlt
    rw [hc1] at hck
    have hL : L k ≤ 1048576:=by have:=HN.out k hlt;rw [hc2.1] at this;exact this
    have hI:=hc2.below hb
    clear hc hc1 hc2
    go_wp2_with (go_at_call 24;refine (kH _ _ _ _ _ hI hL).mono ?_;rintro e w2 ⟨hlk,s2,c2,rfl,ho2,hb2⟩;clear hlk;have hP:=ho.below hb2;have hq:=hP.cell hlt;obtain ⟨⟨q,hq1⟩,hq2⟩:=hq)
    go_roundw
    case rel =>
     exact ⟨k + 1,vs ++ [_],by omega,by go_num,ho.step hlt hb2 ho2 (by omega) hg,an (hb.trans (hb2.mono hb.size)) (Nat.le_refl _) _,by rw [World.size_setCell];exact Nat.lt_of_lt_of_le hg hb2.size⟩
    case measure=>simp [intOf];omega
  · go_wp2
    go_ret
    have e : k = n:=by omega
    subst e
    refine ⟨HL.out,_,_,rfl,⟨vs,?_,?_,?_,ho.2.2.2⟩,hb⟩
    · rw [ho.1,HL.out]
    · simpa using ho.2.1
    · intro i hi;exact ho.2.2.1 i (by rw [HL.out] at hi;exact hi)
theorem nodup_cons {lo m hi : Nat} {u : Value} {vs : List Value} (hu : ∀ g,blk u = some g → g < m) (hv : ∀ g,g ∈ vs.filterMap blk → m ≤ g) (hn : (vs.filterMap blk).Nodup) : ((u :: vs).filterMap blk).Nodup:=by
 cases hq : blk u with
 | none => rw [List.filterMap_cons_none hq]; exact hn
 | some g =>
   rw [List.filterMap_cons_some hq,List.nodup_cons]
   exact ⟨fun hm=>by have:=hu g hq;have:=hv g hm;omega,hn⟩
theorem lH {m : Nat} {u : Value} {vs : List Value} (hu : ∀ g,blk u = some g → m ≤ g) (hv : ∀ g,g ∈ vs.filterMap blk → g < m) (hn : (vs.filterMap blk).Nodup) : ((u :: vs).filterMap blk).Nodup:=by
 cases hq : blk u with
 | none => rw [List.filterMap_cons_none hq]; exact hn
 | some g =>
   rw [List.filterMap_cons_some hq,List.nodup_cons]
   exact ⟨fun hm=>by have:=hu g hq;have:=hv g hm;omega,hn⟩
def vU (w : World) (a : Ar) (e : Ending) (w' : World) : Prop:=∃ s1 n1 c1 s2 n2 c2,e = .returned (.agg #[.slice s1 n1 c1,.slice s2 n2 c2]) ∧ eF w.heap.size w'.heap.size w' (.agg #[.slice s1 n1 c1,.slice s2 n2 c2]) a ∧ Below w.heap.size w w'
def vV (w : World) (g : Pa) (e : Ending) (w' : World) : Prop:=∃ s1 n1 c1 s2 n2 c2 s3 n3 c3,e = .returned (.agg #[.slice s1 n1 c1,.slice s2 n2 c2,.slice s3 n3 c3]) ∧ dr w.heap.size w'.heap.size w' (.agg #[.slice s1 n1 c1,.slice s2 n2 c2,.slice s3 n3 c3]) g ∧ Below w.heap.size w w'
set_option maxHeartbeats 1000000 in
theorem rt (v : Value) (a : Ar) (w : World) (hA : IsA w v a) (hn : szA a ≤ 1048576) :
  Calls Try.prog 23 #[v] w (vU w a):=by
 obtain ⟨_,_,rfl,⟨s1,n1,c1,rfl,h1⟩,⟨s2,n2,c2,rfl,h2⟩⟩:=hA
 have hl1 : n1 ≤ 1048576:=by have:=h1.1;unfold szA at hn;omega
 have hl2 : n2 ≤ 1048576:=by have:=h2.len;unfold szA iz at hn;omega
 have hl3 : ∀ k,k < n2 → (gr a.nxt k).length ≤ 1048576:=fun k hk=>by
  have:=iy a.nxt (j:=k + 1) (k:=a.nxt.length) (by have:=h2.len;omega)
  unfold szA iz at hn;simp only [dz] at this;omega
 have HL:=Lib.hid hl3
 clear hl3 hn
 go_enter Try.func23,Try.ntmps23
 go_wp2_with (first
  | (go_at_call 24; refine (kH _ _ _ _ _ (((h1.alloc _).alloc _).alloc _) hl1).mono ?_; rintro e w2 ⟨hlk, s3, c3, rfl, ho2, hb2⟩; clear hlk; have hcf := dA hb2; obtain ⟨hcell2, hfr2⟩ := hcf; have hz2 := hb2.size; simp only [World.size_alloc, World.size_setCell, World.size_drew] at hz2; have hz2a : w.heap.size < w2.heap.size := (by omega); have hz2b : w.heap.size + 1 < w2.heap.size := (by omega); have hz2c : w.heap.size + 1 + 1 < w2.heap.size := (by omega))
  | (go_at_call 34; refine (pO _ _ _ _ _ (h2.below (by repeat' (first | (with_reducible exact Below.refl _ _) | (with_reducible assumption) | (with_reducible apply an) | (with_reducible apply Below.alloc) | (with_reducible apply Below.drew) | (with_reducible apply ak) | (with_reducible refine Below.trans ?_ (Below.mono (by assumption) ?_)) | omega | (simp only [World.size_alloc, World.size_setCell, World.size_drew]; omega)))) hl2 HL.out).mono ?_; rintro e w3 ⟨hlk, s4, c4, rfl, ho3, hb3⟩; clear hlk; have hcf3 := dA hb3; obtain ⟨hcell3, hfr3⟩ := hcf3; have hz3 := hb3.size; simp only [World.size_alloc, World.size_setCell, World.size_drew] at hz3; have hz3a : w.heap.size < w3.heap.size := (by omega); have hz3b : w.heap.size + 1 < w3.heap.size := (by omega); have hz3c : w.heap.size + 1 + 1 < w3.heap.size := (by omega)))
 refine bodyPost_ret (v:=.agg #[.slice s3 n1 c3,.slice s4 n2 c4]) (by simp [results,Try.results23,go_sem,hcell3,hfr3,hcell2,hfr2,hz2a,hz2b,hz2c,hz3a,hz3b,hz3c]) rfl ?_
 obtain ⟨vs,ho3⟩:=ho3
 refine ⟨_,_,_,_,_,_,rfl,⟨_,_,vs,rfl,?_,?_,?_⟩,?_⟩
 · exact ho2.final (by repeat' (first|(with_reducible exact bO.refl _ _ _)|(with_reducible apply bO.set)|(with_reducible apply bO.alloc)|(with_reducible apply bO.drew)|(with_reducible apply bO.drewN)|(with_reducible refine bO.below ?_ (by assumption))|omega|(simp only [World.size_alloc,World.size_setCell,World.size_drew];omega))) (by first|omega|(simp only [World.size_alloc,World.size_setCell,World.size_drew];omega))
 · exact ho3.final (by repeat' (first|(with_reducible exact bO.refl _ _ _)|(with_reducible apply bO.set)|(with_reducible apply bO.alloc)|(with_reducible apply bO.drew)|(with_reducible apply bO.drewN)|(with_reducible refine bO.below ?_ (by assumption))|omega|(simp only [World.size_alloc,World.size_setCell,World.size_drew];omega))) (by first|omega|(simp only [World.size_alloc,World.size_setCell,World.size_drew];omega))
 · exact nodup_cons (m:=w2.heap.size) (lo:=0) (hi:=0) (fun g hg=>(ho2.blks g hg).2) (fun g hg=>by have:=(ho3.blks g hg).1;rw [World.size_setCell] at this;exact this) ho3.2.2.2
 · exact (by repeat' (first|(with_reducible exact Below.refl _ _)|(with_reducible assumption)|(with_reducible apply an)|(with_reducible apply Below.alloc)|(with_reducible apply Below.drew)|(with_reducible apply ak)|(with_reducible refine Below.trans ?_ (Below.mono (by assumption) ?_))|omega|(simp only [World.size_alloc,World.size_setCell,World.size_drew];omega)))
set_option maxHeartbeats 1000000 in
theorem jb (v : Value) (g : Pa) (w : World) (hP : IsP w v g) (hn : szP g ≤ 1048576) :
  Calls Try.prog 7 #[v] w (vV w g):=by
 obtain ⟨_,_,_,rfl,⟨s1,n1,c1,rfl,h1⟩,⟨s2,n2,c2,rfl,h2⟩,⟨s3,n3,c3,rfl,h3⟩⟩:=hP
 have hl1 : szA g.ar ≤ 1048576:=by unfold szP at hn;omega
 have hl3 : n3 ≤ 1048576:=by have:=h3.1;unfold szP at hn;omega
 have hA : IsA w (.agg #[.slice s1 n1 c1,.slice s2 n2 c2]) g.ar:=⟨_,_,rfl,h1.is,h2.is⟩
 clear hn
 go_enter Try.func7,Try.ntmps7
 go_wp2_with fail
 refine (rt _ _ _ (hA.below (by repeat' (first|(with_reducible exact Below.refl _ _)|(with_reducible assumption)|(with_reducible apply an)|(with_reducible apply Below.alloc)|(with_reducible apply Below.drew)|(with_reducible apply ak)|(with_reducible refine Below.trans ?_ (Below.mono (by assumption) ?_))|omega|(simp only [World.size_alloc,World.size_setCell,World.size_drew];omega)))) hl1).mono ?_
 rintro e w2 ⟨t1,m1,d1,t2,m2,d2,rfl,ho2,hb2⟩
 have hcf:=dA hb2
 obtain ⟨hcell2,hfr2⟩:=hcf
 have hz2:=hb2.size
 simp only [World.size_alloc,World.size_setCell,World.size_drew] at hz2
 have hz2a : w.heap.size < w2.heap.size:=(by omega)
 have hz2b : w.heap.size + 1 < w2.heap.size:=(by omega)
 have hz2c : w.heap.size + 1 + 1 < w2.heap.size:=(by omega)
 have ho2':=ho2
 obtain ⟨_,_,vs,e,ha,hb,hd⟩:=ho2'
 simp only [Value.agg.injEq,Array.mk.injEq,List.cons.injEq,and_true] at e
 obtain ⟨rfl,rfl⟩:=e
 go_wp2_with fail
 refine (kH _ _ _ _ _ (h3.below (by repeat' (first|(with_reducible exact Below.refl _ _)|(with_reducible assumption)|(with_reducible apply an)|(with_reducible apply Below.alloc)|(with_reducible apply Below.drew)|(with_reducible apply ak)|(with_reducible refine Below.trans ?_ (Below.mono (by assumption) ?_))|omega|(simp only [World.size_alloc,World.size_setCell,World.size_drew];omega)))) hl3).mono ?_
 rintro e w3 ⟨hlk,s4,c4,rfl,ho3,hb3⟩
 clear hlk
 have hcf3:=dA hb3
 obtain ⟨hcell3,hfr3⟩:=hcf3
 have hz3:=hb3.size
 simp only [World.size_alloc,World.size_setCell,World.size_drew] at hz3
 have hz3a : w.heap.size < w3.heap.size:=(by omega)
 have hz3b : w.heap.size + 1 < w3.heap.size:=(by omega)
 have hz3c : w.heap.size + 1 + 1 < w3.heap.size:=(by omega)
 go_wp2_with fail
 refine bodyPost_ret (v:=.agg #[.slice t1 m1 d1,.slice t2 m2 d2,.slice s4 n3 c4]) (by simp [results,Try.results7,go_sem,hcell3,hfr3,hcell2,hfr2,hz2a,hz2b,hz2c,hz3a,hz3b,hz3c]) rfl ?_
 refine ⟨_,_,_,_,_,_,_,_,_,rfl,⟨_,_,_,vs,rfl,?_,?_,?_,?_⟩,?_⟩
 · exact ha.final (by repeat' (first|(with_reducible exact bO.refl _ _ _)|(with_reducible apply bO.set)|(with_reducible apply bO.alloc)|(with_reducible apply bO.drew)|(with_reducible apply bO.drewN)|(with_reducible refine bO.below ?_ (by assumption))|omega|(simp only [World.size_alloc,World.size_setCell,World.size_drew];omega))) (by first|omega|(simp only [World.size_alloc,World.size_setCell,World.size_drew];omega))
 · exact hb.final (by repeat' (first|(with_reducible exact bO.refl _ _ _)|(with_reducible apply bO.set)|(with_reducible apply bO.alloc)|(with_reducible apply bO.drew)|(with_reducible apply bO.drewN)|(with_reducible refine bO.below ?_ (by assumption))|omega|(simp only [World.size_alloc,World.size_setCell,World.size_drew];omega))) (by first|omega|(simp only [World.size_alloc,World.size_setCell,World.size_drew];omega))
 · exact ho3.final (by repeat' (first|(with_reducible exact bO.refl _ _ _)|(with_reducible apply bO.set)|(with_reducible apply bO.alloc)|(with_reducible apply bO.drew)|(with_reducible apply bO.drewN)|(with_reducible refine bO.below ?_ (by assumption))|omega|(simp only [World.size_alloc,World.size_setCell,World.size_drew];omega))) (by first|omega|(simp only [World.size_alloc,World.size_setCell,World.size_drew];omega))
 · have:=lH (m:=w2.heap.size) (u:=.slice s4 n3 c4) (vs:=.slice t1 m1 d1 :: vs) (fun g hg=>by have:=(ho3.blks g hg).1;simp only [World.size_setCell] at this;exact this) (fun g hg=>by
    rcases List.mem_filterMap.1 hg with ⟨u,hu,e⟩
    rcases List.mem_cons.1 hu with rfl|hu
    · exact (ha.blks g e).2
    · exact (hb.blks g (List.mem_filterMap.2 ⟨u,hu,e⟩)).2) hd
   exact this.perm (List.Perm.filterMap _ (List.Perm.swap _ _ _))
 · exact (by repeat' (first|(with_reducible exact Below.refl _ _)|(with_reducible assumption)|(with_reducible apply an)|(with_reducible apply Below.alloc)|(with_reducible apply Below.drew)|(with_reducible apply ak)|(with_reducible refine Below.trans ?_ (Below.mono (by assumption) ?_))|omega|(simp only [World.size_alloc,World.size_setCell,World.size_drew];omega)))
end Go.Proofs.Ytdkkhhfhdijfmaa
namespace Go.Proofs.Ytdkkhhfhdijfmaa
set_option linter.unusedVariables false
set_option linter.unusedSimpArgs false
open Go.RowKit
def Qb (w : World) (b : Bool) (e : Ending) (w' : World) : Prop:=e = .returned (.bool b) ∧ ∃ m,w' = w.drewN m
def Bb (w : World) (b : Bool) (e : Ending) (w' : World) : Prop:=e = .returned (.bool b) ∧ Below w.heap.size w w'
theorem Qb.bb {w : World} {b : Bool} {e : Ending} {w' : World} (h : Qb w b e w') : Bb w b e w':=by
 obtain ⟨h,m,rfl⟩:=h
 exact ⟨h,dl w m⟩
def Qt (w w' : World) : Prop:=∃ m,w' = w.drewN m
theorem Qt.refl (w : World) : Qt w w:=⟨0,rfl⟩
theorem Qt.drewN {w w' : World} (h : Qt w w') (m : Nat) : Qt w (w'.drewN m):=by
 obtain ⟨q,rfl⟩:=h
 exact ⟨q + m,World.drewN_drewN _ _ _⟩
theorem Qt.below {w w' : World} (h : Qt w w') : Below w.heap.size w w':=by
 obtain ⟨q,rfl⟩:=h
 exact dl w q
theorem IsI.drewN {w : World} {v : Value} {xs : List Int} (h : IsI w v xs) (m : Nat) : IsI (w.drewN m) v xs:=h.below (dl w m)
theorem cS.drewN {w : World} {sa : Option Addr} {n c : Nat} {xs : List Int} (h : cS w sa n c xs) (m : Nat) : cS (w.drewN m) sa n c xs:=h.below (dl w m)
theorem Rws.drewN {w : World} {sa : Option Addr} {n c : Nat} {xs : List (List Int)} (h : Rws w sa n c xs) (m : Nat) : Rws (w.drewN m) sa n c xs:=h.below (dl w m)
theorem uu {xs ys : List Int} {n : Nat} (h1 : xs.length = n) (h2 : ys.length = n) (h : ∀ j,j < n → gi xs j = gi ys j) : xs = ys:=pH (by omega) fun k hk=>h k (by omega)
theorem s9 {xs ys : List (List Int)} {n : Nat} (h1 : xs.length = n) (h2 : ys.length = n) (h : ∀ j,j < n → gr xs j = gr ys j) : xs = ys:=pI (by omega) fun k hk=>h k (by omega)
set_option maxHeartbeats 400000 in
theorem cM (sa : Option Addr) (n c : Nat) (xs : List Int) (sb : Option Addr) (m d : Nat) (ys : List Int) (w : World) (hx : cS w sa n c xs) (hy : cS w sb m d ys) :
  Calls Try.prog 9 #[.slice sa n c,.slice sb m d] w (Qb w (tf (xs = ys))):=by
 have hmax:=hx.max
 have hmay:=hy.max
 have HX:=Lib.hid hx.1
 have HY:=Lib.hid hy.1
 by_cases hnm : n = m
 · subst hnm
   go_enter Try.func9,Try.ntmps9
   go_wp2
   go_loopw [5] (fun i wr=>∃ k : Nat,k ≤ n ∧ i = .int .i64 k ∧ (∀ j,j < k → gi xs j = gi ys j) ∧ Qt w wr) (fun i _=>n - (intOf i).toNat)
   case atStart=>exact ⟨0,by omega,rfl,fun j hj=>by omega,Qt.refl w⟩
   case round =>
    obtain ⟨k,hk,rfl,he,hq⟩:=hrel
    have HE:=Lib.hid he
    clear he
    by_cases hlt : k < n
    · obtain ⟨b1,o1,rfl,hb1,hc1⟩:=(hx.below hq.below).get hlt
      obtain ⟨b2,o2,rfl,hb2,hc2⟩:=(hy.below hq.below).get hlt
      have hk1:=hc1 k hlt
      have hk2:=hc2 k hlt
      have i0 : (0 : Int) ≤ (k : Int):=by omega
      have i1 : (k : Int) < (n : Int):=by omega
      clear hc1 hc2
      go_wp2
      go_quiet (fail)
      by_cases heq : gi xs k = gi ys k
      · have HQ:=Lib.hid heq
        have hb : (gi xs k != gi ys k) = false:=by simp [heq]
        clear heq
        go_wp2
        go_roundw
        case rel=>exact ⟨k + 1,by omega,by go_num,fun j hj=>by
         by_cases e : j = k
         · rw [e];exact HQ.out
         · exact HE.out j (by omega),hq.drewN _⟩
        case measure=>simp [intOf];omega
      · have hb : (gi xs k != gi ys k) = true:=by simp [heq]
        go_wp2
        go_ret
        exact ⟨bu (aB (fun e=>heq (by rw [e]))).symm,hq.drewN _⟩
    · go_wp2
      go_ret
      exact ⟨bu (bg (uu HX.out HY.out (fun j hj=>HE.out j (by omega)))).symm,hq⟩
 · go_enter Try.func9,Try.ntmps9
   go_wp2
   go_ret
   exact ⟨bu (aB (fun e=>hnm (by rw [← HX.out,← HY.out,e]))).symm,0,rfl⟩
set_option maxHeartbeats 400000 in
theorem jp (sa : Option Addr) (n c : Nat) (xs : List (List Int)) (sb : Option Addr) (m d : Nat) (ys : List (List Int)) (w : World) (hx : Rws w sa n c xs) (hy : Rws w sb m d ys) :
  Calls Try.prog 38 #[.slice sa n c,.slice sb m d] w (Qb w (tf (xs = ys))):=by
 have hmax:=hx.max
 have hmay:=hy.max
 have HX:=Lib.hid hx.len
 have HY:=Lib.hid hy.len
 by_cases hnm : n = m
 · subst hnm
   go_enter Try.func38,Try.ntmps38
   go_wp2
   go_loopw [5] (fun i wr=>∃ k : Nat,k ≤ n ∧ i = .int .i64 k ∧ (∀ j,j < k → gr xs j = gr ys j) ∧ Qt w wr) (fun i _=>n - (intOf i).toNat)
   case atStart=>exact ⟨0,by omega,rfl,fun j hj=>by omega,Qt.refl w⟩
   case round =>
    obtain ⟨k,hk,rfl,he,hq⟩:=hrel
    have HE:=Lib.hid he
    clear he
    by_cases hlt : k < n
    · obtain ⟨b1,o1,rfl,hb1,A1,L1,C1,hc1⟩:=(hx.below hq.below).get hlt
      obtain ⟨b2,o2,rfl,hb2,A2,L2,C2,hc2⟩:=(hy.below hq.below).get hlt
      obtain ⟨hk1,hi1⟩:=hc1 k hlt
      obtain ⟨hk2,hi2⟩:=hc2 k hlt
      have i0 : (0 : Int) ≤ (k : Int):=by omega
      have i1 : (k : Int) < (n : Int):=by omega
      clear hc1 hc2
      by_cases heq : gr xs k = gr ys k
      · have hcall : ∀ q,Calls Try.prog 9 #[.slice (A1 k) (L1 k) (C1 k),.slice (A2 k) (L2 k) (C2 k)] (wr.drewN q) (Qb (wr.drewN q) true):=fun q=>by
         have:=cM _ _ _ _ _ _ _ _ _ (hi1.drewN q) (hi2.drewN q)
         rwa [bg heq] at this
        have HC:=Lib.hid hcall
        have HQ:=Lib.hid heq
        clear heq hcall
        go_wp2
        go_quiet ((go_at_call 9;exact Calls.quiet_of (HC.out _)))
        go_wp2
        go_roundw
        case rel=>exact ⟨k + 1,by omega,by go_num,fun j hj=>by
         by_cases e : j = k
         · rw [e];exact HQ.out
         · exact HE.out j (by omega),hq.drewN _⟩
        case measure=>simp [intOf];omega
      · have hcall : ∀ q,Calls Try.prog 9 #[.slice (A1 k) (L1 k) (C1 k),.slice (A2 k) (L2 k) (C2 k)] (wr.drewN q) (Qb (wr.drewN q) false):=fun q=>by
         have:=cM _ _ _ _ _ _ _ _ _ (hi1.drewN q) (hi2.drewN q)
         rwa [aB heq] at this
        have HC:=Lib.hid hcall
        have HQ:=Lib.hid heq
        clear heq hcall
        go_wp2
        go_quiet ((go_at_call 9;exact Calls.quiet_of (HC.out _)))
        go_wp2
        go_ret
        exact ⟨bu (aB (fun e=>HQ.out (by rw [e]))).symm,hq.drewN _⟩
    · go_wp2
      go_ret
      exact ⟨bu (bg (s9 HX.out HY.out (fun j hj=>HE.out j (by omega)))).symm,hq⟩
 · go_enter Try.func38,Try.ntmps38
   go_wp2
   go_ret
   exact ⟨bu (aB (fun e=>hnm (by rw [← HX.out,← HY.out,e]))).symm,0,rfl⟩
theorem uv {a b : Ar} (h1 : a.own = b.own) (h2 : a.nxt = b.nxt) : a = b:=by cases a;cases b;simp_all
theorem uw {a b : Pa} (h1 : a.ar = b.ar) (h2 : a.prio = b.prio) : a = b:=by cases a;cases b;simp_all
set_option maxHeartbeats 1000000 in
theorem kI (v u : Value) (a b : Ar) (w : World) (hA : IsA w v a) (hB : IsA w u b) :
  Calls Try.prog 27 #[v,u] w (Bb w (tf (a = b))):=by
 obtain ⟨_,_,rfl,⟨s1,n1,c1,rfl,h1⟩,⟨s2,n2,c2,rfl,h2⟩⟩:=hA
 obtain ⟨_,_,rfl,⟨s3,n3,c3,rfl,h3⟩,⟨s4,n4,c4,rfl,h4⟩⟩:=hB
 by_cases ho : a.own = b.own
 · have k1 : tf (a.own = b.own) = true:=bg ho
   have HO:=Lib.hid ho
   clear ho
   by_cases hn : a.nxt = b.nxt
   · have k2 : tf (a.nxt = b.nxt) = true:=bg hn
     have HN:=Lib.hid hn
     clear hn
     go_enter Try.func27,Try.ntmps27
     go_wp2_with (first
      | (go_at_call 9; refine (cM _ _ _ _ _ _ _ _ _ ((h1.alloc _).alloc _) ((h3.alloc _).alloc _)).mono ?_; rw [k1]; rintro e w2 ⟨rfl, m2, rfl⟩)
      | (go_at_call 38; refine (jp _ _ _ _ _ _ _ _ _ ((h2.below (by repeat' (first | (with_reducible exact Below.refl _ _) | (with_reducible assumption) | (with_reducible apply an) | (with_reducible apply Below.alloc) | (with_reducible apply Below.drew) | (with_reducible apply ak) | (with_reducible refine Below.trans ?_ (Below.mono (by assumption) ?_)) | omega | (simp only [World.size_alloc, World.size_setCell, World.size_drew]; omega))))) ((h4.below (by repeat' (first | (with_reducible exact Below.refl _ _) | (with_reducible assumption) | (with_reducible apply an) | (with_reducible apply Below.alloc) | (with_reducible apply Below.drew) | (with_reducible apply ak) | (with_reducible refine Below.trans ?_ (Below.mono (by assumption) ?_)) | omega | (simp only [World.size_alloc, World.size_setCell, World.size_drew]; omega)))))).mono ?_; rw [k2]; rintro e w2 ⟨rfl, m2, rfl⟩))
     go_ret
     exact ⟨bu (bg (uv HO.out HN.out)).symm,(by repeat' (first|(with_reducible exact Below.refl _ _)|(with_reducible assumption)|(with_reducible apply an)|(with_reducible apply Below.alloc)|(with_reducible apply Below.drew)|(with_reducible apply ak)|(with_reducible refine Below.trans ?_ (Below.mono (by assumption) ?_))|omega|(simp only [World.size_alloc,World.size_setCell,World.size_drew];omega)))⟩
   · have k2 : tf (a.nxt = b.nxt) = false:=aB hn
     have HN:=Lib.hid hn
     clear hn
     go_enter Try.func27,Try.ntmps27
     go_wp2_with (first
      | (go_at_call 9; refine (cM _ _ _ _ _ _ _ _ _ ((h1.alloc _).alloc _) ((h3.alloc _).alloc _)).mono ?_; rw [k1]; rintro e w2 ⟨rfl, m2, rfl⟩)
      | (go_at_call 38; refine (jp _ _ _ _ _ _ _ _ _ ((h2.below (by repeat' (first | (with_reducible exact Below.refl _ _) | (with_reducible assumption) | (with_reducible apply an) | (with_reducible apply Below.alloc) | (with_reducible apply Below.drew) | (with_reducible apply ak) | (with_reducible refine Below.trans ?_ (Below.mono (by assumption) ?_)) | omega | (simp only [World.size_alloc, World.size_setCell, World.size_drew]; omega))))) ((h4.below (by repeat' (first | (with_reducible exact Below.refl _ _) | (with_reducible assumption) | (with_reducible apply an) | (with_reducible apply Below.alloc) | (with_reducible apply Below.drew) | (with_reducible apply ak) | (with_reducible refine Below.trans ?_ (Below.mono (by assumption) ?_)) | omega | (simp only [World.size_alloc, World.size_setCell, World.size_drew]; omega)))))).mono ?_; rw [k2]; rintro e w2 ⟨rfl, m2, rfl⟩))
     go_ret
     exact ⟨bu (aB (fun e=>HN.out (by rw [e]))).symm,(by repeat' (first|(with_reducible exact Below.refl _ _)|(with_reducible assumption)|(with_reducible apply an)|(with_reducible apply Below.alloc)|(with_reducible apply Below.drew)|(with_reducible apply ak)|(with_reducible refine Below.trans ?_ (Below.mono (by assumption) ?_))|omega|(simp only [World.size_alloc,World.size_setCell,World.size_drew];omega)))⟩
 · have k1 : tf (a.own = b.own) = false:=aB ho
   have HO:=Lib.hid ho
   clear ho
   go_enter Try.func27,Try.ntmps27
   go_wp2_with (first
    | (go_at_call 9; refine (cM _ _ _ _ _ _ _ _ _ ((h1.alloc _).alloc _) ((h3.alloc _).alloc _)).mono ?_; rw [k1]; rintro e w2 ⟨rfl, m2, rfl⟩)
    | (go_at_call 38; refine (jp _ _ _ _ _ _ _ _ _ ((h2.below (by repeat' (first | (with_reducible exact Below.refl _ _) | (with_reducible assumption) | (with_reducible apply an) | (with_reducible apply Below.alloc) | (with_reducible apply Below.drew) | (with_reducible apply ak) | (with_reducible refine Below.trans ?_ (Below.mono (by assumption) ?_)) | omega | (simp only [World.size_alloc, World.size_setCell, World.size_drew]; omega))))) ((h4.below (by repeat' (first | (with_reducible exact Below.refl _ _) | (with_reducible assumption) | (with_reducible apply an) | (with_reducible apply Below.alloc) | (with_reducible apply Below.drew) | (with_reducible apply ak) | (with_reducible refine Below.trans ?_ (Below.mono (by assumption) ?_)) | omega | (simp only [World.size_alloc, World.size_setCell, World.size_drew]; omega)))))).mono ?_; rw [k2]; rintro e w2 ⟨rfl, m2, rfl⟩))
   go_ret
   exact ⟨bu (aB (fun e=>HO.out (by rw [e]))).symm,(by repeat' (first|(with_reducible exact Below.refl _ _)|(with_reducible assumption)|(with_reducible apply an)|(with_reducible apply Below.alloc)|(with_reducible apply Below.drew)|(with_reducible apply ak)|(with_reducible refine Below.trans ?_ (Below.mono (by assumption) ?_))|omega|(simp only [World.size_alloc,World.size_setCell,World.size_drew];omega)))⟩
set_option maxHeartbeats 1000000 in
theorem ru (v u : Value) (a b : Pa) (w : World) (hA : IsP w v a) (hB : IsP w u b) :
  Calls Try.prog 10 #[v,u] w (Bb w (tf (a = b))):=by
 obtain ⟨_,_,_,rfl,⟨s1,n1,c1,rfl,h1⟩,⟨s2,n2,c2,rfl,h2⟩,⟨s5,n5,c5,rfl,h5⟩⟩:=hA
 obtain ⟨_,_,_,rfl,⟨s3,n3,c3,rfl,h3⟩,⟨s4,n4,c4,rfl,h4⟩,⟨s6,n6,c6,rfl,h6⟩⟩:=hB
 have hX : IsA w (.agg #[.slice s1 n1 c1,.slice s2 n2 c2]) a.ar:=⟨_,_,rfl,h1.is,h2.is⟩
 have hY : IsA w (.agg #[.slice s3 n3 c3,.slice s4 n4 c4]) b.ar:=⟨_,_,rfl,h3.is,h4.is⟩
 by_cases ho : a.ar = b.ar
 · have k1 : tf (a.ar = b.ar) = true:=bg ho
   have HO:=Lib.hid ho
   clear ho
   by_cases hn : a.prio = b.prio
   · have k2 : tf (a.prio = b.prio) = true:=bg hn
     have HN:=Lib.hid hn
     clear hn
     go_enter Try.func10,Try.ntmps10
     go_wp2_with (first
      | (go_at_call 27; refine (kI _ _ _ _ _ (hX.below (by repeat' (first | (with_reducible exact Below.refl _ _) | (with_reducible assumption) | (with_reducible apply an) | (with_reducible apply Below.alloc) | (with_reducible apply Below.drew) | (with_reducible apply ak) | (with_reducible refine Below.trans ?_ (Below.mono (by assumption) ?_)) | omega | (simp only [World.size_alloc, World.size_setCell, World.size_drew]; omega)))) (hY.below (by repeat' (first | (with_reducible exact Below.refl _ _) | (with_reducible assumption) | (with_reducible apply an) | (with_reducible apply Below.alloc) | (with_reducible apply Below.drew) | (with_reducible apply ak) | (with_reducible refine Below.trans ?_ (Below.mono (by assumption) ?_)) | omega | (simp only [World.size_alloc, World.size_setCell, World.size_drew]; omega))))).mono ?_; rw [k1]; rintro e w2 ⟨rfl, hb2⟩; have hcf := dA hb2; obtain ⟨hcell2, hfr2⟩ := hcf)
      | (go_at_call 9; refine (cM _ _ _ _ _ _ _ _ _ ((h5.below (by repeat' (first | (with_reducible exact Below.refl _ _) | (with_reducible assumption) | (with_reducible apply an) | (with_reducible apply Below.alloc) | (with_reducible apply Below.drew) | (with_reducible apply ak) | (with_reducible refine Below.trans ?_ (Below.mono (by assumption) ?_)) | omega | (simp only [World.size_alloc, World.size_setCell, World.size_drew]; omega))))) ((h6.below (by repeat' (first | (with_reducible exact Below.refl _ _) | (with_reducible assumption) | (with_reducible apply an) | (with_reducible apply Below.alloc) | (with_reducible apply Below.drew) | (with_reducible apply ak) | (with_reducible refine Below.trans ?_ (Below.mono (by assumption) ?_)) | omega | (simp only [World.size_alloc, World.size_setCell, World.size_drew]; omega)))))).mono ?_; rw [k2]; rintro e w3 ⟨rfl, m3, rfl⟩))
     go_ret
     exact ⟨bu (bg (uw HO.out HN.out)).symm,(by repeat' (first|(with_reducible exact Below.refl _ _)|(with_reducible assumption)|(with_reducible apply an)|(with_reducible apply Below.alloc)|(with_reducible apply Below.drew)|(with_reducible apply ak)|(with_reducible refine Below.trans ?_ (Below.mono (by assumption) ?_))|omega|(simp only [World.size_alloc,World.size_setCell,World.size_drew];omega)))⟩
   · have k2 : tf (a.prio = b.prio) = false:=aB hn
     have HN:=Lib.hid hn
     clear hn
     go_enter Try.func10,Try.ntmps10
     go_wp2_with (first
      | (go_at_call 27; refine (kI _ _ _ _ _ (hX.below (by repeat' (first | (with_reducible exact Below.refl _ _) | (with_reducible assumption) | (with_reducible apply an) | (with_reducible apply Below.alloc) | (with_reducible apply Below.drew) | (with_reducible apply ak) | (with_reducible refine Below.trans ?_ (Below.mono (by assumption) ?_)) | omega | (simp only [World.size_alloc, World.size_setCell, World.size_drew]; omega)))) (hY.below (by repeat' (first | (with_reducible exact Below.refl _ _) | (with_reducible assumption) | (with_reducible apply an) | (with_reducible apply Below.alloc) | (with_reducible apply Below.drew) | (with_reducible apply ak) | (with_reducible refine Below.trans ?_ (Below.mono (by assumption) ?_)) | omega | (simp only [World.size_alloc, World.size_setCell, World.size_drew]; omega))))).mono ?_; rw [k1]; rintro e w2 ⟨rfl, hb2⟩; have hcf := dA hb2; obtain ⟨hcell2, hfr2⟩ := hcf)
      | (go_at_call 9; refine (cM _ _ _ _ _ _ _ _ _ ((h5.below (by repeat' (first | (with_reducible exact Below.refl _ _) | (with_reducible assumption) | (with_reducible apply an) | (with_reducible apply Below.alloc) | (with_reducible apply Below.drew) | (with_reducible apply ak) | (with_reducible refine Below.trans ?_ (Below.mono (by assumption) ?_)) | omega | (simp only [World.size_alloc, World.size_setCell, World.size_drew]; omega))))) ((h6.below (by repeat' (first | (with_reducible exact Below.refl _ _) | (with_reducible assumption) | (with_reducible apply an) | (with_reducible apply Below.alloc) | (with_reducible apply Below.drew) | (with_reducible apply ak) | (with_reducible refine Below.trans ?_ (Below.mono (by assumption) ?_)) | omega | (simp only [World.size_alloc, World.size_setCell, World.size_drew]; omega)))))).mono ?_; rw [k2]; rintro e w3 ⟨rfl, m3, rfl⟩))
     go_ret
     exact ⟨bu (aB (fun e=>HN.out (by rw [e]))).symm,(by repeat' (first|(with_reducible exact Below.refl _ _)|(with_reducible assumption)|(with_reducible apply an)|(with_reducible apply Below.alloc)|(with_reducible apply Below.drew)|(with_reducible apply ak)|(with_reducible refine Below.trans ?_ (Below.mono (by assumption) ?_))|omega|(simp only [World.size_alloc,World.size_setCell,World.size_drew];omega)))⟩
 · have k1 : tf (a.ar = b.ar) = false:=aB ho
   have HO:=Lib.hid ho
   clear ho
   go_enter Try.func10,Try.ntmps10
   go_wp2_with (first
    | (go_at_call 27; refine (kI _ _ _ _ _ (hX.below (by repeat' (first | (with_reducible exact Below.refl _ _) | (with_reducible assumption) | (with_reducible apply an) | (with_reducible apply Below.alloc) | (with_reducible apply Below.drew) | (with_reducible apply ak) | (with_reducible refine Below.trans ?_ (Below.mono (by assumption) ?_)) | omega | (simp only [World.size_alloc, World.size_setCell, World.size_drew]; omega)))) (hY.below (by repeat' (first | (with_reducible exact Below.refl _ _) | (with_reducible assumption) | (with_reducible apply an) | (with_reducible apply Below.alloc) | (with_reducible apply Below.drew) | (with_reducible apply ak) | (with_reducible refine Below.trans ?_ (Below.mono (by assumption) ?_)) | omega | (simp only [World.size_alloc, World.size_setCell, World.size_drew]; omega))))).mono ?_; rw [k1]; rintro e w2 ⟨rfl, hb2⟩; have hcf := dA hb2; obtain ⟨hcell2, hfr2⟩ := hcf)
    | (go_at_call 9; refine (cM _ _ _ _ _ _ _ _ _ ((h5.below (by repeat' (first | (with_reducible exact Below.refl _ _) | (with_reducible assumption) | (with_reducible apply an) | (with_reducible apply Below.alloc) | (with_reducible apply Below.drew) | (with_reducible apply ak) | (with_reducible refine Below.trans ?_ (Below.mono (by assumption) ?_)) | omega | (simp only [World.size_alloc, World.size_setCell, World.size_drew]; omega))))) ((h6.below (by repeat' (first | (with_reducible exact Below.refl _ _) | (with_reducible assumption) | (with_reducible apply an) | (with_reducible apply Below.alloc) | (with_reducible apply Below.drew) | (with_reducible apply ak) | (with_reducible refine Below.trans ?_ (Below.mono (by assumption) ?_)) | omega | (simp only [World.size_alloc, World.size_setCell, World.size_drew]; omega)))))).mono ?_; rw [k2]; rintro e w3 ⟨rfl, m3, rfl⟩))
   go_ret
   exact ⟨bu (aB (fun e=>HO.out (by rw [e]))).symm,(by repeat' (first|(with_reducible exact Below.refl _ _)|(with_reducible assumption)|(with_reducible apply an)|(with_reducible apply Below.alloc)|(with_reducible apply Below.drew)|(with_reducible apply ak)|(with_reducible refine Below.trans ?_ (Below.mono (by assumption) ?_))|omega|(simp only [World.size_alloc,World.size_setCell,World.size_drew];omega)))⟩
end Go.Proofs.Ytdkkhhfhdijfmaa
