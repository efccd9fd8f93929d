/-
  Words on memory: when a slice value reads as a list of numbers, as a list of lists; what a call owns; how these facts are kept.
-/
import Derived.Test.YthjamlponejffaaRows
import Derived.WalkKit
import Derived.ProofKit
import Derived.OpenShut
import Derived.Deep.QuietTactic
import Derived.BigQuiet
import Derived.Lib.Hide
import Derived.StillTailTactics
import Derived.Deep.RegionHeld3
import Derived.Deep.DrawnRows
namespace Go.Proofs.Ythjamlponejffaa
set_option linter.unusedVariables false
set_option linter.unusedSimpArgs false
open Go.RowKit
noncomputable def tf (p : Prop) : Bool:=@decide p (Classical.propDecidable p)
theorem bh {p : Prop} (h : p) : tf p = true:=by unfold tf;simp [h]
theorem aH {p : Prop} (h : ¬ p) : tf p = false:=by unfold tf;simp [h]
theorem mC {p : Prop} : tf p = true ↔ p:=by unfold tf;simp
theorem om {p : Prop} : tf p = false ↔ ¬ p:=by unfold tf;simp
theorem ew {p q : Prop} (h : p ↔ q) : tf p = tf q:=by rw [propext h]
def gi (xs : List Int) (k : Nat) : Int:=xs.getD k 0
def gr (xss : List (List Int)) (k : Nat) : List Int:=xss.getD k []
def gb (bs : List Bool) (k : Nat) : Bool:=bs.getD k false
theorem sj {xs : List Int} {k : Nat} (h : k < xs.length) : xs[k]? = some (gi xs k):=by simp [gi,List.getD,h]
theorem dR {xs : List Int} {k : Nat} (h : k < xs.length) : gi xs k = xs[k]:=by simp [gi,List.getD,h]
theorem lE {xs : List (List Int)} {k : Nat} (h : k < xs.length) : gr xs k = xs[k]:=by simp [gr,List.getD,h]
theorem oq {xs : List Bool} {k : Nat} (h : k < xs.length) : gb xs k = xs[k]:=by simp [gb,List.getD,h]
theorem ri {xs : List Int} {k : Nat} (h : xs.length ≤ k) : gi xs k = 0:=by simp [gi,List.getD,h]
theorem rj {xs : List (List Int)} {k : Nat} (h : xs.length ≤ k) : gr xs k = []:=by simp [gr,List.getD,h]
theorem dz {xs : List Int} {k : Nat} (h : k < xs.length) : gi xs k ∈ xs:=by rw [dR h];exact List.getElem_mem h
theorem dS {xs : List Int} {x : Int} (h : x ∈ xs) : ∃ k,k < xs.length ∧ gi xs k = x:=by
 obtain ⟨k,hk,e⟩:=List.getElem_of_mem h
 exact ⟨k,hk,by rw [dR hk,e]⟩
theorem ot {xs ys : List Int} (hl : xs.length = ys.length) (h : ∀ k,k < xs.length → gi xs k = gi ys k) : xs = ys :=
 List.ext_getElem hl fun k h1 h2=>by have:=h k h1;rwa [dR h1,dR h2] at this
theorem rk {xs ys : List Bool} (hl : xs.length = ys.length) (h : ∀ k,k < xs.length → gb xs k = gb ys k) : xs = ys :=
 List.ext_getElem hl fun k h1 h2=>by have:=h k h1;rwa [oq h1,oq h2] at this
theorem bu {a b : Bool} (h : a = b) : Ending.returned (.bool a) = .returned (.bool b):=by rw [h]
theorem jL {k : IntKind} {a b : Int} (h : a = b) : Ending.returned (.int k a) = .returned (.int k b):=by rw [h]
structure Cells (w : World) (sa : Option Addr) (n c : Nat) (vs : Nat → Value) : Prop where
 cap : n ≤ c
 max : c ≤ 9223372036854775807
 nil : sa = none → n = 0 ∧ c = 0
 spot : ∀ ad,sa = some ad → 0 < n → ad.spot = none
 cell : ∀ ad,sa = some ad → ∀ k,k < n → w.cell? ⟨ad.block,ad.off + k,none⟩ = some (vs k)
theorem Cells.get {w : World} {sa : Option Addr} {n c : Nat} {vs : Nat → Value} (h : Cells w sa n c vs) {k : Nat} (hk : k < n) :
  ∃ b o,sa = some ⟨b,o,none⟩ ∧ b < w.heap.size ∧ ∀ k,k < n → w.cell? ⟨b,o + k,none⟩ = some (vs k):=by
 cases sa with
 | none => have := (h.nil rfl).1; omega
 | some ad =>
   have h1:=h.spot ad rfl (by omega)
   have h3:=h.cell ad rfl
   obtain ⟨b,o,s⟩:=ad
   simp only at h1 h3
   subst h1
   exact ⟨b,o,rfl,World.block_lt_of_cell? w _ (h3 k hk),h3⟩
theorem Cells.below {w w' : World} {sa : Option Addr} {n c : Nat} {vs : Nat → Value} (h : Cells w sa n c vs) (hb : Below w.heap.size w w') : Cells w' sa n c vs :=
 ⟨h.cap,h.max,h.nil,h.spot,fun ad e k hk=>by
  have hc:=h.cell ad e k hk
  rw [hb.cell (World.block_lt_of_cell? w _ hc)];exact hc⟩
def cK (w : World) (sa : Option Addr) (n c : Nat) (xs : List Int) : Prop:=xs.length = n ∧ Cells w sa n c fun k=>.int .i64 (gi xs k)
def dC (w : World) (sa : Option Addr) (n c : Nat) (xs : List Bool) : Prop:=xs.length = n ∧ Cells w sa n c fun k=>.bool (gb xs k)
structure Rws (w : World) (sa : Option Addr) (n c : Nat) (xss : List (List Int)) : Prop where
 len : xss.length = n
 cells : ∃ (A : Nat → Option Addr) (L C : Nat → Nat),Cells w sa n c (fun k=>.slice (A k) (L k) (C k)) ∧ ∀ k,k < n → cK w (A k) (L k) (C k) (gr xss k)
theorem cK.below {w w' : World} {sa : Option Addr} {n c : Nat} {xs : List Int} (h : cK w sa n c xs) (hb : Below w.heap.size w w') : cK w' sa n c xs:=⟨h.1,h.2.below hb⟩
theorem dC.below {w w' : World} {sa : Option Addr} {n c : Nat} {xs : List Bool} (h : dC w sa n c xs) (hb : Below w.heap.size w w') : dC w' sa n c xs:=⟨h.1,h.2.below hb⟩
theorem Rws.below {w w' : World} {sa : Option Addr} {n c : Nat} {xss : List (List Int)} (h : Rws w sa n c xss) (hb : Below w.heap.size w w') : Rws w' sa n c xss :=
 ⟨h.len,let ⟨A,L,C,h1,h2⟩:=h.cells;⟨A,L,C,h1.below hb,fun k hk=>(h2 k hk).below hb⟩⟩
theorem aD (w : World) (o : Obj) : Below w.heap.size w (w.alloc o):=(Below.refl _ _).alloc (Nat.le_refl _) o
theorem da (w : World) (m : Nat) : Below w.heap.size w (w.drewN m):=⟨rfl,rfl,rfl,Nat.le_refl _,fun _ _=>rfl⟩
theorem al {B : Nat} {a w : World} (h : Below B a w) (m : Nat) : Below B a (w.drewN m):=⟨h.os,h.tape,h.output,h.size,h.block⟩
theorem bJ (w : World) : Below w.heap.size w w.drew:=(Below.refl _ _).drew
theorem cK.alloc {w : World} {sa : Option Addr} {n c : Nat} {xs : List Int} (h : cK w sa n c xs) (o : Obj) : cK (w.alloc o) sa n c xs:=h.below (aD w o)
theorem cK.drew {w : World} {sa : Option Addr} {n c : Nat} {xs : List Int} (h : cK w sa n c xs) : cK w.drew sa n c xs:=h.below (bJ w)
theorem dC.alloc {w : World} {sa : Option Addr} {n c : Nat} {xs : List Bool} (h : dC w sa n c xs) (o : Obj) : dC (w.alloc o) sa n c xs:=h.below (aD w o)
theorem dC.drew {w : World} {sa : Option Addr} {n c : Nat} {xs : List Bool} (h : dC w sa n c xs) : dC w.drew sa n c xs:=h.below (bJ w)
theorem Rws.alloc {w : World} {sa : Option Addr} {n c : Nat} {xs : List (List Int)} (h : Rws w sa n c xs) (o : Obj) : Rws (w.alloc o) sa n c xs:=h.below (aD w o)
theorem Rws.drew {w : World} {sa : Option Addr} {n c : Nat} {xs : List (List Int)} (h : Rws w sa n c xs) : Rws w.drew sa n c xs:=h.below (bJ w)
theorem cK.max {w : World} {sa : Option Addr} {n c : Nat} {xs : List Int} (h : cK w sa n c xs) : n ≤ 9223372036854775807:=Nat.le_trans h.2.cap h.2.max
theorem dC.max {w : World} {sa : Option Addr} {n c : Nat} {xs : List Bool} (h : dC w sa n c xs) : n ≤ 9223372036854775807:=Nat.le_trans h.2.cap h.2.max
theorem Rws.max {w : World} {sa : Option Addr} {n c : Nat} {xs : List (List Int)} (h : Rws w sa n c xs) : n ≤ 9223372036854775807:=by
 obtain ⟨A,L,C,h1,_⟩:=h.cells
 exact Nat.le_trans h1.cap h1.max
theorem cK.get {w : World} {sa : Option Addr} {n c : Nat} {xs : List Int} (h : cK w sa n c xs) {k : Nat} (hk : k < n) :
  ∃ b o,sa = some ⟨b,o,none⟩ ∧ b < w.heap.size ∧ ∀ k,k < n → w.cell? ⟨b,o + k,none⟩ = some (.int .i64 (gi xs k)):=h.2.get hk
theorem dC.get {w : World} {sa : Option Addr} {n c : Nat} {xs : List Bool} (h : dC w sa n c xs) {k : Nat} (hk : k < n) :
  ∃ b o,sa = some ⟨b,o,none⟩ ∧ b < w.heap.size ∧ ∀ k,k < n → w.cell? ⟨b,o + k,none⟩ = some (.bool (gb xs k)):=h.2.get hk
theorem Rws.get {w : World} {sa : Option Addr} {n c : Nat} {xss : List (List Int)} (h : Rws w sa n c xss) {k : Nat} (hk : k < n) :
  ∃ b o,sa = some ⟨b,o,none⟩ ∧ b < w.heap.size ∧ ∃ (A : Nat → Option Addr) (L C : Nat → Nat),∀ k,k < n → w.cell? ⟨b,o + k,none⟩ = some (.slice (A k) (L k) (C k)) ∧ cK w (A k) (L k) (C k) (gr xss k):=by
 obtain ⟨A,L,C,h1,h2⟩:=h.cells
 obtain ⟨b,o,e,hb,hc⟩:=h1.get hk
 exact ⟨b,o,e,hb,A,L,C,fun k hk=>⟨hc k hk,h2 k hk⟩⟩
theorem ne (w : World) (vs : Nat → Value) : Cells w none 0 0 vs:=⟨Nat.le_refl _,by omega,fun _=>⟨rfl,rfl⟩,fun _ h _=>(by cases h),fun _ h=>(by cases h)⟩
def IsI (w : World) (v : Value) (xs : List Int) : Prop:=∃ sa n c,v = .slice sa n c ∧ cK w sa n c xs
def IsB (w : World) (v : Value) (xs : List Bool) : Prop:=∃ sa n c,v = .slice sa n c ∧ dC w sa n c xs
def dT (w : World) (v : Value) (xss : List (List Int)) : Prop:=∃ sa n c,v = .slice sa n c ∧ Rws w sa n c xss
theorem IsI.below {w w' : World} {v : Value} {xs : List Int} (h : IsI w v xs) (hb : Below w.heap.size w w') : IsI w' v xs:=let ⟨sa,n,c,e,h⟩:=h;⟨sa,n,c,e,h.below hb⟩
theorem IsB.below {w w' : World} {v : Value} {xs : List Bool} (h : IsB w v xs) (hb : Below w.heap.size w w') : IsB w' v xs:=let ⟨sa,n,c,e,h⟩:=h;⟨sa,n,c,e,h.below hb⟩
theorem dT.below {w w' : World} {v : Value} {xs : List (List Int)} (h : dT w v xs) (hb : Below w.heap.size w w') : dT w' v xs:=let ⟨sa,n,c,e,h⟩:=h;⟨sa,n,c,e,h.below hb⟩
theorem cK.is {w : World} {sa : Option Addr} {n c : Nat} {xs : List Int} (h : cK w sa n c xs) : IsI w (.slice sa n c) xs:=⟨sa,n,c,rfl,h⟩
theorem dC.is {w : World} {sa : Option Addr} {n c : Nat} {xs : List Bool} (h : dC w sa n c xs) : IsB w (.slice sa n c) xs:=⟨sa,n,c,rfl,h⟩
theorem Rws.is {w : World} {sa : Option Addr} {n c : Nat} {xs : List (List Int)} (h : Rws w sa n c xs) : dT w (.slice sa n c) xs:=⟨sa,n,c,rfl,h⟩
theorem IsI.alloc {w : World} {v : Value} {xs : List Int} (h : IsI w v xs) (o : Obj) : IsI (w.alloc o) v xs:=h.below (aD w o)
theorem IsI.drew {w : World} {v : Value} {xs : List Int} (h : IsI w v xs) : IsI w.drew v xs:=h.below (bJ w)
theorem IsB.alloc {w : World} {v : Value} {xs : List Bool} (h : IsB w v xs) (o : Obj) : IsB (w.alloc o) v xs:=h.below (aD w o)
theorem IsB.drew {w : World} {v : Value} {xs : List Bool} (h : IsB w v xs) : IsB w.drew v xs:=h.below (bJ w)
theorem dT.alloc {w : World} {v : Value} {xs : List (List Int)} (h : dT w v xs) (o : Obj) : dT (w.alloc o) v xs:=h.below (aD w o)
theorem dT.drew {w : World} {v : Value} {xs : List (List Int)} (h : dT w v xs) : dT w.drew v xs:=h.below (bJ w)
structure Ar where
 own : List Int
 nxt : List (List Int)
structure Pa where
 ar : Ar
 prio : List Int
def IsA (w : World) (v : Value) (a : Ar) : Prop:=∃ vo vn,v = .agg #[vo,vn] ∧ IsI w vo a.own ∧ dT w vn a.nxt
def IsP (w : World) (v : Value) (g : Pa) : Prop:=∃ vo vn vp,v = .agg #[vo,vn,vp] ∧ IsI w vo g.ar.own ∧ dT w vn g.ar.nxt ∧ IsI w vp g.prio
theorem IsA.below {w w' : World} {v : Value} {a : Ar} (h : IsA w v a) (hb : Below w.heap.size w w') : IsA w' v a:=let ⟨x,y,e,h1,h2⟩:=h;⟨x,y,e,h1.below hb,h2.below hb⟩
theorem IsP.below {w w' : World} {v : Value} {a : Pa} (h : IsP w v a) (hb : Below w.heap.size w w') : IsP w' v a:=let ⟨x,y,z,e,h1,h2,h3⟩:=h;⟨x,y,z,e,h1.below hb,h2.below hb,h3.below hb⟩
theorem IsA.alloc {w : World} {v : Value} {a : Ar} (h : IsA w v a) (o : Obj) : IsA (w.alloc o) v a:=h.below (aD w o)
theorem IsA.drew {w : World} {v : Value} {a : Ar} (h : IsA w v a) : IsA w.drew v a:=h.below (bJ w)
theorem IsP.alloc {w : World} {v : Value} {a : Pa} (h : IsP w v a) (o : Obj) : IsP (w.alloc o) v a:=h.below (aD w o)
theorem IsP.drew {w : World} {v : Value} {a : Pa} (h : IsP w v a) : IsP w.drew v a:=h.below (bJ w)
theorem IsP.arena {w : World} {vo vn vp : Value} {g : Pa} (h : IsP w (.agg #[vo,vn,vp]) g) : IsA w (.agg #[vo,vn]) g.ar:=by
 obtain ⟨a,b,c,e,h1,h2,h3⟩:=h
 simp only [Value.agg.injEq,Array.mk.injEq,List.cons.injEq,and_true] at e
 obtain ⟨rfl,rfl,rfl⟩:=e
 exact ⟨_,_,rfl,h1,h2⟩
theorem ik {W w1 : World} (hb : Below W.heap.size W w1) : (∀ b o,b < W.heap.size → w1.cell? ⟨b,o,none⟩ = W.cell? ⟨b,o,none⟩) ∧ (∀ b o,b < W.heap.size → w1.frozen? ⟨b,o,none⟩ = W.frozen? ⟨b,o,none⟩) :=
 ⟨fun b o h=>hb.cell (p:=⟨b,o,none⟩) h,fun b o h=>hb.frozen (p:=⟨b,o,none⟩) h⟩
end Go.Proofs.Ythjamlponejffaa
namespace Go.Proofs.Ythjamlponejffaa
set_option linter.unusedVariables false
set_option linter.unusedSimpArgs false
open Go.RowKit
theorem Try.infoI : (Try.prog.info? 2).map (fun i=>(i.zero,i.size,i.bytes)) = some (some (.int .i64 0),1,8):=by kernel_rfl
theorem Try.infoS : (Try.prog.info? 22).map (fun i=>(i.zero,i.size,i.bytes)) = some (some (.slice none 0 0),1,24):=by kernel_rfl
abbrev blk (v : Value) : Option Nat:=v.ownBlock
def aE (e : TypeId) (lo hi : Nat) (w : World) (v : Value) (vs : List Value) : Prop :=
 (v = .slice none 0 0 ∧ vs = []) ∨
 ∃ g cap cur,v = .slice (some ⟨g,0,none⟩) vs.length cap ∧ lo ≤ g ∧ g < hi ∧ w.heap[g]? = some (.cells cur e (0,0)) ∧ vs.length ≤ cap ∧ cap ≤ maxLen ∧ cur.size = cap ∧ cur.toList.take vs.length = vs
theorem aE.row {e : TypeId} {lo hi : Nat} {w : World} {v : Value} {vs : List Value} (h : aE e lo hi w v vs) : w.ownsRow lo e 1 v vs.length vs:=by
 refine ⟨by omega,?_⟩
 rcases h with ⟨rfl,rfl⟩|⟨g,cap,cur,rfl,h1,_,h2,h3,h4,h5,h6⟩
 · exact .inl ⟨rfl,rfl⟩
 · exact .inr ⟨g,cap,cur,rfl,h1,h2,h3,h4,by omega,by rw [Nat.mul_one];exact h6⟩
theorem d7 {e : TypeId} {lo n : Nat} {w : World} {v : Value} {vs : List Value} (h : w.ownsRow lo e 1 v n vs) : aE e lo w.heap.size w v vs:=by
 obtain ⟨hl,h⟩:=h
 have hl' : vs.length = n:=by omega
 subst hl'
 rcases h with ⟨rfl,h0⟩|⟨g,cap,cur,rfl,h1,h2,h3,h4,h5,h6⟩
 · exact .inl ⟨rfl,List.eq_nil_of_length_eq_zero h0⟩
 · exact .inr ⟨g,cap,cur,rfl,h1,(Array.getElem?_eq_some_iff.1 h2).1,h2,h3,h4,by omega,by rw [Nat.mul_one] at h6;exact h6⟩
theorem aE.keep {e : TypeId} {lo hi : Nat} {w w' : World} {v : Value} {vs : List Value} (h : aE e lo hi w v vs) (hk : ∀ g,blk v = some g → w'.heap[g]? = w.heap[g]?) : aE e lo hi w' v vs:=by
 rcases h with h|⟨g,cap,cur,rfl,h1,h1',h2,h3⟩
 · exact .inl h
 · exact .inr ⟨g,cap,cur,rfl,h1,h1',(hk g rfl).trans h2,h3⟩
theorem aE.lt {e : TypeId} {lo hi : Nat} {w : World} {v : Value} {vs : List Value} (h : aE e lo hi w v vs) : ∀ g,blk v = some g → lo ≤ g ∧ g < hi ∧ g < w.heap.size:=by
 intro g hg
 rcases h with ⟨rfl,_⟩|⟨g',cap,cur,rfl,h1,h1',h2,h3⟩
 · simp [blk,Value.ownBlock] at hg
 · simp [blk,Value.ownBlock] at hg
   subst hg
   exact ⟨h1,h1',(Array.getElem?_eq_some_iff.1 h2).1⟩
theorem aE.below {e : TypeId} {lo hi : Nat} {w w' : World} {v : Value} {vs : List Value} (h : aE e lo hi w v vs) (hb : Below w.heap.size w w') : aE e lo hi w' v vs :=
 h.keep fun g hg=>hb.block g (h.lt g hg).2.2
theorem aE.mono {e : TypeId} {lo hi lo' hi' : Nat} {w : World} {v : Value} {vs : List Value} (h : aE e lo hi w v vs) (hl : lo' ≤ lo) (hh : hi ≤ hi') : aE e lo' hi' w v vs:=by
 rcases h with h|⟨g,cap,cur,rfl,h1,h1',h2,h3⟩
 · exact .inl h
 · exact .inr ⟨g,cap,cur,rfl,by omega,by omega,h2,h3⟩
theorem aE.top {e : TypeId} {lo hi : Nat} {w : World} {v : Value} {vs : List Value} (h : aE e lo hi w v vs) : aE e lo w.heap.size w v vs:=by
 rcases h with h|⟨g,cap,cur,rfl,h1,h1',h2,h3⟩
 · exact .inl h
 · exact .inr ⟨g,cap,cur,rfl,h1,(Array.getElem?_eq_some_iff.1 h2).1,h2,h3⟩
theorem aE.alloc {e : TypeId} {lo hi : Nat} {w : World} {v : Value} {vs : List Value} (h : aE e lo hi w v vs) (o : Obj) : aE e lo hi (w.alloc o) v vs:=h.below (aD w o)
theorem aE.drew {e : TypeId} {lo hi : Nat} {w : World} {v : Value} {vs : List Value} (h : aE e lo hi w v vs) : aE e lo hi w.drew v vs:=h.below (bJ w)
theorem ou (e : TypeId) (lo hi : Nat) (w : World) : aE e lo hi w (.slice none 0 0) []:=.inl ⟨rfl,rfl⟩
theorem aE.form {e : TypeId} {lo hi : Nat} {w : World} {v : Value} {vs : List Value} (h : aE e lo hi w v vs) (d : Value) : ∃ sa c,v = .slice sa vs.length c ∧ Cells w sa vs.length c fun k=>vs.getD k d:=by
 rcases h with ⟨rfl,rfl⟩|⟨g,cap,cur,rfl,h1,h1',h2,h3,h4,h5,h6⟩
 · exact ⟨none,0,rfl,ne w _⟩
 · unfold maxLen at h4
   refine ⟨some ⟨g,0,none⟩,cap,rfl,⟨h3,by omega,fun h=>(by cases h),fun ad h _=>(by cases h;rfl),fun ad h k hk=>?_⟩⟩
   cases h
   rw [cell_of_row w g _ cur e (0,0) h2]
   simp only [Nat.zero_add]
   have hk' : cur.toList[k]? = vs[k]?:=by
    have:=congrArg (·[k]?) h6
    simpa [List.getElem?_take,hk] using this
   rw [← Array.getElem?_toList,hk',List.getD_eq_getElem?_getD,List.getElem?_eq_getElem hk]
   rfl
theorem aE.at {e : TypeId} {lo hi : Nat} {w : World} {v : Value} {vs : List Value} (h : aE e lo hi w v vs) (d : Value) {k : Nat} (hk : k < vs.length) :
  ∃ g cap,v = .slice (some ⟨g,0,none⟩) vs.length cap ∧ lo ≤ g ∧ g < hi ∧ g < w.heap.size ∧ (∀ k,k < vs.length → w.cell? ⟨g,k,none⟩ = some (vs.getD k d)) ∧ ∀ k,w.frozen? ⟨g,k,none⟩ = false:=by
 obtain ⟨sa,c,hv,hc⟩:=h.form d
 rcases h with ⟨rfl,rfl⟩|⟨g,cap,cur,rfl,h1,h1',h2,h3,h4,h5,h6⟩
 · simp at hk
 · simp only [Value.slice.injEq,true_and] at hv
   obtain ⟨rfl,rfl⟩:=hv
   exact ⟨g,cap,rfl,h1,h1',(Array.getElem?_eq_some_iff.1 h2).1,fun k hk=>by have:=hc.cell _ rfl k hk;simpa using this,fun k=>by simp [World.frozen?,h2]⟩
theorem aE.set {e : TypeId} {lo hi : Nat} {w : World} {g n cap : Nat} {vs : List Value} (h : aE e lo hi w (.slice (some ⟨g,0,none⟩) n cap) vs) (k : Nat) (u : Value) :
  aE e lo hi (w.setCell ⟨g,k,none⟩ u) (.slice (some ⟨g,0,none⟩) n cap) (vs.set k u):=by
 rcases h with ⟨h,_⟩|⟨g',cap',cur,h0,h1,h1',h2,h3,h4,h5,h6⟩
 · cases h
 · simp only [Value.slice.injEq,Option.some.injEq,Addr.mk.injEq,and_true] at h0
   obtain ⟨rfl,rfl,rfl⟩:=h0
   refine .inr ⟨g,cap,cur.setIfInBounds k u,by rw [List.length_set],h1,h1',?_,by rw [List.length_set];exact h3,h4,by rw [Array.size_setIfInBounds];exact h5,?_⟩
   · simp [World.setCell,Array.getElem?_modify,h2]
   · rw [List.length_set,Array.toList_setIfInBounds,List.take_set,h6]
theorem ao {B : Nat} {a w : World} (h : Below B a w) {g k : Nat} (hp : B ≤ g) (u : Value) : Below B a (w.setCell ⟨g,k,none⟩ u):=h.setCell (p:=⟨g,k,none⟩) hp u
theorem aE.other {e : TypeId} {lo hi : Nat} {w : World} {v : Value} {vs : List Value} (h : aE e lo hi w v vs) {g : Nat} (hne : blk v ≠ some g) (k : Nat) (u : Value) : aE e lo hi (w.setCell ⟨g,k,none⟩ u) v vs :=
 h.keep fun g' hg=>Below.heap_setCell _ _ _ _ (fun e=>hne (by rw [hg];exact congrArg some e))
def tab (n : Nat) (f : Nat → Int) : List Int:=(List.range n).map f
def bZ (n : Nat) (f : Nat → Bool) : List Bool:=(List.range n).map f
@[simp] theorem bD (n : Nat) (f : Nat → Int) : (tab n f).length = n:=by simp [tab]
@[simp] theorem cI (n : Nat) (f : Nat → Bool) : (bZ n f).length = n:=by simp [bZ]
theorem bH {n k : Nat} (f : Nat → Int) (h : k < n) : gi (tab n f) k = f k:=by simp [gi,tab,List.getD,h]
theorem cT {n k : Nat} (f : Nat → Bool) (h : k < n) : gb (bZ n f) k = f k:=by simp [gb,bZ,List.getD,h]
theorem il {xs : List Int} {n : Nat} {f : Nat → Int} (hl : xs.length = n) (h : ∀ k,k < n → gi xs k = f k) : xs = tab n f :=
 ot (by simp [hl]) fun k hk=>by rw [h k (by omega),bH f (by omega)]
theorem g8 {xs : List Bool} {n : Nat} {f : Nat → Bool} (hl : xs.length = n) (h : ∀ k,k < n → gb xs k = f k) : xs = bZ n f :=
 rk (by simp [hl]) fun k hk=>by rw [h k (by omega),cT f (by omega)]
theorem eO {xs : List Int} {k j : Nat} {x : Int} (hk : k < xs.length) : gi (xs.set k x) j = if j = k then x else gi xs j:=by
 simp only [gi,List.getD_eq_getElem?_getD,List.getElem?_set]
 by_cases e : k = j
 · subst e;simp [hk]
 · rw [if_neg e,if_neg (fun h=>e h.symm)]
theorem gx {xs : List Bool} {k j : Nat} {x : Bool} (hk : k < xs.length) : gb (xs.set k x) j = if j = k then x else gb xs j:=by
 simp only [gb,List.getD_eq_getElem?_getD,List.getElem?_set]
 by_cases e : k = j
 · subst e;simp [hk]
 · rw [if_neg e,if_neg (fun h=>e h.symm)]
theorem ov {xs : List (List Int)} {k j : Nat} {x : List Int} (hk : k < xs.length) : gr (xs.set k x) j = if j = k then x else gr xs j:=by
 simp only [gr,List.getD_eq_getElem?_getD,List.getElem?_set]
 by_cases e : k = j
 · subst e;simp [hk]
 · rw [if_neg e,if_neg (fun h=>e h.symm)]
theorem mD {n k : Nat} {f : Nat → Int} {x : Int} (hk : k < n) : (tab n f).set k x = tab n fun i=>if i = k then x else f i :=
 il (by simp) fun j hj=>by rw [eO (by simpa using hk),bH f hj]
theorem kt {n k : Nat} {f : Nat → Bool} {x : Bool} (hk : k < n) : (bZ n f).set k x = bZ n fun i=>if i = k then x else f i :=
 g8 (by simp) fun j hj=>by rw [gx (by simpa using hk),cT f hj]
def aM (lo hi : Nat) (w : World) (v : Value) (xs : List Int) : Prop:=aE 2 lo hi w v (xs.map (.int .i64))
def cL (lo hi : Nat) (w : World) (v : Value) (xs : List Bool) : Prop:=aE 4 lo hi w v (xs.map .bool)
theorem gy (xs : List Int) (k : Nat) : (xs.map (Value.int .i64)).getD k (.int .i64 0) = .int .i64 (gi xs k):=by
 simp only [gi,List.getD_eq_getElem?_getD,List.getElem?_map]
 cases xs[k]? <;> rfl
theorem im (xs : List Bool) (k : Nat) : (xs.map Value.bool).getD k (.bool false) = .bool (gb xs k):=by
 simp only [gb,List.getD_eq_getElem?_getD,List.getElem?_map]
 cases xs[k]? <;> rfl
theorem aM.is {lo hi : Nat} {w : World} {v : Value} {xs : List Int} (h : aM lo hi w v xs) : IsI w v xs:=by
 obtain ⟨sa,c,hv,hc⟩:=h.form (.int .i64 0)
 rw [List.length_map] at hv hc
 exact ⟨sa,_,c,hv,rfl,by simpa only [gy] using hc⟩
theorem cL.is {lo hi : Nat} {w : World} {v : Value} {xs : List Bool} (h : cL lo hi w v xs) : IsB w v xs:=by
 obtain ⟨sa,c,hv,hc⟩:=h.form (.bool false)
 rw [List.length_map] at hv hc
 exact ⟨sa,_,c,hv,rfl,by simpa only [im] using hc⟩
theorem aM.below {lo hi : Nat} {w w' : World} {v : Value} {xs : List Int} (h : aM lo hi w v xs) (hb : Below w.heap.size w w') : aM lo hi w' v xs:=aE.below h hb
theorem cL.below {lo hi : Nat} {w w' : World} {v : Value} {xs : List Bool} (h : cL lo hi w v xs) (hb : Below w.heap.size w w') : cL lo hi w' v xs:=aE.below h hb
theorem aM.alloc {lo hi : Nat} {w : World} {v : Value} {xs : List Int} (h : aM lo hi w v xs) (o : Obj) : aM lo hi (w.alloc o) v xs:=aE.alloc h o
theorem cL.alloc {lo hi : Nat} {w : World} {v : Value} {xs : List Bool} (h : cL lo hi w v xs) (o : Obj) : cL lo hi (w.alloc o) v xs:=aE.alloc h o
theorem aM.drew {lo hi : Nat} {w : World} {v : Value} {xs : List Int} (h : aM lo hi w v xs) : aM lo hi w.drew v xs:=aE.drew h
theorem cL.drew {lo hi : Nat} {w : World} {v : Value} {xs : List Bool} (h : cL lo hi w v xs) : cL lo hi w.drew v xs:=aE.drew h
theorem aM.mono {lo hi lo' hi' : Nat} {w : World} {v : Value} {xs : List Int} (h : aM lo hi w v xs) (hl : lo' ≤ lo) (hh : hi ≤ hi') : aM lo' hi' w v xs:=aE.mono h hl hh
theorem cL.mono {lo hi lo' hi' : Nat} {w : World} {v : Value} {xs : List Bool} (h : cL lo hi w v xs) (hl : lo' ≤ lo) (hh : hi ≤ hi') : cL lo' hi' w v xs:=aE.mono h hl hh
theorem aM.top {lo hi : Nat} {w : World} {v : Value} {xs : List Int} (h : aM lo hi w v xs) : aM lo w.heap.size w v xs:=aE.top h
theorem cL.top {lo hi : Nat} {w : World} {v : Value} {xs : List Bool} (h : cL lo hi w v xs) : cL lo w.heap.size w v xs:=aE.top h
theorem aM.at {lo hi : Nat} {w : World} {v : Value} {xs : List Int} (h : aM lo hi w v xs) {k : Nat} (hk : k < xs.length) :
  ∃ g cap,v = .slice (some ⟨g,0,none⟩) xs.length cap ∧ lo ≤ g ∧ g < hi ∧ g < w.heap.size ∧ (∀ k,k < xs.length → w.cell? ⟨g,k,none⟩ = some (.int .i64 (gi xs k))) ∧ ∀ k,w.frozen? ⟨g,k,none⟩ = false:=by
 have:=aE.at h (.int .i64 0) (k:=k) (by simpa using hk)
 simpa only [List.length_map,gy] using this
theorem cL.at {lo hi : Nat} {w : World} {v : Value} {xs : List Bool} (h : cL lo hi w v xs) {k : Nat} (hk : k < xs.length) :
  ∃ g cap,v = .slice (some ⟨g,0,none⟩) xs.length cap ∧ lo ≤ g ∧ g < hi ∧ g < w.heap.size ∧ (∀ k,k < xs.length → w.cell? ⟨g,k,none⟩ = some (.bool (gb xs k))) ∧ ∀ k,w.frozen? ⟨g,k,none⟩ = false:=by
 have:=aE.at h (.bool false) (k:=k) (by simpa using hk)
 simpa only [List.length_map,im] using this
theorem aM.set {lo hi : Nat} {w : World} {g n cap : Nat} {xs : List Int} (h : aM lo hi w (.slice (some ⟨g,0,none⟩) n cap) xs) (k : Nat) (x : Int) :
  aM lo hi (w.setCell ⟨g,k,none⟩ (.int .i64 x)) (.slice (some ⟨g,0,none⟩) n cap) (xs.set k x):=by
 have:=aE.set h k (.int .i64 x)
 rwa [← List.map_set] at this
theorem cL.set {lo hi : Nat} {w : World} {g n cap : Nat} {xs : List Bool} (h : cL lo hi w (.slice (some ⟨g,0,none⟩) n cap) xs) (k : Nat) (x : Bool) :
  cL lo hi (w.setCell ⟨g,k,none⟩ (.bool x)) (.slice (some ⟨g,0,none⟩) n cap) (xs.set k x):=by
 have:=aE.set h k (.bool x)
 rwa [← List.map_set] at this
theorem aM.len {lo hi : Nat} {w : World} {sa : Option Addr} {n cap : Nat} {xs : List Int} (h : aM lo hi w (.slice sa n cap) xs) : xs.length = n:=by
 obtain ⟨sa',n',c',e,h1,_⟩:=h.is
 simp only [Value.slice.injEq] at e
 omega
theorem cL.len {lo hi : Nat} {w : World} {sa : Option Addr} {n cap : Nat} {xs : List Bool} (h : cL lo hi w (.slice sa n cap) xs) : xs.length = n:=by
 obtain ⟨sa',n',c',e,h1,_⟩:=h.is
 simp only [Value.slice.injEq] at e
 omega
theorem jd (n : Nat) : (madeCells #[Value.int .i64 0] n).toList = (tab n fun _=>0).map (.int .i64):=by
 simp [madeCells,tab,Nat.mod_one]
theorem aM.cell {lo hi : Nat} {w : World} {g n cap : Nat} {xs : List Int} (h : aM lo hi w (.slice (some ⟨g,0,none⟩) n cap) xs) {k : Nat} (hk : k < n) :
  w.cell? ⟨g,k,none⟩ = some (.int .i64 (gi xs k)) ∧ w.frozen? ⟨g,k,none⟩ = false ∧ lo ≤ g ∧ g < w.heap.size:=by
 have hl:=h.len
 obtain ⟨g',cap',e,h1,_,h2,h3,h4⟩:=h.at (k:=k) (by omega)
 simp only [Value.slice.injEq,Option.some.injEq,Addr.mk.injEq,and_true] at e
 obtain ⟨rfl,_,rfl⟩:=e
 exact ⟨h3 k (by omega),h4 k,h1,h2⟩
theorem cL.cell {lo hi : Nat} {w : World} {g n cap : Nat} {xs : List Bool} (h : cL lo hi w (.slice (some ⟨g,0,none⟩) n cap) xs) {k : Nat} (hk : k < n) :
  w.cell? ⟨g,k,none⟩ = some (.bool (gb xs k)) ∧ w.frozen? ⟨g,k,none⟩ = false ∧ lo ≤ g ∧ g < w.heap.size:=by
 have hl:=h.len
 obtain ⟨g',cap',e,h1,_,h2,h3,h4⟩:=h.at (k:=k) (by omega)
 simp only [Value.slice.injEq,Option.some.injEq,Addr.mk.injEq,and_true] at e
 obtain ⟨rfl,_,rfl⟩:=e
 exact ⟨h3 k (by omega),h4 k,h1,h2⟩
theorem ci {n : Nat} {f g : Nat → Int} (h : ∀ k,k < n → f k = g k) : tab n f = tab n g:=il (by simp) fun k hk=>by rw [bH f hk,h k hk]
theorem cC {n : Nat} {f g : Nat → Bool} (h : ∀ k,k < n → f k = g k) : bZ n f = bZ n g:=g8 (by simp) fun k hk=>by rw [cT f hk,h k hk]
theorem ow {n k : Nat} {f : Nat → Int} {d : Nat → Int} (hk : k < n) : (tab n fun j=>if j < k then f j else d j).set k (f k) = tab n fun j=>if j < k + 1 then f j else d j:=by
 rw [mD hk]
 refine ci fun j hj=>?_
 by_cases e : j = k
 · subst e;simp
 · rw [if_neg e];by_cases h : j < k
   · rw [if_pos h,if_pos (by omega)]
   · rw [if_neg h,if_neg (by omega)]
theorem nf {n k : Nat} {f : Nat → Bool} {d : Nat → Bool} (hk : k < n) : (bZ n fun j=>if j < k then f j else d j).set k (f k) = bZ n fun j=>if j < k + 1 then f j else d j:=by
 rw [kt hk]
 refine cC fun j hj=>?_
 by_cases e : j = k
 · subst e;simp
 · rw [if_neg e];by_cases h : j < k
   · rw [if_pos h,if_pos (by omega)]
   · rw [if_neg h,if_neg (by omega)]
def bi (lo hi : Nat) (w : World) (v : Value) (xss : List (List Int)) (vs : List Value) : Prop :=
 vs.length = xss.length ∧ aE 22 lo hi w v vs ∧ (∀ k,k < xss.length → aM lo hi w (vs.getD k (.slice none 0 0)) (gr xss k)) ∧ (vs.filterMap blk).Nodup
def gP (lo hi : Nat) (w : World) (v : Value) (xss : List (List Int)) : Prop:=∃ vs,bi lo hi w v xss vs
def ez (lo hi : Nat) (w : World) (v : Value) (a : Ar) : Prop:=∃ vo vn vs,v = .agg #[vo,vn] ∧ aM lo hi w vo a.own ∧ bi lo hi w vn a.nxt vs ∧ ((vo :: vs).filterMap blk).Nodup
def d6 (lo hi : Nat) (w : World) (v : Value) (g : Pa) : Prop:=∃ vo vn vp vs,v = .agg #[vo,vn,vp] ∧ aM lo hi w vo g.ar.own ∧ bi lo hi w vn g.ar.nxt vs ∧ aM lo hi w vp g.prio ∧ ((vo :: vp :: vs).filterMap blk).Nodup
theorem bi.below {lo hi : Nat} {w w' : World} {v : Value} {xss : List (List Int)} {vs : List Value} (h : bi lo hi w v xss vs) (hb : Below w.heap.size w w') : bi lo hi w' v xss vs :=
 ⟨h.1,h.2.1.below hb,fun k hk=>(h.2.2.1 k hk).below hb,h.2.2.2⟩
theorem bi.mono {lo hi lo' hi' : Nat} {w : World} {v : Value} {xss : List (List Int)} {vs : List Value} (h : bi lo hi w v xss vs) (hl : lo' ≤ lo) (hh : hi ≤ hi') : bi lo' hi' w v xss vs :=
 ⟨h.1,h.2.1.mono hl hh,fun k hk=>(h.2.2.1 k hk).mono hl hh,h.2.2.2⟩
theorem bi.top {lo hi : Nat} {w : World} {v : Value} {xss : List (List Int)} {vs : List Value} (h : bi lo hi w v xss vs) : bi lo w.heap.size w v xss vs :=
 ⟨h.1,h.2.1.top,fun k hk=>(h.2.2.1 k hk).top,h.2.2.2⟩
theorem bi.is {lo hi : Nat} {w : World} {v : Value} {xss : List (List Int)} {vs : List Value} (h : bi lo hi w v xss vs) : dT w v xss:=by
 obtain ⟨h1,h2,h3,_⟩:=h
 obtain ⟨sa,c,hv,hc⟩:=h2.form (.slice none 0 0)
 rw [h1] at hv hc
 have each : ∀ k,∃ y : Option Addr × Nat × Nat,k < xss.length → vs.getD k (.slice none 0 0) = .slice y.1 y.2.1 y.2.2 ∧ cK w y.1 y.2.1 y.2.2 (gr xss k):=by
  intro k
  by_cases hk : k < xss.length
  · obtain ⟨a,n,c,e,hi⟩:=(h3 k hk).is
    exact ⟨(a,n,c),fun _=>⟨e,hi⟩⟩
  · exact ⟨(none,0,0),fun h=>absurd h hk⟩
 refine ⟨sa,_,c,hv,rfl,fun k=>(Classical.choose (each k)).1,fun k=>(Classical.choose (each k)).2.1,fun k=>(Classical.choose (each k)).2.2,⟨hc.cap,hc.max,hc.nil,hc.spot,fun ad ha k hk=>?_⟩,fun k hk=>((Classical.choose_spec (each k)) hk).2⟩
 rw [hc.cell ad ha k hk]
 exact congrArg some ((Classical.choose_spec (each k)) hk).1
theorem ez.is {lo hi : Nat} {w : World} {v : Value} {a : Ar} (h : ez lo hi w v a) : IsA w v a:=let ⟨vo,vn,_,e,h1,h2,_⟩:=h;⟨vo,vn,e,h1.is,h2.is⟩
theorem d6.is {lo hi : Nat} {w : World} {v : Value} {a : Pa} (h : d6 lo hi w v a) : IsP w v a:=let ⟨vo,vn,vp,_,e,h1,h2,h3,_⟩:=h;⟨vo,vn,vp,e,h1.is,h2.is,h3.is⟩
theorem ez.below {lo hi : Nat} {w w' : World} {v : Value} {a : Ar} (h : ez lo hi w v a) (hb : Below w.heap.size w w') : ez lo hi w' v a:=let ⟨vo,vn,vs,e,h1,h2,h3⟩:=h;⟨vo,vn,vs,e,h1.below hb,h2.below hb,h3⟩
theorem d6.below {lo hi : Nat} {w w' : World} {v : Value} {a : Pa} (h : d6 lo hi w v a) (hb : Below w.heap.size w w') : d6 lo hi w' v a:=let ⟨vo,vn,vp,vs,e,h1,h2,h3,h4⟩:=h;⟨vo,vn,vp,vs,e,h1.below hb,h2.below hb,h3.below hb,h4⟩
theorem ez.mono {lo hi lo' hi' : Nat} {w : World} {v : Value} {a : Ar} (h : ez lo hi w v a) (hl : lo' ≤ lo) (hh : hi ≤ hi') : ez lo' hi' w v a:=let ⟨vo,vn,vs,e,h1,h2,h3⟩:=h;⟨vo,vn,vs,e,h1.mono hl hh,h2.mono hl hh,h3⟩
theorem d6.mono {lo hi lo' hi' : Nat} {w : World} {v : Value} {a : Pa} (h : d6 lo hi w v a) (hl : lo' ≤ lo) (hh : hi ≤ hi') : d6 lo' hi' w v a:=let ⟨vo,vn,vp,vs,e,h1,h2,h3,h4⟩:=h;⟨vo,vn,vp,vs,e,h1.mono hl hh,h2.mono hl hh,h3.mono hl hh,h4⟩
theorem ez.top {lo hi : Nat} {w : World} {v : Value} {a : Ar} (h : ez lo hi w v a) : ez lo w.heap.size w v a:=let ⟨vo,vn,vs,e,h1,h2,h3⟩:=h;⟨vo,vn,vs,e,h1.top,h2.top,h3⟩
theorem d6.top {lo hi : Nat} {w : World} {v : Value} {a : Pa} (h : d6 lo hi w v a) : d6 lo w.heap.size w v a:=let ⟨vo,vn,vp,vs,e,h1,h2,h3,h4⟩:=h;⟨vo,vn,vp,vs,e,h1.top,h2.top,h3.top,h4⟩
theorem aM.blks {lo hi : Nat} {w : World} {v : Value} {xs : List Int} (h : aM lo hi w v xs) : ∀ g,blk v = some g → lo ≤ g ∧ g < hi:=fun g hg=>⟨(aE.lt h g hg).1,(aE.lt h g hg).2.1⟩
theorem bi.blks {lo hi : Nat} {w : World} {v : Value} {xss : List (List Int)} {vs : List Value} (h : bi lo hi w v xss vs) : ∀ g,g ∈ vs.filterMap blk → lo ≤ g ∧ g < hi:=by
 intro g hg
 obtain ⟨u,hu,e⟩:=List.mem_filterMap.1 hg
 obtain ⟨k,hk,e2⟩:=List.getElem_of_mem hu
 have:=h.2.2.1 k (by rw [← h.1];exact hk)
 rw [List.getD_eq_getElem?_getD,List.getElem?_eq_getElem hk] at this
 simp only [Option.getD_some,e2] at this
 exact this.blks g e
def bQ (lo hi : Nat) (w w' : World) : Prop:=w.heap.size ≤ w'.heap.size ∧ ∀ g,lo ≤ g → g < hi → g < w.heap.size → w'.heap[g]? = w.heap[g]?
theorem bQ.refl (lo hi : Nat) (w : World) : bQ lo hi w w:=⟨Nat.le_refl _,fun _ _ _ _=>rfl⟩
theorem bQ.trans {lo hi : Nat} {a b c : World} (h : bQ lo hi a b) (k : bQ lo hi b c) : bQ lo hi a c :=
 ⟨Nat.le_trans h.1 k.1,fun g h1 h2 h3=>(k.2 g h1 h2 (Nat.lt_of_lt_of_le h3 h.1)).trans (h.2 g h1 h2 h3)⟩
theorem bQ.below {lo hi : Nat} {a b c : World} (h : bQ lo hi a b) (k : Below b.heap.size b c) : bQ lo hi a c :=
 h.trans ⟨k.size,fun g _ _ h3=>k.block g h3⟩
theorem bQ.alloc {lo hi : Nat} {a b : World} (h : bQ lo hi a b) (o : Obj) : bQ lo hi a (b.alloc o):=h.below (aD b o)
theorem bQ.drew {lo hi : Nat} {a b : World} (h : bQ lo hi a b) : bQ lo hi a b.drew:=h.below (bJ b)
theorem bQ.drewN {lo hi : Nat} {a b : World} (h : bQ lo hi a b) (m : Nat) : bQ lo hi a (b.drewN m):=h.below (da b m)
theorem bQ.set {lo hi : Nat} {a b : World} (h : bQ lo hi a b) {g k : Nat} (hg : g < lo ∨ hi ≤ g) (u : Value) : bQ lo hi a (b.setCell ⟨g,k,none⟩ u) :=
 h.trans ⟨by rw [World.size_setCell];exact Nat.le_refl _,fun g' h1 h2 h3=>Below.heap_setCell _ _ _ _ (fun e=>by simp only at e;omega)⟩
theorem aE.kept {e : TypeId} {lo hi : Nat} {w w' : World} {v : Value} {vs : List Value} (h : aE e lo hi w v vs) (hk : bQ lo hi w w') : aE e lo hi w' v vs :=
 h.keep fun g hg=>by have:=h.lt g hg;exact hk.2 g this.1 this.2.1 this.2.2
theorem aM.final {lo hi lo' : Nat} {w W : World} {v : Value} {xs : List Int} (h : aM lo hi w v xs) (hk : bQ lo hi w W) (hl : lo' ≤ lo) : aM lo' W.heap.size W v xs:=aM.mono (aM.top (aE.kept h hk)) hl (Nat.le_refl _)
theorem cL.final {lo hi lo' : Nat} {w W : World} {v : Value} {xs : List Bool} (h : cL lo hi w v xs) (hk : bQ lo hi w W) (hl : lo' ≤ lo) : cL lo' W.heap.size W v xs:=cL.mono (cL.top (aE.kept h hk)) hl (Nat.le_refl _)
theorem aM.kept {lo hi : Nat} {w w' : World} {v : Value} {xs : List Int} (h : aM lo hi w v xs) (hk : bQ lo hi w w') : aM lo hi w' v xs:=aE.kept h hk
theorem cL.kept {lo hi : Nat} {w w' : World} {v : Value} {xs : List Bool} (h : cL lo hi w v xs) (hk : bQ lo hi w w') : cL lo hi w' v xs:=aE.kept h hk
theorem bi.kept {lo hi : Nat} {w w' : World} {v : Value} {xss : List (List Int)} {vs : List Value} (h : bi lo hi w v xss vs) (hk : bQ lo hi w w') : bi lo hi w' v xss vs :=
 ⟨h.1,h.2.1.kept hk,fun k h'=>(h.2.2.1 k h').kept hk,h.2.2.2⟩
theorem bi.final {lo hi lo' : Nat} {w W : World} {v : Value} {xss : List (List Int)} {vs : List Value} (h : bi lo hi w v xss vs) (hk : bQ lo hi w W) (hl : lo' ≤ lo) : bi lo' W.heap.size W v xss vs:=bi.mono (bi.top (h.kept hk)) hl (Nat.le_refl _)
theorem ez.kept {lo hi : Nat} {w w' : World} {v : Value} {a : Ar} (h : ez lo hi w v a) (hk : bQ lo hi w w') : ez lo hi w' v a:=let ⟨vo,vn,vs,e,h1,h2,h3⟩:=h;⟨vo,vn,vs,e,h1.kept hk,h2.kept hk,h3⟩
theorem d6.kept {lo hi : Nat} {w w' : World} {v : Value} {a : Pa} (h : d6 lo hi w v a) (hk : bQ lo hi w w') : d6 lo hi w' v a:=let ⟨vo,vn,vp,vs,e,h1,h2,h3,h4⟩:=h;⟨vo,vn,vp,vs,e,h1.kept hk,h2.kept hk,h3.kept hk,h4⟩
theorem ez.final {lo hi lo' : Nat} {w W : World} {v : Value} {a : Ar} (h : ez lo hi w v a) (hk : bQ lo hi w W) (hl : lo' ≤ lo) : ez lo' W.heap.size W v a:=ez.mono (ez.top (h.kept hk)) hl (Nat.le_refl _)
theorem d6.final {lo hi lo' : Nat} {w W : World} {v : Value} {a : Pa} (h : d6 lo hi w v a) (hk : bQ lo hi w W) (hl : lo' ≤ lo) : d6 lo' W.heap.size W v a:=d6.mono (d6.top (h.kept hk)) hl (Nat.le_refl _)
end Go.Proofs.Ythjamlponejffaa
namespace Go.Proofs.Ythjamlponejffaa
set_option linter.unusedVariables false
set_option linter.unusedSimpArgs false
open Go.RowKit
end Go.Proofs.Ythjamlponejffaa
namespace Go.Proofs.Ythjamlponejffaa
set_option linter.unusedVariables false
set_option linter.unusedSimpArgs false
open Go.RowKit
def fK (lo : Nat) (w : World) (v : Value) (n : Nat) (xss : List (List Int)) (k : Nat) (vs : List Value) : Prop :=
 vs.length = k ∧ aE 22 lo w.heap.size w v (vs ++ List.replicate (n - k) (.slice none 0 0)) ∧ (∀ i,i < k → aM lo w.heap.size w (vs.getD i (.slice none 0 0)) (gr xss i)) ∧ (vs.filterMap blk).Nodup
theorem fK.below {lo : Nat} {w w' : World} {v : Value} {n : Nat} {xss : List (List Int)} {k : Nat} {vs : List Value} (h : fK lo w v n xss k vs) (hb : Below w.heap.size w w') : fK lo w' v n xss k vs :=
 ⟨h.1,(h.2.1.below hb).top,fun i hi=>((h.2.2.1 i hi).below hb).top,h.2.2.2⟩
theorem fK.mem {lo : Nat} {w : World} {v : Value} {n : Nat} {xss : List (List Int)} {k : Nat} {vs : List Value} (h : fK lo w v n xss k vs) : ∀ g,g ∈ vs.filterMap blk → lo ≤ g ∧ g < w.heap.size:=by
 intro g hg
 obtain ⟨u,hu,e⟩:=List.mem_filterMap.1 hg
 obtain ⟨j,hj,e2⟩:=List.getElem_of_mem hu
 have:=h.2.2.1 j (by rw [← h.1];exact hj)
 rw [List.getD_eq_getElem?_getD,List.getElem?_eq_getElem hj] at this
 simp only [Option.getD_some,e2] at this
 exact this.blks g e
theorem fK.cell {lo : Nat} {w : World} {g n cap : Nat} {xss : List (List Int)} {k : Nat} {vs : List Value} (h : fK lo w (.slice (some ⟨g,0,none⟩) n cap) n xss k vs) (hk : k < n) :
  (∃ u,w.cell? ⟨g,k,none⟩ = some u) ∧ w.frozen? ⟨g,k,none⟩ = false:=by
 obtain ⟨g',cap',e,_,_,_,h3,h4⟩:=h.2.1.at (k:=k) (.slice none 0 0) (by have:=h.1;simp;omega)
 simp only [Value.slice.injEq,Option.some.injEq,Addr.mk.injEq,and_true] at e
 obtain ⟨rfl,_,rfl⟩:=e
 exact ⟨⟨_,h3 k (by have:=h.1;simp;omega)⟩,h4 k⟩
theorem fK.step {lo : Nat} {w w1 : World} {g n cap : Nat} {xss : List (List Int)} {k : Nat} {vs : List Value} {u : Value} (h : fK lo w (.slice (some ⟨g,0,none⟩) n cap) n xss k vs) (hk : k < n)
  (hb : Below w.heap.size w w1) (hu : aM w.heap.size w1.heap.size w1 u (gr xss k)) (hlo : lo ≤ w.heap.size) (hg : g < w.heap.size) :
  fK lo (w1.setCell ⟨g,k,none⟩ u) (.slice (some ⟨g,0,none⟩) n cap) n xss (k + 1) (vs ++ [u]):=by
 have h':=h.below hb
 have hne : ∀ x,aM lo w1.heap.size w1 x (gr xss k) → blk x ≠ some g:=by
  intro x hx e
  have h1:=aE.lt hx g e
  rcases hx with ⟨rfl,_⟩|⟨g',c',cur,rfl,_,_,hh,_⟩
  · simp [blk,Value.ownBlock] at e
  · simp [blk,Value.ownBlock] at e
    subst e
    rcases h'.2.1 with ⟨hq,_⟩|⟨g2,c2,cur2,hq,_,_,hh2,_⟩
    · cases hq
    · simp only [Value.slice.injEq,Option.some.injEq,Addr.mk.injEq,and_true] at hq
      obtain ⟨rfl,_⟩:=hq
      rw [hh] at hh2
      simp at hh2
 have hne' : ∀ (ys : List Int) x,aM lo w1.heap.size w1 x ys → blk x ≠ some g:=by
  intro ys x hx e
  rcases hx with ⟨rfl,_⟩|⟨g',c',cur,rfl,_,_,hh,_⟩
  · simp [blk,Value.ownBlock] at e
  · simp [blk,Value.ownBlock] at e
    subst e
    rcases h'.2.1 with ⟨hq,_⟩|⟨g2,c2,cur2,hq,_,_,hh2,_⟩
    · cases hq
    · simp only [Value.slice.injEq,Option.some.injEq,Addr.mk.injEq,and_true] at hq
      obtain ⟨rfl,_⟩:=hq
      rw [hh] at hh2
      simp at hh2
 refine ⟨by simp [h.1],?_,?_,?_⟩
 · have:=aE.set h'.2.1 k u
   have e : (vs ++ List.replicate (n - k) (Value.slice none 0 0)).set k u = (vs ++ [u]) ++ List.replicate (n - (k + 1)) (.slice none 0 0):=by
    rw [List.set_append,if_neg (by have:=h.1;omega),h.1,Nat.sub_self,show n - k = (n - (k + 1)) + 1 by omega,List.replicate_succ,List.set_cons_zero,List.append_assoc]
    rfl
   rw [e] at this
   exact this.top
 · intro i hi
   by_cases e : i = k
   · rw [e]
     have e2 : (vs ++ [u]).getD k (.slice none 0 0) = u:=by
      rw [List.getD_eq_getElem?_getD,List.getElem?_append_right (by have:=h.1;omega),h.1];simp
     rw [e2]
     have hu':=hu.mono hlo (Nat.le_refl _)
     exact (aE.other hu' (hne' _ _ hu') k u).top
   · have e2 : (vs ++ [u]).getD i (.slice none 0 0) = vs.getD i (.slice none 0 0):=by
      rw [List.getD_eq_getElem?_getD,List.getElem?_append_left (by have:=h.1;omega),← List.getD_eq_getElem?_getD]
     rw [e2]
     have hx:=h'.2.2.1 i (by omega)
     exact (aE.other hx (hne' _ _ hx) k u).top
 · rw [List.filterMap_append,List.nodup_append]
   refine ⟨h.2.2.2,?_,?_⟩
   · cases hq : blk u <;> simp [hq]
   · intro a ha b' hb' e
     subst e
     have h1:=h.mem a ha
     have h2 : blk u = some a:=by
      cases hq : blk u with
      | none => simp [hq] at hb'
      | some x => simp [hq] at hb'; rw [hb']
     have:=hu.blks a h2
     omega
theorem gQ (n : Nat) : (madeCells #[Value.slice none 0 0] n).toList = List.replicate n (.slice none 0 0):=by
 apply List.ext_getElem
 · simp [madeCells]
 · intro i h1 h2
   simp [madeCells,Nat.mod_one]
theorem nodup_cons {lo m hi : Nat} {u : Value} {vs : List Value} (hu : ∀ g,blk u = some g → g < m) (hv : ∀ g,g ∈ vs.filterMap blk → m ≤ g) (hn : (vs.filterMap blk).Nodup) : ((u :: vs).filterMap blk).Nodup:=by
 cases hq : blk u with
 | none => rw [List.filterMap_cons_none hq]; exact hn
 | some g =>
   rw [List.filterMap_cons_some hq,List.nodup_cons]
   exact ⟨fun hm=>by have:=hu g hq;have:=hv g hm;omega,hn⟩
def tS (w : World) (a : Ar) (e : Ending) (w' : World) : Prop:=∃ s1 n1 c1 s2 n2 c2,e = .returned (.agg #[.slice s1 n1 c1,.slice s2 n2 c2]) ∧ ez w.heap.size w'.heap.size w' (.agg #[.slice s1 n1 c1,.slice s2 n2 c2]) a ∧ Below w.heap.size w w'
end Go.Proofs.Ythjamlponejffaa
namespace Go.Proofs.Ythjamlponejffaa
set_option linter.unusedVariables false
set_option linter.unusedSimpArgs false
open Go.RowKit
def Qb (w : World) (b : Bool) (e : Ending) (w' : World) : Prop:=e = .returned (.bool b) ∧ ∃ m,w' = w.drewN m
def Bb (w : World) (b : Bool) (e : Ending) (w' : World) : Prop:=e = .returned (.bool b) ∧ Below w.heap.size w w'
theorem Qb.bb {w : World} {b : Bool} {e : Ending} {w' : World} (h : Qb w b e w') : Bb w b e w':=by
 obtain ⟨h,m,rfl⟩:=h
 exact ⟨h,da w m⟩
def Qt (w w' : World) : Prop:=∃ m,w' = w.drewN m
theorem Qt.refl (w : World) : Qt w w:=⟨0,rfl⟩
theorem Qt.drewN {w w' : World} (h : Qt w w') (m : Nat) : Qt w (w'.drewN m):=by
 obtain ⟨q,rfl⟩:=h
 exact ⟨q + m,World.drewN_drewN _ _ _⟩
theorem Qt.below {w w' : World} (h : Qt w w') : Below w.heap.size w w':=by
 obtain ⟨q,rfl⟩:=h
 exact da w q
theorem IsI.drewN {w : World} {v : Value} {xs : List Int} (h : IsI w v xs) (m : Nat) : IsI (w.drewN m) v xs:=h.below (da w m)
theorem cK.drewN {w : World} {sa : Option Addr} {n c : Nat} {xs : List Int} (h : cK w sa n c xs) (m : Nat) : cK (w.drewN m) sa n c xs:=h.below (da w m)
theorem Rws.drewN {w : World} {sa : Option Addr} {n c : Nat} {xs : List (List Int)} (h : Rws w sa n c xs) (m : Nat) : Rws (w.drewN m) sa n c xs:=h.below (da w m)
end Go.Proofs.Ythjamlponejffaa
