/-
  Words on memory: when a slice value reads as a list of numbers, as a list of lists; what a call owns; how these facts are kept.
-/
import Derived.Test.YthjamlponejffaaRows
import Derived.WalkKit
import Derived.ProofKit
import Derived.OpenShut
import Derived.Deep.QuietTactic
import Derived.BigQuiet
import Derived.Lib.Hide
import Derived.StillTailTactics
import Derived.Deep.RegionHeld3
import Derived.Deep.DrawnRows
namespace Go.Proofs.Ythjamlponejffaa
set_option linter.unusedVariables false
set_option linter.unusedSimpArgs false
open Go.RowKit
noncomputable def tf (p : Prop) : Bool:=@decide p (Classical.propDecidable p)
theorem aA {p : Prop} (h : p) : tf p = true:=by unfold tf;simp [h]
theorem aq {p : Prop} (h : ¬ p) : tf p = false:=by unfold tf;simp [h]
theorem gJ {p : Prop} : tf p = true ↔ p:=by unfold tf;simp
theorem oL {p : Prop} : tf p = false ↔ ¬ p:=by unfold tf;simp
theorem cL {p q : Prop} (h : p ↔ q) : tf p = tf q:=by rw [propext h]
def gi (xs : List Int) (k : Nat) : Int:=xs.getD k 0
def gr (xss : List (List Int)) (k : Nat) : List Int:=xss.getD k []
def gb (bs : List Bool) (k : Nat) : Bool:=bs.getD k false
theorem tg {xs : List Int} {k : Nat} (h : k < xs.length) : xs[k]? = some (gi xs k):=by simp [gi,List.getD,h]
theorem dz {xs : List Int} {k : Nat} (h : k < xs.length) : gi xs k = xs[k]:=by simp [gi,List.getD,h]
theorem jQ {xs : List (List Int)} {k : Nat} (h : k < xs.length) : gr xs k = xs[k]:=by simp [gr,List.getD,h]
theorem oM {xs : List Bool} {k : Nat} (h : k < xs.length) : gb xs k = xs[k]:=by simp [gb,List.getD,h]
theorem rM {xs : List Int} {k : Nat} (h : xs.length ≤ k) : gi xs k = 0:=by simp [gi,List.getD,h]
theorem cy {xs : List Int} {k : Nat} (h : k < xs.length) : gi xs k ∈ xs:=by rw [dz h];exact List.getElem_mem h
theorem cG {xs : List Int} {x : Int} (h : x ∈ xs) : ∃ k,k < xs.length ∧ gi xs k = x:=by
 obtain ⟨k,hk,e⟩:=List.getElem_of_mem h
 exact ⟨k,hk,by rw [dz hk,e]⟩
theorem oN {xs ys : List Int} (hl : xs.length = ys.length) (h : ∀ k,k < xs.length → gi xs k = gi ys k) : xs = ys :=
 List.ext_getElem hl fun k h1 h2=>by have:=h k h1;rwa [dz h1,dz h2] at this
theorem oO {xs ys : List (List Int)} (hl : xs.length = ys.length) (h : ∀ k,k < xs.length → gr xs k = gr ys k) : xs = ys :=
 List.ext_getElem hl fun k h1 h2=>by have:=h k h1;rwa [jQ h1,jQ h2] at this
theorem rN {xs ys : List Bool} (hl : xs.length = ys.length) (h : ∀ k,k < xs.length → gb xs k = gb ys k) : xs = ys :=
 List.ext_getElem hl fun k h1 h2=>by have:=h k h1;rwa [oM h1,oM h2] at this
theorem aU {a b : Bool} (h : a = b) : Ending.returned (.bool a) = .returned (.bool b):=by rw [h]
theorem cB {k : IntKind} {a b : Int} (h : a = b) : Ending.returned (.int k a) = .returned (.int k b):=by rw [h]
structure Cells (w : World) (sa : Option Addr) (n c : Nat) (vs : Nat → Value) : Prop where
 cap : n ≤ c
 max : c ≤ 9223372036854775807
 nil : sa = none → n = 0 ∧ c = 0
 spot : ∀ ad,sa = some ad → 0 < n → ad.spot = none
 cell : ∀ ad,sa = some ad → ∀ k,k < n → w.cell? ⟨ad.block,ad.off + k,none⟩ = some (vs k)
theorem Cells.get {w : World} {sa : Option Addr} {n c : Nat} {vs : Nat → Value} (h : Cells w sa n c vs) {k : Nat} (hk : k < n) :
  ∃ b o,sa = some ⟨b,o,none⟩ ∧ b < w.heap.size ∧ ∀ k,k < n → w.cell? ⟨b,o + k,none⟩ = some (vs k):=by
 cases sa with
 | none => have := (h.nil rfl).1; omega
 | some ad =>
   have h1:=h.spot ad rfl (by omega)
   have h3:=h.cell ad rfl
   obtain ⟨b,o,s⟩:=ad
   simp only at h1 h3
   subst h1
   exact ⟨b,o,rfl,World.block_lt_of_cell? w _ (h3 k hk),h3⟩
theorem Cells.below {w w' : World} {sa : Option Addr} {n c : Nat} {vs : Nat → Value} (h : Cells w sa n c vs) (hb : Below w.heap.size w w') : Cells w' sa n c vs :=
 ⟨h.cap,h.max,h.nil,h.spot,fun ad e k hk=>by
  have hc:=h.cell ad e k hk
  rw [hb.cell (World.block_lt_of_cell? w _ hc)];exact hc⟩
def cm (w : World) (sa : Option Addr) (n c : Nat) (xs : List Int) : Prop:=xs.length = n ∧ Cells w sa n c fun k=>.int .i64 (gi xs k)
def dp (w : World) (sa : Option Addr) (n c : Nat) (xs : List Bool) : Prop:=xs.length = n ∧ Cells w sa n c fun k=>.bool (gb xs k)
structure Rws (w : World) (sa : Option Addr) (n c : Nat) (xss : List (List Int)) : Prop where
 len : xss.length = n
 cells : ∃ (A : Nat → Option Addr) (L C : Nat → Nat),Cells w sa n c (fun k=>.slice (A k) (L k) (C k)) ∧ ∀ k,k < n → cm w (A k) (L k) (C k) (gr xss k)
theorem cm.below {w w' : World} {sa : Option Addr} {n c : Nat} {xs : List Int} (h : cm w sa n c xs) (hb : Below w.heap.size w w') : cm w' sa n c xs:=⟨h.1,h.2.below hb⟩
theorem dp.below {w w' : World} {sa : Option Addr} {n c : Nat} {xs : List Bool} (h : dp w sa n c xs) (hb : Below w.heap.size w w') : dp w' sa n c xs:=⟨h.1,h.2.below hb⟩
theorem Rws.below {w w' : World} {sa : Option Addr} {n c : Nat} {xss : List (List Int)} (h : Rws w sa n c xss) (hb : Below w.heap.size w w') : Rws w' sa n c xss :=
 ⟨h.len,let ⟨A,L,C,h1,h2⟩:=h.cells;⟨A,L,C,h1.below hb,fun k hk=>(h2 k hk).below hb⟩⟩
theorem ay (w : World) (o : Obj) : Below w.heap.size w (w.alloc o):=(Below.refl _ _).alloc (Nat.le_refl _) o
theorem cI (w : World) (m : Nat) : Below w.heap.size w (w.drewN m):=⟨rfl,rfl,rfl,Nat.le_refl _,fun _ _=>rfl⟩
theorem aj {B : Nat} {a w : World} (h : Below B a w) (m : Nat) : Below B a (w.drewN m):=⟨h.os,h.tape,h.output,h.size,h.block⟩
theorem aW (w : World) : Below w.heap.size w w.drew:=(Below.refl _ _).drew
theorem cm.alloc {w : World} {sa : Option Addr} {n c : Nat} {xs : List Int} (h : cm w sa n c xs) (o : Obj) : cm (w.alloc o) sa n c xs:=h.below (ay w o)
theorem cm.drew {w : World} {sa : Option Addr} {n c : Nat} {xs : List Int} (h : cm w sa n c xs) : cm w.drew sa n c xs:=h.below (aW w)
theorem dp.alloc {w : World} {sa : Option Addr} {n c : Nat} {xs : List Bool} (h : dp w sa n c xs) (o : Obj) : dp (w.alloc o) sa n c xs:=h.below (ay w o)
theorem dp.drew {w : World} {sa : Option Addr} {n c : Nat} {xs : List Bool} (h : dp w sa n c xs) : dp w.drew sa n c xs:=h.below (aW w)
theorem Rws.alloc {w : World} {sa : Option Addr} {n c : Nat} {xs : List (List Int)} (h : Rws w sa n c xs) (o : Obj) : Rws (w.alloc o) sa n c xs:=h.below (ay w o)
theorem Rws.drew {w : World} {sa : Option Addr} {n c : Nat} {xs : List (List Int)} (h : Rws w sa n c xs) : Rws w.drew sa n c xs:=h.below (aW w)
theorem cm.max {w : World} {sa : Option Addr} {n c : Nat} {xs : List Int} (h : cm w sa n c xs) : n ≤ 9223372036854775807:=Nat.le_trans h.2.cap h.2.max
theorem dp.max {w : World} {sa : Option Addr} {n c : Nat} {xs : List Bool} (h : dp w sa n c xs) : n ≤ 9223372036854775807:=Nat.le_trans h.2.cap h.2.max
theorem Rws.max {w : World} {sa : Option Addr} {n c : Nat} {xs : List (List Int)} (h : Rws w sa n c xs) : n ≤ 9223372036854775807:=by
 obtain ⟨A,L,C,h1,_⟩:=h.cells
 exact Nat.le_trans h1.cap h1.max
theorem cm.get {w : World} {sa : Option Addr} {n c : Nat} {xs : List Int} (h : cm w sa n c xs) {k : Nat} (hk : k < n) :
  ∃ b o,sa = some ⟨b,o,none⟩ ∧ b < w.heap.size ∧ ∀ k,k < n → w.cell? ⟨b,o + k,none⟩ = some (.int .i64 (gi xs k)):=h.2.get hk
theorem dp.get {w : World} {sa : Option Addr} {n c : Nat} {xs : List Bool} (h : dp w sa n c xs) {k : Nat} (hk : k < n) :
  ∃ b o,sa = some ⟨b,o,none⟩ ∧ b < w.heap.size ∧ ∀ k,k < n → w.cell? ⟨b,o + k,none⟩ = some (.bool (gb xs k)):=h.2.get hk
theorem Rws.get {w : World} {sa : Option Addr} {n c : Nat} {xss : List (List Int)} (h : Rws w sa n c xss) {k : Nat} (hk : k < n) :
  ∃ b o,sa = some ⟨b,o,none⟩ ∧ b < w.heap.size ∧ ∃ (A : Nat → Option Addr) (L C : Nat → Nat),∀ k,k < n → w.cell? ⟨b,o + k,none⟩ = some (.slice (A k) (L k) (C k)) ∧ cm w (A k) (L k) (C k) (gr xss k):=by
 obtain ⟨A,L,C,h1,h2⟩:=h.cells
 obtain ⟨b,o,e,hb,hc⟩:=h1.get hk
 exact ⟨b,o,e,hb,A,L,C,fun k hk=>⟨hc k hk,h2 k hk⟩⟩
theorem gm (w : World) (vs : Nat → Value) : Cells w none 0 0 vs:=⟨Nat.le_refl _,by omega,fun _=>⟨rfl,rfl⟩,fun _ h _=>(by cases h),fun _ h=>(by cases h)⟩
theorem il (w : World) : cm w none 0 0 []:=⟨rfl,gm w _⟩
theorem oP (w : World) : Rws w none 0 0 []:=⟨rfl,fun _=>none,fun _=>0,fun _=>0,gm w _,fun k hk=>by omega⟩
def IsI (w : World) (v : Value) (xs : List Int) : Prop:=∃ sa n c,v = .slice sa n c ∧ cm w sa n c xs
def IsB (w : World) (v : Value) (xs : List Bool) : Prop:=∃ sa n c,v = .slice sa n c ∧ dp w sa n c xs
def db (w : World) (v : Value) (xss : List (List Int)) : Prop:=∃ sa n c,v = .slice sa n c ∧ Rws w sa n c xss
theorem IsI.below {w w' : World} {v : Value} {xs : List Int} (h : IsI w v xs) (hb : Below w.heap.size w w') : IsI w' v xs:=let ⟨sa,n,c,e,h⟩:=h;⟨sa,n,c,e,h.below hb⟩
theorem IsB.below {w w' : World} {v : Value} {xs : List Bool} (h : IsB w v xs) (hb : Below w.heap.size w w') : IsB w' v xs:=let ⟨sa,n,c,e,h⟩:=h;⟨sa,n,c,e,h.below hb⟩
theorem db.below {w w' : World} {v : Value} {xs : List (List Int)} (h : db w v xs) (hb : Below w.heap.size w w') : db w' v xs:=let ⟨sa,n,c,e,h⟩:=h;⟨sa,n,c,e,h.below hb⟩
theorem cm.is {w : World} {sa : Option Addr} {n c : Nat} {xs : List Int} (h : cm w sa n c xs) : IsI w (.slice sa n c) xs:=⟨sa,n,c,rfl,h⟩
theorem dp.is {w : World} {sa : Option Addr} {n c : Nat} {xs : List Bool} (h : dp w sa n c xs) : IsB w (.slice sa n c) xs:=⟨sa,n,c,rfl,h⟩
theorem Rws.is {w : World} {sa : Option Addr} {n c : Nat} {xs : List (List Int)} (h : Rws w sa n c xs) : db w (.slice sa n c) xs:=⟨sa,n,c,rfl,h⟩
theorem IsI.alloc {w : World} {v : Value} {xs : List Int} (h : IsI w v xs) (o : Obj) : IsI (w.alloc o) v xs:=h.below (ay w o)
theorem IsI.drew {w : World} {v : Value} {xs : List Int} (h : IsI w v xs) : IsI w.drew v xs:=h.below (aW w)
theorem IsB.alloc {w : World} {v : Value} {xs : List Bool} (h : IsB w v xs) (o : Obj) : IsB (w.alloc o) v xs:=h.below (ay w o)
theorem IsB.drew {w : World} {v : Value} {xs : List Bool} (h : IsB w v xs) : IsB w.drew v xs:=h.below (aW w)
theorem db.alloc {w : World} {v : Value} {xs : List (List Int)} (h : db w v xs) (o : Obj) : db (w.alloc o) v xs:=h.below (ay w o)
theorem db.drew {w : World} {v : Value} {xs : List (List Int)} (h : db w v xs) : db w.drew v xs:=h.below (aW w)
structure Ar where
 own : List Int
 nxt : List (List Int)
structure Pa where
 ar : Ar
 prio : List Int
def IsA (w : World) (v : Value) (a : Ar) : Prop:=∃ vo vn,v = .agg #[vo,vn] ∧ IsI w vo a.own ∧ db w vn a.nxt
def IsP (w : World) (v : Value) (g : Pa) : Prop:=∃ vo vn vp,v = .agg #[vo,vn,vp] ∧ IsI w vo g.ar.own ∧ db w vn g.ar.nxt ∧ IsI w vp g.prio
theorem IsA.below {w w' : World} {v : Value} {a : Ar} (h : IsA w v a) (hb : Below w.heap.size w w') : IsA w' v a:=let ⟨x,y,e,h1,h2⟩:=h;⟨x,y,e,h1.below hb,h2.below hb⟩
theorem IsP.below {w w' : World} {v : Value} {a : Pa} (h : IsP w v a) (hb : Below w.heap.size w w') : IsP w' v a:=let ⟨x,y,z,e,h1,h2,h3⟩:=h;⟨x,y,z,e,h1.below hb,h2.below hb,h3.below hb⟩
theorem IsA.alloc {w : World} {v : Value} {a : Ar} (h : IsA w v a) (o : Obj) : IsA (w.alloc o) v a:=h.below (ay w o)
theorem IsA.drew {w : World} {v : Value} {a : Ar} (h : IsA w v a) : IsA w.drew v a:=h.below (aW w)
theorem IsP.alloc {w : World} {v : Value} {a : Pa} (h : IsP w v a) (o : Obj) : IsP (w.alloc o) v a:=h.below (ay w o)
theorem IsP.drew {w : World} {v : Value} {a : Pa} (h : IsP w v a) : IsP w.drew v a:=h.below (aW w)
theorem IsP.arena {w : World} {vo vn vp : Value} {g : Pa} (h : IsP w (.agg #[vo,vn,vp]) g) : IsA w (.agg #[vo,vn]) g.ar:=by
 obtain ⟨a,b,c,e,h1,h2,h3⟩:=h
 simp only [Value.agg.injEq,Array.mk.injEq,List.cons.injEq,and_true] at e
 obtain ⟨rfl,rfl,rfl⟩:=e
 exact ⟨_,_,rfl,h1,h2⟩
theorem cM {W w1 : World} (hb : Below W.heap.size W w1) : (∀ b o,b < W.heap.size → w1.cell? ⟨b,o,none⟩ = W.cell? ⟨b,o,none⟩) ∧ (∀ b o,b < W.heap.size → w1.frozen? ⟨b,o,none⟩ = W.frozen? ⟨b,o,none⟩) :=
 ⟨fun b o h=>hb.cell (p:=⟨b,o,none⟩) h,fun b o h=>hb.frozen (p:=⟨b,o,none⟩) h⟩
end Go.Proofs.Ythjamlponejffaa
namespace Go.Proofs.Ythjamlponejffaa
set_option linter.unusedVariables false
set_option linter.unusedSimpArgs false
open Go.RowKit
theorem Try.infoI : (Try.prog.info? 2).map (fun i=>(i.zero,i.size,i.bytes)) = some (some (.int .i64 0),1,8):=by kernel_rfl
theorem Try.infoS : (Try.prog.info? 22).map (fun i=>(i.zero,i.size,i.bytes)) = some (some (.slice none 0 0),1,24):=by kernel_rfl
abbrev blk (v : Value) : Option Nat:=v.ownBlock
def aE (e : TypeId) (lo hi : Nat) (w : World) (v : Value) (vs : List Value) : Prop :=
 (v = .slice none 0 0 ∧ vs = []) ∨
 ∃ g cap cur,v = .slice (some ⟨g,0,none⟩) vs.length cap ∧ lo ≤ g ∧ g < hi ∧ w.heap[g]? = some (.cells cur e (0,0)) ∧ vs.length ≤ cap ∧ cap ≤ maxLen ∧ cur.size = cap ∧ cur.toList.take vs.length = vs
theorem aE.row {e : TypeId} {lo hi : Nat} {w : World} {v : Value} {vs : List Value} (h : aE e lo hi w v vs) : w.ownsRow lo e 1 v vs.length vs:=by
 refine ⟨by omega,?_⟩
 rcases h with ⟨rfl,rfl⟩|⟨g,cap,cur,rfl,h1,_,h2,h3,h4,h5,h6⟩
 · exact .inl ⟨rfl,rfl⟩
 · exact .inr ⟨g,cap,cur,rfl,h1,h2,h3,h4,by omega,by rw [Nat.mul_one];exact h6⟩
theorem dc {e : TypeId} {lo n : Nat} {w : World} {v : Value} {vs : List Value} (h : w.ownsRow lo e 1 v n vs) : aE e lo w.heap.size w v vs:=by
 obtain ⟨hl,h⟩:=h
 have hl' : vs.length = n:=by omega
 subst hl'
 rcases h with ⟨rfl,h0⟩|⟨g,cap,cur,rfl,h1,h2,h3,h4,h5,h6⟩
 · exact .inl ⟨rfl,List.eq_nil_of_length_eq_zero h0⟩
 · exact .inr ⟨g,cap,cur,rfl,h1,(Array.getElem?_eq_some_iff.1 h2).1,h2,h3,h4,by omega,by rw [Nat.mul_one] at h6;exact h6⟩
theorem aE.keep {e : TypeId} {lo hi : Nat} {w w' : World} {v : Value} {vs : List Value} (h : aE e lo hi w v vs) (hk : ∀ g,blk v = some g → w'.heap[g]? = w.heap[g]?) : aE e lo hi w' v vs:=by
 rcases h with h|⟨g,cap,cur,rfl,h1,h1',h2,h3⟩
 · exact .inl h
 · exact .inr ⟨g,cap,cur,rfl,h1,h1',(hk g rfl).trans h2,h3⟩
theorem aE.lt {e : TypeId} {lo hi : Nat} {w : World} {v : Value} {vs : List Value} (h : aE e lo hi w v vs) : ∀ g,blk v = some g → lo ≤ g ∧ g < hi ∧ g < w.heap.size:=by
 intro g hg
 rcases h with ⟨rfl,_⟩|⟨g',cap,cur,rfl,h1,h1',h2,h3⟩
 · simp [blk,Value.ownBlock] at hg
 · simp [blk,Value.ownBlock] at hg
   subst hg
   exact ⟨h1,h1',(Array.getElem?_eq_some_iff.1 h2).1⟩
theorem aE.below {e : TypeId} {lo hi : Nat} {w w' : World} {v : Value} {vs : List Value} (h : aE e lo hi w v vs) (hb : Below w.heap.size w w') : aE e lo hi w' v vs :=
 h.keep fun g hg=>hb.block g (h.lt g hg).2.2
theorem aE.mono {e : TypeId} {lo hi lo' hi' : Nat} {w : World} {v : Value} {vs : List Value} (h : aE e lo hi w v vs) (hl : lo' ≤ lo) (hh : hi ≤ hi') : aE e lo' hi' w v vs:=by
 rcases h with h|⟨g,cap,cur,rfl,h1,h1',h2,h3⟩
 · exact .inl h
 · exact .inr ⟨g,cap,cur,rfl,by omega,by omega,h2,h3⟩
theorem aE.top {e : TypeId} {lo hi : Nat} {w : World} {v : Value} {vs : List Value} (h : aE e lo hi w v vs) : aE e lo w.heap.size w v vs:=by
 rcases h with h|⟨g,cap,cur,rfl,h1,h1',h2,h3⟩
 · exact .inl h
 · exact .inr ⟨g,cap,cur,rfl,h1,(Array.getElem?_eq_some_iff.1 h2).1,h2,h3⟩
theorem aE.alloc {e : TypeId} {lo hi : Nat} {w : World} {v : Value} {vs : List Value} (h : aE e lo hi w v vs) (o : Obj) : aE e lo hi (w.alloc o) v vs:=h.below (ay w o)
theorem aE.drew {e : TypeId} {lo hi : Nat} {w : World} {v : Value} {vs : List Value} (h : aE e lo hi w v vs) : aE e lo hi w.drew v vs:=h.below (aW w)
theorem kC (e : TypeId) (lo hi : Nat) (w : World) : aE e lo hi w (.slice none 0 0) []:=.inl ⟨rfl,rfl⟩
theorem aE.form {e : TypeId} {lo hi : Nat} {w : World} {v : Value} {vs : List Value} (h : aE e lo hi w v vs) (d : Value) : ∃ sa c,v = .slice sa vs.length c ∧ Cells w sa vs.length c fun k=>vs.getD k d:=by
 rcases h with ⟨rfl,rfl⟩|⟨g,cap,cur,rfl,h1,h1',h2,h3,h4,h5,h6⟩
 · exact ⟨none,0,rfl,gm w _⟩
 · unfold maxLen at h4
   refine ⟨some ⟨g,0,none⟩,cap,rfl,⟨h3,by omega,fun h=>(by cases h),fun ad h _=>(by cases h;rfl),fun ad h k hk=>?_⟩⟩
   cases h
   rw [cell_of_row w g _ cur e (0,0) h2]
   simp only [Nat.zero_add]
   have hk' : cur.toList[k]? = vs[k]?:=by
    have:=congrArg (·[k]?) h6
    simpa [List.getElem?_take,hk] using this
   rw [← Array.getElem?_toList,hk',List.getD_eq_getElem?_getD,List.getElem?_eq_getElem hk]
   rfl
theorem aE.at {e : TypeId} {lo hi : Nat} {w : World} {v : Value} {vs : List Value} (h : aE e lo hi w v vs) (d : Value) {k : Nat} (hk : k < vs.length) :
  ∃ g cap,v = .slice (some ⟨g,0,none⟩) vs.length cap ∧ lo ≤ g ∧ g < hi ∧ g < w.heap.size ∧ (∀ k,k < vs.length → w.cell? ⟨g,k,none⟩ = some (vs.getD k d)) ∧ ∀ k,w.frozen? ⟨g,k,none⟩ = false:=by
 obtain ⟨sa,c,hv,hc⟩:=h.form d
 rcases h with ⟨rfl,rfl⟩|⟨g,cap,cur,rfl,h1,h1',h2,h3,h4,h5,h6⟩
 · simp at hk
 · simp only [Value.slice.injEq,true_and] at hv
   obtain ⟨rfl,rfl⟩:=hv
   exact ⟨g,cap,rfl,h1,h1',(Array.getElem?_eq_some_iff.1 h2).1,fun k hk=>by have:=hc.cell _ rfl k hk;simpa using this,fun k=>by simp [World.frozen?,h2]⟩
theorem aE.set {e : TypeId} {lo hi : Nat} {w : World} {g n cap : Nat} {vs : List Value} (h : aE e lo hi w (.slice (some ⟨g,0,none⟩) n cap) vs) (k : Nat) (u : Value) :
  aE e lo hi (w.setCell ⟨g,k,none⟩ u) (.slice (some ⟨g,0,none⟩) n cap) (vs.set k u):=by
 rcases h with ⟨h,_⟩|⟨g',cap',cur,h0,h1,h1',h2,h3,h4,h5,h6⟩
 · cases h
 · simp only [Value.slice.injEq,Option.some.injEq,Addr.mk.injEq,and_true] at h0
   obtain ⟨rfl,rfl,rfl⟩:=h0
   refine .inr ⟨g,cap,cur.setIfInBounds k u,by rw [List.length_set],h1,h1',?_,by rw [List.length_set];exact h3,h4,by rw [Array.size_setIfInBounds];exact h5,?_⟩
   · simp [World.setCell,Array.getElem?_modify,h2]
   · rw [List.length_set,Array.toList_setIfInBounds,List.take_set,h6]
theorem ao {B : Nat} {a w : World} (h : Below B a w) {g k : Nat} (hp : B ≤ g) (u : Value) : Below B a (w.setCell ⟨g,k,none⟩ u):=h.setCell (p:=⟨g,k,none⟩) hp u
theorem aE.other {e : TypeId} {lo hi : Nat} {w : World} {v : Value} {vs : List Value} (h : aE e lo hi w v vs) {g : Nat} (hne : blk v ≠ some g) (k : Nat) (u : Value) : aE e lo hi (w.setCell ⟨g,k,none⟩ u) v vs :=
 h.keep fun g' hg=>Below.heap_setCell _ _ _ _ (fun e=>hne (by rw [hg];exact congrArg some e))
def tab (n : Nat) (f : Nat → Int) : List Int:=(List.range n).map f
def cx (n : Nat) (f : Nat → Bool) : List Bool:=(List.range n).map f
@[simp] theorem dq (n : Nat) (f : Nat → Int) : (tab n f).length = n:=by simp [tab]
@[simp] theorem fR (n : Nat) (f : Nat → Bool) : (cx n f).length = n:=by simp [cx]
theorem dA {n k : Nat} (f : Nat → Int) (h : k < n) : gi (tab n f) k = f k:=by simp [gi,tab,List.getD,h]
theorem dL {n k : Nat} (f : Nat → Bool) (h : k < n) : gb (cx n f) k = f k:=by simp [gb,cx,List.getD,h]
theorem jR {xs : List Int} {n : Nat} {f : Nat → Int} (hl : xs.length = n) (h : ∀ k,k < n → gi xs k = f k) : xs = tab n f :=
 oN (by simp [hl]) fun k hk=>by rw [h k (by omega),dA f (by omega)]
theorem g6 {xs : List Bool} {n : Nat} {f : Nat → Bool} (hl : xs.length = n) (h : ∀ k,k < n → gb xs k = f k) : xs = cx n f :=
 rN (by simp [hl]) fun k hk=>by rw [h k (by omega),dL f (by omega)]
theorem eo {xs : List Int} {k j : Nat} {x : Int} (hk : k < xs.length) : gi (xs.set k x) j = if j = k then x else gi xs j:=by
 simp only [gi,List.getD_eq_getElem?_getD,List.getElem?_set]
 by_cases e : k = j
 · subst e;simp [hk]
 · rw [if_neg e,if_neg (fun h=>e h.symm)]
theorem oQ {xs : List Bool} {k j : Nat} {x : Bool} (hk : k < xs.length) : gb (xs.set k x) j = if j = k then x else gb xs j:=by
 simp only [gb,List.getD_eq_getElem?_getD,List.getElem?_set]
 by_cases e : k = j
 · subst e;simp [hk]
 · rw [if_neg e,if_neg (fun h=>e h.symm)]
theorem oR {xs : List (List Int)} {k j : Nat} {x : List Int} (hk : k < xs.length) : gr (xs.set k x) j = if j = k then x else gr xs j:=by
 simp only [gr,List.getD_eq_getElem?_getD,List.getElem?_set]
 by_cases e : k = j
 · subst e;simp [hk]
 · rw [if_neg e,if_neg (fun h=>e h.symm)]
theorem g7 {n k : Nat} {f : Nat → Int} {x : Int} (hk : k < n) : (tab n f).set k x = tab n fun i=>if i = k then x else f i :=
 jR (by simp) fun j hj=>by rw [eo (by simpa using hk),dA f hj]
theorem kD {n k : Nat} {f : Nat → Bool} {x : Bool} (hk : k < n) : (cx n f).set k x = cx n fun i=>if i = k then x else f i :=
 g6 (by simp) fun j hj=>by rw [oQ (by simpa using hk),dL f hj]
def az (lo hi : Nat) (w : World) (v : Value) (xs : List Int) : Prop:=aE 2 lo hi w v (xs.map (.int .i64))
def cw (lo hi : Nat) (w : World) (v : Value) (xs : List Bool) : Prop:=aE 4 lo hi w v (xs.map .bool)
theorem gn (xs : List Int) (k : Nat) : (xs.map (Value.int .i64)).getD k (.int .i64 0) = .int .i64 (gi xs k):=by
 simp only [gi,List.getD_eq_getElem?_getD,List.getElem?_map]
 cases xs[k]? <;> rfl
theorem im (xs : List Bool) (k : Nat) : (xs.map Value.bool).getD k (.bool false) = .bool (gb xs k):=by
 simp only [gb,List.getD_eq_getElem?_getD,List.getElem?_map]
 cases xs[k]? <;> rfl
theorem az.is {lo hi : Nat} {w : World} {v : Value} {xs : List Int} (h : az lo hi w v xs) : IsI w v xs:=by
 obtain ⟨sa,c,hv,hc⟩:=h.form (.int .i64 0)
 rw [List.length_map] at hv hc
 exact ⟨sa,_,c,hv,rfl,by simpa only [gn] using hc⟩
theorem cw.is {lo hi : Nat} {w : World} {v : Value} {xs : List Bool} (h : cw lo hi w v xs) : IsB w v xs:=by
 obtain ⟨sa,c,hv,hc⟩:=h.form (.bool false)
 rw [List.length_map] at hv hc
 exact ⟨sa,_,c,hv,rfl,by simpa only [im] using hc⟩
theorem az.below {lo hi : Nat} {w w' : World} {v : Value} {xs : List Int} (h : az lo hi w v xs) (hb : Below w.heap.size w w') : az lo hi w' v xs:=aE.below h hb
theorem cw.below {lo hi : Nat} {w w' : World} {v : Value} {xs : List Bool} (h : cw lo hi w v xs) (hb : Below w.heap.size w w') : cw lo hi w' v xs:=aE.below h hb
theorem az.alloc {lo hi : Nat} {w : World} {v : Value} {xs : List Int} (h : az lo hi w v xs) (o : Obj) : az lo hi (w.alloc o) v xs:=aE.alloc h o
theorem cw.alloc {lo hi : Nat} {w : World} {v : Value} {xs : List Bool} (h : cw lo hi w v xs) (o : Obj) : cw lo hi (w.alloc o) v xs:=aE.alloc h o
theorem az.drew {lo hi : Nat} {w : World} {v : Value} {xs : List Int} (h : az lo hi w v xs) : az lo hi w.drew v xs:=aE.drew h
theorem cw.drew {lo hi : Nat} {w : World} {v : Value} {xs : List Bool} (h : cw lo hi w v xs) : cw lo hi w.drew v xs:=aE.drew h
theorem az.mono {lo hi lo' hi' : Nat} {w : World} {v : Value} {xs : List Int} (h : az lo hi w v xs) (hl : lo' ≤ lo) (hh : hi ≤ hi') : az lo' hi' w v xs:=aE.mono h hl hh
theorem cw.mono {lo hi lo' hi' : Nat} {w : World} {v : Value} {xs : List Bool} (h : cw lo hi w v xs) (hl : lo' ≤ lo) (hh : hi ≤ hi') : cw lo' hi' w v xs:=aE.mono h hl hh
theorem az.top {lo hi : Nat} {w : World} {v : Value} {xs : List Int} (h : az lo hi w v xs) : az lo w.heap.size w v xs:=aE.top h
theorem cw.top {lo hi : Nat} {w : World} {v : Value} {xs : List Bool} (h : cw lo hi w v xs) : cw lo w.heap.size w v xs:=aE.top h
theorem az.at {lo hi : Nat} {w : World} {v : Value} {xs : List Int} (h : az lo hi w v xs) {k : Nat} (hk : k < xs.length) :
  ∃ g cap,v = .slice (some ⟨g,0,none⟩) xs.length cap ∧ lo ≤ g ∧ g < hi ∧ g < w.heap.size ∧ (∀ k,k < xs.length → w.cell? ⟨g,k,none⟩ = some (.int .i64 (gi xs k))) ∧ ∀ k,w.frozen? ⟨g,k,none⟩ = false:=by
 have:=aE.at h (.int .i64 0) (k:=k) (by simpa using hk)
 simpa only [List.length_map,gn] using this
theorem cw.at {lo hi : Nat} {w : World} {v : Value} {xs : List Bool} (h : cw lo hi w v xs) {k : Nat} (hk : k < xs.length) :
  ∃ g cap,v = .slice (some ⟨g,0,none⟩) xs.length cap ∧ lo ≤ g ∧ g < hi ∧ g < w.heap.size ∧ (∀ k,k < xs.length → w.cell? ⟨g,k,none⟩ = some (.bool (gb xs k))) ∧ ∀ k,w.frozen? ⟨g,k,none⟩ = false:=by
 have:=aE.at h (.bool false) (k:=k) (by simpa using hk)
 simpa only [List.length_map,im] using this
theorem az.set {lo hi : Nat} {w : World} {g n cap : Nat} {xs : List Int} (h : az lo hi w (.slice (some ⟨g,0,none⟩) n cap) xs) (k : Nat) (x : Int) :
  az lo hi (w.setCell ⟨g,k,none⟩ (.int .i64 x)) (.slice (some ⟨g,0,none⟩) n cap) (xs.set k x):=by
 have:=aE.set h k (.int .i64 x)
 rwa [← List.map_set] at this
theorem cw.set {lo hi : Nat} {w : World} {g n cap : Nat} {xs : List Bool} (h : cw lo hi w (.slice (some ⟨g,0,none⟩) n cap) xs) (k : Nat) (x : Bool) :
  cw lo hi (w.setCell ⟨g,k,none⟩ (.bool x)) (.slice (some ⟨g,0,none⟩) n cap) (xs.set k x):=by
 have:=aE.set h k (.bool x)
 rwa [← List.map_set] at this
theorem az.len {lo hi : Nat} {w : World} {sa : Option Addr} {n cap : Nat} {xs : List Int} (h : az lo hi w (.slice sa n cap) xs) : xs.length = n:=by
 obtain ⟨sa',n',c',e,h1,_⟩:=h.is
 simp only [Value.slice.injEq] at e
 omega
theorem cw.len {lo hi : Nat} {w : World} {sa : Option Addr} {n cap : Nat} {xs : List Bool} (h : cw lo hi w (.slice sa n cap) xs) : xs.length = n:=by
 obtain ⟨sa',n',c',e,h1,_⟩:=h.is
 simp only [Value.slice.injEq] at e
 omega
theorem gp (n : Nat) : (madeCells #[Value.int .i64 0] n).toList = (tab n fun _=>0).map (.int .i64):=by
 simp [madeCells,tab,Nat.mod_one]
theorem az.cell {lo hi : Nat} {w : World} {g n cap : Nat} {xs : List Int} (h : az lo hi w (.slice (some ⟨g,0,none⟩) n cap) xs) {k : Nat} (hk : k < n) :
  w.cell? ⟨g,k,none⟩ = some (.int .i64 (gi xs k)) ∧ w.frozen? ⟨g,k,none⟩ = false ∧ lo ≤ g ∧ g < w.heap.size:=by
 have hl:=h.len
 obtain ⟨g',cap',e,h1,_,h2,h3,h4⟩:=h.at (k:=k) (by omega)
 simp only [Value.slice.injEq,Option.some.injEq,Addr.mk.injEq,and_true] at e
 obtain ⟨rfl,_,rfl⟩:=e
 exact ⟨h3 k (by omega),h4 k,h1,h2⟩
theorem cw.cell {lo hi : Nat} {w : World} {g n cap : Nat} {xs : List Bool} (h : cw lo hi w (.slice (some ⟨g,0,none⟩) n cap) xs) {k : Nat} (hk : k < n) :
  w.cell? ⟨g,k,none⟩ = some (.bool (gb xs k)) ∧ w.frozen? ⟨g,k,none⟩ = false ∧ lo ≤ g ∧ g < w.heap.size:=by
 have hl:=h.len
 obtain ⟨g',cap',e,h1,_,h2,h3,h4⟩:=h.at (k:=k) (by omega)
 simp only [Value.slice.injEq,Option.some.injEq,Addr.mk.injEq,and_true] at e
 obtain ⟨rfl,_,rfl⟩:=e
 exact ⟨h3 k (by omega),h4 k,h1,h2⟩
theorem bA {n : Nat} {f g : Nat → Int} (h : ∀ k,k < n → f k = g k) : tab n f = tab n g:=jR (by simp) fun k hk=>by rw [dA f hk,h k hk]
theorem cz {n : Nat} {f g : Nat → Bool} (h : ∀ k,k < n → f k = g k) : cx n f = cx n g:=g6 (by simp) fun k hk=>by rw [dL f hk,h k hk]
theorem io {n k : Nat} {f : Nat → Int} {d : Nat → Int} (hk : k < n) : (tab n fun j=>if j < k then f j else d j).set k (f k) = tab n fun j=>if j < k + 1 then f j else d j:=by
 rw [g7 hk]
 refine bA fun j hj=>?_
 by_cases e : j = k
 · subst e;simp
 · rw [if_neg e];by_cases h : j < k
   · rw [if_pos h,if_pos (by omega)]
   · rw [if_neg h,if_neg (by omega)]
theorem nH {n k : Nat} {f : Nat → Bool} {d : Nat → Bool} (hk : k < n) : (cx n fun j=>if j < k then f j else d j).set k (f k) = cx n fun j=>if j < k + 1 then f j else d j:=by
 rw [kD hk]
 refine cz fun j hj=>?_
 by_cases e : j = k
 · subst e;simp
 · rw [if_neg e];by_cases h : j < k
   · rw [if_pos h,if_pos (by omega)]
   · rw [if_neg h,if_neg (by omega)]
theorem kE (xs : List Int) : tab xs.length (gi xs) = xs:=(jR rfl fun _ _=>rfl).symm
def uV (w : World) (n : Nat) (xs : List Int) (e : Ending) (w' : World) : Prop :=
 xs.length = n ∧ ∃ sa c,e = .returned (.slice sa n c) ∧ az w.heap.size w'.heap.size w' (.slice sa n c) xs ∧ Below w.heap.size w w'
def bu (lo hi : Nat) (w : World) (v : Value) (xss : List (List Int)) (vs : List Value) : Prop :=
 vs.length = xss.length ∧ aE 22 lo hi w v vs ∧ (∀ k,k < xss.length → az lo hi w (vs.getD k (.slice none 0 0)) (gr xss k)) ∧ (vs.filterMap blk).Nodup
def fS (lo hi : Nat) (w : World) (v : Value) (xss : List (List Int)) : Prop:=∃ vs,bu lo hi w v xss vs
def dX (lo hi : Nat) (w : World) (v : Value) (a : Ar) : Prop:=∃ vo vn vs,v = .agg #[vo,vn] ∧ az lo hi w vo a.own ∧ bu lo hi w vn a.nxt vs ∧ ((vo :: vs).filterMap blk).Nodup
def cC (lo hi : Nat) (w : World) (v : Value) (g : Pa) : Prop:=∃ vo vn vp vs,v = .agg #[vo,vn,vp] ∧ az lo hi w vo g.ar.own ∧ bu lo hi w vn g.ar.nxt vs ∧ az lo hi w vp g.prio ∧ ((vo :: vp :: vs).filterMap blk).Nodup
theorem bu.below {lo hi : Nat} {w w' : World} {v : Value} {xss : List (List Int)} {vs : List Value} (h : bu lo hi w v xss vs) (hb : Below w.heap.size w w') : bu lo hi w' v xss vs :=
 ⟨h.1,h.2.1.below hb,fun k hk=>(h.2.2.1 k hk).below hb,h.2.2.2⟩
theorem bu.mono {lo hi lo' hi' : Nat} {w : World} {v : Value} {xss : List (List Int)} {vs : List Value} (h : bu lo hi w v xss vs) (hl : lo' ≤ lo) (hh : hi ≤ hi') : bu lo' hi' w v xss vs :=
 ⟨h.1,h.2.1.mono hl hh,fun k hk=>(h.2.2.1 k hk).mono hl hh,h.2.2.2⟩
theorem bu.top {lo hi : Nat} {w : World} {v : Value} {xss : List (List Int)} {vs : List Value} (h : bu lo hi w v xss vs) : bu lo w.heap.size w v xss vs :=
 ⟨h.1,h.2.1.top,fun k hk=>(h.2.2.1 k hk).top,h.2.2.2⟩
theorem bu.is {lo hi : Nat} {w : World} {v : Value} {xss : List (List Int)} {vs : List Value} (h : bu lo hi w v xss vs) : db w v xss:=by
 obtain ⟨h1,h2,h3,_⟩:=h
 obtain ⟨sa,c,hv,hc⟩:=h2.form (.slice none 0 0)
 rw [h1] at hv hc
 have each : ∀ k,∃ y : Option Addr × Nat × Nat,k < xss.length → vs.getD k (.slice none 0 0) = .slice y.1 y.2.1 y.2.2 ∧ cm w y.1 y.2.1 y.2.2 (gr xss k):=by
  intro k
  by_cases hk : k < xss.length
  · obtain ⟨a,n,c,e,hi⟩:=(h3 k hk).is
    exact ⟨(a,n,c),fun _=>⟨e,hi⟩⟩
  · exact ⟨(none,0,0),fun h=>absurd h hk⟩
 refine ⟨sa,_,c,hv,rfl,fun k=>(Classical.choose (each k)).1,fun k=>(Classical.choose (each k)).2.1,fun k=>(Classical.choose (each k)).2.2,⟨hc.cap,hc.max,hc.nil,hc.spot,fun ad ha k hk=>?_⟩,fun k hk=>((Classical.choose_spec (each k)) hk).2⟩
 rw [hc.cell ad ha k hk]
 exact congrArg some ((Classical.choose_spec (each k)) hk).1
theorem dX.is {lo hi : Nat} {w : World} {v : Value} {a : Ar} (h : dX lo hi w v a) : IsA w v a:=let ⟨vo,vn,_,e,h1,h2,_⟩:=h;⟨vo,vn,e,h1.is,h2.is⟩
theorem cC.is {lo hi : Nat} {w : World} {v : Value} {a : Pa} (h : cC lo hi w v a) : IsP w v a:=let ⟨vo,vn,vp,_,e,h1,h2,h3,_⟩:=h;⟨vo,vn,vp,e,h1.is,h2.is,h3.is⟩
theorem dX.below {lo hi : Nat} {w w' : World} {v : Value} {a : Ar} (h : dX lo hi w v a) (hb : Below w.heap.size w w') : dX lo hi w' v a:=let ⟨vo,vn,vs,e,h1,h2,h3⟩:=h;⟨vo,vn,vs,e,h1.below hb,h2.below hb,h3⟩
theorem cC.below {lo hi : Nat} {w w' : World} {v : Value} {a : Pa} (h : cC lo hi w v a) (hb : Below w.heap.size w w') : cC lo hi w' v a:=let ⟨vo,vn,vp,vs,e,h1,h2,h3,h4⟩:=h;⟨vo,vn,vp,vs,e,h1.below hb,h2.below hb,h3.below hb,h4⟩
theorem dX.mono {lo hi lo' hi' : Nat} {w : World} {v : Value} {a : Ar} (h : dX lo hi w v a) (hl : lo' ≤ lo) (hh : hi ≤ hi') : dX lo' hi' w v a:=let ⟨vo,vn,vs,e,h1,h2,h3⟩:=h;⟨vo,vn,vs,e,h1.mono hl hh,h2.mono hl hh,h3⟩
theorem cC.mono {lo hi lo' hi' : Nat} {w : World} {v : Value} {a : Pa} (h : cC lo hi w v a) (hl : lo' ≤ lo) (hh : hi ≤ hi') : cC lo' hi' w v a:=let ⟨vo,vn,vp,vs,e,h1,h2,h3,h4⟩:=h;⟨vo,vn,vp,vs,e,h1.mono hl hh,h2.mono hl hh,h3.mono hl hh,h4⟩
theorem dX.top {lo hi : Nat} {w : World} {v : Value} {a : Ar} (h : dX lo hi w v a) : dX lo w.heap.size w v a:=let ⟨vo,vn,vs,e,h1,h2,h3⟩:=h;⟨vo,vn,vs,e,h1.top,h2.top,h3⟩
theorem cC.top {lo hi : Nat} {w : World} {v : Value} {a : Pa} (h : cC lo hi w v a) : cC lo w.heap.size w v a:=let ⟨vo,vn,vp,vs,e,h1,h2,h3,h4⟩:=h;⟨vo,vn,vp,vs,e,h1.top,h2.top,h3.top,h4⟩
theorem az.blks {lo hi : Nat} {w : World} {v : Value} {xs : List Int} (h : az lo hi w v xs) : ∀ g,blk v = some g → lo ≤ g ∧ g < hi:=fun g hg=>⟨(aE.lt h g hg).1,(aE.lt h g hg).2.1⟩
theorem bu.blks {lo hi : Nat} {w : World} {v : Value} {xss : List (List Int)} {vs : List Value} (h : bu lo hi w v xss vs) : ∀ g,g ∈ vs.filterMap blk → lo ≤ g ∧ g < hi:=by
 intro g hg
 obtain ⟨u,hu,e⟩:=List.mem_filterMap.1 hg
 obtain ⟨k,hk,e2⟩:=List.getElem_of_mem hu
 have:=h.2.2.1 k (by rw [← h.1];exact hk)
 rw [List.getD_eq_getElem?_getD,List.getElem?_eq_getElem hk] at this
 simp only [Option.getD_some,e2] at this
 exact this.blks g e
def bD (lo hi : Nat) (w w' : World) : Prop:=w.heap.size ≤ w'.heap.size ∧ ∀ g,lo ≤ g → g < hi → g < w.heap.size → w'.heap[g]? = w.heap[g]?
theorem bD.refl (lo hi : Nat) (w : World) : bD lo hi w w:=⟨Nat.le_refl _,fun _ _ _ _=>rfl⟩
theorem bD.trans {lo hi : Nat} {a b c : World} (h : bD lo hi a b) (k : bD lo hi b c) : bD lo hi a c :=
 ⟨Nat.le_trans h.1 k.1,fun g h1 h2 h3=>(k.2 g h1 h2 (Nat.lt_of_lt_of_le h3 h.1)).trans (h.2 g h1 h2 h3)⟩
theorem bD.below {lo hi : Nat} {a b c : World} (h : bD lo hi a b) (k : Below b.heap.size b c) : bD lo hi a c :=
 h.trans ⟨k.size,fun g _ _ h3=>k.block g h3⟩
theorem bD.alloc {lo hi : Nat} {a b : World} (h : bD lo hi a b) (o : Obj) : bD lo hi a (b.alloc o):=h.below (ay b o)
theorem bD.drew {lo hi : Nat} {a b : World} (h : bD lo hi a b) : bD lo hi a b.drew:=h.below (aW b)
theorem bD.drewN {lo hi : Nat} {a b : World} (h : bD lo hi a b) (m : Nat) : bD lo hi a (b.drewN m):=h.below (cI b m)
theorem bD.set {lo hi : Nat} {a b : World} (h : bD lo hi a b) {g k : Nat} (hg : g < lo ∨ hi ≤ g) (u : Value) : bD lo hi a (b.setCell ⟨g,k,none⟩ u) :=
 h.trans ⟨by rw [World.size_setCell];exact Nat.le_refl _,fun g' h1 h2 h3=>Below.heap_setCell _ _ _ _ (fun e=>by simp only at e;omega)⟩
theorem aE.kept {e : TypeId} {lo hi : Nat} {w w' : World} {v : Value} {vs : List Value} (h : aE e lo hi w v vs) (hk : bD lo hi w w') : aE e lo hi w' v vs :=
 h.keep fun g hg=>by have:=h.lt g hg;exact hk.2 g this.1 this.2.1 this.2.2
theorem az.final {lo hi lo' : Nat} {w W : World} {v : Value} {xs : List Int} (h : az lo hi w v xs) (hk : bD lo hi w W) (hl : lo' ≤ lo) : az lo' W.heap.size W v xs:=az.mono (az.top (aE.kept h hk)) hl (Nat.le_refl _)
theorem cw.final {lo hi lo' : Nat} {w W : World} {v : Value} {xs : List Bool} (h : cw lo hi w v xs) (hk : bD lo hi w W) (hl : lo' ≤ lo) : cw lo' W.heap.size W v xs:=cw.mono (cw.top (aE.kept h hk)) hl (Nat.le_refl _)
theorem az.kept {lo hi : Nat} {w w' : World} {v : Value} {xs : List Int} (h : az lo hi w v xs) (hk : bD lo hi w w') : az lo hi w' v xs:=aE.kept h hk
theorem cw.kept {lo hi : Nat} {w w' : World} {v : Value} {xs : List Bool} (h : cw lo hi w v xs) (hk : bD lo hi w w') : cw lo hi w' v xs:=aE.kept h hk
theorem bu.kept {lo hi : Nat} {w w' : World} {v : Value} {xss : List (List Int)} {vs : List Value} (h : bu lo hi w v xss vs) (hk : bD lo hi w w') : bu lo hi w' v xss vs :=
 ⟨h.1,h.2.1.kept hk,fun k h'=>(h.2.2.1 k h').kept hk,h.2.2.2⟩
theorem bu.final {lo hi lo' : Nat} {w W : World} {v : Value} {xss : List (List Int)} {vs : List Value} (h : bu lo hi w v xss vs) (hk : bD lo hi w W) (hl : lo' ≤ lo) : bu lo' W.heap.size W v xss vs:=bu.mono (bu.top (h.kept hk)) hl (Nat.le_refl _)
theorem dX.kept {lo hi : Nat} {w w' : World} {v : Value} {a : Ar} (h : dX lo hi w v a) (hk : bD lo hi w w') : dX lo hi w' v a:=let ⟨vo,vn,vs,e,h1,h2,h3⟩:=h;⟨vo,vn,vs,e,h1.kept hk,h2.kept hk,h3⟩
theorem cC.kept {lo hi : Nat} {w w' : World} {v : Value} {a : Pa} (h : cC lo hi w v a) (hk : bD lo hi w w') : cC lo hi w' v a:=let ⟨vo,vn,vp,vs,e,h1,h2,h3,h4⟩:=h;⟨vo,vn,vp,vs,e,h1.kept hk,h2.kept hk,h3.kept hk,h4⟩
theorem dX.final {lo hi lo' : Nat} {w W : World} {v : Value} {a : Ar} (h : dX lo hi w v a) (hk : bD lo hi w W) (hl : lo' ≤ lo) : dX lo' W.heap.size W v a:=dX.mono (dX.top (h.kept hk)) hl (Nat.le_refl _)
theorem cC.final {lo hi lo' : Nat} {w W : World} {v : Value} {a : Pa} (h : cC lo hi w v a) (hk : bD lo hi w W) (hl : lo' ≤ lo) : cC lo' W.heap.size W v a:=cC.mono (cC.top (h.kept hk)) hl (Nat.le_refl _)
end Go.Proofs.Ythjamlponejffaa
namespace Go.Proofs.Ythjamlponejffaa
set_option linter.unusedVariables false
set_option linter.unusedSimpArgs false
open Go.RowKit
def cQ (xss : List (List Int)) : Nat → Nat
 | 0 => 0
 | k + 1 => cQ xss k + (gr xss k).length
theorem gt (xss : List (List Int)) {j k : Nat} (h : j ≤ k) : cQ xss j ≤ cQ xss k:=by
 induction k with
 | zero => have : j = 0 := by omega
           subst this;exact Nat.le_refl _
 | succ k ih =>
   by_cases e : j = k + 1
   · subst e;exact Nat.le_refl _
   · have:=ih (by omega);simp only [cQ];omega
def fT (xss : List (List Int)) : Nat:=xss.length + cQ xss xss.length
def szA (a : Ar) : Nat:=a.own.length + fT a.nxt
def szP (g : Pa) : Nat:=szA g.ar + g.prio.length
def lft (l : Int) (n : Nat) : Int:=if l < n then -1 else l - n
theorem dT {l : Int} {n : Nat} (h : (n : Int) ≤ l) : lft l n = l - n:=if_neg (by omega)
theorem cR {l : Int} {n : Nat} (h : l < (n : Int)) : lft l n = -1:=if_pos h
set_option maxHeartbeats 400000 in
theorem ep (sa : Option Addr) (n c : Nat) (l : Int) (w : World) (hn : n ≤ 9223372036854775807) (h0 : 0 ≤ l) (hl : l ≤ 1048576) :
  Calls Try.prog 43 #[.slice sa n c,.int .i64 l] w fun e w'=>e = .returned (.int .i64 (lft l n)) ∧ w = w':=by
 go_enter Try.func43,Try.ntmps43
 go_wp2
 all_goals go_ret
 all_goals exact ⟨cB (by unfold lft;split <;> omega),rfl⟩
set_option maxHeartbeats 400000 in
theorem kF (sa : Option Addr) (n c : Nat) (xss : List (List Int)) (l : Int) (w : World) (hR : Rws w sa n c xss) (h0 : 0 ≤ l) (hl : l ≤ 1048576) :
  Calls Try.prog 84 #[.slice sa n c,.int .i64 l] w fun e w'=>e = .returned (.int .i64 (lft l (fT xss))) ∧ w = w':=by
 have hmax:=hR.max
 have HL:=Lib.hid hR.len
 by_cases hn : l < n
 · go_enter Try.func84,Try.ntmps84
   go_wp2
   all_goals go_ret
   all_goals exact ⟨cB (by rw [cR];unfold fT;rw [HL.out];omega),rfl⟩
 · go_enter Try.func84,Try.ntmps84
   go_wp2
   go_loop [1,5] (fun l' i=>∃ k : Nat,k ≤ n ∧ i = .int .i64 k ∧ (n : Int) + cQ xss k ≤ l ∧ l' = .int .i64 (l - n - cQ xss k)) (fun _ i=>n - (intOf i).toNat)
   case atStart=>exact ⟨0,by omega,rfl,by simp only [cQ];omega,by simp only [cQ];congr 1;omega⟩
   case round =>
    obtain ⟨k,hk,rfl,hp,rfl⟩:=hrel
    by_cases hlt : k < n
    · obtain ⟨b,o,rfl,hb,A,L,C,hc⟩:=hR.get hlt
      obtain ⟨hck,hI⟩:=hc k hlt
      have hm:=hI.max
      have hs : cQ xss (k + 1) = cQ xss k + L k:=by simp only [cQ];rw [hI.1]
      have HS:=Lib.hid hs
      clear hc hs
      generalize hq : cQ xss k = q at *
      have HQ:=Lib.hid hq
      clear hq
      by_cases hfit : (n : Int) + q + L k ≤ l
      · have hz:=dT (l:=l - n - q) (n:=L k) (by omega)
        go_wp2_with (go_at_call 43;refine (ep _ _ _ _ _ hm (by omega) (by omega)).mono ?_;rw [hz];rintro e w' ⟨rfl,rfl⟩)
        go_round
        case rel=>exact ⟨k + 1,by omega,by go_num,by rw [HS.out];omega,by rw [HS.out];congr 1;omega⟩
        case measure=>simp [intOf];omega
      · have hz:=cR (l:=l - n - q) (n:=L k) (by omega)
        go_wp2_with (go_at_call 43;refine (ep _ _ _ _ _ hm (by omega) (by omega)).mono ?_;rw [hz];rintro e w' ⟨rfl,rfl⟩)
        go_ret
        exact ⟨cB (by rw [cR];unfold fT;rw [HL.out];have:=gt xss (j:=k + 1) (k:=n) (by omega);have:=HS.out;omega),rfl⟩
    · go_wp2
      go_ret
      have e : k = n:=by omega
      subst e
      exact ⟨cB (by rw [dT] <;> (unfold fT;rw [HL.out];omega)),rfl⟩
set_option maxHeartbeats 400000 in
theorem jS (v : Value) (a : Ar) (l : Int) (w : World) (hA : IsA w v a) (h0 : 0 ≤ l) (hl : l ≤ 1048576) :
  Calls Try.prog 42 #[v,.int .i64 l] w fun e w'=>e = .returned (.int .i64 (lft l (szA a))) ∧ Below w.heap.size w w':=by
 obtain ⟨_,_,rfl,⟨s1,n1,c1,rfl,h1⟩,⟨s2,n2,c2,rfl,h2⟩⟩:=hA
 have hm1:=h1.max
 have HL:=Lib.hid h1.1
 by_cases hf : (n1 : Int) ≤ l
 · have hz:=dT hf
   by_cases hg : (n1 : Int) + fT a.nxt ≤ l
   · have hz2:=dT (l:=l - n1) (n:=fT a.nxt) (by omega)
     go_enter Try.func42,Try.ntmps42
     go_wp2_with (first|(go_at_call 43;refine (ep _ _ _ _ _ hm1 (by omega) (by omega)).mono ?_;rw [hz];rintro e w' ⟨rfl,rfl⟩)|(go_at_call 84;refine (kF _ _ _ _ _ _ (h2.alloc _) (by omega) (by omega)).mono ?_;rw [hz2];rintro e w' ⟨rfl,rfl⟩))
     go_ret
     exact ⟨cB (by rw [dT] <;> (unfold szA;rw [HL.out];omega)),ay _ _⟩
   · have hz2:=cR (l:=l - n1) (n:=fT a.nxt) (by omega)
     go_enter Try.func42,Try.ntmps42
     go_wp2_with (first|(go_at_call 43;refine (ep _ _ _ _ _ hm1 (by omega) (by omega)).mono ?_;rw [hz];rintro e w' ⟨rfl,rfl⟩)|(go_at_call 84;refine (kF _ _ _ _ _ _ (h2.alloc _) (by omega) (by omega)).mono ?_;rw [hz2];rintro e w' ⟨rfl,rfl⟩))
     go_ret
     exact ⟨cB (by rw [cR];unfold szA;rw [HL.out];omega),ay _ _⟩
 · have hz:=cR (l:=l) (n:=n1) (by omega)
   go_enter Try.func42,Try.ntmps42
   go_wp2_with (go_at_call 43;refine (ep _ _ _ _ _ hm1 (by omega) (by omega)).mono ?_;rw [hz];rintro e w' ⟨rfl,rfl⟩)
   go_ret
   exact ⟨cB (by rw [cR];unfold szA;rw [HL.out];omega),ay _ _⟩
end Go.Proofs.Ythjamlponejffaa
namespace Go.Proofs.Ythjamlponejffaa
set_option linter.unusedVariables false
set_option linter.unusedSimpArgs false
open Go.RowKit
set_option maxHeartbeats 400000 in
theorem g8 (sa : Option Addr) (n c : Nat) (xs : List Int) (w : World) (hI : cm w sa n c xs) (hn : n ≤ 1048576) :
  Calls Try.prog 11 #[.slice sa n c] w (uV w n xs):=by
 have hmax:=hI.max
 have HL:=Lib.hid hI.1
 obtain ⟨i0,hi,hz0,hz1,hz2⟩:=info_parts Try.infoI
 go_enter Try.func11,Try.ntmps11
 go_wp2_with (at_make;refine wpList_make_full _ rfl _ _ 22 rfl w.heap.size 2 i0 (.int .i64 0) 1 Try.underlying22 hi hz0 hz1 _ _ _ _ n rfl rfl rfl rfl (by rw [hz2];omega) (by unfold maxLen;omega) (Nat.le_refl _) ?_)
 intro w1 hown hgrow
 rw [gp] at hown
 have ho1 : az w.heap.size w1.heap.size w1 (.slice (some ⟨w.heap.size,0,none⟩) n n) (tab n fun j=>if j < 0 then gi xs j else 0):=by
  have:=dc hown
  exact this
 have hb1 : Below w.heap.size w w1:=(Below.refl _ _).grown hgrow (Nat.le_refl _) (fun k h=>by cases h)
 clear hown hgrow
 go_wp2
 go_loopw [4] (fun i wr=>∃ k : Nat,k ≤ n ∧ i = .int .i64 k ∧ az w.heap.size wr.heap.size wr (.slice (some ⟨w.heap.size,0,none⟩) n n) (tab n fun j=>if j < k then gi xs j else 0) ∧ Below w.heap.size w wr) (fun i _=>n - (intOf i).toNat)
 case atStart=>exact ⟨0,by omega,rfl,ho1,hb1⟩
 case round =>
  obtain ⟨k,hk,rfl,ho,hb⟩:=hrel
  by_cases hlt : k < n
  · obtain ⟨b,o,rfl,hbl,hc⟩:=hI.get hlt
    have hck:=(cM hb).1 b (o + k) hbl
    rw [hc k hlt] at hck
    obtain ⟨h1,h2,h3,h4⟩:=ho.cell hlt
    clear hc
    go_wp2
    go_roundw
    case rel =>
     refine ⟨k + 1,by omega,by go_num,?_,ao hb (Nat.le_refl _) _⟩
     have:=(az.set ho k (gi xs k)).top
     rwa [io (f:=gi xs) (d:=fun _=>0) hlt] at this
    case measure=>simp [intOf];omega
  · go_wp2
    go_ret
    have e : k = n:=by omega
    subst e
    refine ⟨HL.out,_,_,rfl,?_,hb⟩
    have e2 : (tab k fun j=>if j < k then gi xs j else 0) = xs:=by
     rw [bA (g:=gi xs) (fun j hj=>if_pos hj),← HL.out]
     exact kE xs
    rwa [e2] at ho
def th (w : World) (n : Nat) (xss : List (List Int)) (e : Ending) (w' : World) : Prop :=
 xss.length = n ∧ ∃ sa c,e = .returned (.slice sa n c) ∧ fS w.heap.size w'.heap.size w' (.slice sa n c) xss ∧ Below w.heap.size w w'
def eH (lo : Nat) (w : World) (v : Value) (n : Nat) (xss : List (List Int)) (k : Nat) (vs : List Value) : Prop :=
 vs.length = k ∧ aE 22 lo w.heap.size w v (vs ++ List.replicate (n - k) (.slice none 0 0)) ∧ (∀ i,i < k → az lo w.heap.size w (vs.getD i (.slice none 0 0)) (gr xss i)) ∧ (vs.filterMap blk).Nodup
theorem eH.below {lo : Nat} {w w' : World} {v : Value} {n : Nat} {xss : List (List Int)} {k : Nat} {vs : List Value} (h : eH lo w v n xss k vs) (hb : Below w.heap.size w w') : eH lo w' v n xss k vs :=
 ⟨h.1,(h.2.1.below hb).top,fun i hi=>((h.2.2.1 i hi).below hb).top,h.2.2.2⟩
theorem eH.mem {lo : Nat} {w : World} {v : Value} {n : Nat} {xss : List (List Int)} {k : Nat} {vs : List Value} (h : eH lo w v n xss k vs) : ∀ g,g ∈ vs.filterMap blk → lo ≤ g ∧ g < w.heap.size:=by
 intro g hg
 obtain ⟨u,hu,e⟩:=List.mem_filterMap.1 hg
 obtain ⟨j,hj,e2⟩:=List.getElem_of_mem hu
 have:=h.2.2.1 j (by rw [← h.1];exact hj)
 rw [List.getD_eq_getElem?_getD,List.getElem?_eq_getElem hj] at this
 simp only [Option.getD_some,e2] at this
 exact this.blks g e
theorem eH.cell {lo : Nat} {w : World} {g n cap : Nat} {xss : List (List Int)} {k : Nat} {vs : List Value} (h : eH lo w (.slice (some ⟨g,0,none⟩) n cap) n xss k vs) (hk : k < n) :
  (∃ u,w.cell? ⟨g,k,none⟩ = some u) ∧ w.frozen? ⟨g,k,none⟩ = false:=by
 obtain ⟨g',cap',e,_,_,_,h3,h4⟩:=h.2.1.at (k:=k) (.slice none 0 0) (by have:=h.1;simp;omega)
 simp only [Value.slice.injEq,Option.some.injEq,Addr.mk.injEq,and_true] at e
 obtain ⟨rfl,_,rfl⟩:=e
 exact ⟨⟨_,h3 k (by have:=h.1;simp;omega)⟩,h4 k⟩
theorem eH.step {lo : Nat} {w w1 : World} {g n cap : Nat} {xss : List (List Int)} {k : Nat} {vs : List Value} {u : Value} (h : eH lo w (.slice (some ⟨g,0,none⟩) n cap) n xss k vs) (hk : k < n)
  (hb : Below w.heap.size w w1) (hu : az w.heap.size w1.heap.size w1 u (gr xss k)) (hlo : lo ≤ w.heap.size) (hg : g < w.heap.size) :
  eH lo (w1.setCell ⟨g,k,none⟩ u) (.slice (some ⟨g,0,none⟩) n cap) n xss (k + 1) (vs ++ [u]):=by
 have h':=h.below hb
 have hne : ∀ x,az lo w1.heap.size w1 x (gr xss k) → blk x ≠ some g:=by
  intro x hx e
  have h1:=aE.lt hx g e
  rcases hx with ⟨rfl,_⟩|⟨g',c',cur,rfl,_,_,hh,_⟩
  · simp [blk,Value.ownBlock] at e
  · simp [blk,Value.ownBlock] at e
    subst e
    rcases h'.2.1 with ⟨hq,_⟩|⟨g2,c2,cur2,hq,_,_,hh2,_⟩
    · cases hq
    · simp only [Value.slice.injEq,Option.some.injEq,Addr.mk.injEq,and_true] at hq
      obtain ⟨rfl,_⟩:=hq
      rw [hh] at hh2
      simp at hh2
 have hne' : ∀ (ys : List Int) x,az lo w1.heap.size w1 x ys → blk x ≠ some g:=by
  intro ys x hx e
  rcases hx with ⟨rfl,_⟩|⟨g',c',cur,rfl,_,_,hh,_⟩
  · simp [blk,Value.ownBlock] at e
  · simp [blk,Value.ownBlock] at e
    subst e
    rcases h'.2.1 with ⟨hq,_⟩|⟨g2,c2,cur2,hq,_,_,hh2,_⟩
    · cases hq
    · simp only [Value.slice.injEq,Option.some.injEq,Addr.mk.injEq,and_true] at hq
      obtain ⟨rfl,_⟩:=hq
      rw [hh] at hh2
      simp at hh2
 refine ⟨by simp [h.1],?_,?_,?_⟩
 · have:=aE.set h'.2.1 k u
   have e : (vs ++ List.replicate (n - k) (Value.slice none 0 0)).set k u = (vs ++ [u]) ++ List.replicate (n - (k + 1)) (.slice none 0 0):=by
    rw [List.set_append,if_neg (by have:=h.1;omega),h.1,Nat.sub_self,show n - k = (n - (k + 1)) + 1 by omega,List.replicate_succ,List.set_cons_zero,List.append_assoc]
    rfl
   rw [e] at this
   exact this.top
 · intro i hi
   by_cases e : i = k
   · rw [e]
     have e2 : (vs ++ [u]).getD k (.slice none 0 0) = u:=by
      rw [List.getD_eq_getElem?_getD,List.getElem?_append_right (by have:=h.1;omega),h.1];simp
     rw [e2]
     have hu':=hu.mono hlo (Nat.le_refl _)
     exact (aE.other hu' (hne' _ _ hu') k u).top
   · have e2 : (vs ++ [u]).getD i (.slice none 0 0) = vs.getD i (.slice none 0 0):=by
      rw [List.getD_eq_getElem?_getD,List.getElem?_append_left (by have:=h.1;omega),← List.getD_eq_getElem?_getD]
     rw [e2]
     have hx:=h'.2.2.1 i (by omega)
     exact (aE.other hx (hne' _ _ hx) k u).top
 · rw [List.filterMap_append,List.nodup_append]
   refine ⟨h.2.2.2,?_,?_⟩
   · cases hq : blk u <;> simp [hq]
   · intro a ha b' hb' e
     subst e
     have h1:=h.mem a ha
     have h2 : blk u = some a:=by
      cases hq : blk u with
      | none => simp [hq] at hb'
      | some x => simp [hq] at hb'; rw [hb']
     have:=hu.blks a h2
     omega
theorem eM (n : Nat) : (madeCells #[Value.slice none 0 0] n).toList = List.replicate n (.slice none 0 0):=by
 apply List.ext_getElem
 · simp [madeCells]
 · intro i h1 h2
   simp [madeCells,Nat.mod_one]
set_option maxHeartbeats 400000 in
theorem oS (sa : Option Addr) (n c : Nat) (xss : List (List Int)) (w : World) (hR : Rws w sa n c xss) (hn : n ≤ 1048576) (hl : ∀ k,k < n → (gr xss k).length ≤ 1048576) :
  Calls Try.prog 88 #[.slice sa n c] w (th w n xss):=by
 have hmax:=hR.max
 have HL:=Lib.hid hR.len
 have HN:=Lib.hid hl
 clear hl
 obtain ⟨i0,hi,hz0,hz1,hz2⟩:=info_parts Try.infoS
 go_enter Try.func88,Try.ntmps88
 go_wp2_with (at_make;refine wpList_make_full _ rfl _ _ 23 rfl w.heap.size 22 i0 (.slice none 0 0) 1 Try.underlying23 hi hz0 hz1 _ _ _ _ n rfl rfl rfl rfl (by rw [hz2];omega) (by unfold maxLen;omega) (Nat.le_refl _) ?_)
 intro w1 hown hgrow
 rw [eM] at hown
 have hg1 : w.heap.size < w1.heap.size:=(hown.lt _ rfl).2
 have ho1 : eH w.heap.size w1 (.slice (some ⟨w.heap.size,0,none⟩) n n) n xss 0 [] :=
  ⟨rfl,by simpa using dc hown,fun i hi=>by omega,by simp⟩
 have hb1 : Below w.heap.size w w1:=(Below.refl _ _).grown hgrow (Nat.le_refl _) (fun k h=>by cases h)
 clear hown hgrow
 go_wp2
 go_loopw [4] (fun i wr=>∃ (k : Nat) (vs : List Value),k ≤ n ∧ i = .int .i64 k ∧ eH w.heap.size wr (.slice (some ⟨w.heap.size,0,none⟩) n n) n xss k vs ∧ Below w.heap.size w wr ∧ w.heap.size < wr.heap.size) (fun i _=>n - (intOf i).toNat)
 case atStart=>exact ⟨0,[],by omega,rfl,ho1,hb1,hg1⟩
 case round =>
  obtain ⟨k,vs,hk,rfl,ho,hb,hg⟩:=hrel
  by_cases hlt : k < n
  · obtain ⟨b,o,rfl,hbl,A,L,C,hc⟩:=hR.get hlt
    have hck:=(cM hb).1 b (o + k) hbl
    obtain ⟨hc1,hc2⟩:=hc k hlt
    rw [hc1] at hck
    have hL : L k ≤ 1048576:=by have:=HN.out k hlt;rw [hc2.1] at this;exact this
    have hI:=hc2.below hb
    clear hc hc1 hc2
    go_wp2_with (go_at_call 11;refine (g8 _ _ _ _ _ hI hL).mono ?_;rintro e w2 ⟨hlk,s2,c2,rfl,ho2,hb2⟩;clear hlk;have hP:=ho.below hb2;have hq:=hP.cell hlt;obtain ⟨⟨q,hq1⟩,hq2⟩:=hq)
    go_roundw
    case rel =>
     exact ⟨k + 1,vs ++ [_],by omega,by go_num,ho.step hlt hb2 ho2 (by omega) hg,ao (hb.trans (hb2.mono hb.size)) (Nat.le_refl _) _,by rw [World.size_setCell];exact Nat.lt_of_lt_of_le hg hb2.size⟩
    case measure=>simp [intOf];omega
  · go_wp2
    go_ret
    have e : k = n:=by omega
    subst e
    refine ⟨HL.out,_,_,rfl,⟨vs,?_,?_,?_,ho.2.2.2⟩,hb⟩
    · rw [ho.1,HL.out]
    · simpa using ho.2.1
    · intro i hi;exact ho.2.2.1 i (by rw [HL.out] at hi;exact hi)
theorem nodup_cons {lo m hi : Nat} {u : Value} {vs : List Value} (hu : ∀ g,blk u = some g → g < m) (hv : ∀ g,g ∈ vs.filterMap blk → m ≤ g) (hn : (vs.filterMap blk).Nodup) : ((u :: vs).filterMap blk).Nodup:=by
 cases hq : blk u with
 | none => rw [List.filterMap_cons_none hq]; exact hn
 | some g =>
   rw [List.filterMap_cons_some hq,List.nodup_cons]
   exact ⟨fun hm=>by have:=hu g hq;have:=hv g hm;omega,hn⟩
theorem kG {m : Nat} {u : Value} {vs : List Value} (hu : ∀ g,blk u = some g → m ≤ g) (hv : ∀ g,g ∈ vs.filterMap blk → g < m) (hn : (vs.filterMap blk).Nodup) : ((u :: vs).filterMap blk).Nodup:=by
 cases hq : blk u with
 | none => rw [List.filterMap_cons_none hq]; exact hn
 | some g =>
   rw [List.filterMap_cons_some hq,List.nodup_cons]
   exact ⟨fun hm=>by have:=hu g hq;have:=hv g hm;omega,hn⟩
def uW (w : World) (a : Ar) (e : Ending) (w' : World) : Prop:=∃ s1 n1 c1 s2 n2 c2,e = .returned (.agg #[.slice s1 n1 c1,.slice s2 n2 c2]) ∧ dX w.heap.size w'.heap.size w' (.agg #[.slice s1 n1 c1,.slice s2 n2 c2]) a ∧ Below w.heap.size w w'
def uX (w : World) (g : Pa) (e : Ending) (w' : World) : Prop:=∃ s1 n1 c1 s2 n2 c2 s3 n3 c3,e = .returned (.agg #[.slice s1 n1 c1,.slice s2 n2 c2,.slice s3 n3 c3]) ∧ cC w.heap.size w'.heap.size w' (.agg #[.slice s1 n1 c1,.slice s2 n2 c2,.slice s3 n3 c3]) g ∧ Below w.heap.size w w'
set_option maxHeartbeats 1000000 in
theorem qc (v : Value) (a : Ar) (w : World) (hA : IsA w v a) (hn : szA a ≤ 1048576) :
  Calls Try.prog 49 #[v] w (uW w a):=by
 obtain ⟨_,_,rfl,⟨s1,n1,c1,rfl,h1⟩,⟨s2,n2,c2,rfl,h2⟩⟩:=hA
 have hl1 : n1 ≤ 1048576:=by have:=h1.1;unfold szA at hn;omega
 have hl2 : n2 ≤ 1048576:=by have:=h2.len;unfold szA fT at hn;omega
 have hl3 : ∀ k,k < n2 → (gr a.nxt k).length ≤ 1048576:=fun k hk=>by
  have:=gt a.nxt (j:=k + 1) (k:=a.nxt.length) (by have:=h2.len;omega)
  unfold szA fT at hn;simp only [cQ] at this;omega
 have HL:=Lib.hid hl3
 clear hl3 hn
 go_enter Try.func49,Try.ntmps49
 go_wp2_with (first
  | (go_at_call 11; refine (g8 _ _ _ _ _ (((h1.alloc _).alloc _).alloc _) hl1).mono ?_; rintro e w2 ⟨hlk, s3, c3, rfl, ho2, hb2⟩; clear hlk; have hcf := cM hb2; obtain ⟨hcell2, hfr2⟩ := hcf; have hz2 := hb2.size; simp only [World.size_alloc, World.size_setCell, World.size_drew] at hz2; have hz2a : w.heap.size < w2.heap.size := (by omega); have hz2b : w.heap.size + 1 < w2.heap.size := (by omega); have hz2c : w.heap.size + 1 + 1 < w2.heap.size := (by omega))
  | (go_at_call 88; refine (oS _ _ _ _ _ (h2.below (by repeat' (first | (with_reducible exact Below.refl _ _) | (with_reducible assumption) | (with_reducible apply ao) | (with_reducible apply Below.alloc) | (with_reducible apply Below.drew) | (with_reducible apply aj) | (with_reducible refine Below.trans ?_ (Below.mono (by assumption) ?_)) | omega | (simp only [World.size_alloc, World.size_setCell, World.size_drew]; omega)))) hl2 HL.out).mono ?_; rintro e w3 ⟨hlk, s4, c4, rfl, ho3, hb3⟩; clear hlk; have hcf3 := cM hb3; obtain ⟨hcell3, hfr3⟩ := hcf3; have hz3 := hb3.size; simp only [World.size_alloc, World.size_setCell, World.size_drew] at hz3; have hz3a : w.heap.size < w3.heap.size := (by omega); have hz3b : w.heap.size + 1 < w3.heap.size := (by omega); have hz3c : w.heap.size + 1 + 1 < w3.heap.size := (by omega)))
 refine bodyPost_ret (v:=.agg #[.slice s3 n1 c3,.slice s4 n2 c4]) (by simp [results,Try.results49,go_sem,hcell3,hfr3,hcell2,hfr2,hz2a,hz2b,hz2c,hz3a,hz3b,hz3c]) rfl ?_
 obtain ⟨vs,ho3⟩:=ho3
 refine ⟨_,_,_,_,_,_,rfl,⟨_,_,vs,rfl,?_,?_,?_⟩,?_⟩
 · exact ho2.final (by repeat' (first|(with_reducible exact bD.refl _ _ _)|(with_reducible apply bD.set)|(with_reducible apply bD.alloc)|(with_reducible apply bD.drew)|(with_reducible apply bD.drewN)|(with_reducible refine bD.below ?_ (by assumption))|omega|(simp only [World.size_alloc,World.size_setCell,World.size_drew];omega))) (by first|omega|(simp only [World.size_alloc,World.size_setCell,World.size_drew];omega))
 · exact ho3.final (by repeat' (first|(with_reducible exact bD.refl _ _ _)|(with_reducible apply bD.set)|(with_reducible apply bD.alloc)|(with_reducible apply bD.drew)|(with_reducible apply bD.drewN)|(with_reducible refine bD.below ?_ (by assumption))|omega|(simp only [World.size_alloc,World.size_setCell,World.size_drew];omega))) (by first|omega|(simp only [World.size_alloc,World.size_setCell,World.size_drew];omega))
 · exact nodup_cons (m:=w2.heap.size) (lo:=0) (hi:=0) (fun g hg=>(ho2.blks g hg).2) (fun g hg=>by have:=(ho3.blks g hg).1;rw [World.size_setCell] at this;exact this) ho3.2.2.2
 · exact (by repeat' (first|(with_reducible exact Below.refl _ _)|(with_reducible assumption)|(with_reducible apply ao)|(with_reducible apply Below.alloc)|(with_reducible apply Below.drew)|(with_reducible apply aj)|(with_reducible refine Below.trans ?_ (Below.mono (by assumption) ?_))|omega|(simp only [World.size_alloc,World.size_setCell,World.size_drew];omega)))
set_option maxHeartbeats 1000000 in
theorem dM (v : Value) (g : Pa) (w : World) (hP : IsP w v g) (hn : szP g ≤ 1048576) :
  Calls Try.prog 10 #[v] w (uX w g):=by
 obtain ⟨_,_,_,rfl,⟨s1,n1,c1,rfl,h1⟩,⟨s2,n2,c2,rfl,h2⟩,⟨s3,n3,c3,rfl,h3⟩⟩:=hP
 have hl1 : szA g.ar ≤ 1048576:=by unfold szP at hn;omega
 have hl3 : n3 ≤ 1048576:=by have:=h3.1;unfold szP at hn;omega
 have hA : IsA w (.agg #[.slice s1 n1 c1,.slice s2 n2 c2]) g.ar:=⟨_,_,rfl,h1.is,h2.is⟩
 clear hn
 go_enter Try.func10,Try.ntmps10
 go_wp2_with fail
 refine (qc _ _ _ (hA.below (by repeat' (first|(with_reducible exact Below.refl _ _)|(with_reducible assumption)|(with_reducible apply ao)|(with_reducible apply Below.alloc)|(with_reducible apply Below.drew)|(with_reducible apply aj)|(with_reducible refine Below.trans ?_ (Below.mono (by assumption) ?_))|omega|(simp only [World.size_alloc,World.size_setCell,World.size_drew];omega)))) hl1).mono ?_
 rintro e w2 ⟨t1,m1,d1,t2,m2,d2,rfl,ho2,hb2⟩
 have hcf:=cM hb2
 obtain ⟨hcell2,hfr2⟩:=hcf
 have hz2:=hb2.size
 simp only [World.size_alloc,World.size_setCell,World.size_drew] at hz2
 have hz2a : w.heap.size < w2.heap.size:=(by omega)
 have hz2b : w.heap.size + 1 < w2.heap.size:=(by omega)
 have hz2c : w.heap.size + 1 + 1 < w2.heap.size:=(by omega)
 have ho2':=ho2
 obtain ⟨_,_,vs,e,ha,hb,hd⟩:=ho2'
 simp only [Value.agg.injEq,Array.mk.injEq,List.cons.injEq,and_true] at e
 obtain ⟨rfl,rfl⟩:=e
 go_wp2_with fail
 refine (g8 _ _ _ _ _ (h3.below (by repeat' (first|(with_reducible exact Below.refl _ _)|(with_reducible assumption)|(with_reducible apply ao)|(with_reducible apply Below.alloc)|(with_reducible apply Below.drew)|(with_reducible apply aj)|(with_reducible refine Below.trans ?_ (Below.mono (by assumption) ?_))|omega|(simp only [World.size_alloc,World.size_setCell,World.size_drew];omega)))) hl3).mono ?_
 rintro e w3 ⟨hlk,s4,c4,rfl,ho3,hb3⟩
 clear hlk
 have hcf3:=cM hb3
 obtain ⟨hcell3,hfr3⟩:=hcf3
 have hz3:=hb3.size
 simp only [World.size_alloc,World.size_setCell,World.size_drew] at hz3
 have hz3a : w.heap.size < w3.heap.size:=(by omega)
 have hz3b : w.heap.size + 1 < w3.heap.size:=(by omega)
 have hz3c : w.heap.size + 1 + 1 < w3.heap.size:=(by omega)
 go_wp2_with fail
 refine bodyPost_ret (v:=.agg #[.slice t1 m1 d1,.slice t2 m2 d2,.slice s4 n3 c4]) (by simp [results,Try.results10,go_sem,hcell3,hfr3,hcell2,hfr2,hz2a,hz2b,hz2c,hz3a,hz3b,hz3c]) rfl ?_
 refine ⟨_,_,_,_,_,_,_,_,_,rfl,⟨_,_,_,vs,rfl,?_,?_,?_,?_⟩,?_⟩
 · exact ha.final (by repeat' (first|(with_reducible exact bD.refl _ _ _)|(with_reducible apply bD.set)|(with_reducible apply bD.alloc)|(with_reducible apply bD.drew)|(with_reducible apply bD.drewN)|(with_reducible refine bD.below ?_ (by assumption))|omega|(simp only [World.size_alloc,World.size_setCell,World.size_drew];omega))) (by first|omega|(simp only [World.size_alloc,World.size_setCell,World.size_drew];omega))
 · exact hb.final (by repeat' (first|(with_reducible exact bD.refl _ _ _)|(with_reducible apply bD.set)|(with_reducible apply bD.alloc)|(with_reducible apply bD.drew)|(with_reducible apply bD.drewN)|(with_reducible refine bD.below ?_ (by assumption))|omega|(simp only [World.size_alloc,World.size_setCell,World.size_drew];omega))) (by first|omega|(simp only [World.size_alloc,World.size_setCell,World.size_drew];omega))
 · exact ho3.final (by repeat' (first|(with_reducible exact bD.refl _ _ _)|(with_reducible apply bD.set)|(with_reducible apply bD.alloc)|(with_reducible apply bD.drew)|(with_reducible apply bD.drewN)|(with_reducible refine bD.below ?_ (by assumption))|omega|(simp only [World.size_alloc,World.size_setCell,World.size_drew];omega))) (by first|omega|(simp only [World.size_alloc,World.size_setCell,World.size_drew];omega))
 · have:=kG (m:=w2.heap.size) (u:=.slice s4 n3 c4) (vs:=.slice t1 m1 d1 :: vs) (fun g hg=>by have:=(ho3.blks g hg).1;simp only [World.size_setCell] at this;exact this) (fun g hg=>by
    rcases List.mem_filterMap.1 hg with ⟨u,hu,e⟩
    rcases List.mem_cons.1 hu with rfl|hu
    · exact (ha.blks g e).2
    · exact (hb.blks g (List.mem_filterMap.2 ⟨u,hu,e⟩)).2) hd
   exact this.perm (List.Perm.filterMap _ (List.Perm.swap _ _ _))
 · exact (by repeat' (first|(with_reducible exact Below.refl _ _)|(with_reducible assumption)|(with_reducible apply ao)|(with_reducible apply Below.alloc)|(with_reducible apply Below.drew)|(with_reducible apply aj)|(with_reducible refine Below.trans ?_ (Below.mono (by assumption) ?_))|omega|(simp only [World.size_alloc,World.size_setCell,World.size_drew];omega)))
end Go.Proofs.Ythjamlponejffaa
namespace Go.Proofs.Ythjamlponejffaa
set_option linter.unusedVariables false
set_option linter.unusedSimpArgs false
open Go.RowKit
def Qb (w : World) (b : Bool) (e : Ending) (w' : World) : Prop:=e = .returned (.bool b) ∧ ∃ m,w' = w.drewN m
def Bb (w : World) (b : Bool) (e : Ending) (w' : World) : Prop:=e = .returned (.bool b) ∧ Below w.heap.size w w'
theorem Qb.bb {w : World} {b : Bool} {e : Ending} {w' : World} (h : Qb w b e w') : Bb w b e w':=by
 obtain ⟨h,m,rfl⟩:=h
 exact ⟨h,cI w m⟩
def Qt (w w' : World) : Prop:=∃ m,w' = w.drewN m
theorem Qt.refl (w : World) : Qt w w:=⟨0,rfl⟩
theorem Qt.drewN {w w' : World} (h : Qt w w') (m : Nat) : Qt w (w'.drewN m):=by
 obtain ⟨q,rfl⟩:=h
 exact ⟨q + m,World.drewN_drewN _ _ _⟩
theorem Qt.below {w w' : World} (h : Qt w w') : Below w.heap.size w w':=by
 obtain ⟨q,rfl⟩:=h
 exact cI w q
theorem IsI.drewN {w : World} {v : Value} {xs : List Int} (h : IsI w v xs) (m : Nat) : IsI (w.drewN m) v xs:=h.below (cI w m)
theorem cm.drewN {w : World} {sa : Option Addr} {n c : Nat} {xs : List Int} (h : cm w sa n c xs) (m : Nat) : cm (w.drewN m) sa n c xs:=h.below (cI w m)
theorem Rws.drewN {w : World} {sa : Option Addr} {n c : Nat} {xs : List (List Int)} (h : Rws w sa n c xs) (m : Nat) : Rws (w.drewN m) sa n c xs:=h.below (cI w m)
theorem tj {xs ys : List Int} {n : Nat} (h1 : xs.length = n) (h2 : ys.length = n) (h : ∀ j,j < n → gi xs j = gi ys j) : xs = ys:=oN (by omega) fun k hk=>h k (by omega)
theorem rO {xs ys : List (List Int)} {n : Nat} (h1 : xs.length = n) (h2 : ys.length = n) (h : ∀ j,j < n → gr xs j = gr ys j) : xs = ys:=oO (by omega) fun k hk=>h k (by omega)
set_option maxHeartbeats 400000 in
theorem dr (sa : Option Addr) (n c : Nat) (xs : List Int) (sb : Option Addr) (m d : Nat) (ys : List Int) (w : World) (hx : cm w sa n c xs) (hy : cm w sb m d ys) :
  Calls Try.prog 13 #[.slice sa n c,.slice sb m d] w (Qb w (tf (xs = ys))):=by
 have hmax:=hx.max
 have hmay:=hy.max
 have HX:=Lib.hid hx.1
 have HY:=Lib.hid hy.1
 by_cases hnm : n = m
 · subst hnm
   go_enter Try.func13,Try.ntmps13
   go_wp2
   go_loopw [5] (fun i wr=>∃ k : Nat,k ≤ n ∧ i = .int .i64 k ∧ (∀ j,j < k → gi xs j = gi ys j) ∧ Qt w wr) (fun i _=>n - (intOf i).toNat)
   case atStart=>exact ⟨0,by omega,rfl,fun j hj=>by omega,Qt.refl w⟩
   case round =>
    obtain ⟨k,hk,rfl,he,hq⟩:=hrel
    have HE:=Lib.hid he
    clear he
    by_cases hlt : k < n
    · obtain ⟨b1,o1,rfl,hb1,hc1⟩:=(hx.below hq.below).get hlt
      obtain ⟨b2,o2,rfl,hb2,hc2⟩:=(hy.below hq.below).get hlt
      have hk1:=hc1 k hlt
      have hk2:=hc2 k hlt
      have i0 : (0 : Int) ≤ (k : Int):=by omega
      have i1 : (k : Int) < (n : Int):=by omega
      clear hc1 hc2
      go_wp2
      go_quiet (fail)
      by_cases heq : gi xs k = gi ys k
      · have HQ:=Lib.hid heq
        have hb : (gi xs k != gi ys k) = false:=by simp [heq]
        clear heq
        go_wp2
        go_roundw
        case rel=>exact ⟨k + 1,by omega,by go_num,fun j hj=>by
         by_cases e : j = k
         · rw [e];exact HQ.out
         · exact HE.out j (by omega),hq.drewN _⟩
        case measure=>simp [intOf];omega
      · have hb : (gi xs k != gi ys k) = true:=by simp [heq]
        go_wp2
        go_ret
        exact ⟨aU (aq (fun e=>heq (by rw [e]))).symm,hq.drewN _⟩
    · go_wp2
      go_ret
      exact ⟨aU (aA (tj HX.out HY.out (fun j hj=>HE.out j (by omega)))).symm,hq⟩
 · go_enter Try.func13,Try.ntmps13
   go_wp2
   go_ret
   exact ⟨aU (aq (fun e=>hnm (by rw [← HX.out,← HY.out,e]))).symm,0,rfl⟩
set_option maxHeartbeats 400000 in
theorem ip (sa : Option Addr) (n c : Nat) (xs : List (List Int)) (sb : Option Addr) (m d : Nat) (ys : List (List Int)) (w : World) (hx : Rws w sa n c xs) (hy : Rws w sb m d ys) :
  Calls Try.prog 92 #[.slice sa n c,.slice sb m d] w (Qb w (tf (xs = ys))):=by
 have hmax:=hx.max
 have hmay:=hy.max
 have HX:=Lib.hid hx.len
 have HY:=Lib.hid hy.len
 by_cases hnm : n = m
 · subst hnm
   go_enter Try.func92,Try.ntmps92
   go_wp2
   go_loopw [5] (fun i wr=>∃ k : Nat,k ≤ n ∧ i = .int .i64 k ∧ (∀ j,j < k → gr xs j = gr ys j) ∧ Qt w wr) (fun i _=>n - (intOf i).toNat)
   case atStart=>exact ⟨0,by omega,rfl,fun j hj=>by omega,Qt.refl w⟩
   case round =>
    obtain ⟨k,hk,rfl,he,hq⟩:=hrel
    have HE:=Lib.hid he
    clear he
    by_cases hlt : k < n
    · obtain ⟨b1,o1,rfl,hb1,A1,L1,C1,hc1⟩:=(hx.below hq.below).get hlt
      obtain ⟨b2,o2,rfl,hb2,A2,L2,C2,hc2⟩:=(hy.below hq.below).get hlt
      obtain ⟨hk1,hi1⟩:=hc1 k hlt
      obtain ⟨hk2,hi2⟩:=hc2 k hlt
      have i0 : (0 : Int) ≤ (k : Int):=by omega
      have i1 : (k : Int) < (n : Int):=by omega
      clear hc1 hc2
      by_cases heq : gr xs k = gr ys k
      · have hcall : ∀ q,Calls Try.prog 13 #[.slice (A1 k) (L1 k) (C1 k),.slice (A2 k) (L2 k) (C2 k)] (wr.drewN q) (Qb (wr.drewN q) true):=fun q=>by
         have:=dr _ _ _ _ _ _ _ _ _ (hi1.drewN q) (hi2.drewN q)
         rwa [aA heq] at this
        have HC:=Lib.hid hcall
        have HQ:=Lib.hid heq
        clear heq hcall
        go_wp2
        go_quiet ((go_at_call 13;exact Calls.quiet_of (HC.out _)))
        go_wp2
        go_roundw
        case rel=>exact ⟨k + 1,by omega,by go_num,fun j hj=>by
         by_cases e : j = k
         · rw [e];exact HQ.out
         · exact HE.out j (by omega),hq.drewN _⟩
        case measure=>simp [intOf];omega
      · have hcall : ∀ q,Calls Try.prog 13 #[.slice (A1 k) (L1 k) (C1 k),.slice (A2 k) (L2 k) (C2 k)] (wr.drewN q) (Qb (wr.drewN q) false):=fun q=>by
         have:=dr _ _ _ _ _ _ _ _ _ (hi1.drewN q) (hi2.drewN q)
         rwa [aq heq] at this
        have HC:=Lib.hid hcall
        have HQ:=Lib.hid heq
        clear heq hcall
        go_wp2
        go_quiet ((go_at_call 13;exact Calls.quiet_of (HC.out _)))
        go_wp2
        go_ret
        exact ⟨aU (aq (fun e=>HQ.out (by rw [e]))).symm,hq.drewN _⟩
    · go_wp2
      go_ret
      exact ⟨aU (aA (rO HX.out HY.out (fun j hj=>HE.out j (by omega)))).symm,hq⟩
 · go_enter Try.func92,Try.ntmps92
   go_wp2
   go_ret
   exact ⟨aU (aq (fun e=>hnm (by rw [← HX.out,← HY.out,e]))).symm,0,rfl⟩
theorem tk {a b : Ar} (h1 : a.own = b.own) (h2 : a.nxt = b.nxt) : a = b:=by cases a;cases b;simp_all
theorem tl {a b : Pa} (h1 : a.ar = b.ar) (h2 : a.prio = b.prio) : a = b:=by cases a;cases b;simp_all
set_option maxHeartbeats 1000000 in
theorem jT (v u : Value) (a b : Ar) (w : World) (hA : IsA w v a) (hB : IsA w u b) :
  Calls Try.prog 54 #[v,u] w (Bb w (tf (a = b))):=by
 obtain ⟨_,_,rfl,⟨s1,n1,c1,rfl,h1⟩,⟨s2,n2,c2,rfl,h2⟩⟩:=hA
 obtain ⟨_,_,rfl,⟨s3,n3,c3,rfl,h3⟩,⟨s4,n4,c4,rfl,h4⟩⟩:=hB
 by_cases ho : a.own = b.own
 · have k1 : tf (a.own = b.own) = true:=aA ho
   have HO:=Lib.hid ho
   clear ho
   by_cases hn : a.nxt = b.nxt
   · have k2 : tf (a.nxt = b.nxt) = true:=aA hn
     have HN:=Lib.hid hn
     clear hn
     go_enter Try.func54,Try.ntmps54
     go_wp2_with (first
      | (go_at_call 13; refine (dr _ _ _ _ _ _ _ _ _ ((h1.alloc _).alloc _) ((h3.alloc _).alloc _)).mono ?_; rw [k1]; rintro e w2 ⟨rfl, m2, rfl⟩)
      | (go_at_call 92; refine (ip _ _ _ _ _ _ _ _ _ ((h2.below (by repeat' (first | (with_reducible exact Below.refl _ _) | (with_reducible assumption) | (with_reducible apply ao) | (with_reducible apply Below.alloc) | (with_reducible apply Below.drew) | (with_reducible apply aj) | (with_reducible refine Below.trans ?_ (Below.mono (by assumption) ?_)) | omega | (simp only [World.size_alloc, World.size_setCell, World.size_drew]; omega))))) ((h4.below (by repeat' (first | (with_reducible exact Below.refl _ _) | (with_reducible assumption) | (with_reducible apply ao) | (with_reducible apply Below.alloc) | (with_reducible apply Below.drew) | (with_reducible apply aj) | (with_reducible refine Below.trans ?_ (Below.mono (by assumption) ?_)) | omega | (simp only [World.size_alloc, World.size_setCell, World.size_drew]; omega)))))).mono ?_; rw [k2]; rintro e w2 ⟨rfl, m2, rfl⟩))
     go_ret
     exact ⟨aU (aA (tk HO.out HN.out)).symm,(by repeat' (first|(with_reducible exact Below.refl _ _)|(with_reducible assumption)|(with_reducible apply ao)|(with_reducible apply Below.alloc)|(with_reducible apply Below.drew)|(with_reducible apply aj)|(with_reducible refine Below.trans ?_ (Below.mono (by assumption) ?_))|omega|(simp only [World.size_alloc,World.size_setCell,World.size_drew];omega)))⟩
   · have k2 : tf (a.nxt = b.nxt) = false:=aq hn
     have HN:=Lib.hid hn
     clear hn
     go_enter Try.func54,Try.ntmps54
     go_wp2_with (first
      | (go_at_call 13; refine (dr _ _ _ _ _ _ _ _ _ ((h1.alloc _).alloc _) ((h3.alloc _).alloc _)).mono ?_; rw [k1]; rintro e w2 ⟨rfl, m2, rfl⟩)
      | (go_at_call 92; refine (ip _ _ _ _ _ _ _ _ _ ((h2.below (by repeat' (first | (with_reducible exact Below.refl _ _) | (with_reducible assumption) | (with_reducible apply ao) | (with_reducible apply Below.alloc) | (with_reducible apply Below.drew) | (with_reducible apply aj) | (with_reducible refine Below.trans ?_ (Below.mono (by assumption) ?_)) | omega | (simp only [World.size_alloc, World.size_setCell, World.size_drew]; omega))))) ((h4.below (by repeat' (first | (with_reducible exact Below.refl _ _) | (with_reducible assumption) | (with_reducible apply ao) | (with_reducible apply Below.alloc) | (with_reducible apply Below.drew) | (with_reducible apply aj) | (with_reducible refine Below.trans ?_ (Below.mono (by assumption) ?_)) | omega | (simp only [World.size_alloc, World.size_setCell, World.size_drew]; omega)))))).mono ?_; rw [k2]; rintro e w2 ⟨rfl, m2, rfl⟩))
     go_ret
     exact ⟨aU (aq (fun e=>HN.out (by rw [e]))).symm,(by repeat' (first|(with_reducible exact Below.refl _ _)|(with_reducible assumption)|(with_reducible apply ao)|(with_reducible apply Below.alloc)|(with_reducible apply Below.drew)|(with_reducible apply aj)|(with_reducible refine Below.trans ?_ (Below.mono (by assumption) ?_))|omega|(simp only [World.size_alloc,World.size_setCell,World.size_drew];omega)))⟩
 · have k1 : tf (a.own = b.own) = false:=aq ho
   have HO:=Lib.hid ho
   clear ho
   go_enter Try.func54,Try.ntmps54
   go_wp2_with (first
    | (go_at_call 13; refine (dr _ _ _ _ _ _ _ _ _ ((h1.alloc _).alloc _) ((h3.alloc _).alloc _)).mono ?_; rw [k1]; rintro e w2 ⟨rfl, m2, rfl⟩)
    | (go_at_call 92; refine (ip _ _ _ _ _ _ _ _ _ ((h2.below (by repeat' (first | (with_reducible exact Below.refl _ _) | (with_reducible assumption) | (with_reducible apply ao) | (with_reducible apply Below.alloc) | (with_reducible apply Below.drew) | (with_reducible apply aj) | (with_reducible refine Below.trans ?_ (Below.mono (by assumption) ?_)) | omega | (simp only [World.size_alloc, World.size_setCell, World.size_drew]; omega))))) ((h4.below (by repeat' (first | (with_reducible exact Below.refl _ _) | (with_reducible assumption) | (with_reducible apply ao) | (with_reducible apply Below.alloc) | (with_reducible apply Below.drew) | (with_reducible apply aj) | (with_reducible refine Below.trans ?_ (Below.mono (by assumption) ?_)) | omega | (simp only [World.size_alloc, World.size_setCell, World.size_drew]; omega)))))).mono ?_; rw [k2]; rintro e w2 ⟨rfl, m2, rfl⟩))
   go_ret
   exact ⟨aU (aq (fun e=>HO.out (by rw [e]))).symm,(by repeat' (first|(with_reducible exact Below.refl _ _)|(with_reducible assumption)|(with_reducible apply ao)|(with_reducible apply Below.alloc)|(with_reducible apply Below.drew)|(with_reducible apply aj)|(with_reducible refine Below.trans ?_ (Below.mono (by assumption) ?_))|omega|(simp only [World.size_alloc,World.size_setCell,World.size_drew];omega)))⟩
set_option maxHeartbeats 1000000 in
theorem mR (v u : Value) (a b : Pa) (w : World) (hA : IsP w v a) (hB : IsP w u b) :
  Calls Try.prog 14 #[v,u] w (Bb w (tf (a = b))):=by
 obtain ⟨_,_,_,rfl,⟨s1,n1,c1,rfl,h1⟩,⟨s2,n2,c2,rfl,h2⟩,⟨s5,n5,c5,rfl,h5⟩⟩:=hA
 obtain ⟨_,_,_,rfl,⟨s3,n3,c3,rfl,h3⟩,⟨s4,n4,c4,rfl,h4⟩,⟨s6,n6,c6,rfl,h6⟩⟩:=hB
 have hX : IsA w (.agg #[.slice s1 n1 c1,.slice s2 n2 c2]) a.ar:=⟨_,_,rfl,h1.is,h2.is⟩
 have hY : IsA w (.agg #[.slice s3 n3 c3,.slice s4 n4 c4]) b.ar:=⟨_,_,rfl,h3.is,h4.is⟩
 by_cases ho : a.ar = b.ar
 · have k1 : tf (a.ar = b.ar) = true:=aA ho
   have HO:=Lib.hid ho
   clear ho
   by_cases hn : a.prio = b.prio
   · have k2 : tf (a.prio = b.prio) = true:=aA hn
     have HN:=Lib.hid hn
     clear hn
     go_enter Try.func14,Try.ntmps14
     go_wp2_with (first
      | (go_at_call 54; refine (jT _ _ _ _ _ (hX.below (by repeat' (first | (with_reducible exact Below.refl _ _) | (with_reducible assumption) | (with_reducible apply ao) | (with_reducible apply Below.alloc) | (with_reducible apply Below.drew) | (with_reducible apply aj) | (with_reducible refine Below.trans ?_ (Below.mono (by assumption) ?_)) | omega | (simp only [World.size_alloc, World.size_setCell, World.size_drew]; omega)))) (hY.below (by repeat' (first | (with_reducible exact Below.refl _ _) | (with_reducible assumption) | (with_reducible apply ao) | (with_reducible apply Below.alloc) | (with_reducible apply Below.drew) | (with_reducible apply aj) | (with_reducible refine Below.trans ?_ (Below.mono (by assumption) ?_)) | omega | (simp only [World.size_alloc, World.size_setCell, World.size_drew]; omega))))).mono ?_; rw [k1]; rintro e w2 ⟨rfl, hb2⟩; have hcf := cM hb2; obtain ⟨hcell2, hfr2⟩ := hcf)
      | (go_at_call 13; refine (dr _ _ _ _ _ _ _ _ _ ((h5.below (by repeat' (first | (with_reducible exact Below.refl _ _) | (with_reducible assumption) | (with_reducible apply ao) | (with_reducible apply Below.alloc) | (with_reducible apply Below.drew) | (with_reducible apply aj) | (with_reducible refine Below.trans ?_ (Below.mono (by assumption) ?_)) | omega | (simp only [World.size_alloc, World.size_setCell, World.size_drew]; omega))))) ((h6.below (by repeat' (first | (with_reducible exact Below.refl _ _) | (with_reducible assumption) | (with_reducible apply ao) | (with_reducible apply Below.alloc) | (with_reducible apply Below.drew) | (with_reducible apply aj) | (with_reducible refine Below.trans ?_ (Below.mono (by assumption) ?_)) | omega | (simp only [World.size_alloc, World.size_setCell, World.size_drew]; omega)))))).mono ?_; rw [k2]; rintro e w3 ⟨rfl, m3, rfl⟩))
     go_ret
     exact ⟨aU (aA (tl HO.out HN.out)).symm,(by repeat' (first|(with_reducible exact Below.refl _ _)|(with_reducible assumption)|(with_reducible apply ao)|(with_reducible apply Below.alloc)|(with_reducible apply Below.drew)|(with_reducible apply aj)|(with_reducible refine Below.trans ?_ (Below.mono (by assumption) ?_))|omega|(simp only [World.size_alloc,World.size_setCell,World.size_drew];omega)))⟩
   · have k2 : tf (a.prio = b.prio) = false:=aq hn
     have HN:=Lib.hid hn
     clear hn
     go_enter Try.func14,Try.ntmps14
     go_wp2_with (first
      | (go_at_call 54; refine (jT _ _ _ _ _ (hX.below (by repeat' (first | (with_reducible exact Below.refl _ _) | (with_reducible assumption) | (with_reducible apply ao) | (with_reducible apply Below.alloc) | (with_reducible apply Below.drew) | (with_reducible apply aj) | (with_reducible refine Below.trans ?_ (Below.mono (by assumption) ?_)) | omega | (simp only [World.size_alloc, World.size_setCell, World.size_drew]; omega)))) (hY.below (by repeat' (first | (with_reducible exact Below.refl _ _) | (with_reducible assumption) | (with_reducible apply ao) | (with_reducible apply Below.alloc) | (with_reducible apply Below.drew) | (with_reducible apply aj) | (with_reducible refine Below.trans ?_ (Below.mono (by assumption) ?_)) | omega | (simp only [World.size_alloc, World.size_setCell, World.size_drew]; omega))))).mono ?_; rw [k1]; rintro e w2 ⟨rfl, hb2⟩; have hcf := cM hb2; obtain ⟨hcell2, hfr2⟩ := hcf)
      | (go_at_call 13; refine (dr _ _ _ _ _ _ _ _ _ ((h5.below (by repeat' (first | (with_reducible exact Below.refl _ _) | (with_reducible assumption) | (with_reducible apply ao) | (with_reducible apply Below.alloc) | (with_reducible apply Below.drew) | (with_reducible apply aj) | (with_reducible refine Below.trans ?_ (Below.mono (by assumption) ?_)) | omega | (simp only [World.size_alloc, World.size_setCell, World.size_drew]; omega))))) ((h6.below (by repeat' (first | (with_reducible exact Below.refl _ _) | (with_reducible assumption) | (with_reducible apply ao) | (with_reducible apply Below.alloc) | (with_reducible apply Below.drew) | (with_reducible apply aj) | (with_reducible refine Below.trans ?_ (Below.mono (by assumption) ?_)) | omega | (simp only [World.size_alloc, World.size_setCell, World.size_drew]; omega)))))).mono ?_; rw [k2]; rintro e w3 ⟨rfl, m3, rfl⟩))
     go_ret
     exact ⟨aU (aq (fun e=>HN.out (by rw [e]))).symm,(by repeat' (first|(with_reducible exact Below.refl _ _)|(with_reducible assumption)|(with_reducible apply ao)|(with_reducible apply Below.alloc)|(with_reducible apply Below.drew)|(with_reducible apply aj)|(with_reducible refine Below.trans ?_ (Below.mono (by assumption) ?_))|omega|(simp only [World.size_alloc,World.size_setCell,World.size_drew];omega)))⟩
 · have k1 : tf (a.ar = b.ar) = false:=aq ho
   have HO:=Lib.hid ho
   clear ho
   go_enter Try.func14,Try.ntmps14
   go_wp2_with (first
    | (go_at_call 54; refine (jT _ _ _ _ _ (hX.below (by repeat' (first | (with_reducible exact Below.refl _ _) | (with_reducible assumption) | (with_reducible apply ao) | (with_reducible apply Below.alloc) | (with_reducible apply Below.drew) | (with_reducible apply aj) | (with_reducible refine Below.trans ?_ (Below.mono (by assumption) ?_)) | omega | (simp only [World.size_alloc, World.size_setCell, World.size_drew]; omega)))) (hY.below (by repeat' (first | (with_reducible exact Below.refl _ _) | (with_reducible assumption) | (with_reducible apply ao) | (with_reducible apply Below.alloc) | (with_reducible apply Below.drew) | (with_reducible apply aj) | (with_reducible refine Below.trans ?_ (Below.mono (by assumption) ?_)) | omega | (simp only [World.size_alloc, World.size_setCell, World.size_drew]; omega))))).mono ?_; rw [k1]; rintro e w2 ⟨rfl, hb2⟩; have hcf := cM hb2; obtain ⟨hcell2, hfr2⟩ := hcf)
    | (go_at_call 13; refine (dr _ _ _ _ _ _ _ _ _ ((h5.below (by repeat' (first | (with_reducible exact Below.refl _ _) | (with_reducible assumption) | (with_reducible apply ao) | (with_reducible apply Below.alloc) | (with_reducible apply Below.drew) | (with_reducible apply aj) | (with_reducible refine Below.trans ?_ (Below.mono (by assumption) ?_)) | omega | (simp only [World.size_alloc, World.size_setCell, World.size_drew]; omega))))) ((h6.below (by repeat' (first | (with_reducible exact Below.refl _ _) | (with_reducible assumption) | (with_reducible apply ao) | (with_reducible apply Below.alloc) | (with_reducible apply Below.drew) | (with_reducible apply aj) | (with_reducible refine Below.trans ?_ (Below.mono (by assumption) ?_)) | omega | (simp only [World.size_alloc, World.size_setCell, World.size_drew]; omega)))))).mono ?_; rw [k2]; rintro e w3 ⟨rfl, m3, rfl⟩))
   go_ret
   exact ⟨aU (aq (fun e=>HO.out (by rw [e]))).symm,(by repeat' (first|(with_reducible exact Below.refl _ _)|(with_reducible assumption)|(with_reducible apply ao)|(with_reducible apply Below.alloc)|(with_reducible apply Below.drew)|(with_reducible apply aj)|(with_reducible refine Below.trans ?_ (Below.mono (by assumption) ?_))|omega|(simp only [World.size_alloc,World.size_setCell,World.size_drew];omega)))⟩
end Go.Proofs.Ythjamlponejffaa
