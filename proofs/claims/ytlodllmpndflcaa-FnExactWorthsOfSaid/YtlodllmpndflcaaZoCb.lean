/-
  Words for all walks: facts carried from world to world; the rules of make and append on a slice of the call's own.
-/
import Derived.Test.YtlodllmpndflcaaZoCa
import Derived.Laws.AppendOwnNone
import Derived.ArgAppend
namespace Go.Proofs.Ytlodllmpndflcaa
set_option linter.unusedVariables false
set_option linter.unusedSimpArgs false
open Go.RowKit
def Bi (w : World) (x : Int) (e : Ending) (w' : World) : Prop:=e = .returned (.int .i64 x) ∧ Below w.heap.size w w'
theorem aq {w w' : World} {b o : Nat} {v : Value} (h : w.cell? ⟨b,o,none⟩ = some v) (hb : Below w.heap.size w w') : w'.cell? ⟨b,o,none⟩ = some v:=by
 rw [hb.cell (World.block_lt_of_cell? w _ h)];exact h
structure Outside (lo hi : Nat) (w w' : World) : Prop where
 os : w'.os = w.os
 tape : w'.tape = w.tape
 output : w'.output = w.output
 size : w.heap.size ≤ w'.heap.size
 block : ∀ k,k < w.heap.size → (k < lo ∨ hi ≤ k) → w'.heap[k]? = w.heap[k]?
theorem Outside.refl (lo hi : Nat) (w : World) : Outside lo hi w w:=⟨rfl,rfl,rfl,Nat.le_refl _,fun _ _ _=>rfl⟩
theorem Outside.trans {lo hi : Nat} {a b c : World} (h : Outside lo hi a b) (k : Outside lo hi b c) : Outside lo hi a c :=
 ⟨k.os.trans h.os,k.tape.trans h.tape,k.output.trans h.output,Nat.le_trans h.size k.size,fun i hi' ho=>(k.block i (Nat.lt_of_lt_of_le hi' h.size) ho).trans (h.block i hi' ho)⟩
theorem Outside.mono {lo hi lo' hi' : Nat} {a b : World} (h : Outside lo hi a b) (h1 : lo' ≤ lo) (h2 : hi ≤ hi') : Outside lo' hi' a b :=
 ⟨h.os,h.tape,h.output,h.size,fun k hk ho=>h.block k hk (by omega)⟩
theorem Below.outside {a b : World} (h : Below a.heap.size a b) (lo hi : Nat) : Outside lo hi a b:=⟨h.os,h.tape,h.output,h.size,fun k hk _=>h.block k hk⟩
theorem Outside.below {lo hi B : Nat} {a b : World} (h : Outside lo hi a b) (hB : B ≤ lo ∧ B ≤ a.heap.size) : Below B a b:=⟨h.os,h.tape,h.output,h.size,fun k hk=>h.block k (by omega) (by omega)⟩
theorem Outside.set {lo hi : Nat} {a w : World} (h : Outside lo hi a w) {g k : Nat} (hg : lo ≤ g ∧ g < hi) (u : Value) : Outside lo hi a (w.setCell ⟨g,k,none⟩ u) :=
 h.trans ⟨rfl,rfl,rfl,by rw [World.size_setCell];exact Nat.le_refl _,fun i hi' ho=>Below.heap_setCell _ _ _ _ (fun e=>by simp only at e;omega)⟩
theorem cI {lo hi : Nat} {w w' : World} {b o : Nat} {v : Value} (h : w.cell? ⟨b,o,none⟩ = some v) (hO : Outside lo hi w w') (hb : b < lo ∨ hi ≤ b) : w'.cell? ⟨b,o,none⟩ = some v:=by
 have:=World.block_lt_of_cell? w _ h
 rw [World.cell?_of_block (w:=w) (hO.block b this hb)];exact h
theorem Outside.kept {lo hi lo' hi' : Nat} {w w' : World} (hO : Outside lo hi w w') (hd : hi' ≤ lo ∨ hi ≤ lo') : bZ lo' hi' w w':=⟨hO.size,fun g h1 h2 h3=>hO.block g h3 (by omega)⟩
theorem bj.out {lo hi lo' hi' : Nat} {w w' : World} {v : Value} {x : List Int} (h : bj lo' hi' w v x) (hO : Outside lo hi w w') (hd : hi' ≤ lo ∨ hi ≤ lo') : bj lo' hi' w' v x:=h.kept (hO.kept hd)
theorem dc.out {lo hi lo' hi' : Nat} {w w' : World} {v : Value} {x : Pa} (h : dc lo' hi' w v x) (hO : Outside lo hi w w') (hd : hi' ≤ lo ∨ hi ≤ lo') : dc lo' hi' w' v x:=h.kept (hO.kept hd)
theorem gd.out {lo hi lo' hi' : Nat} {w w' : World} {v : Value} {x : List (List Int)} (h : gd lo' hi' w v x) (hO : Outside lo hi w w') (hd : hi' ≤ lo ∨ hi ≤ lo') : gd lo' hi' w' v x:=let ⟨vs,h⟩:=h;⟨vs,h.kept (hO.kept hd)⟩
theorem gd.below {lo hi : Nat} {w w' : World} {v : Value} {x : List (List Int)} (h : gd lo hi w v x) (hb : Below w.heap.size w w') : gd lo hi w' v x:=let ⟨vs,h⟩:=h;⟨vs,h.below hb⟩
theorem gd.is {lo hi : Nat} {w : World} {v : Value} {x : List (List Int)} (h : gd lo hi w v x) : d5 w v x:=let ⟨_,h⟩:=h;h.is
theorem IsP.form {w : World} {v : Value} {g : Pa} (h : IsP w v g) : ∃ s0 n0 c0 s1 n1 c1 s2 n2 c2,v = .agg #[.slice s0 n0 c0,.slice s1 n1 c1,.slice s2 n2 c2]:=by
 obtain ⟨_,_,_,rfl,⟨s1,n1,c1,rfl,_⟩,⟨s2,n2,c2,rfl,_⟩,⟨s3,n3,c3,rfl,_⟩⟩:=h
 exact ⟨_,_,_,_,_,_,_,_,_,rfl⟩
theorem IsI.form {w : World} {v : Value} {g : List Int} (h : IsI w v g) : ∃ s0 n0 c0,v = .slice s0 n0 c0:=let ⟨s,n,c,e,_⟩:=h;⟨s,n,c,e⟩
theorem d5.form {w : World} {v : Value} {g : List (List Int)} (h : d5 w v g) : ∃ s0 n0 c0,v = .slice s0 n0 c0:=let ⟨s,n,c,e,_⟩:=h;⟨s,n,c,e⟩
theorem IsI.ints {w : World} {s : Option Addr} {n c : Nat} {g : List Int} (h : IsI w (.slice s n c) g) : cy w s n c g:=by
 obtain ⟨_,_,_,e,h⟩:=h
 simp only [Value.slice.injEq] at e
 obtain ⟨rfl,rfl,rfl⟩:=e
 exact h
theorem IsI.len_le {w : World} {s : Option Addr} {n c : Nat} {g : List Int} (h : IsI w (.slice s n c) g) : n ≤ 9223372036854775807:=h.ints.max
theorem IsI.len_eq {w : World} {s : Option Addr} {n c : Nat} {g : List Int} (h : IsI w (.slice s n c) g) : g.length = n:=h.ints.1
def ph (w : World) (g : List Int) (e : Ending) (w' : World) : Prop:=∃ s n c,e = .returned (.slice s n c) ∧ bj w.heap.size w'.heap.size w' (.slice s n c) g ∧ Below w.heap.size w w'
def ge (w w' : World) : Prop:=Below w.heap.size w w'
theorem ge.trans {a b c : World} (h : ge a b) (k : Below b.heap.size b c) : ge a c:=Below.trans h (k.mono h.size)
theorem dN {P : Program} {id : Nat} {Q : Exit → Act → World → Prop} {a : Act} {w : World} {l : List Oper} (hm : P.follows .mixedOrders = true) (hB : Region.lexB .any l.toArray = true)
  (h : wpQuiet P l.toArray (ge w) (fun a'=>∀ w',ge w w' → Q .normal a' w') l a) : (Code.region id l.toArray true).wp P Q a w :=
 wp_region_quiet (C:=ge w) hm hB (bW w) (by simpa using h)
theorem bJ {w : World} {b o : Nat} {v : Value} (h : w.cell? ⟨b,o,none⟩ = some v) : ∀ w',ge w w' → w'.cell? ⟨b,o,none⟩ = some v:=fun _ hw=>aq h hw
theorem jw {P : Program} {f : FuncId} {args : Array Value} {W w : World} {v : Value} {R : Ending → World → Prop} (hw : ge W w) (h : Calls P f args w R) (hr : ∀ e w',R e w' → e = .returned v ∧ Below w.heap.size w w') : Calls P f args w fun e w''=>e = .returned v ∧ ge W w'' :=
 h.mono fun e w' hR=>⟨(hr e w' hR).1,hw.trans (hr e w' hR).2⟩
def Blk (w : World) (B : Nat) (cs : List Value) (T : TypeId) : Prop:=w.heap[B]? = some (.cells cs.toArray T (0,0))
theorem Blk.cell {w : World} {B : Nat} {cs : List Value} {T : TypeId} (h : Blk w B cs T) (k : Nat) {v : Value} (hv : cs[k]? = some v) : w.cell? ⟨B,k,none⟩ = some v:=by
 unfold Blk at h;simp [World.cell?,h,hv]
theorem Blk.free {w : World} {B : Nat} {cs : List Value} {T : TypeId} (h : Blk w B cs T) (k : Nat) : w.frozen? ⟨B,k,none⟩ = false:=by
 unfold Blk at h;simp [World.frozen?,h]
theorem Blk.lt {w : World} {B : Nat} {cs : List Value} {T : TypeId} (h : Blk w B cs T) : B < w.heap.size:=(Array.getElem?_eq_some_iff.1 h).1
theorem Blk.out {w w' : World} {B lo hi : Nat} {cs : List Value} {T : TypeId} (h : Blk w B cs T) (hO : Outside lo hi w w') (hd : B < lo ∨ hi ≤ B) : Blk w' B cs T:=(hO.block B h.lt hd).trans h
theorem Blk.below {w w' : World} {B : Nat} {cs : List Value} {T : TypeId} (h : Blk w B cs T) (hb : Below w.heap.size w w') : Blk w' B cs T:=(hb.block B h.lt).trans h
theorem Blk.alloc {w : World} {B : Nat} {cs : List Value} {T : TypeId} (h : Blk w B cs T) (o : Obj) : Blk (w.alloc o) B cs T:=h.below (aL w o)
theorem Blk.drew {w : World} {B : Nat} {cs : List Value} {T : TypeId} (h : Blk w B cs T) : Blk w.drew B cs T:=h.below (bW w)
theorem Blk.set {w : World} {B : Nat} {cs : List Value} {T : TypeId} (h : Blk w B cs T) (k : Nat) (u : Value) : Blk (w.setCell ⟨B,k,none⟩ u) B (cs.set k u) T:=by
 unfold Blk at h ⊢
 simp [World.setCell,Array.getElem?_modify,h]
theorem Blk.other {w : World} {B g : Nat} {cs : List Value} {T : TypeId} (h : Blk w B cs T) (hne : g ≠ B) (k : Nat) (u : Value) : Blk (w.setCell ⟨g,k,none⟩ u) B cs T :=
 (Below.heap_setCell _ _ _ _ (fun e=>hne e.symm)).trans h
theorem eM (w : World) (cs : List Value) (T : TypeId) : Blk (w.alloc (.cells cs.toArray T)) w.heap.size cs T:=heap_alloc_new _ _
theorem eN {e : TypeId} {lo hi : Nat} {w w' : World} {v : Value} {xs : List Value} (h : bH e lo hi w v xs) (hg : w.grownBy w' v.ownBlock) : Outside lo hi w w' :=
 ⟨hg.os,hg.tape,hg.output,hg.size,fun k hk ho=>hg.block k hk (fun e=>by have:=h.lt k e.symm;omega)⟩
theorem rh {w wr w2 : World} {hi : Nat} {o : Obj} (hb : Below w.heap.size w wr) (hO : Outside w.heap.size hi (wr.alloc o) w2) : Below w.heap.size w w2 :=
 (hb.alloc hb.size o).trans (hO.below ⟨Nat.le_refl _,by have:=hb.size;simp;omega⟩)
theorem bj.off {lo hi : Nat} {w : World} {v : Value} {xs : List Int} (h : bj lo hi w v xs) {g : Nat} (hg : g < lo) (k : Nat) (u : Value) : bj lo hi (w.setCell ⟨g,k,none⟩ u) v xs :=
 bH.other h (fun e=>by have:=(bH.lt h _ e).1;omega) k u
theorem cH.off {lo hi : Nat} {w : World} {v : Value} {xs : List Bool} (h : cH lo hi w v xs) {g : Nat} (hg : g < lo) (k : Nat) (u : Value) : cH lo hi (w.setCell ⟨g,k,none⟩ u) v xs :=
 bH.other h (fun e=>by have:=(bH.lt h _ e).1;omega) k u
section
variable {w : World} {ops : Array Oper} {rest : List Oper} {o : Oper} {a : Act} {Q : Exit → Act → World → Prop}
theorem pi (hg : o.guard = none) (s x : Operand) (hop : o.op = .call { callee:=.builtin .append,args:=#[s,x],argTypes:=#[22,22] })
  {lo hi : Nat} {v : Value} {xs : List Int} (hs : a.eval s = v) (hown : bj lo hi w v xs) {sx : Option Addr} {m c : Nat} {ys : List Int} (hx : a.eval x = .slice sx m c) (hI : cy w sx m c ys)
  (hlen : xs.length + m ≤ 1048576) (hbase : lo ≤ w.heap.size)
  (hK : ∀ sa c' w',bj lo w'.heap.size w' (.slice sa (xs.length + m) c') (xs ++ ys) → Outside lo hi w w' → wpList Try.prog ops Q rest (a.put o.dst (.slice sa (xs.length + m) c')) w') :
  wpList Try.prog ops Q (o :: rest) a w:=by
 obtain ⟨i0,hi',hz0,hz1,hz2⟩:=info_parts Try.infoI
 have fin : ∀ v' w',w'.ownsRow lo 2 1 v' (xs.length + m) (xs.map (.int .i64) ++ ys.map (.int .i64)) → w.grownBy w' v.ownBlock → wpList Try.prog ops Q rest (a.put o.dst v') w':=by
  intro v' w' h1 h2
  have h3 : bj lo w'.heap.size w' v' (xs ++ ys):=by
   have:=fe h1
   rwa [← List.map_append] at this
  obtain ⟨sa,n',c',rfl,hJ⟩:=h3.is
  have hn : n' = xs.length + m:=by have:=hJ.1;simp at this;have:=hI.1;omega
  subst hn
  exact hK sa c' w' h3 (eN hown h2)
 cases sx with
 | none =>
   obtain ⟨rfl,rfl⟩:=hI.2.nil rfl
   have hy : ys = []:=List.eq_nil_of_length_eq_zero hI.1
   subst hy
   refine wpList_append_own_none hg s x 22 hop lo 2 i0 1 Try.underlying22 hi' v xs.length (xs.map (.int .i64)) hs (by have:=bH.row hown;rwa [List.length_map] at this) hx ?_
   have:=fin v w (by have:=bH.row hown;simpa using this) (World.grownBy.refl _ _)
   exact this
 | some ad =>
   refine wpList_append_own _ hg s x 22 hop lo 2 i0 (.int .i64 0) 1 8 Try.underlying22 hi' hz0 hz1 hz2 rfl (by decide) v xs.length (xs.map (.int .i64)) hs (by have:=bH.row hown;rwa [List.length_map] at this) ad m c (ys.map (.int .i64)) hx (by simp [hI.1]) ?_ ?_ (by unfold maxLen;omega) (by omega) hbase ?_
   · intro j u hj
     have hj' : j < m:=by
      rcases Nat.lt_or_ge j m with h|h
      · exact h
      · rw [List.getElem?_eq_none (by simp [hI.1];omega)] at hj;cases hj
     have hsp:=hI.2.spot ad rfl (by omega)
     have hc:=hI.2.cell ad rfl j hj'
     have hu : u = .int .i64 (gi ys j):=by
      rw [List.getElem?_map,tU (by rw [hI.1];exact hj')] at hj
      simpa using hj.symm
     rw [hu]
     obtain ⟨b,off,sp⟩:=ad
     simp only at hsp
     subst hsp
     by_cases e : j = 0
     · subst e;simpa [Addr.add] using hc
     · simpa [Addr.add,e] using hc
   · intro u hu
     obtain ⟨z,_,rfl⟩:=List.mem_map.1 hu
     rfl
   · intro v' w' h1 h2 _
     exact fin v' w' h1 h2
end
theorem kZ (a b : Int) : ((a != b) = false ∧ (a == b) = true ∧ Hid (a = b)) ∨ ((a != b) = true ∧ (a == b) = false ∧ Hid (a ≠ b)):=by
 by_cases h : a = b
 · exact Or.inl ⟨by simp [h],by simp [h],h⟩
 · exact Or.inr ⟨by simp [h],by simp [h],h⟩
end Go.Proofs.Ytlodllmpndflcaa
namespace Go.Proofs.Ytlodllmpndflcaa
set_option linter.unusedVariables false
set_option linter.unusedSimpArgs false
open Go.RowKit
def pj (b : Addr) (lo hi : Nat) (w : World) (v : Value) (xs : List Int) : Prop:=bj lo hi w v xs ∨ (v = .slice (some b) 0 0 ∧ xs = [])
theorem pj.len {b : Addr} {lo hi : Nat} {w : World} {sa : Option Addr} {n cap : Nat} {xs : List Int} (h : pj b lo hi w (.slice sa n cap) xs) : xs.length = n:=by
 rcases h with h|⟨h,rfl⟩
 · exact h.len
 · injection h with _ h2 _;rw [h2];rfl
end Go.Proofs.Ytlodllmpndflcaa
namespace Go.Proofs.Ytlodllmpndflcaa
set_option linter.unusedVariables false
set_option linter.unusedSimpArgs false
open Go.RowKit
theorem pj.below {b : Addr} {lo hi : Nat} {w w' : World} {v : Value} {xs : List Int} (h : pj b lo hi w v xs) (hb : Below w.heap.size w w') : pj b lo hi w' v xs:=h.imp (fun h=>h.below hb) id
end Go.Proofs.Ytlodllmpndflcaa
namespace Go.Proofs.Ytlodllmpndflcaa
set_option linter.unusedVariables false
set_option linter.unusedSimpArgs false
open Go.RowKit
attribute [local go_sem ↓] Go.wp_at_zero Go.wp_at_succ
theorem nO {w wr : World} {g k : Nat} (h : w.grownBy wr (some g)) (u : Value) : w.grownBy (wr.setCell ⟨g,k,none⟩ u) (some g) :=
 ⟨h.os,h.tape,h.output,by rw [World.size_setCell];exact h.size,fun j hj hne=>by rw [Below.heap_setCell _ _ _ _ (fun e=>hne (by rw [e]))];exact h.block j hj hne⟩
theorem bH.grown {e : TypeId} {lo hi : Nat} {w w' : World} {v : Value} {vs : List Value} {b : Option Nat} (h : bH e lo hi w v vs) (hg : w.grownBy w' b) (hne : ∀ g,blk v = some g → b ≠ some g) : bH e lo hi w' v vs :=
 h.keep fun g hb=>hg.block g (h.lt g hb).2.2 (fun e=>hne g hb e.symm)
theorem bj.grown {lo hi : Nat} {w w' : World} {v : Value} {xs : List Int} {b : Option Nat} (h : bj lo hi w v xs) (hg : w.grownBy w' b) (hne : ∀ g,blk v = some g → b ≠ some g) : bj lo hi w' v xs:=bH.grown h hg hne
structure Touch (B : Nat → Prop) (w w' : World) : Prop where
 os : w'.os = w.os
 tape : w'.tape = w.tape
 output : w'.output = w.output
 size : w.heap.size ≤ w'.heap.size
 block : ∀ k,k < w.heap.size → ¬ B k → w'.heap[k]? = w.heap[k]?
theorem Touch.refl (B : Nat → Prop) (w : World) : Touch B w w:=⟨rfl,rfl,rfl,Nat.le_refl _,fun _ _ _=>rfl⟩
theorem Touch.trans {B : Nat → Prop} {a b c : World} (h : Touch B a b) (k : Touch B b c) : Touch B a c :=
 ⟨k.os.trans h.os,k.tape.trans h.tape,k.output.trans h.output,Nat.le_trans h.size k.size,fun i hi hb=>(k.block i (Nat.lt_of_lt_of_le hi h.size) hb).trans (h.block i hi hb)⟩
theorem Touch.mono {B B' : Nat → Prop} {a b : World} (h : Touch B a b) (hB : ∀ g,B g → B' g) : Touch B' a b:=⟨h.os,h.tape,h.output,h.size,fun k hk hb=>h.block k hk fun h=>hb (hB k h)⟩
theorem Touch.outside {B : Nat → Prop} {lo hi : Nat} {a b : World} (h : Touch B a b) (hB : ∀ g,B g → lo ≤ g ∧ g < hi) : Outside lo hi a b:=⟨h.os,h.tape,h.output,h.size,fun k hk ho=>h.block k hk fun h=>by have:=hB k h;omega⟩
theorem cY {w w' : World} {b : Option Nat} (h : w.grownBy w' b) : Touch (fun g=>b = some g) w w':=⟨h.os,h.tape,h.output,h.size,fun k hk hb=>h.block k hk fun e=>hb e.symm⟩
theorem hZ {B : Nat → Prop} {w w' : World} (h : Below w.heap.size w w') : Touch B w w':=⟨h.os,h.tape,h.output,h.size,fun k hk _=>h.block k hk⟩
theorem bH.touch {e : TypeId} {lo hi : Nat} {w w' : World} {v : Value} {vs : List Value} {B : Nat → Prop} (h : bH e lo hi w v vs) (hg : Touch B w w') (hne : ∀ g,blk v = some g → ¬ B g) : bH e lo hi w' v vs :=
 h.keep fun g hb=>hg.block g (h.lt g hb).2.2 (hne g hb)
theorem bj.touch {lo hi : Nat} {w w' : World} {v : Value} {xs : List Int} {B : Nat → Prop} (h : bj lo hi w v xs) (hg : Touch B w w') (hne : ∀ g,blk v = some g → ¬ B g) : bj lo hi w' v xs:=bH.touch h hg hne
theorem iO {B : Nat → Prop} {w w' : World} {b o : Nat} {v : Value} (h : w.cell? ⟨b,o,none⟩ = some v) (hO : Touch B w w') (hb : ¬ B b) : w'.cell? ⟨b,o,none⟩ = some v:=by
 have:=World.block_lt_of_cell? w _ h
 rw [World.cell?_of_block (w:=w) (hO.block b this hb)];exact h
def mkI (n : Nat) (k : Int) : List Int:=tab n fun j=>k + j
theorem j9 (n : Nat) (k : Int) : (mkI n k).length = n:=dG _ _
theorem sD {n j : Nat} (k : Int) (h : j < n) : gi (mkI n k) j = k + j:=dj _ h
set_option maxHeartbeats 400000 in
theorem ep {lo hi : Nat} {w : World} {sa : Option Addr} {n c : Nat} {xs : List Int} (h : bj lo hi w (.slice sa n c) xs) (k : Int) (h0 : 0 ≤ k) (h1 : k ≤ 4611686018427387904) (hn : n ≤ 1048576) :
  Calls Try.prog 13 #[.slice sa n c,.int .i64 k] w fun e w'=>e = .returned (.int .i64 (k + n)) ∧ bj lo hi w' (.slice sa n c) (mkI n k) ∧ w.grownBy w' (blk (.slice sa n c)):=by
 have hl:=h.len
 go_enter Try.func13,Try.ntmps13
 go_wp2
 go_loopw [1,5] (fun q i wr=>∃ j : Nat,j ≤ n ∧ i = .int .i64 j ∧ q = .int .i64 (k + j) ∧ bj lo hi wr (.slice sa n c) (tab n fun i=>if i < j then k + i else gi xs i) ∧ w.grownBy wr (blk (.slice sa n c))) (fun _ i _=>n - (intOf i).toNat)
 case atStart =>
  refine ⟨0,by omega,rfl,by simp,?_,World.grownBy.refl _ _⟩
  rw [cX (g:=gi xs) (fun j hj=>if_neg (by omega))]
  rw [← hl] at h ⊢
  rwa [kV]
 case round =>
  obtain ⟨j,hj,rfl,rfl,ho,hg⟩:=hrel
  by_cases hlt : j < n
  · obtain ⟨g,cap,e,_⟩:=ho.at (k:=j) (by simpa using hlt)
    injection e with e1 e2 e3
    clear e2
    subst e1 e3
    obtain ⟨q1,q2,q3,q4⟩:=ho.cell hlt
    go_wp2
    go_roundw
    case rel =>
     refine ⟨j + 1,by omega,by go_num,by congr 1;omega,?_,nO hg _⟩
     have:=bj.set ho j (k + j)
     rwa [iM (f:=fun i=>k + i) (d:=gi xs) hlt] at this
    case measure=>simp [intOf];omega
  · go_wp2
    go_ret
    have e : j = n:=by omega
    subst e
    refine ⟨rfl,?_,hg⟩
    rwa [cX (g:=fun i=>k + (i : Int)) (fun i hi=>if_pos hi)] at ho
set_option maxHeartbeats 400000 in
theorem nP {w : World} {sa : Option Addr} {n c : Nat} (k : Int) (h : IsI w (.slice sa n c) (mkI n k)) (h0 : 0 ≤ k) (h1 : k ≤ 4611686018427387904) (hn : n ≤ 1048576) :
  Calls Try.prog 28 #[.slice sa n c,.int .i64 k] w fun e w'=>e = .returned (.int .i64 (k + n)) ∧ w = w':=by
 have hI:=h.ints
 clear h
 go_enter Try.func28,Try.ntmps28
 go_wp2
 go_loop [1,5] (fun q i=>∃ j : Nat,j ≤ n ∧ i = .int .i64 j ∧ q = .int .i64 (k + j)) (fun _ i=>n - (intOf i).toNat)
 case atStart=>exact ⟨0,by omega,rfl,by simp⟩
 case round =>
  obtain ⟨j,hj,rfl,rfl⟩:=hrel
  by_cases hlt : j < n
  · obtain ⟨b,o,rfl,hbl,hc⟩:=hI.get hlt
    have hck:=hc j hlt
    rw [sD k hlt] at hck
    clear hc
    go_wp2
    go_round
    case rel=>exact ⟨j + 1,by omega,by go_num,by congr 1;omega⟩
    case measure=>simp [intOf];omega
  · go_wp2
    go_ret
    have e : j = n:=by omega
    subst e
    exact ⟨rfl,rfl⟩
theorem nQ {lo hi : Nat} {w : World} {sa : Option Addr} {n c : Nat} {xs : List Int} (h : bj lo hi w (.slice sa n c) xs) (k : Int) (h0 : 0 ≤ k) (h1 : k ≤ 4611686018427387904) (hn : n ≤ 1048576) :
  Calls Try.prog 13 #[.slice sa n c,.int .i64 k] w fun e w'=>e = .returned (.int .i64 (k + n)) ∧ bj lo hi w' (.slice sa n c) (mkI n k) ∧ Outside lo hi w w' :=
 (ep h k h0 h1 hn).mono fun _ _ ⟨e,h2,h3⟩=>⟨e,h2,eN h h3⟩
end Go.Proofs.Ytlodllmpndflcaa
namespace Go.Proofs.Ytlodllmpndflcaa
set_option linter.unusedVariables false
set_option linter.unusedSimpArgs false
open Go.RowKit
attribute [local go_sem ↓] Go.wp_at_zero Go.wp_at_succ
theorem gK {e e' : TypeId} {lo hi lo' hi' : Nat} {w : World} {v u : Value} {vs us : List Value} (h : bH e lo hi w v vs) (h' : bH e' lo' hi' w u us) (hne : e ≠ e') : ∀ g,blk v = some g → blk u ≠ some g:=by
 intro g hg hu
 rcases h with ⟨rfl,_⟩|⟨g1,c1,cur1,rfl,_,_,hh,_⟩
 · simp [blk,Value.ownBlock] at hg
 rcases h' with ⟨rfl,_⟩|⟨g2,c2,cur2,rfl,_,_,hh2,_⟩
 · simp [blk,Value.ownBlock] at hu
 simp [blk,Value.ownBlock] at hg hu
 subst hg hu
 rw [hh] at hh2
 simp at hh2
 exact hne hh2.2
theorem k8 {vs : List Value} (h : (vs.filterMap blk).Nodup) {i j : Nat} (hi : i < vs.length) (hj : j < vs.length) (hij : i ≠ j) (d : Value) : ∀ g,blk (vs.getD i d) = some g → blk (vs.getD j d) ≠ some g:=by
 induction vs generalizing i j with
 | nil => simp at hi
 | cons v vs ih =>
   intro g h1 h2
   have hn : (vs.filterMap blk).Nodup:=by
    rw [List.filterMap_cons] at h
    cases hb : blk v with
    | none => rw [hb] at h; exact h
    | some x => rw [hb] at h; exact (List.nodup_cons.1 h).2
   have hmem : ∀ k,k < vs.length → blk (vs.getD k d) = some g → g ∈ vs.filterMap blk:=fun k hk hb=>List.mem_filterMap.2 ⟨vs.getD k d,by rw [List.getD_eq_getElem?_getD,List.getElem?_eq_getElem hk];exact List.getElem_mem hk,hb⟩
   have hv : blk v = some g → ¬ g ∈ vs.filterMap blk:=fun hb=>by rw [List.filterMap_cons,hb] at h;exact (List.nodup_cons.1 h).1
   cases i with
   | zero =>
     cases j with
     | zero => exact hij rfl
     | succ j => exact hv h1 (hmem j (by simpa using hj) (by simpa using h2))
   | succ i =>
     cases j with
     | zero => exact hv h2 (hmem i (by simpa using hi) (by simpa using h1))
     | succ j => exact ih hn (by simpa using hi) (by simpa using hj) (by omega) g (by simpa using h1) (by simpa using h2)
def jn (n : Nat) (f : Nat → List Int) : List (List Int):=(List.range n).map f
theorem du (n : Nat) (f : Nat → List Int) : (jn n f).length = n:=by simp [jn]
theorem gf {n k : Nat} (f : Nat → List Int) (h : k < n) : gr (jn n f) k = f k:=by simp [gr,jn,List.getD,h]
theorem mY {xs : List (List Int)} {n : Nat} {f : Nat → List Int} (hl : xs.length = n) (h : ∀ k,k < n → gr xs k = f k) : xs = jn n f :=
 o6 (by rw [hl,du]) fun k hk=>by rw [h k (by omega),gf f (by omega)]
theorem iP {n : Nat} {f g : Nat → List Int} (h : ∀ k,k < n → f k = g k) : jn n f = jn n g:=mY (du _ _) fun k hk=>by rw [gf f hk,h k hk]
theorem nR (xs : List (List Int)) : jn xs.length (gr xs) = xs:=(mY rfl fun _ _=>rfl).symm
def sE (xss : List (List Int)) (k : Int) : List (List Int):=jn xss.length fun i=>mkI (gr xss i).length (k + dh xss i)
def dO (xss : List (List Int)) : Nat:=dh xss xss.length
theorem k9 (xss : List (List Int)) {j : Nat} (h : j ≤ xss.length) : dh xss j ≤ dO xss:=gI xss h
theorem cj.len {lo hi : Nat} {w : World} {sa : Option Addr} {n c : Nat} {xss : List (List Int)} {vs : List Value} (h : cj lo hi w (.slice sa n c) xss vs) : xss.length = n:=by
 obtain ⟨_,_,_,e,h1,_⟩:=h.is
 injection e with _ e2 _
 omega
theorem cj.row {lo hi : Nat} {w : World} {sa : Option Addr} {n c : Nat} {xss : List (List Int)} {vs : List Value} (h : cj lo hi w (.slice sa n c) xss vs) {j : Nat} (hj : j < n) :
  ∃ g s' n' c',sa = some ⟨g,0,none⟩ ∧ w.cell? ⟨g,j,none⟩ = some (.slice s' n' c') ∧ vs.getD j (.slice none 0 0) = .slice s' n' c' ∧ bj lo hi w (.slice s' n' c') (gr xss j) ∧ n' = (gr xss j).length:=by
 have hl:=h.len
 obtain ⟨g,cap,e,_,_,_,h3,_⟩:=h.2.1.at (k:=j) (.slice none 0 0) (by rw [h.1];omega)
 injection e with e1 _ _
 have hr:=h.2.2.1 j (by omega)
 obtain ⟨s',n',c',e',hI⟩:=hr.is
 have hc:=h3 j (by rw [h.1];omega)
 rw [e'] at hc hr
 exact ⟨g,s',n',c',e1,hc,e',hr,hI.1.symm⟩
set_option maxHeartbeats 800000 in
theorem lY {lo hi : Nat} {w : World} {sa : Option Addr} {n c : Nat} {xss : List (List Int)} {vs : List Value} (h : cj lo hi w (.slice sa n c) xss vs) (k : Int) (h0 : 0 ≤ k) (h1 : k ≤ 2305843009213693952) (hn : n ≤ 1048576) (hs : dO xss ≤ 1048576) :
  Calls Try.prog 44 #[.slice sa n c,.int .i64 k] w fun e w'=>e = .returned (.int .i64 (k + dO xss)) ∧ cj lo hi w' (.slice sa n c) (sE xss k) vs ∧ Touch (fun g=>g ∈ vs.filterMap blk) w w':=by
 have hl:=h.len
 have HS:=Lib.hid hs
 have HL:=Lib.hid hl
 have hps:=fun j (hj : j ≤ n)=>k9 xss (j:=j) (by omega)
 have HP:=Lib.hid hps
 clear hps hs hl
 go_enter Try.func44,Try.ntmps44
 go_wp2
 go_loopw [1,5] (fun q i wr=>∃ j : Nat,j ≤ n ∧ i = .int .i64 j ∧ q = .int .i64 (k + dh xss j) ∧ cj lo hi wr (.slice sa n c) (jn n fun i=>if i < j then mkI (gr xss i).length (k + dh xss i) else gr xss i) vs ∧ Touch (fun g=>g ∈ vs.filterMap blk) w wr) (fun _ i _=>n - (intOf i).toNat)
 case atStart =>
  refine ⟨0,by omega,rfl,by simp [dh],?_,Touch.refl _ _⟩
  rw [iP (g:=gr xss) (fun j hj=>if_neg (by omega)),← HL.out,nR]
  rw [← HL.out] at h
  exact h
 case round =>
  obtain ⟨j,hj,rfl,rfl,ho,hO⟩:=hrel
  by_cases hlt : j < n
  · obtain ⟨g,s',n',c',rfl,hc,ev,hr,en⟩:=ho.row hlt
    rw [gf _ hlt,if_neg (by omega)] at hr en
    have hp:=HP.out j hj
    have hs' : dO xss ≤ 1048576:=HS.out
    have hp2:=HP.out (j + 1) hlt
    have HE:=Lib.hid (show dh xss (j + 1) = dh xss j + n' by simp only [dh];rw [en])
    have EN:=Lib.hid en
    have EV:=Lib.hid ev
    have hn' : n' ≤ 1048576:=by have:=HE.out;omega
    clear en ev hs'
    generalize hq : dh xss j = q at *
    have HQ:=Lib.hid hq
    clear hq
    have hk0 : (0 : Int) ≤ k + q:=by omega
    have hk1 : k + (q : Int) ≤ 4611686018427387904:=by have : dO xss ≤ 1048576:=HS.out;omega
    go_wp2_with (go_at_call 13;refine (ep hr _ hk0 hk1 hn').mono ?_;rintro e w2 ⟨rfl,hr2,hg2⟩)
    go_roundw
    case rel =>
     refine ⟨j + 1,by omega,by go_num,by rw [HE.out];congr 1;omega,?_,hO.trans ((cY hg2).mono fun g' hg'=>?_)⟩
     rotate_left
     · exact List.mem_filterMap.2 ⟨vs.getD j (.slice none 0 0),by rw [List.getD_eq_getElem?_getD,List.getElem?_eq_getElem (by have:=ho.1;rw [du] at this;omega)];exact List.getElem_mem _,by rw [EV.out];exact hg'⟩
     refine ⟨by rw [du];have:=ho.1;rwa [du] at this,ho.2.1.grown hg2 (fun g' hg'=>gK ho.2.1 hr (by decide) g' hg'),?_,ho.2.2.2⟩
     intro i hi
     rw [du] at hi
     rw [gf _ hi]
     by_cases e : i = j
     · subst e
       rw [if_pos (by omega),EV.out,← EN.out]
       rwa [show (mkI n' (k + (dh xss i : Int))) = mkI n' (k + (q : Int)) by rw [HQ.out]]
     · have:=ho.2.2.1 i (by rw [du];exact hi)
       rw [gf _ hi] at this
       rw [show (if i < j + 1 then mkI (gr xss i).length (k + dh xss i) else gr xss i) = if i < j then mkI (gr xss i).length (k + dh xss i) else gr xss i by
        by_cases e2 : i < j
        · rw [if_pos e2,if_pos (by omega)]
        · rw [if_neg e2,if_neg (by omega)]]
       refine this.grown hg2 fun g' hg'=>?_
       rw [← EV.out]
       have hvl : vs.length = n:=by have:=ho.1;rwa [du] at this
       exact k8 ho.2.2.2 (by omega) (by omega) e _ g' hg'
    case measure=>simp [intOf];omega
  · go_wp2
    go_ret
    have e : j = n:=by omega
    subst e
    refine ⟨cD (by unfold dO;rw [HL.out]),?_,hO⟩
    rw [iP (g:=fun i=>mkI (gr xss i).length (k + dh xss i)) (fun i hi=>if_pos hi)] at ho
    unfold sE
    rw [HL.out]
    exact ho
def gg (a : Ar) : Nat:=a.own.length + dO a.nxt
def mZ (g : Pa) : Nat:=gg g.ar + g.prio.length
def mkA (a : Ar) (k : Int) : Ar:=⟨mkI a.own.length k,sE a.nxt (k + a.own.length)⟩
def mkP (g : Pa) (k : Int) : Pa:=⟨mkA g.ar k,mkI g.prio.length (k + gg g.ar)⟩
theorem cj.touch {lo hi : Nat} {w w' : World} {v : Value} {xss : List (List Int)} {vs : List Value} {B : Nat → Prop} (h : cj lo hi w v xss vs) (hg : Touch B w w') (h0 : ∀ g,blk v = some g → ¬ B g) (h1 : ∀ g,g ∈ vs.filterMap blk → ¬ B g) : cj lo hi w' v xss vs :=
 ⟨h.1,h.2.1.touch hg h0,fun k hk=>(h.2.2.1 k hk).touch hg fun g hb=>h1 g (List.mem_filterMap.2 ⟨vs.getD k (.slice none 0 0),by rw [List.getD_eq_getElem?_getD,List.getElem?_eq_getElem (by rw [h.1];exact hk)];exact List.getElem_mem _,hb⟩),h.2.2.2⟩
set_option maxHeartbeats 800000 in
theorem nS {lo hi : Nat} {w : World} {s1 : Option Addr} {n1 c1 : Nat} {s2 : Option Addr} {n2 c2 : Nat} {a : Ar} {vs : List Value} (h1 : bj lo hi w (.slice s1 n1 c1) a.own) (h2 : cj lo hi w (.slice s2 n2 c2) a.nxt vs) (hd : ((.slice s1 n1 c1 :: vs).filterMap blk).Nodup)
  (k : Int) (h0 : 0 ≤ k) (hk : k ≤ 1152921504606846976) (hn1 : n1 ≤ 1048576) (hn2 : n2 ≤ 1048576) (hs : dO a.nxt ≤ 1048576) (hhi : hi ≤ w.heap.size) :
  Calls Try.prog 27 #[.agg #[.slice s1 n1 c1,.slice s2 n2 c2],.int .i64 k] w fun e w'=>e = .returned (.int .i64 (k + gg a)) ∧ bj lo hi w' (.slice s1 n1 c1) (mkA a k).own ∧ cj lo hi w' (.slice s2 n2 c2) (mkA a k).nxt vs ∧ Touch (fun g=>g ∈ (.slice s1 n1 c1 :: vs).filterMap blk) w w':=by
 have hl1:=Lib.hid h1.len
 have hne : ∀ g,blk (.slice s1 n1 c1) = some g → ¬ g ∈ vs.filterMap blk:=fun g hg hm=>by rw [List.filterMap_cons,hg] at hd;exact (List.nodup_cons.1 hd).1 hm
 have HNE:=Lib.hid hne
 clear hne
 have hO0:=gK h1 h2.2.1 (by decide)
 have HO0:=Lib.hid hO0
 clear hO0
 go_enter Try.func27,Try.ntmps27
 go_wp2_with fail
 refine (ep (bH.alloc h1 _) k h0 (by omega) hn1).mono ?_
 rintro e w2 ⟨rfl,hm1,hg1⟩
 have q0 : w2.cell? ⟨w.heap.size,0,none⟩ = some (.slice s1 n1 c1):=iO (B:=fun g=>blk (.slice s1 n1 c1) = some g) (by simp) (cY hg1) (fun hb=>by have:=(h1.blks _ hb).2;omega)
 have q1 : w2.cell? ⟨w.heap.size,1,none⟩ = some (.slice s2 n2 c2):=iO (B:=fun g=>blk (.slice s1 n1 c1) = some g) (by simp) (cY hg1) (fun hb=>by have:=(h1.blks _ hb).2;omega)
 have h2' : cj lo hi w2 (.slice s2 n2 c2) a.nxt vs:=(h2.below (aL _ _)).touch (cY hg1) (fun g hg hb=>HO0.out g hb hg) (fun g hg hb=>HNE.out g hb hg)
 have hk2 : k + (n1 : Int) ≤ 2305843009213693952:=by omega
 have hk3 : 0 ≤ k + (n1 : Int):=by omega
 go_wp2_with (go_at_call 44;refine (lY h2' _ hk3 hk2 hn2 hs).mono ?_;rintro e w3 ⟨rfl,hm2,hg2⟩)
 go_ret
 refine ⟨cD (by unfold gg;rw [hl1.out];omega),?_,?_,?_⟩
 · unfold mkA;rw [hl1.out]
   exact hm1.touch hg2 (fun g hg=>HNE.out g hg)
 · unfold mkA;rw [hl1.out];exact hm2
 · refine (hZ (aL _ _)).trans (((cY hg1).mono fun g hg=>?_).trans (hg2.mono fun g hg=>?_))
   · rw [List.filterMap_cons,hg];exact List.mem_cons_self
   · rw [List.filterMap_cons];cases blk (Value.slice s1 n1 c1) with
     | none => exact hg
     | some x => exact List.mem_cons_of_mem _ hg
theorem kd {g : Nat} {v : Value} {vs : List Value} (h : blk v = some g) : g ∈ (v :: vs).filterMap blk:=by rw [List.filterMap_cons,h];exact List.mem_cons_self
theorem ke {g : Nat} {v : Value} {vs : List Value} (h : g ∈ vs.filterMap blk) : g ∈ (v :: vs).filterMap blk:=by
 rw [List.filterMap_cons];cases blk v with
 | none => exact h
 | some x => exact List.mem_cons_of_mem _ h
theorem lZ {v : Value} {vs : List Value} (h : ((v :: vs).filterMap blk).Nodup) : (∀ g,blk v = some g → ¬ g ∈ vs.filterMap blk) ∧ (vs.filterMap blk).Nodup:=by
 rw [List.filterMap_cons] at h
 cases hb : blk v with
 | none => rw [hb] at h; exact ⟨fun g hg => (by cases hg), h⟩
 | some x => rw [hb] at h; exact ⟨fun g hg => (by injection hg with hg; rw [← hg]; exact (List.nodup_cons.1 h).1), (List.nodup_cons.1 h).2⟩
set_option maxHeartbeats 800000 in
theorem nT {lo hi : Nat} {w : World} {s1 : Option Addr} {n1 c1 : Nat} {s2 : Option Addr} {n2 c2 : Nat} {s3 : Option Addr} {n3 c3 : Nat} {g : Pa} (h : dc lo hi w (.agg #[.slice s1 n1 c1,.slice s2 n2 c2,.slice s3 n3 c3]) g)
  (k : Int) (h0 : 0 ≤ k) (hk : k ≤ 576460752303423488) (hs : szP g ≤ 1048576) (hhi : hi ≤ w.heap.size) :
  Calls Try.prog 12 #[.agg #[.slice s1 n1 c1,.slice s2 n2 c2,.slice s3 n3 c3],.int .i64 k] w fun e w'=>e = .returned (.int .i64 (k + mZ g)) ∧ dc lo hi w' (.agg #[.slice s1 n1 c1,.slice s2 n2 c2,.slice s3 n3 c3]) (mkP g k) ∧ Outside lo hi w w':=by
 obtain ⟨_,_,_,vs,e,h1,h2,h3,hd⟩:=h
 simp only [Value.agg.injEq,Array.mk.injEq,List.cons.injEq,and_true] at e
 obtain ⟨rfl,rfl,rfl⟩:=e
 have hd':=(List.Perm.filterMap blk (List.Perm.swap (.slice s3 n3 c3) (.slice s1 n1 c1) vs)).nodup_iff.1 hd
 obtain ⟨hd1,hd2⟩:=lZ hd'
 have HD:=Lib.hid hd1
 have HD0:=Lib.hid hd
 have hl1:=h1.len
 have hl2:=h2.len
 have hl3:=h3.len
 have hs1 : n1 ≤ 1048576 ∧ n2 ≤ 1048576 ∧ n3 ≤ 1048576 ∧ dO g.ar.nxt ≤ 1048576 ∧ gg g.ar ≤ 2097152:=by
  unfold szP szA gJ at hs;unfold gg dO;omega
 have HL:=Lib.hid hl3
 have hb1 : ∀ x,blk (.slice s1 n1 c1) = some x → x < hi:=fun x hx=>(h1.blks x hx).2
 have hb3 : ∀ x,blk (.slice s3 n3 c3) = some x → x < hi:=fun x hx=>(h3.blks x hx).2
 have hbs : ∀ x,x ∈ vs.filterMap blk → x < hi:=fun x hx=>(h2.blks x hx).2
 have hB : ∀ x,x ∈ (.slice s1 n1 c1 :: vs).filterMap blk → lo ≤ x ∧ x < hi:=by
  intro x hx
  rw [List.filterMap_cons] at hx
  cases hq : blk (Value.slice s1 n1 c1) with
  | none => rw [hq] at hx; exact h2.blks x hx
  | some y =>
    rw [hq] at hx
    rcases List.mem_cons.1 hx with e|hx
    · rw [e];exact h1.blks y hq
    · exact h2.blks x hx
 have HB:=Lib.hid hB
 have HB3:=Lib.hid (h3.blks)
 have hO0:=gK h3 h2.2.1 (by decide)
 have HO0:=Lib.hid hO0
 have HHI:=Lib.hid hhi
 clear hd hd' hd1 hl1 hl2 hl3 hb1 hb3 hbs hB hO0 hs
 obtain ⟨e1,e2,e3,e4,e5⟩:=hs1
 go_enter Try.func12,Try.ntmps12
 go_wp2_with fail
 refine (nS (bH.alloc h1 _) (cj.below h2 (aL _ _)) hd2 k h0 (by omega) e1 e2 e4 (by simp;omega)).mono ?_
 rintro e w2 ⟨rfl,hm1,hm2,hg1⟩
 have hsz:=hg1.size
 simp only [World.size_alloc] at hsz
 have q0 : w2.cell? ⟨w.heap.size,0,none⟩ = some (.slice s1 n1 c1):=iO (by simp) hg1 (fun hb=>by have:=(HB.out _ hb).2;omega)
 have q1 : w2.cell? ⟨w.heap.size,1,none⟩ = some (.slice s2 n2 c2):=iO (by simp) hg1 (fun hb=>by have:=(HB.out _ hb).2;omega)
 have q2 : w2.cell? ⟨w.heap.size,2,none⟩ = some (.slice s3 n3 c3):=iO (by simp) hg1 (fun hb=>by have:=(HB.out _ hb).2;omega)
 have h3' : bj lo hi w2 (.slice s3 n3 c3) g.prio:=(bj.alloc h3 _).touch hg1 (fun x hx hb=>HD.out x hx hb)
 have hk2 : k + (gg g.ar : Int) ≤ 4611686018427387904:=by omega
 have hk3 : 0 ≤ k + (gg g.ar : Int):=by omega
 go_wp2_with (go_at_call 13;refine (ep h3' _ hk3 hk2 e3).mono ?_;rintro e w3 ⟨rfl,hm3,hg2⟩)
 go_ret
 have t2 : Touch (fun x=>blk (.slice s3 n3 c3) = some x) w2 w3:=cY hg2
 refine ⟨cD (by unfold mZ;rw [HL.out];omega),⟨_,_,_,vs,rfl,hm1.touch t2 (fun x hx hb=>HD.out x hb (kd hx)),hm2.touch t2 (fun x hx hb=>HO0.out x hb hx) (fun x hx hb=>HD.out x hb (ke hx)),?_,HD0.out⟩,?_⟩
 · unfold mkP;rw [HL.out];exact hm3
 · exact ((hZ (B:=fun _=>False) (aL _ _)).outside (fun _ h=>h.elim)).trans ((hg1.outside HB.out).trans (t2.outside fun x hx=>HB3.out x hx))
end Go.Proofs.Ytlodllmpndflcaa
namespace Go.Proofs.Ytlodllmpndflcaa
set_option linter.unusedVariables false
set_option linter.unusedSimpArgs false
open Go.RowKit
end Go.Proofs.Ytlodllmpndflcaa
namespace Go.Proofs.Ytlodllmpndflcaa
set_option linter.unusedVariables false
set_option linter.unusedSimpArgs false
open Go.RowKit
theorem cj.put {lo hi : Nat} {w w' : World} {gv nv cv : Nat} {xss : List (List Int)} {vs : List Value} (h : cj lo hi w (.slice (some ⟨gv,0,none⟩) nv cv) xss vs) {k : Nat} (hk : k < xss.length) {u : Value} {ys : List Int}
  (hu : bj lo w'.heap.size w' u ys) (hg : w.grownBy w' (blk (vs.getD k (.slice none 0 0)))) (hf : ∀ g,blk u = some g → blk (vs.getD k (.slice none 0 0)) = some g ∨ w.heap.size ≤ g) :
  cj lo w'.heap.size (w'.setCell ⟨gv,k,none⟩ u) (.slice (some ⟨gv,0,none⟩) nv cv) (xss.set k ys) (vs.set k u):=by
 have hne : blk (.slice (some ⟨gv,0,none⟩) nv cv) ≠ blk (vs.getD k (.slice none 0 0)):=fun e=>by
  have:=gK h.2.1 (h.2.2.1 k hk) (by decide) gv rfl
  exact this (by rw [← e];rfl)
 have hV : bH 22 lo w'.heap.size w' (.slice (some ⟨gv,0,none⟩) nv cv) vs:=(bH.top (bH.keep h.2.1 (w':=w') fun g hg'=>hg.block g (bH.lt h.2.1 g hg').2.2 (by
  intro e;exact hne (by rw [hg',e]))))
 have hvu : ∀ g,blk u = some g → gv ≠ g:=fun g hg' e=>gK hV hu (by decide) gv rfl (by rw [hg',e])
 refine ⟨by simp [h.1],(bH.set hV k u),fun j hj=>?_,?_⟩
 · rw [List.length_set] at hj
   rw [sB hk]
   have hgd : (vs.set k u).getD j (.slice none 0 0) = if j = k then u else vs.getD j (.slice none 0 0):=by
    simp only [List.getD_eq_getElem?_getD,List.getElem?_set]
    by_cases e : k = j
    · subst e;simp [h.1,hk]
    · rw [if_neg e,if_neg (fun h=>e h.symm)]
   rw [hgd]
   by_cases e : j = k
   · rw [if_pos e,if_pos e]
     exact bH.other hu (fun e'=>hvu gv e' rfl) k u
   · rw [if_neg e,if_neg e]
     have hj':=h.2.2.1 j hj
     have hd:=k8 h.2.2.2 (i:=j) (j:=k) (by rw [h.1];exact hj) (by rw [h.1];exact hk) e (.slice none 0 0)
     have h1 : bj lo w'.heap.size w' (vs.getD j (.slice none 0 0)) (gr xss j):=bH.top (bH.keep hj' (w':=w') fun g hg'=>hg.block g (bH.lt hj' g hg').2.2 (fun e'=>hd g hg' e'.symm))
     exact bH.other h1 (fun e'=>gK hV h1 (by decide) gv rfl e') k u
 · have hlt : ∀ g,g ∈ vs.filterMap blk → g < w.heap.size:=by
    intro g hg'
    obtain ⟨x,hx,e⟩:=List.mem_filterMap.1 hg'
    obtain ⟨j,hj,e2⟩:=List.getElem_of_mem hx
    have:=h.2.2.1 j (by rw [← h.1];exact hj)
    rw [List.getD_eq_getElem?_getD,List.getElem?_eq_getElem hj] at this
    simp only [Option.getD_some,e2] at this
    exact (bH.lt this g e).2.2
   have hk' : k < vs.length:=by rw [h.1];exact hk
   have e1 : vs = vs.take k ++ vs.getD k (.slice none 0 0) :: vs.drop (k + 1):=by
    rw [List.getD_eq_getElem?_getD,List.getElem?_eq_getElem hk',Option.getD_some,List.getElem_cons_drop,List.take_append_drop]
   have hn:=h.2.2.2
   rw [e1] at hn hlt
   rw [List.set_eq_take_append_cons_drop,if_pos hk']
   revert hn hlt hf
   generalize vs.getD k (.slice none 0 0) = o
   generalize vs.take k = a
   generalize vs.drop (k + 1) = b
   intro hf hlt hn
   rw [List.filterMap_append,List.filterMap_cons] at hn hlt ⊢
   cases hu' : blk u with
   | none =>
     simp only
     cases ho : blk o with
     | none => rw [ho] at hn; exact hn
     | some q => rw [ho] at hn; simp only at hn; exact (hn.sublist (List.Sublist.append (List.Sublist.refl _) (List.sublist_cons_self _ _)))
   | some p =>
     simp only
     rcases hf p hu' with e|e
     · rw [e] at hn;exact hn
     · have hn2 : (a.filterMap blk ++ b.filterMap blk).Nodup:=by
        cases ho : blk o with
        | none => rw [ho] at hn; exact hn
        | some q => rw [ho] at hn; simp only at hn; exact (hn.sublist (List.Sublist.append (List.Sublist.refl _) (List.sublist_cons_self _ _)))
       have hm : ∀ g,g ∈ a.filterMap blk ++ b.filterMap blk → g < w.heap.size:=by
        intro g hg'
        apply hlt g
        rcases List.mem_append.1 hg' with h'|h'
        · exact List.mem_append.2 (.inl h')
        · cases ho : blk o with
          | none => exact List.mem_append.2 (.inr h')
          | some q => exact List.mem_append.2 (.inr (List.mem_cons_of_mem _ h'))
       have hp : ¬ p ∈ a.filterMap blk ++ b.filterMap blk:=fun h'=>by have:=hm p h';omega
       exact (List.perm_middle.nodup_iff).2 (List.nodup_cons.2 ⟨hp,hn2⟩)
end Go.Proofs.Ytlodllmpndflcaa
namespace Go.Proofs.Ytlodllmpndflcaa
set_option linter.unusedVariables false
set_option linter.unusedSimpArgs false
open Go.RowKit
def cZ (xs : List Int) (m : Int) : Prop:=∀ k,k < xs.length → 0 ≤ gi xs k ∧ gi xs k < m ∧ (0 < k → gi xs (k - 1) < gi xs k)
structure ArOk (a : Ar) : Prop where
 pos : 1 ≤ a.own.length
 le : a.own.length ≤ 256
 len : a.nxt.length = a.own.length
 vert : ∀ v,v < a.own.length → 0 ≤ gi a.own v ∧ gi a.own v ≤ 1 ∧ 1 ≤ (gr a.nxt v).length ∧ (gr a.nxt v).length ≤ 16 ∧ cZ (gr a.nxt v) a.own.length
structure PaOk (g : Pa) : Prop where
 ar : ArOk g.ar
 len : g.prio.length = g.ar.own.length
 prio : ∀ v,v < g.prio.length → 0 ≤ gi g.prio v ∧ gi g.prio v ≤ 40
theorem pk {xs : List Int} {m : Int} (h : cZ xs m) : ∀ k,k < xs.length → (k : Int) ≤ gi xs k:=by
 intro k
 induction k with
 | zero => intro hk; exact (h 0 hk).1
 | succ k ih => intro hk; have := ih (by omega); have := (h (k + 1) hk).2.2 (by omega); simp only [Nat.add_sub_cancel] at this; omega
theorem jx {xs : List Int} {m : Int} (h : cZ xs m) (hm : 0 ≤ m) : (xs.length : Int) ≤ m:=by
 by_cases hx : xs.length = 0
 · omega
 · have h1:=pk h (xs.length - 1) (by omega)
   have h2:=(h (xs.length - 1) (by omega)).2.1
   omega
set_option maxHeartbeats 400000 in
theorem jy (sa : Option Addr) (n c : Nat) (xs : List Int) (m : Int) (w : World) (hI : cy w sa n c xs) :
  Calls Try.prog 62 #[.slice sa n c,.int .i64 m] w fun e w'=>e = .returned (.bool (tf (cZ xs m))) ∧ w = w':=by
 have hmax:=hI.max
 have HL:=Lib.hid hI.1
 go_enter Try.func62,Try.ntmps62
 go_wp2
 go_loop [9] (fun i=>∃ k : Nat,k ≤ n ∧ i = .int .i64 k ∧ ∀ j,j < k → 0 ≤ gi xs j ∧ gi xs j < m ∧ (0 < j → gi xs (j - 1) < gi xs j)) (fun i=>n - (intOf i).toNat)
 case atStart=>exact ⟨0,by omega,rfl,fun j hj=>by omega⟩
 case round =>
  obtain ⟨k,hk,rfl,hS⟩:=hrel
  have HS:=Lib.hid hS;clear hS
  by_cases hlt : k < n
  · obtain ⟨b,o,rfl,hSb,hc⟩:=hI.get hlt
    have hck:=hc k hlt
    have hcp : 0 < k → w.cell? ⟨b,o + (k - 1),none⟩ = some (.int .i64 (gi xs (k-1))):=fun h=>hc (k-1) (by omega)
    clear hc
    go_wp2
    all_goals first
     | (go_ret; exact ⟨bq (ao (fun h => by have := h k (by rw [HL.out]; exact hlt); omega)).symm, rfl⟩)
     | (go_round
        case rel=>exact ⟨k + 1,by omega,by go_num,fun j hj=>by
           by_cases e : j = k
           · rw [e];omega
           · exact HS.out j (by omega)⟩
        case measure=>simp [intOf];omega)
  · go_wp2
    go_ret
    exact ⟨bq (aA (fun j hj=>HS.out j (by rw [HL.out] at hj;omega))).symm,rfl⟩
set_option maxHeartbeats 400000 in
theorem la (x lo hi : Int) (w : World) : Calls Try.prog 60 #[.int .i64 x,.int .i64 lo,.int .i64 hi] w fun e w'=>e = .returned (.bool (tf (lo ≤ x ∧ x ≤ hi))) ∧ w = w':=by
 by_cases h1 : lo ≤ x
 · by_cases h2 : x ≤ hi
   · rw [aA ⟨h1,h2⟩]
     go_enter Try.func60,Try.ntmps60
     go_wp2
     go_ret
     exact ⟨rfl,rfl⟩
   · rw [ao (fun h=>h2 h.2)]
     go_enter Try.func60,Try.ntmps60
     go_wp2
     go_ret
     exact ⟨rfl,rfl⟩
 · rw [ao (fun h=>h1 h.1)]
   go_enter Try.func60,Try.ntmps60
   go_wp2
   go_ret
   exact ⟨rfl,rfl⟩
theorem dI (x lo hi : Int) (b : Bool) (h : tf (lo ≤ x ∧ x ≤ hi) = b) (w : World) : Calls Try.prog 60 #[.int .i64 x,.int .i64 lo,.int .i64 hi] w fun e w'=>e = .returned (.bool b) ∧ w = w':=by
 have:=la x lo hi w
 rwa [h] at this
theorem kf (x lo hi : Int) (b : Bool) (h : tf (lo ≤ x ∧ x ≤ hi) = b) (w : World) : Calls Try.prog 60 #[.int .i64 x,.int .i64 lo,.int .i64 hi] w fun e w'=>e = .returned (.bool b) ∧ w' = w :=
 (dI x lo hi b h w).mono fun _ _ h=>⟨h.1,h.2.symm⟩
set_option maxHeartbeats 800000 in
theorem ic (sa : Option Addr) (n c : Nat) (xs : List Int) (m : Int) (w : World) (hI : cy w sa n c xs) (h0 : 0 ≤ m) (hm : m ≤ 4611686018427387904) :
  Calls Try.prog 78 #[.slice sa n c,.int .i64 m] w (Qb w (tf (cZ xs m))):=by
 have hmax:=hI.max
 have HL:=Lib.hid hI.1
 go_enter Try.func78,Try.ntmps78
 go_wp2
 go_loopw [5] (fun i wr=>∃ k : Nat,k ≤ n ∧ i = .int .i64 k ∧ (∀ j,j < k → 0 ≤ gi xs j ∧ gi xs j < m ∧ (0 < j → gi xs (j - 1) < gi xs j)) ∧ Qt w wr) (fun i _=>n - (intOf i).toNat)
 case atStart=>exact ⟨0,by omega,rfl,fun j hj=>by omega,Qt.refl w⟩
 case round =>
  obtain ⟨k,hk,rfl,hS,hq⟩:=hrel
  have HS:=Lib.hid hS;clear hS
  by_cases hlt : k < n
  · obtain ⟨b,o,rfl,hSb,hc⟩:=(hI.below hq.below).get hlt
    have hck:=hc k hlt
    have i0 : (0 : Int) ≤ (k : Int):=by omega
    have i1 : (k : Int) < (n : Int):=by omega
    by_cases h1 : 0 ≤ gi xs k ∧ gi xs k ≤ m - 1
    · have k1:=Lib.hid (aA h1)
      have H1:=Lib.hid h1
      clear h1
      by_cases hk0 : 0 < k
      · have d1 : decide ((0 : Int) < (k : Int)) = true:=by simp;omega
        have hcp:=hc (k - 1) (by omega)
        have i2 : (0 : Int) ≤ (k : Int) - 1:=by omega
        have i3 : (k : Int) - 1 < (n : Int):=by omega
        clear hc
        by_cases h2 : gi xs k ≤ gi xs (k - 1)
        · have d2 : decide (gi xs k ≤ gi xs (k - 1)) = true:=by simp;omega
          go_wp2
          go_quiet ((go_at_call 60;exact Calls.quiet_of_same (kf _ _ _ true k1.out _)))
          go_wp2
          go_ret
          exact ⟨bq (ao (fun h=>by have:=(h k (by rw [HL.out];exact hlt)).2.2 hk0;omega)).symm,hq.drewN _⟩
        · have d2 : decide (gi xs k ≤ gi xs (k - 1)) = false:=by simp;omega
          go_wp2
          go_quiet ((go_at_call 60;exact Calls.quiet_of_same (kf _ _ _ true k1.out _)))
          go_wp2
          go_roundw
          case rel=>exact ⟨k + 1,by omega,by go_num,fun j hj=>by
           by_cases e : j = k
           · rw [e];have:=H1.out;omega
           · exact HS.out j (by omega),hq.drewN _⟩
          case measure=>simp [intOf];omega
      · have d1 : decide ((0 : Int) < (k : Int)) = false:=by simp;omega
        clear hc
        go_wp2
        go_quiet ((go_at_call 60;exact Calls.quiet_of_same (kf _ _ _ true k1.out _)))
        go_wp2
        go_roundw
        case rel=>exact ⟨k + 1,by omega,by go_num,fun j hj=>by
         by_cases e : j = k
         · rw [e];have:=H1.out;omega
         · exact HS.out j (by omega),hq.drewN _⟩
        case measure=>simp [intOf];omega
    · have k1:=Lib.hid (ao h1)
      have H1:=Lib.hid h1
      clear h1 hc
      go_wp2
      go_quiet ((go_at_call 60;exact Calls.quiet_of_same (kf _ _ _ false k1.out _)))
      go_wp2
      go_ret
      exact ⟨bq (ao (fun h=>H1.out (by have:=h k (by rw [HL.out];exact hlt);omega))).symm,hq.drewN _⟩
  · go_wp2
    go_ret
    exact ⟨bq (aA (fun j hj=>HS.out j (by rw [HL.out] at hj;omega))).symm,hq⟩
set_option maxHeartbeats 400000 in
theorem jz (sa : Option Addr) (n c : Nat) (xs : List Int) (m : Int) (w : World) (hI : cy w sa n c xs) (h0 : 0 ≤ m) (hm : m ≤ 4611686018427387904) :
  Calls Try.prog 65 #[.slice sa n c,.int .i64 m] w (Qb w (tf (cZ xs m))):=by
 have hmax:=hI.max
 have HL:=Lib.hid hI.1
 by_cases hn : (n : Int) ≤ m
 · by_cases hs : cZ xs m
   · have k1:=Lib.hid (aA hs)
     clear hs
     go_enter Try.func65,Try.ntmps65
     go_wp2_with (go_at_call 78;refine (ic _ _ _ _ _ _ hI h0 hm).mono ?_;rw [k1.out];rintro e w2 ⟨rfl,q,rfl⟩)
     go_ret
     exact ⟨bq k1.out.symm,q,rfl⟩
   · have k1:=Lib.hid (ao hs)
     clear hs
     go_enter Try.func65,Try.ntmps65
     go_wp2_with (go_at_call 78;refine (ic _ _ _ _ _ _ hI h0 hm).mono ?_;rw [k1.out];rintro e w2 ⟨rfl,q,rfl⟩)
     go_ret
     exact ⟨bq k1.out.symm,q,rfl⟩
 · go_enter Try.func65,Try.ntmps65
   go_wp2
   go_ret
   exact ⟨bq (ao (fun h=>by have:=jx h h0;have:=HL.out;omega)).symm,0,rfl⟩
def iQ (a : Ar) (k : Nat) : Prop:=∀ v,v < k → 0 ≤ gi a.own v ∧ gi a.own v ≤ 1 ∧ 1 ≤ (gr a.nxt v).length ∧ (gr a.nxt v).length ≤ 16 ∧ cZ (gr a.nxt v) a.own.length
theorem iQ.next {a : Ar} {k : Nat} (h : iQ a k) (hk : 0 ≤ gi a.own k ∧ gi a.own k ≤ 1 ∧ 1 ≤ (gr a.nxt k).length ∧ (gr a.nxt k).length ≤ 16 ∧ cZ (gr a.nxt k) a.own.length) : iQ a (k + 1):=by
 intro v hv
 by_cases e : v = k
 · rw [e];exact hk
 · exact h v (by omega)
end Go.Proofs.Ytlodllmpndflcaa
namespace Go.Proofs.Ytlodllmpndflcaa
set_option linter.unusedVariables false
set_option linter.unusedSimpArgs false
open Go.RowKit
attribute [local go_sem ↓] Go.wp_at_zero Go.wp_at_succ
noncomputable def lst (p : Nat → Prop) : Nat → List Int
 | 0 => []
 | k + 1 => @ite _ (p k) (Classical.propDecidable _) (lst p k ++ [(k : Int)]) (lst p k)
theorem gh {p : Nat → Prop} {k : Nat} (h : p k) : lst p (k + 1) = lst p k ++ [(k : Int)]:=if_pos h
theorem iR {p : Nat → Prop} {k : Nat} (h : ¬ p k) : lst p (k + 1) = lst p k:=if_neg h
theorem ri (p : Nat → Prop) (k : Nat) : (lst p k).length ≤ k:=by
 induction k with
 | zero => simp [lst]
 | succ k ih =>
   by_cases h : p k
   · rw [gh h];simp;omega
   · rw [iR h];omega
theorem fv {p : Nat → Prop} {k : Nat} {x : Int} : x ∈ lst p k ↔ ∃ v,v < k ∧ p v ∧ x = v:=by
 induction k with
 | zero => simp [lst]
 | succ k ih =>
   by_cases h : p k
   · rw [gh h,List.mem_append,ih]
     constructor
     · rintro (⟨v,h1,h2,h3⟩|h1)
       · exact ⟨v,by omega,h2,h3⟩
       · simp at h1;exact ⟨k,by omega,h,h1⟩
     · rintro ⟨v,h1,h2,h3⟩
       by_cases e : v = k
       · subst e;right;simp [h3]
       · left;exact ⟨v,by omega,h2,h3⟩
   · rw [iR h,ih]
     constructor
     · rintro ⟨v,h1,h2⟩;exact ⟨v,by omega,h2⟩
     · rintro ⟨v,h1,h2,h3⟩
       by_cases e : v = k
       · subst e;exact absurd h2 h
       · exact ⟨v,by omega,h2,h3⟩
theorem nU {p q : Nat → Prop} {n : Nat} (h : ∀ v,v < n → (p v ↔ q v)) : lst p n = lst q n:=by
 induction n with
 | zero => rfl
 | succ n ih =>
   have ih:=ih fun v hv=>h v (by omega)
   by_cases hp : p n
   · rw [gh hp,gh ((h n (by omega)).1 hp),ih]
   · rw [iR hp,iR (fun hq=>hp ((h n (by omega)).2 hq)),ih]
noncomputable def mks (n : Nat) (p : Nat → Prop) : List Bool:=nM n fun k=>tf (p k)
noncomputable def da (p : Int → Prop) (xs : List Int) : Nat → List Int
 | 0 => []
 | k + 1 => @ite _ (p (gi xs k)) (Classical.propDecidable _) (da p xs k ++ [gi xs k]) (da p xs k)
theorem dv {p : Int → Prop} {xs : List Int} {k : Nat} (h : p (gi xs k)) : da p xs (k + 1) = da p xs k ++ [gi xs k]:=if_pos h
theorem d7 {p : Int → Prop} {xs : List Int} {k : Nat} (h : ¬ p (gi xs k)) : da p xs (k + 1) = da p xs k:=if_neg h
theorem iS (p : Int → Prop) (xs : List Int) (k : Nat) : (da p xs k).length ≤ k:=by
 induction k with
 | zero => simp [da]
 | succ k ih =>
   by_cases h : p (gi xs k)
   · rw [dv h];simp;omega
   · rw [d7 h];omega
theorem lb (n : Nat) (f : Nat → Int) : tab (n + 1) f = tab n f ++ [f n]:=by simp [tab,List.range_succ]
def Bnd (xs : List Int) (m : Nat) : Prop:=∀ k,k < xs.length → 0 ≤ gi xs k ∧ gi xs k < m
theorem cZ.bnd {xs : List Int} {m : Nat} (h : cZ xs m) : Bnd xs m:=fun k hk=>⟨(h k hk).1,(h k hk).2.1⟩
theorem kg (lo : Nat) (w : World) (c : Nat) (hlo : lo ≤ w.heap.size) : bj lo (w.alloc (.cells #[] 2)).heap.size (w.alloc (.cells #[] 2)) (.slice (some ⟨w.heap.size,0,none⟩) 0 0) [] :=
 .inr ⟨w.heap.size,0,#[],rfl,hlo,by simp,heap_alloc_new _ _,by simp,by simp,by simp,by simp⟩
end Go.Proofs.Ytlodllmpndflcaa
namespace Go.Proofs.Ytlodllmpndflcaa
set_option linter.unusedVariables false
set_option linter.unusedSimpArgs false
open Go.RowKit
attribute [local go_sem ↓] Go.wp_at_zero Go.wp_at_succ
theorem l2 {xs : List Int} {x : Int} : x ∈ xs ↔ ∃ k,k < xs.length ∧ gi xs k = x:=⟨fc,fun ⟨k,h,e⟩=>by rw [← e];exact ee h⟩
def m9 (xs : List Int) (x : Int) (k : Nat) : Prop:=k < xs.length ∧ gi xs k = x ∧ ∀ j,j < k → gi xs j ≠ x
noncomputable def idx (xs : List Int) (x : Int) : Int:=@dite _ (∃ k,m9 xs x k) (Classical.propDecidable _) (fun h=>((Classical.choose h : Nat) : Int)) (fun _=>-1)
theorem pm {xs : List Int} {x : Int} (h : ¬ x ∈ xs) : idx xs x = -1:=dif_neg (by rintro ⟨k,h1,h2,_⟩;exact h (by rw [← h2];exact ee h1))
theorem pn {xs : List Int} {x : Int} {k : Nat} (hk : k < xs.length) (e : gi xs k = x) (hm : ∀ j,j < k → gi xs j ≠ x) : idx xs x = k:=by
 have hex : ∃ k,m9 xs x k:=⟨k,hk,e,hm⟩
 unfold idx
 rw [dif_pos hex]
 obtain ⟨h1,h2,h3⟩:=Classical.choose_spec hex
 congr 1
 rcases Nat.lt_trichotomy (Classical.choose hex) k with h|h|h
 · exact absurd h2 (hm _ h)
 · exact h
 · exact absurd e (h3 _ h)
theorem jA (xs : List Int) (x : Int) : (idx xs x = -1 ∧ ¬ x ∈ xs) ∨ ∃ k,k < xs.length ∧ gi xs k = x ∧ (∀ j,j < k → gi xs j ≠ x) ∧ idx xs x = k:=by
 by_cases h : x ∈ xs
 · right
   have key : ∀ n,(∃ k,k < n ∧ k < xs.length ∧ gi xs k = x) → ∃ k,k < xs.length ∧ gi xs k = x ∧ ∀ j,j < k → gi xs j ≠ x:=by
    intro n
    induction n with
    | zero => rintro ⟨k, h, _⟩; omega
    | succ n ih =>
      rintro ⟨k,h1,h2,h3⟩
      by_cases hc : ∃ k,k < n ∧ k < xs.length ∧ gi xs k = x
      · exact ih hc
      · exact ⟨k,h2,h3,fun j hj e=>hc ⟨j,by omega,by omega,e⟩⟩
   obtain ⟨k,h1,h2⟩:=fc h
   obtain ⟨k,h1,h2,h3⟩:=key xs.length ⟨k,h1,h1,h2⟩
   exact ⟨k,h1,h2,h3,pn h1 h2 h3⟩
 · exact Or.inl ⟨pm h,h⟩
set_option maxHeartbeats 400000 in
theorem gL (sa : Option Addr) (n c : Nat) (xs : List Int) (x : Int) (w : World) (hI : cy w sa n c xs) :
  Calls Try.prog 57 #[.slice sa n c,.int .i64 x] w fun e w'=>e = .returned (.int .i64 (idx xs x)) ∧ w = w':=by
 have hmax:=hI.max
 have HL:=Lib.hid hI.1
 go_enter Try.func57,Try.ntmps57
 go_wp2
 go_loop [8] (fun i=>∃ k : Nat,k ≤ n ∧ i = .int .i64 k ∧ ∀ j,j < k → gi xs j ≠ x) (fun i=>n - (intOf i).toNat)
 case atStart=>exact ⟨0,by omega,rfl,fun j hj=>by omega⟩
 case round =>
  obtain ⟨k,hk,rfl,hS⟩:=hrel
  have HS:=Lib.hid hS;clear hS
  by_cases hlt : k < n
  · obtain ⟨b,o,rfl,hSb,hc⟩:=hI.get hlt
    have hck:=hc k hlt
    clear hc
    by_cases he : gi xs k = x
    · have HE:=Lib.hid he
      have hd : (x == gi xs k) = true:=by simp [he]
      clear he
      go_wp2
      go_ret
      exact ⟨cD (pn (by rw [HL.out];exact hlt) HE.out HS.out).symm,rfl⟩
    · have HE:=Lib.hid he
      have hd : (x == gi xs k) = false:=by simp;exact fun h=>he h.symm
      clear he
      go_wp2
      go_round
      case rel=>exact ⟨k + 1,by omega,by go_num,fun j hj=>by
       by_cases e : j = k
       · rw [e];exact HE.out
       · exact HS.out j (by omega)⟩
      case measure=>simp [intOf];omega
  · go_wp2
    go_ret
    exact ⟨cD (pm (fun h=>by obtain ⟨k',h1,h2⟩:=fc h;exact HS.out k' (by rw [HL.out] at h1;omega) h2)).symm,rfl⟩
theorem ki (sa : Option Addr) (n c : Nat) (xs : List Int) (x : Int) (w : World) (hI : cy w sa n c xs) :
  Calls Try.prog 54 #[.slice sa n c,.int .i64 x] w fun e w'=>e = .returned (.bool (tf (x ∈ xs))) ∧ w = w':=by
 rcases jA xs x with ⟨h1,h2⟩|⟨k,h1,h2,h3,h4⟩
 · rw [ao h2]
   have H1:=Lib.hid h1
   clear h1 h2
   go_enter Try.func54,Try.ntmps54
   go_wp2_with (go_at_call 57;refine (gL _ _ _ _ _ _ hI).mono ?_;rw [H1.out];rintro e w2 ⟨rfl,rfl⟩)
   go_ret
   exact ⟨rfl,rfl⟩
 · rw [aA (by rw [← h2];exact ee h1)]
   have H4:=Lib.hid h4
   clear h1 h2 h3 h4
   go_enter Try.func54,Try.ntmps54
   go_wp2_with (go_at_call 57;refine (gL _ _ _ _ _ _ hI).mono ?_;rw [H4.out];rintro e w2 ⟨rfl,rfl⟩)
   go_ret
   exact ⟨bq (by simp),rfl⟩
end Go.Proofs.Ytlodllmpndflcaa
namespace Go.Proofs.Ytlodllmpndflcaa
set_option linter.unusedVariables false
set_option linter.unusedSimpArgs false
open Go.RowKit
attribute [local go_sem ↓] Go.wp_at_zero Go.wp_at_succ
set_option maxHeartbeats 400000 in
theorem lc (sa : Option Addr) (n c : Nat) (xs : List Int) (x : Int) (w : World) (hI : cy w sa n c xs) :
  Calls Try.prog 52 #[.slice sa n c,.int .i64 x] w fun e w'=>e = .returned (.bool (tf (x ∈ xs))) ∧ w = w':=by
 have hmax:=hI.max
 have HL:=Lib.hid hI.1
 go_enter Try.func52,Try.ntmps52
 go_wp2
 go_loop [5] (fun i=>∃ k : Nat,k ≤ n ∧ i = .int .i64 k ∧ ∀ j,j < k → gi xs j ≠ x) (fun i=>n - (intOf i).toNat)
 case atStart=>exact ⟨0,by omega,rfl,fun j hj=>by omega⟩
 case round =>
  obtain ⟨k,hk,rfl,hS⟩:=hrel
  have HS:=Lib.hid hS;clear hS
  by_cases hlt : k < n
  · obtain ⟨b,o,rfl,hSb,hc⟩:=hI.get hlt
    have hck:=hc k hlt
    clear hc
    rcases kZ (gi xs k) x with ⟨d1,d2,HE⟩|⟨d1,d2,HE⟩
    · go_wp2
      go_ret
      exact ⟨bq (aA (by rw [← HE.out];exact ee (by rw [HL.out];exact hlt))).symm,rfl⟩
    · go_wp2
      go_round
      case rel=>exact ⟨k + 1,by omega,by go_num,fun j hj=>by
       by_cases e : j = k
       · rw [e];exact HE.out
       · exact HS.out j (by omega)⟩
      case measure=>simp [intOf];omega
  · go_wp2
    go_ret
    exact ⟨bq (ao (fun h=>by obtain ⟨k',h1,h2⟩:=fc h;exact HS.out k' (by rw [HL.out] at h1;omega) h2)).symm,rfl⟩
set_option maxHeartbeats 400000 in
theorem nV (sa : Option Addr) (n c : Nat) (xs : List Int) (x : Int) (w : World) (hI : cy w sa n c xs) :
  Calls Try.prog 66 #[.slice sa n c,.int .i64 x] w fun e w'=>e = .returned (.bool (tf (x ∈ xs))) ∧ w = w':=by
 have hmax:=hI.max
 have HL:=Lib.hid hI.1
 go_enter Try.func66,Try.ntmps66
 go_wp2
 go_loop [5] (fun i=>∃ k : Nat,k ≤ n ∧ i = .int .i64 k ∧ ∀ j,j < k → gi xs j ≠ x) (fun i=>n - (intOf i).toNat)
 case atStart=>exact ⟨0,by omega,rfl,fun j hj=>by omega⟩
 case round =>
  obtain ⟨k,hk,rfl,hS⟩:=hrel
  have HS:=Lib.hid hS;clear hS
  by_cases hlt : k < n
  · obtain ⟨b,o,rfl,hSb,hc⟩:=hI.get hlt
    have hck:=hc k hlt
    clear hc
    rcases kZ (gi xs k) x with ⟨d1,d2,HE⟩|⟨d1,d2,HE⟩
    · go_wp2
      go_ret
      exact ⟨bq (aA (by rw [← HE.out];exact ee (by rw [HL.out];exact hlt))).symm,rfl⟩
    · go_wp2
      go_round
      case rel=>exact ⟨k + 1,by omega,by go_num,fun j hj=>by
       by_cases e : j = k
       · rw [e];exact HE.out
       · exact HS.out j (by omega)⟩
      case measure=>simp [intOf];omega
  · go_wp2
    go_ret
    exact ⟨bq (ao (fun h=>by obtain ⟨k',h1,h2⟩:=fc h;exact HS.out k' (by rw [HL.out] at h1;omega) h2)).symm,rfl⟩
end Go.Proofs.Ytlodllmpndflcaa
namespace Go.Proofs.Ytlodllmpndflcaa
set_option linter.unusedVariables false
set_option linter.unusedSimpArgs false
open Go.RowKit
set_option maxHeartbeats 1000000 in
theorem l3 (v : Value) (a : Ar) (w : World) (hA : IsA w v a) :
  Calls Try.prog 53 #[v] w (Bb w (tf (ArOk a))):=by
 obtain ⟨_,_,rfl,⟨s1,n1,c1,rfl,h1⟩,⟨s2,n2,c2,rfl,h2⟩⟩:=hA
 have hm1:=h1.max
 have hm2:=h2.max
 have H1:=Lib.hid h1.1
 have H2:=Lib.hid h2.len
 by_cases hp : 1 ≤ n1 ∧ n1 ≤ 256 ∧ n2 = n1
 · obtain ⟨hp1,hp2,rfl⟩:=hp
   go_enter Try.func53,Try.ntmps53
   go_wp2
   go_loop [25] (fun i=>∃ k : Nat,k ≤ n2 ∧ i = .int .i64 k ∧ iQ a k) (fun i=>n2 - (intOf i).toNat)
   case atStart=>exact ⟨0,by omega,rfl,fun j hj=>by omega⟩
   case round =>
    obtain ⟨k,hk,rfl,hS⟩:=hrel
    by_cases hlt : k < n2
    · obtain ⟨b1,o1,rfl,hb1,hc1⟩:=h1.get hlt
      obtain ⟨b2,o2,rfl,hb2,A,L,C,hc2⟩:=h2.get hlt
      have q1:=hc1 k hlt
      obtain ⟨q2,hI⟩:=hc2 k hlt
      have hl:=Lib.hid hI.1
      have hlm:=hI.max
      clear hc1 hc2
      by_cases hs : cZ (gr a.nxt k) n2
      · have k1 : tf (cZ (gr a.nxt k) n2) = true:=aA hs
        have K1:=Lib.hid hs
        clear hs
        go_wp2_with (go_at_call 62;refine (jy _ _ _ _ _ _ (hI.alloc _)).mono ?_;rw [k1];rintro e w2 ⟨rfl,rfl⟩)
        all_goals first
         | (go_ret; exact ⟨bq (ao (fun h => by have := h.vert k (by rw [H1.out]; exact hlt); have := hl.out; omega)).symm, aL _ _⟩)
         | (go_round
            case rel=>exact ⟨k + 1,by omega,by go_num,hS.next ⟨by omega,by omega,by have:=hl.out;omega,by have:=hl.out;omega,by rw [H1.out];exact K1.out⟩⟩
            case measure=>simp [intOf];omega)
      · have k1 : tf (cZ (gr a.nxt k) n2) = false:=ao hs
        have K1:=Lib.hid hs
        clear hs
        go_wp2_with (go_at_call 62;refine (jy _ _ _ _ _ _ (hI.alloc _)).mono ?_;rw [k1];rintro e w2 ⟨rfl,rfl⟩)
        all_goals go_ret
        all_goals exact ⟨bq (ao (fun h=>K1.out (by have:=(h.vert k (by rw [H1.out];exact hlt)).2.2.2.2;rwa [H1.out] at this))).symm,aL _ _⟩
    · go_wp2
      go_ret
      exact ⟨bq (aA ⟨by rw [H1.out];omega,by rw [H1.out];omega,by rw [H1.out,H2.out],fun v hv=>hS v (by rw [H1.out] at hv;omega)⟩).symm,aL _ _⟩
 · by_cases he : n2 = n1
   · go_enter Try.func53,Try.ntmps53
     go_wp2
     all_goals first
      | (go_ret; exact ⟨bq (ao (fun h => by have := h.pos; have := h.le; have := h.len; have := H1.out; have := H2.out; omega)).symm, aL _ _⟩)
      | (exfalso; omega)
   · have hb1 : (n2 != n1) = true:=by simp [he]
     have hb2 : ((n2 : Int) != (n1 : Int)) = true:=by simp;omega
     go_enter Try.func53,Try.ntmps53
     go_wp2
     all_goals go_ret
     all_goals exact ⟨bq (ao (fun h=>by have:=h.pos;have:=h.le;have:=h.len;have:=H1.out;have:=H2.out;omega)).symm,aL _ _⟩
end Go.Proofs.Ytlodllmpndflcaa
namespace Go.Proofs.Ytlodllmpndflcaa
set_option linter.unusedVariables false
set_option linter.unusedSimpArgs false
open Go.RowKit
set_option maxHeartbeats 2000000 in
theorem kj (v : Value) (a : Ar) (w : World) (hA : IsA w v a) :
  Calls Try.prog 59 #[v] w (Bb w (tf (ArOk a))):=by
 obtain ⟨_,_,rfl,⟨s1,n1,c1,rfl,h1⟩,⟨s2,n2,c2,rfl,h2⟩⟩:=hA
 have hm1:=h1.max
 have hm2:=h2.max
 have H1:=Lib.hid h1.1
 have H2:=Lib.hid h2.len
 by_cases hp0 : 1 ≤ n1 ∧ n1 ≤ 256
 · have k0:=Lib.hid (aA (p:=(1 : Int) ≤ n1 ∧ (n1 : Int) ≤ 256) (by omega))
   by_cases hp : n2 = n1
   · obtain ⟨hp1,hp2⟩:=hp0
     subst hp
     go_enter Try.func59,Try.ntmps59
     go_wp2_with (go_at_call 60;refine (dI _ _ _ _ k0.out _).mono ?_;rintro e w2 ⟨rfl,rfl⟩)
     go_loopw [4] (fun i wr=>∃ k q : Nat,k ≤ n2 ∧ i = .int .i64 k ∧ iQ a k ∧ wr = (w.alloc (.cells #[.slice s1 n2 c1,.slice s2 n2 c2] 31)).drewN q) (fun i _=>n2 - (intOf i).toNat)
     case atStart=>exact ⟨0,0,by omega,rfl,fun j hj=>by omega,rfl⟩
     case round =>
      obtain ⟨k,q,hk,rfl,hS,rfl⟩:=hrel
      by_cases hlt : k < n2
      · obtain ⟨b1,o1,rfl,hb1,hc1⟩:=h1.get hlt
        obtain ⟨b2,o2,rfl,hb2,A,L,C,hc2⟩:=h2.get hlt
        have q1:=hc1 k hlt
        obtain ⟨q2,hI⟩:=hc2 k hlt
        have hl:=Lib.hid hI.1
        have hlm:=hI.max
        clear hc1 hc2
        by_cases ho : 0 ≤ gi a.own k ∧ gi a.own k ≤ 1
        · have k2:=Lib.hid (aA ho)
          have HO:=Lib.hid ho
          clear ho
          by_cases hs : cZ (gr a.nxt k) n2
          · have k1 : tf (cZ (gr a.nxt k) n2) = true:=aA hs
            have K1:=Lib.hid hs
            clear hs
            go_wp2_with (first
             | (go_at_call 60; refine (dI _ _ _ _ k2.out _).mono ?_; rintro e w2 ⟨rfl, rfl⟩)
             | (go_at_call 65; refine (jz _ _ _ _ _ _ (hI.below (by repeat' (first | (with_reducible exact Below.refl _ _) | (with_reducible assumption) | (with_reducible apply aB) | (with_reducible apply Below.alloc) | (with_reducible apply Below.drew) | (with_reducible apply ap) | (with_reducible refine Below.trans ?_ (Below.mono (by assumption) ?_)) | omega | (simp only [World.size_alloc, World.size_setCell, World.size_drew]; omega)))) (by omega) (by omega)).mono ?_; rw [k1]; rintro e w2 ⟨rfl, q3, rfl⟩))
            all_goals first
             | (go_ret; exact ⟨bq (ao (fun h => by have := h.vert k (by rw [H1.out]; exact hlt); have := hl.out; omega)).symm, (by repeat' (first | (with_reducible exact Below.refl _ _) | (with_reducible assumption) | (with_reducible apply aB) | (with_reducible apply Below.alloc) | (with_reducible apply Below.drew) | (with_reducible apply ap) | (with_reducible refine Below.trans ?_ (Below.mono (by assumption) ?_)) | omega | (simp only [World.size_alloc, World.size_setCell, World.size_drew]; omega)))⟩)
             | (go_roundw
                case rel=>exact ⟨k + 1,_,by omega,by go_num,hS.next ⟨HO.out.1,HO.out.2,by have:=hl.out;omega,by have:=hl.out;omega,by rw [H1.out];exact K1.out⟩,rfl⟩
                case measure=>simp [intOf];omega)
          · have k1 : tf (cZ (gr a.nxt k) n2) = false:=ao hs
            have K1:=Lib.hid hs
            clear hs
            go_wp2_with (first
             | (go_at_call 60; refine (dI _ _ _ _ k2.out _).mono ?_; rintro e w2 ⟨rfl, rfl⟩)
             | (go_at_call 65; refine (jz _ _ _ _ _ _ (hI.below (by repeat' (first | (with_reducible exact Below.refl _ _) | (with_reducible assumption) | (with_reducible apply aB) | (with_reducible apply Below.alloc) | (with_reducible apply Below.drew) | (with_reducible apply ap) | (with_reducible refine Below.trans ?_ (Below.mono (by assumption) ?_)) | omega | (simp only [World.size_alloc, World.size_setCell, World.size_drew]; omega)))) (by omega) (by omega)).mono ?_; rw [k1]; rintro e w2 ⟨rfl, q3, rfl⟩))
            all_goals go_ret
            all_goals exact ⟨bq (ao (fun h=>K1.out (by have:=(h.vert k (by rw [H1.out];exact hlt)).2.2.2.2;rwa [H1.out] at this))).symm,(by repeat' (first|(with_reducible exact Below.refl _ _)|(with_reducible assumption)|(with_reducible apply aB)|(with_reducible apply Below.alloc)|(with_reducible apply Below.drew)|(with_reducible apply ap)|(with_reducible refine Below.trans ?_ (Below.mono (by assumption) ?_))|omega|(simp only [World.size_alloc,World.size_setCell,World.size_drew];omega)))⟩
        · have k2:=Lib.hid (ao ho)
          have HO:=Lib.hid ho
          clear ho
          go_wp2_with (go_at_call 60;refine (dI _ _ _ _ k2.out _).mono ?_;rintro e w2 ⟨rfl,rfl⟩)
          go_ret
          exact ⟨bq (ao (fun h=>HO.out (by have:=h.vert k (by rw [H1.out];exact hlt);omega))).symm,(by repeat' (first|(with_reducible exact Below.refl _ _)|(with_reducible assumption)|(with_reducible apply aB)|(with_reducible apply Below.alloc)|(with_reducible apply Below.drew)|(with_reducible apply ap)|(with_reducible refine Below.trans ?_ (Below.mono (by assumption) ?_))|omega|(simp only [World.size_alloc,World.size_setCell,World.size_drew];omega)))⟩
      · go_wp2
        go_ret
        exact ⟨bq (aA ⟨by rw [H1.out];omega,by rw [H1.out];omega,by rw [H1.out,H2.out],fun v hv=>hS v (by rw [H1.out] at hv;omega)⟩).symm,(by repeat' (first|(with_reducible exact Below.refl _ _)|(with_reducible assumption)|(with_reducible apply aB)|(with_reducible apply Below.alloc)|(with_reducible apply Below.drew)|(with_reducible apply ap)|(with_reducible refine Below.trans ?_ (Below.mono (by assumption) ?_))|omega|(simp only [World.size_alloc,World.size_setCell,World.size_drew];omega)))⟩
   · go_enter Try.func59,Try.ntmps59
     go_wp2_with (go_at_call 60;refine (dI _ _ _ _ k0.out _).mono ?_;rintro e w2 ⟨rfl,rfl⟩)
     go_ret
     exact ⟨bq (ao (fun h=>by have:=h.len;have:=H1.out;have:=H2.out;omega)).symm,(by repeat' (first|(with_reducible exact Below.refl _ _)|(with_reducible assumption)|(with_reducible apply aB)|(with_reducible apply Below.alloc)|(with_reducible apply Below.drew)|(with_reducible apply ap)|(with_reducible refine Below.trans ?_ (Below.mono (by assumption) ?_))|omega|(simp only [World.size_alloc,World.size_setCell,World.size_drew];omega)))⟩
 · have k0:=Lib.hid (ao (p:=(1 : Int) ≤ n1 ∧ (n1 : Int) ≤ 256) (by omega))
   go_enter Try.func59,Try.ntmps59
   go_wp2_with (go_at_call 60;refine (dI _ _ _ _ k0.out _).mono ?_;rintro e w2 ⟨rfl,rfl⟩)
   go_ret
   exact ⟨bq (ao (fun h=>by have:=h.pos;have:=h.le;have:=H1.out;omega)).symm,(by repeat' (first|(with_reducible exact Below.refl _ _)|(with_reducible assumption)|(with_reducible apply aB)|(with_reducible apply Below.alloc)|(with_reducible apply Below.drew)|(with_reducible apply ap)|(with_reducible refine Below.trans ?_ (Below.mono (by assumption) ?_))|omega|(simp only [World.size_alloc,World.size_setCell,World.size_drew];omega)))⟩
end Go.Proofs.Ytlodllmpndflcaa
namespace Go.Proofs.Ytlodllmpndflcaa
set_option linter.unusedVariables false
set_option linter.unusedSimpArgs false
open Go.RowKit
set_option maxHeartbeats 1000000 in
theorem sF (v : Value) (g : Pa) (w : World) (hP : IsP w v g) :
  Calls Try.prog 37 #[v] w (Bb w (tf (PaOk g))):=by
 obtain ⟨_,_,_,rfl,⟨s1,n1,c1,rfl,h1⟩,⟨s2,n2,c2,rfl,h2⟩,⟨s3,n3,c3,rfl,h3⟩⟩:=hP
 have hA : IsA w (.agg #[.slice s1 n1 c1,.slice s2 n2 c2]) g.ar:=⟨_,_,rfl,h1.is,h2.is⟩
 have hm3:=h3.max
 have H1:=Lib.hid h1.1
 have H3:=Lib.hid h3.1
 by_cases ha : ArOk g.ar
 · have ka : tf (ArOk g.ar) = true:=aA ha
   have KA:=Lib.hid ha
   clear ha
   by_cases he : n3 = n1
   · subst he
     go_enter Try.func37,Try.ntmps37
     go_wp2_with (go_at_call 53;refine (l3 _ _ _ (hA.below (by repeat' (first|(with_reducible exact Below.refl _ _)|(with_reducible assumption)|(with_reducible apply aB)|(with_reducible apply Below.alloc)|(with_reducible apply Below.drew)|(with_reducible apply ap)|(with_reducible refine Below.trans ?_ (Below.mono (by assumption) ?_))|omega|(simp only [World.size_alloc,World.size_setCell,World.size_drew];omega))))).mono ?_;rw [ka];rintro e w2 ⟨rfl,hb2⟩;have hcf:=di hb2;obtain ⟨hcell2,hfr2⟩:=hcf)
     go_loop [22] (fun i=>∃ k : Nat,k ≤ n3 ∧ i = .int .i64 k ∧ ∀ v,v < k → 0 ≤ gi g.prio v ∧ gi g.prio v ≤ 40) (fun i=>n3 - (intOf i).toNat)
     case atStart=>exact ⟨0,by omega,rfl,fun j hj=>by omega⟩
     case round =>
      obtain ⟨k,hk,rfl,hS⟩:=hrel
      have HS:=Lib.hid hS
      clear hS
      by_cases hlt : k < n3
      · obtain ⟨b,o,rfl,hbl,hc⟩:=(h3.below (w':=w2) (by repeat' (first|(with_reducible exact Below.refl _ _)|(with_reducible assumption)|(with_reducible apply aB)|(with_reducible apply Below.alloc)|(with_reducible apply Below.drew)|(with_reducible apply ap)|(with_reducible refine Below.trans ?_ (Below.mono (by assumption) ?_))|omega|(simp only [World.size_alloc,World.size_setCell,World.size_drew];omega)))).get hlt
        have hck:=hc k hlt
        clear hc
        go_wp2
        all_goals first
         | (go_ret; exact ⟨bq (ao (fun h => by have := h.prio k (by rw [H3.out]; exact hlt); omega)).symm, (by repeat' (first | (with_reducible exact Below.refl _ _) | (with_reducible assumption) | (with_reducible apply aB) | (with_reducible apply Below.alloc) | (with_reducible apply Below.drew) | (with_reducible apply ap) | (with_reducible refine Below.trans ?_ (Below.mono (by assumption) ?_)) | omega | (simp only [World.size_alloc, World.size_setCell, World.size_drew]; omega)))⟩)
         | (go_round
            case rel=>exact ⟨k + 1,by omega,by go_num,fun j hj=>by
               by_cases e : j = k
               · rw [e];omega
               · exact HS.out j (by omega)⟩
            case measure=>simp [intOf];omega)
      · go_wp2
        go_ret
        exact ⟨bq (aA ⟨KA.out,by rw [H3.out,H1.out],fun v hv=>HS.out v (by rw [H3.out] at hv;omega)⟩).symm,(by repeat' (first|(with_reducible exact Below.refl _ _)|(with_reducible assumption)|(with_reducible apply aB)|(with_reducible apply Below.alloc)|(with_reducible apply Below.drew)|(with_reducible apply ap)|(with_reducible refine Below.trans ?_ (Below.mono (by assumption) ?_))|omega|(simp only [World.size_alloc,World.size_setCell,World.size_drew];omega)))⟩
   · have hb1 : (n3 != n1) = true:=by simp [he]
     have hb3 : ((n3 : Int) != (n1 : Int)) = true:=by simp;omega
     go_enter Try.func37,Try.ntmps37
     go_wp2_with (go_at_call 53;refine (l3 _ _ _ (hA.below (by repeat' (first|(with_reducible exact Below.refl _ _)|(with_reducible assumption)|(with_reducible apply aB)|(with_reducible apply Below.alloc)|(with_reducible apply Below.drew)|(with_reducible apply ap)|(with_reducible refine Below.trans ?_ (Below.mono (by assumption) ?_))|omega|(simp only [World.size_alloc,World.size_setCell,World.size_drew];omega))))).mono ?_;rw [ka];rintro e w2 ⟨rfl,hb2⟩;have hcf:=di hb2;obtain ⟨hcell2,hfr2⟩:=hcf)
     go_ret
     exact ⟨bq (ao (fun h=>by have:=h.len;have:=H1.out;have:=H3.out;omega)).symm,(by repeat' (first|(with_reducible exact Below.refl _ _)|(with_reducible assumption)|(with_reducible apply aB)|(with_reducible apply Below.alloc)|(with_reducible apply Below.drew)|(with_reducible apply ap)|(with_reducible refine Below.trans ?_ (Below.mono (by assumption) ?_))|omega|(simp only [World.size_alloc,World.size_setCell,World.size_drew];omega)))⟩
 · have ka : tf (ArOk g.ar) = false:=ao ha
   have KA:=Lib.hid ha
   clear ha
   go_enter Try.func37,Try.ntmps37
   go_wp2_with (go_at_call 53;refine (l3 _ _ _ (hA.below (by repeat' (first|(with_reducible exact Below.refl _ _)|(with_reducible assumption)|(with_reducible apply aB)|(with_reducible apply Below.alloc)|(with_reducible apply Below.drew)|(with_reducible apply ap)|(with_reducible refine Below.trans ?_ (Below.mono (by assumption) ?_))|omega|(simp only [World.size_alloc,World.size_setCell,World.size_drew];omega))))).mono ?_;rw [ka];rintro e w2 ⟨rfl,hb2⟩;have hcf:=di hb2;obtain ⟨hcell2,hfr2⟩:=hcf)
   go_ret
   exact ⟨bq (ao (fun h=>KA.out h.ar)).symm,(by repeat' (first|(with_reducible exact Below.refl _ _)|(with_reducible assumption)|(with_reducible apply aB)|(with_reducible apply Below.alloc)|(with_reducible apply Below.drew)|(with_reducible apply ap)|(with_reducible refine Below.trans ?_ (Below.mono (by assumption) ?_))|omega|(simp only [World.size_alloc,World.size_setCell,World.size_drew];omega)))⟩
set_option maxHeartbeats 1000000 in
theorem sG (v : Value) (g : Pa) (w : World) (hP : IsP w v g) :
  Calls Try.prog 45 #[v] w (Bb w (tf (PaOk g))):=by
 obtain ⟨_,_,_,rfl,⟨s1,n1,c1,rfl,h1⟩,⟨s2,n2,c2,rfl,h2⟩,⟨s3,n3,c3,rfl,h3⟩⟩:=hP
 have hA : IsA w (.agg #[.slice s1 n1 c1,.slice s2 n2 c2]) g.ar:=⟨_,_,rfl,h1.is,h2.is⟩
 have hm3:=h3.max
 have H1:=Lib.hid h1.1
 have H3:=Lib.hid h3.1
 by_cases ha : ArOk g.ar
 · have ka : tf (ArOk g.ar) = true:=aA ha
   have KA:=Lib.hid ha
   clear ha
   by_cases he : n3 = n1
   · subst he
     go_enter Try.func45,Try.ntmps45
     go_wp2_with (go_at_call 59;refine (kj _ _ _ (hA.below (by repeat' (first|(with_reducible exact Below.refl _ _)|(with_reducible assumption)|(with_reducible apply aB)|(with_reducible apply Below.alloc)|(with_reducible apply Below.drew)|(with_reducible apply ap)|(with_reducible refine Below.trans ?_ (Below.mono (by assumption) ?_))|omega|(simp only [World.size_alloc,World.size_setCell,World.size_drew];omega))))).mono ?_;rw [ka];rintro e w2 ⟨rfl,hb2⟩;have hcf:=di hb2;obtain ⟨hcell2,hfr2⟩:=hcf)
     go_loop [3] (fun i=>∃ k : Nat,k ≤ n3 ∧ i = .int .i64 k ∧ ∀ v,v < k → 0 ≤ gi g.prio v ∧ gi g.prio v ≤ 40) (fun i=>n3 - (intOf i).toNat)
     case atStart=>exact ⟨0,by omega,rfl,fun j hj=>by omega⟩
     case round =>
      obtain ⟨k,hk,rfl,hS⟩:=hrel
      have HS:=Lib.hid hS
      clear hS
      by_cases hlt : k < n3
      · obtain ⟨b,o,rfl,hbl,hc⟩:=(h3.below (w':=w2) (by repeat' (first|(with_reducible exact Below.refl _ _)|(with_reducible assumption)|(with_reducible apply aB)|(with_reducible apply Below.alloc)|(with_reducible apply Below.drew)|(with_reducible apply ap)|(with_reducible refine Below.trans ?_ (Below.mono (by assumption) ?_))|omega|(simp only [World.size_alloc,World.size_setCell,World.size_drew];omega)))).get hlt
        have hck:=hc k hlt
        clear hc
        by_cases hp : 0 ≤ gi g.prio k ∧ gi g.prio k ≤ 40
        · have k2:=Lib.hid (aA hp)
          have HP:=Lib.hid hp
          clear hp
          go_wp2_with (go_at_call 60;refine (dI _ _ _ _ k2.out _).mono ?_;rintro e w3 ⟨rfl,rfl⟩)
          go_round
          case rel=>exact ⟨k + 1,by omega,by go_num,fun j hj=>by
           by_cases e : j = k
           · rw [e];exact HP.out
           · exact HS.out j (by omega)⟩
          case measure=>simp [intOf];omega
        · have k2:=Lib.hid (ao hp)
          have HP:=Lib.hid hp
          clear hp
          go_wp2_with (go_at_call 60;refine (dI _ _ _ _ k2.out _).mono ?_;rintro e w3 ⟨rfl,rfl⟩)
          go_ret
          exact ⟨bq (ao (fun h=>HP.out (h.prio k (by rw [H3.out];exact hlt)))).symm,(by repeat' (first|(with_reducible exact Below.refl _ _)|(with_reducible assumption)|(with_reducible apply aB)|(with_reducible apply Below.alloc)|(with_reducible apply Below.drew)|(with_reducible apply ap)|(with_reducible refine Below.trans ?_ (Below.mono (by assumption) ?_))|omega|(simp only [World.size_alloc,World.size_setCell,World.size_drew];omega)))⟩
      · go_wp2
        go_ret
        exact ⟨bq (aA ⟨KA.out,by rw [H3.out,H1.out],fun v hv=>HS.out v (by rw [H3.out] at hv;omega)⟩).symm,(by repeat' (first|(with_reducible exact Below.refl _ _)|(with_reducible assumption)|(with_reducible apply aB)|(with_reducible apply Below.alloc)|(with_reducible apply Below.drew)|(with_reducible apply ap)|(with_reducible refine Below.trans ?_ (Below.mono (by assumption) ?_))|omega|(simp only [World.size_alloc,World.size_setCell,World.size_drew];omega)))⟩
   · have hb1 : (n3 != n1) = true:=by simp [he]
     have hb3 : ((n3 : Int) != (n1 : Int)) = true:=by simp;omega
     go_enter Try.func45,Try.ntmps45
     go_wp2_with (go_at_call 59;refine (kj _ _ _ (hA.below (by repeat' (first|(with_reducible exact Below.refl _ _)|(with_reducible assumption)|(with_reducible apply aB)|(with_reducible apply Below.alloc)|(with_reducible apply Below.drew)|(with_reducible apply ap)|(with_reducible refine Below.trans ?_ (Below.mono (by assumption) ?_))|omega|(simp only [World.size_alloc,World.size_setCell,World.size_drew];omega))))).mono ?_;rw [ka];rintro e w2 ⟨rfl,hb2⟩;have hcf:=di hb2;obtain ⟨hcell2,hfr2⟩:=hcf)
     go_ret
     exact ⟨bq (ao (fun h=>by have:=h.len;have:=H1.out;have:=H3.out;omega)).symm,(by repeat' (first|(with_reducible exact Below.refl _ _)|(with_reducible assumption)|(with_reducible apply aB)|(with_reducible apply Below.alloc)|(with_reducible apply Below.drew)|(with_reducible apply ap)|(with_reducible refine Below.trans ?_ (Below.mono (by assumption) ?_))|omega|(simp only [World.size_alloc,World.size_setCell,World.size_drew];omega)))⟩
 · have ka : tf (ArOk g.ar) = false:=ao ha
   have KA:=Lib.hid ha
   clear ha
   go_enter Try.func45,Try.ntmps45
   go_wp2_with (go_at_call 59;refine (kj _ _ _ (hA.below (by repeat' (first|(with_reducible exact Below.refl _ _)|(with_reducible assumption)|(with_reducible apply aB)|(with_reducible apply Below.alloc)|(with_reducible apply Below.drew)|(with_reducible apply ap)|(with_reducible refine Below.trans ?_ (Below.mono (by assumption) ?_))|omega|(simp only [World.size_alloc,World.size_setCell,World.size_drew];omega))))).mono ?_;rw [ka];rintro e w2 ⟨rfl,hb2⟩;have hcf:=di hb2;obtain ⟨hcell2,hfr2⟩:=hcf)
   go_ret
   exact ⟨bq (ao (fun h=>KA.out h.ar)).symm,(by repeat' (first|(with_reducible exact Below.refl _ _)|(with_reducible assumption)|(with_reducible apply aB)|(with_reducible apply Below.alloc)|(with_reducible apply Below.drew)|(with_reducible apply ap)|(with_reducible refine Below.trans ?_ (Below.mono (by assumption) ?_))|omega|(simp only [World.size_alloc,World.size_setCell,World.size_drew];omega)))⟩
end Go.Proofs.Ytlodllmpndflcaa
