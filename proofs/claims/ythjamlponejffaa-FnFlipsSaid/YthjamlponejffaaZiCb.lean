/-
  Words for all walks: facts carried from world to world; the rules of make and append on a slice of the call's own.
-/
import Derived.Test.YthjamlponejffaaZiCa
import Derived.Laws.AppendOwnNone
import Derived.ArgAppend
namespace Go.Proofs.Ythjamlponejffaa
set_option linter.unusedVariables false
set_option linter.unusedSimpArgs false
open Go.RowKit
def Bi (w : World) (x : Int) (e : Ending) (w' : World) : Prop:=e = .returned (.int .i64 x) ∧ Below w.heap.size w w'
theorem cg {w w' : World} {b o : Nat} {v : Value} (h : w.cell? ⟨b,o,none⟩ = some v) (hb : Below w.heap.size w w') : w'.cell? ⟨b,o,none⟩ = some v:=by
 rw [hb.cell (World.block_lt_of_cell? w _ h)];exact h
theorem fQ {B : Nat} {w w' : World} {b o : Nat} {v : Value} (h : w.cell? ⟨b,o,none⟩ = some v) (hb : Below B w w') (hl : b < B) : w'.cell? ⟨b,o,none⟩ = some v:=by
 rw [hb.cell hl];exact h
theorem lF {w w' : World} (h : Below w.drew.heap.size w.drew w') : Below w.heap.size w w':=(bJ w).trans h
structure Outside (lo hi : Nat) (w w' : World) : Prop where
 os : w'.os = w.os
 tape : w'.tape = w.tape
 output : w'.output = w.output
 size : w.heap.size ≤ w'.heap.size
 block : ∀ k,k < w.heap.size → (k < lo ∨ hi ≤ k) → w'.heap[k]? = w.heap[k]?
theorem Outside.refl (lo hi : Nat) (w : World) : Outside lo hi w w:=⟨rfl,rfl,rfl,Nat.le_refl _,fun _ _ _=>rfl⟩
theorem Outside.trans {lo hi : Nat} {a b c : World} (h : Outside lo hi a b) (k : Outside lo hi b c) : Outside lo hi a c :=
 ⟨k.os.trans h.os,k.tape.trans h.tape,k.output.trans h.output,Nat.le_trans h.size k.size,fun i hi' ho=>(k.block i (Nat.lt_of_lt_of_le hi' h.size) ho).trans (h.block i hi' ho)⟩
theorem Outside.mono {lo hi lo' hi' : Nat} {a b : World} (h : Outside lo hi a b) (h1 : lo' ≤ lo) (h2 : hi ≤ hi') : Outside lo' hi' a b :=
 ⟨h.os,h.tape,h.output,h.size,fun k hk ho=>h.block k hk (by omega)⟩
theorem Outside.below {lo hi B : Nat} {a b : World} (h : Outside lo hi a b) (hB : B ≤ lo ∧ B ≤ a.heap.size) : Below B a b:=⟨h.os,h.tape,h.output,h.size,fun k hk=>h.block k (by omega) (by omega)⟩
theorem Outside.set {lo hi : Nat} {a w : World} (h : Outside lo hi a w) {g k : Nat} (hg : lo ≤ g ∧ g < hi) (u : Value) : Outside lo hi a (w.setCell ⟨g,k,none⟩ u) :=
 h.trans ⟨rfl,rfl,rfl,by rw [World.size_setCell];exact Nat.le_refl _,fun i hi' ho=>Below.heap_setCell _ _ _ _ (fun e=>by simp only at e;omega)⟩
theorem Outside.kept {lo hi lo' hi' : Nat} {w w' : World} (hO : Outside lo hi w w') (hd : hi' ≤ lo ∨ hi ≤ lo') : bQ lo' hi' w w':=⟨hO.size,fun g h1 h2 h3=>hO.block g h3 (by omega)⟩
theorem aM.out {lo hi lo' hi' : Nat} {w w' : World} {v : Value} {x : List Int} (h : aM lo' hi' w v x) (hO : Outside lo hi w w') (hd : hi' ≤ lo ∨ hi ≤ lo') : aM lo' hi' w' v x:=h.kept (hO.kept hd)
theorem d6.out {lo hi lo' hi' : Nat} {w w' : World} {v : Value} {x : Pa} (h : d6 lo' hi' w v x) (hO : Outside lo hi w w') (hd : hi' ≤ lo ∨ hi ≤ lo') : d6 lo' hi' w' v x:=h.kept (hO.kept hd)
theorem gP.out {lo hi lo' hi' : Nat} {w w' : World} {v : Value} {x : List (List Int)} (h : gP lo' hi' w v x) (hO : Outside lo hi w w') (hd : hi' ≤ lo ∨ hi ≤ lo') : gP lo' hi' w' v x:=let ⟨vs,h⟩:=h;⟨vs,h.kept (hO.kept hd)⟩
theorem gP.below {lo hi : Nat} {w w' : World} {v : Value} {x : List (List Int)} (h : gP lo hi w v x) (hb : Below w.heap.size w w') : gP lo hi w' v x:=let ⟨vs,h⟩:=h;⟨vs,h.below hb⟩
theorem gP.is {lo hi : Nat} {w : World} {v : Value} {x : List (List Int)} (h : gP lo hi w v x) : dT w v x:=let ⟨_,h⟩:=h;h.is
theorem IsP.form {w : World} {v : Value} {g : Pa} (h : IsP w v g) : ∃ s0 n0 c0 s1 n1 c1 s2 n2 c2,v = .agg #[.slice s0 n0 c0,.slice s1 n1 c1,.slice s2 n2 c2]:=by
 obtain ⟨_,_,_,rfl,⟨s1,n1,c1,rfl,_⟩,⟨s2,n2,c2,rfl,_⟩,⟨s3,n3,c3,rfl,_⟩⟩:=h
 exact ⟨_,_,_,_,_,_,_,_,_,rfl⟩
theorem IsI.form {w : World} {v : Value} {g : List Int} (h : IsI w v g) : ∃ s0 n0 c0,v = .slice s0 n0 c0:=let ⟨s,n,c,e,_⟩:=h;⟨s,n,c,e⟩
theorem dT.form {w : World} {v : Value} {g : List (List Int)} (h : dT w v g) : ∃ s0 n0 c0,v = .slice s0 n0 c0:=let ⟨s,n,c,e,_⟩:=h;⟨s,n,c,e⟩
theorem IsI.ints {w : World} {s : Option Addr} {n c : Nat} {g : List Int} (h : IsI w (.slice s n c) g) : cK w s n c g:=by
 obtain ⟨_,_,_,e,h⟩:=h
 simp only [Value.slice.injEq] at e
 obtain ⟨rfl,rfl,rfl⟩:=e
 exact h
def ox (w : World) (g : List Int) (e : Ending) (w' : World) : Prop:=∃ s n c,e = .returned (.slice s n c) ∧ aM w.heap.size w'.heap.size w' (.slice s n c) g ∧ Below w.heap.size w w'
def oy (w w' : World) : Prop:=Below w.heap.size w w'
theorem oy.trans {a b c : World} (h : oy a b) (k : Below b.heap.size b c) : oy a c:=Below.trans h (k.mono h.size)
def Blk (w : World) (B : Nat) (cs : List Value) (T : TypeId) : Prop:=w.heap[B]? = some (.cells cs.toArray T (0,0))
theorem Blk.cell {w : World} {B : Nat} {cs : List Value} {T : TypeId} (h : Blk w B cs T) (k : Nat) {v : Value} (hv : cs[k]? = some v) : w.cell? ⟨B,k,none⟩ = some v:=by
 unfold Blk at h;simp [World.cell?,h,hv]
theorem Blk.free {w : World} {B : Nat} {cs : List Value} {T : TypeId} (h : Blk w B cs T) (k : Nat) : w.frozen? ⟨B,k,none⟩ = false:=by
 unfold Blk at h;simp [World.frozen?,h]
theorem Blk.lt {w : World} {B : Nat} {cs : List Value} {T : TypeId} (h : Blk w B cs T) : B < w.heap.size:=(Array.getElem?_eq_some_iff.1 h).1
theorem Blk.out {w w' : World} {B lo hi : Nat} {cs : List Value} {T : TypeId} (h : Blk w B cs T) (hO : Outside lo hi w w') (hd : B < lo ∨ hi ≤ B) : Blk w' B cs T:=(hO.block B h.lt hd).trans h
theorem Blk.below {w w' : World} {B : Nat} {cs : List Value} {T : TypeId} (h : Blk w B cs T) (hb : Below w.heap.size w w') : Blk w' B cs T:=(hb.block B h.lt).trans h
theorem Blk.bel {w w' : World} {B N : Nat} {cs : List Value} {T : TypeId} (h : Blk w B cs T) (hb : Below N w w') (hl : B < N) : Blk w' B cs T:=(hb.block B hl).trans h
theorem Blk.alloc {w : World} {B : Nat} {cs : List Value} {T : TypeId} (h : Blk w B cs T) (o : Obj) : Blk (w.alloc o) B cs T:=h.below (aD w o)
theorem Blk.drew {w : World} {B : Nat} {cs : List Value} {T : TypeId} (h : Blk w B cs T) : Blk w.drew B cs T:=h.below (bJ w)
theorem Blk.set {w : World} {B : Nat} {cs : List Value} {T : TypeId} (h : Blk w B cs T) (k : Nat) (u : Value) : Blk (w.setCell ⟨B,k,none⟩ u) B (cs.set k u) T:=by
 unfold Blk at h ⊢
 simp [World.setCell,Array.getElem?_modify,h]
theorem Blk.other {w : World} {B g : Nat} {cs : List Value} {T : TypeId} (h : Blk w B cs T) (hne : g ≠ B) (k : Nat) (u : Value) : Blk (w.setCell ⟨g,k,none⟩ u) B cs T :=
 (Below.heap_setCell _ _ _ _ (fun e=>hne e.symm)).trans h
theorem dE (w : World) (cs : List Value) (T : TypeId) : Blk (w.alloc (.cells cs.toArray T)) w.heap.size cs T:=heap_alloc_new _ _
theorem eP {e : TypeId} {lo hi : Nat} {w w' : World} {v : Value} {xs : List Value} (h : aE e lo hi w v xs) (hg : w.grownBy w' v.ownBlock) : Outside lo hi w w' :=
 ⟨hg.os,hg.tape,hg.output,hg.size,fun k hk ho=>hg.block k hk (fun e=>by have:=h.lt k e.symm;omega)⟩
theorem mE {w wr w2 : World} {hi : Nat} {o : Obj} (hb : Below w.heap.size w wr) (hO : Outside w.heap.size hi (wr.alloc o) w2) : Below w.heap.size w w2 :=
 (hb.alloc hb.size o).trans (hO.below ⟨Nat.le_refl _,by have:=hb.size;simp;omega⟩)
theorem oz {B : Nat} {w wr w2 : World} {lo hi : Nat} {o : Obj} (hb : Below B w wr) (hO : Outside lo hi (wr.alloc o) w2) (h1 : B ≤ lo) (h2 : B ≤ wr.heap.size) : Below B w w2 :=
 (hb.alloc h2 o).trans (hO.below ⟨h1,by simp;omega⟩)
theorem aM.off {lo hi : Nat} {w : World} {v : Value} {xs : List Int} (h : aM lo hi w v xs) {g : Nat} (hg : g < lo) (k : Nat) (u : Value) : aM lo hi (w.setCell ⟨g,k,none⟩ u) v xs :=
 aE.other h (fun e=>by have:=(aE.lt h _ e).1;omega) k u
theorem cL.off {lo hi : Nat} {w : World} {v : Value} {xs : List Bool} (h : cL lo hi w v xs) {g : Nat} (hg : g < lo) (k : Nat) (u : Value) : cL lo hi (w.setCell ⟨g,k,none⟩ u) v xs :=
 aE.other h (fun e=>by have:=(aE.lt h _ e).1;omega) k u
section
variable {w : World} {ops : Array Oper} {rest : List Oper} {o : Oper} {a : Act} {Q : Exit → Act → World → Prop}
theorem jM (hg : o.guard = none) (s x : Operand) (hop : o.op = .call { callee:=.builtin .append,args:=#[s,x],argTypes:=#[22,22] })
  {lo hi : Nat} {v : Value} {xs : List Int} (hs : a.eval s = v) (hown : aM lo hi w v xs) (y : Int) (b c : Nat) (hx : a.eval x = .slice (some ⟨b,0,none⟩) 1 c) (hcell : w.cell? ⟨b,0,none⟩ = some (.int .i64 y))
  (hlen : xs.length ≤ 1048576) (hbase : lo ≤ w.heap.size)
  (hK : ∀ sa c' w',aM lo w'.heap.size w' (.slice sa (xs.length + 1) c') (xs ++ [y]) → Outside lo hi w w' → wpList Try.prog ops Q rest (a.put o.dst (.slice sa (xs.length + 1) c')) w') :
  wpList Try.prog ops Q (o :: rest) a w:=by
 obtain ⟨i0,hi',hz0,hz1,hz2⟩:=info_parts Try.infoI
 refine wpList_append_own _ hg s x 22 hop lo 2 i0 (.int .i64 0) 1 8 Try.underlying22 hi' hz0 hz1 hz2 rfl (by decide) v xs.length (xs.map (.int .i64)) hs (by have:=aE.row hown;rwa [List.length_map] at this) ⟨b,0,none⟩ 1 c [.int .i64 y] hx rfl ?_ ?_ (by unfold maxLen;omega) (by omega) hbase ?_
 · intro j u hj
   match j,hj with
   | 0, hj => simp at hj; subst hj; simpa [Addr.add] using hcell
 · intro u hu;simp at hu;subst hu;rfl
 · intro v' w' h1 h2 _
   have h3 : aM lo w'.heap.size w' v' (xs ++ [y]):=by
    have:=d7 h1
    rwa [show xs.map (Value.int .i64) ++ [.int .i64 y] = (xs ++ [y]).map (.int .i64) by simp] at this
   obtain ⟨sa,n',c',rfl,hI⟩:=h3.is
   have hn : n' = xs.length + 1:=by have:=hI.1;simp at this;omega
   subst hn
   exact hK sa c' w' h3 (eP hown h2)
end
end Go.Proofs.Ythjamlponejffaa
namespace Go.Proofs.Ythjamlponejffaa
set_option linter.unusedVariables false
set_option linter.unusedSimpArgs false
open Go.RowKit
section
variable {w : World} {o : Oper} {a : Act} {Q : Exit → Act → World → Prop} {K : Act → World → Prop}
theorem f6 (s x : Operand) (hop : o.op = .call { callee:=.builtin .append,args:=#[s,x],argTypes:=#[22,22] })
  (b : Addr) (hs : a.eval s = .slice (some b) 0 0) {sx : Option Addr} {m c : Nat} {ys : List Int} (hx : a.eval x = .slice sx m c) (hI : cK w sx m c ys) (hm : 0 < m) (hn : m ≤ 1048576)
  (hK : ∀ sa c' w',aM w.heap.size w'.heap.size w' (.slice sa m c') ys → Below w.heap.size w w' → K (a.put o.dst (.slice sa m c')) w') : o.wp Try.prog a w K Q:=by
 obtain ⟨i0,hi',hz0,hz1,hz2⟩:=info_parts Try.infoI
 obtain ⟨bb,oo,rfl,hbl,hc⟩:=hI.get hm
 have hcells : ∀ (j : Nat) (u : Value),(ys.map (Value.int .i64))[j]? = some u → w.cell? ((⟨bb,oo,none⟩ : Addr).add j) = some u:=by
  intro j u hj
  have hj' : j < m:=by
   rcases Nat.lt_or_ge j m with h|h
   · exact h
   · rw [List.getElem?_eq_none (by simp [hI.1];omega)] at hj;cases hj
  have hcj:=hc j hj'
  have hu : u = .int .i64 (gi ys j):=by
   rw [List.getElem?_map,sj (by rw [hI.1];exact hj')] at hj
   simpa using hj.symm
  rw [hu]
  by_cases e : j = 0
  · subst e;simpa [Addr.add] using hcj
  · simpa [Addr.add,e] using hcj
 have h1c : ∀ u ∈ ys.map (Value.int .i64),u.oneCell' = true:=by
  intro u hu
  obtain ⟨z,_,rfl⟩:=List.mem_map.1 hu
  rfl
 have hnil : ∀ (j : Nat) (u : Value),([] : List Value)[j]? = some u → w.cell? (b.add j) = some u:=by
  intro j u h;simp at h
 obtain ⟨v',w',hrun,r1,r2⟩:=run_append_arg_grows (P:=Try.prog) w 22 o.type 2 i0 (.int .i64 0) 1 8 Try.underlying22 hi' hz0 hz1 hz2 rfl (by decide) b 0 0 [] rfl hnil ⟨bb,oo,none⟩ m c (ys.map (.int .i64)) (by simp [hI.1]) hcells (by omega) (by unfold maxLen;omega) (by omega)
 have h3 : aM w.heap.size w'.heap.size w' v' ys:=by
  have:=d7 r1
  unfold aM;simpa using this
 obtain ⟨sa,n',c',rfl,hJ⟩:=h3.is
 have hn' : n' = m:=by rw [← hJ.1,hI.1]
 subst hn'
 unfold Oper.wp execOp
 simp only [hop,resolve,invoke,builtin,Sem.run_bind,Sem.run_pure,Result.andThen_ok,List.map_toArray,List.map_cons,List.map_nil,hs,hx,hrun]
 exact hK sa c' w' h3 ((Below.refl _ _).grown r2 (Nat.le_refl _) (fun k h=>by cases h))
theorem io {ops : Array Oper} {E : Prop} (hg : o.guard = none) (s x : Operand) (hop : o.op = .call { callee:=.builtin .append,args:=#[s,x],argTypes:=#[22,22] })
  (b : Addr) (hs : a.eval s = .slice (some b) 0 0) {sx : Option Addr} {m c : Nat} {ys : List Int} (hx : a.eval x = .slice sx m c) (hI : cK w sx m c ys) (hm : 0 < m) (hn : m ≤ 1048576)
  (hK : ∀ sa c' w',aM w.heap.size w'.heap.size w' (.slice sa m c') ys → Below w.heap.size w w' → K (a.put o.dst (.slice sa m c')) w') :
  if Region.wanted o (yielded ops a.tmps) = true then Oper.wp Try.prog o a w K Q else E:=by
 have hw : Region.wanted o (yielded ops a.tmps) = true:=by simp [Region.wanted,hg]
 rw [if_pos hw]
 exact f6 s x hop b hs hx hI hm hn hK
theorem ng {ops : Array Oper} {rest : List Oper} (hg : o.guard = none) (s x : Operand) (hop : o.op = .call { callee:=.builtin .append,args:=#[s,x],argTypes:=#[22,22] })
  (b : Addr) (hs : a.eval s = .slice (some b) 0 0) {sx : Option Addr} {m c : Nat} {ys : List Int} (hx : a.eval x = .slice sx m c) (hI : cK w sx m c ys) (hm : 0 < m) (hn : m ≤ 1048576)
  (hK : ∀ sa c' w',aM w.heap.size w'.heap.size w' (.slice sa m c') ys → Below w.heap.size w w' → wpList Try.prog ops Q rest (a.put o.dst (.slice sa m c')) w') :
  wpList Try.prog ops Q (o :: rest) a w :=
 wpList_plain hg fun _ hK'=>f6 s x hop b hs hx hI hm hn fun sa c' w' h1 h2=>hK' _ _ (hK sa c' w' h1 h2)
end
def oA (b : Addr) (lo hi : Nat) (w : World) (v : Value) (xs : List Int) : Prop:=aM lo hi w v xs ∨ (v = .slice (some b) 0 0 ∧ xs = [])
theorem oA.len {b : Addr} {lo hi : Nat} {w : World} {sa : Option Addr} {n cap : Nat} {xs : List Int} (h : oA b lo hi w (.slice sa n cap) xs) : xs.length = n:=by
 rcases h with h|⟨h,rfl⟩
 · exact h.len
 · injection h with _ h2 _;rw [h2];rfl
end Go.Proofs.Ythjamlponejffaa
namespace Go.Proofs.Ythjamlponejffaa
set_option linter.unusedVariables false
set_option linter.unusedSimpArgs false
open Go.RowKit
theorem oA.below {b : Addr} {lo hi : Nat} {w w' : World} {v : Value} {xs : List Int} (h : oA b lo hi w v xs) (hb : Below w.heap.size w w') : oA b lo hi w' v xs:=h.imp (fun h=>h.below hb) id
end Go.Proofs.Ythjamlponejffaa
namespace Go.Proofs.Ythjamlponejffaa
set_option linter.unusedVariables false
set_option linter.unusedSimpArgs false
open Go.RowKit
attribute [local go_sem ↓] Go.wp_at_zero Go.wp_at_succ
theorem aE.grown {e : TypeId} {lo hi : Nat} {w w' : World} {v : Value} {vs : List Value} {b : Option Nat} (h : aE e lo hi w v vs) (hg : w.grownBy w' b) (hne : ∀ g,blk v = some g → b ≠ some g) : aE e lo hi w' v vs :=
 h.keep fun g hb=>hg.block g (h.lt g hb).2.2 (fun e=>hne g hb e.symm)
theorem aM.grown {lo hi : Nat} {w w' : World} {v : Value} {xs : List Int} {b : Option Nat} (h : aM lo hi w v xs) (hg : w.grownBy w' b) (hne : ∀ g,blk v = some g → b ≠ some g) : aM lo hi w' v xs:=aE.grown h hg hne
structure Touch (B : Nat → Prop) (w w' : World) : Prop where
 os : w'.os = w.os
 tape : w'.tape = w.tape
 output : w'.output = w.output
 size : w.heap.size ≤ w'.heap.size
 block : ∀ k,k < w.heap.size → ¬ B k → w'.heap[k]? = w.heap[k]?
theorem Touch.refl (B : Nat → Prop) (w : World) : Touch B w w:=⟨rfl,rfl,rfl,Nat.le_refl _,fun _ _ _=>rfl⟩
theorem Touch.trans {B : Nat → Prop} {a b c : World} (h : Touch B a b) (k : Touch B b c) : Touch B a c :=
 ⟨k.os.trans h.os,k.tape.trans h.tape,k.output.trans h.output,Nat.le_trans h.size k.size,fun i hi hb=>(k.block i (Nat.lt_of_lt_of_le hi h.size) hb).trans (h.block i hi hb)⟩
theorem Touch.mono {B B' : Nat → Prop} {a b : World} (h : Touch B a b) (hB : ∀ g,B g → B' g) : Touch B' a b:=⟨h.os,h.tape,h.output,h.size,fun k hk hb=>h.block k hk fun h=>hb (hB k h)⟩
end Go.Proofs.Ythjamlponejffaa
namespace Go.Proofs.Ythjamlponejffaa
set_option linter.unusedVariables false
set_option linter.unusedSimpArgs false
open Go.RowKit
attribute [local go_sem ↓] Go.wp_at_zero Go.wp_at_succ
theorem jN {e e' : TypeId} {lo hi lo' hi' : Nat} {w : World} {v u : Value} {vs us : List Value} (h : aE e lo hi w v vs) (h' : aE e' lo' hi' w u us) (hne : e ≠ e') : ∀ g,blk v = some g → blk u ≠ some g:=by
 intro g hg hu
 rcases h with ⟨rfl,_⟩|⟨g1,c1,cur1,rfl,_,_,hh,_⟩
 · simp [blk,Value.ownBlock] at hg
 rcases h' with ⟨rfl,_⟩|⟨g2,c2,cur2,rfl,_,_,hh2,_⟩
 · simp [blk,Value.ownBlock] at hu
 simp [blk,Value.ownBlock] at hg hu
 subst hg hu
 rw [hh] at hh2
 simp at hh2
 exact hne hh2.2
theorem oB {vs : List Value} (h : (vs.filterMap blk).Nodup) {i j : Nat} (hi : i < vs.length) (hj : j < vs.length) (hij : i ≠ j) (d : Value) : ∀ g,blk (vs.getD i d) = some g → blk (vs.getD j d) ≠ some g:=by
 induction vs generalizing i j with
 | nil => simp at hi
 | cons v vs ih =>
   intro g h1 h2
   have hn : (vs.filterMap blk).Nodup:=by
    rw [List.filterMap_cons] at h
    cases hb : blk v with
    | none => rw [hb] at h; exact h
    | some x => rw [hb] at h; exact (List.nodup_cons.1 h).2
   have hmem : ∀ k,k < vs.length → blk (vs.getD k d) = some g → g ∈ vs.filterMap blk:=fun k hk hb=>List.mem_filterMap.2 ⟨vs.getD k d,by rw [List.getD_eq_getElem?_getD,List.getElem?_eq_getElem hk];exact List.getElem_mem hk,hb⟩
   have hv : blk v = some g → ¬ g ∈ vs.filterMap blk:=fun hb=>by rw [List.filterMap_cons,hb] at h;exact (List.nodup_cons.1 h).1
   cases i with
   | zero =>
     cases j with
     | zero => exact hij rfl
     | succ j => exact hv h1 (hmem j (by simpa using hj) (by simpa using h2))
   | succ i =>
     cases j with
     | zero => exact hv h2 (hmem i (by simpa using hi) (by simpa using h1))
     | succ j => exact ih hn (by simpa using hi) (by simpa using hj) (by omega) g (by simpa using h1) (by simpa using h2)
theorem bi.len {lo hi : Nat} {w : World} {sa : Option Addr} {n c : Nat} {xss : List (List Int)} {vs : List Value} (h : bi lo hi w (.slice sa n c) xss vs) : xss.length = n:=by
 obtain ⟨_,_,_,e,h1,_⟩:=h.is
 injection e with _ e2 _
 omega
theorem bi.row {lo hi : Nat} {w : World} {sa : Option Addr} {n c : Nat} {xss : List (List Int)} {vs : List Value} (h : bi lo hi w (.slice sa n c) xss vs) {j : Nat} (hj : j < n) :
  ∃ g s' n' c',sa = some ⟨g,0,none⟩ ∧ w.cell? ⟨g,j,none⟩ = some (.slice s' n' c') ∧ vs.getD j (.slice none 0 0) = .slice s' n' c' ∧ aM lo hi w (.slice s' n' c') (gr xss j) ∧ n' = (gr xss j).length:=by
 have hl:=h.len
 obtain ⟨g,cap,e,_,_,_,h3,_⟩:=h.2.1.at (k:=j) (.slice none 0 0) (by rw [h.1];omega)
 injection e with e1 _ _
 have hr:=h.2.2.1 j (by omega)
 obtain ⟨s',n',c',e',hI⟩:=hr.is
 have hc:=h3 j (by rw [h.1];omega)
 rw [e'] at hc hr
 exact ⟨g,s',n',c',e1,hc,e',hr,hI.1.symm⟩
end Go.Proofs.Ythjamlponejffaa
namespace Go.Proofs.Ythjamlponejffaa
set_option linter.unusedVariables false
set_option linter.unusedSimpArgs false
open Go.RowKit
theorem ip {lo hi lo' hi' : Nat} {w : World} {v u : Value} {xss : List (List Int)} {vs : List Value} {row : List Int} (h : bi lo hi w v xss vs) (hu : aM lo' hi' w u row) : ∀ g,blk u = some g → blk v ≠ some g :=
 fun g hg e=>jN h.2.1 hu (by decide) g e hg
theorem nh {xss : List (List Int)} {row : List Int} {k : Nat} : gr (xss ++ [row]) k = if k < xss.length then gr xss k else if k = xss.length then row else []:=by
 by_cases h1 : k < xss.length
 · rw [if_pos h1];simp [gr,List.getD_eq_getElem?_getD,List.getElem?_append_left h1]
 · rw [if_neg h1]
   by_cases h2 : k = xss.length
   · rw [if_pos h2,h2];simp [gr,List.getD_eq_getElem?_getD]
   · rw [if_neg h2];rw [rj (by simp;omega)]
theorem mF {xss : List (List Int)} {k : Nat} (h : k < xss.length) : xss.take (k + 1) = xss.take k ++ [gr xss k]:=by
 rw [List.take_succ_eq_append_getElem h,lE h]
theorem ku {vs : List Value} {u d : Value} {k : Nat} : (vs ++ [u]).getD k d = if k < vs.length then vs.getD k d else if k = vs.length then u else d:=by
 by_cases h1 : k < vs.length
 · rw [if_pos h1];simp [List.getD_eq_getElem?_getD,List.getElem?_append_left h1]
 · rw [if_neg h1]
   by_cases h2 : k = vs.length
   · rw [if_pos h2,h2];simp [List.getD_eq_getElem?_getD]
   · rw [if_neg h2];simp [List.getD_eq_getElem?_getD,List.getElem?_eq_none (show (vs ++ [u]).length ≤ k by simp;omega)]
theorem lG (lo : Nat) (w : World) (hlo : lo ≤ w.heap.size) : bi lo (w.alloc (.cells #[] 22)).heap.size (w.alloc (.cells #[] 22)) (.slice (some ⟨w.heap.size,0,none⟩) 0 0) [] [] :=
 ⟨rfl,.inr ⟨w.heap.size,0,#[],rfl,hlo,by simp,heap_alloc_new _ _,by simp,by simp,by simp,by simp⟩,fun k hk=>by simp at hk,by simp⟩
theorem p8 {w : World} {ops : Array Oper} {rest : List Oper} {o : Oper} {a : Act} {Q : Exit → Act → World → Prop} (hg : o.guard = none) (s x : Operand) (hop : o.op = .call { callee:=.builtin .append,args:=#[s,x],argTypes:=#[23,23] })
  {lo hi : Nat} {v : Value} {xss : List (List Int)} {vs : List Value} (hs : a.eval s = v) (hown : bi lo hi w v xss vs) {su : Option Addr} {nu cu : Nat} {row : List Int} (hu : aM lo w.heap.size w (.slice su nu cu) row) (hne : ∀ g,blk (.slice su nu cu) = some g → ¬ g ∈ vs.filterMap blk)
  (b c : Nat) (hx : a.eval x = .slice (some ⟨b,0,none⟩) 1 c) (hcell : w.cell? ⟨b,0,none⟩ = some (.slice su nu cu)) (hlen : xss.length ≤ 1048576) (hbase : lo ≤ w.heap.size)
  (hK : ∀ sa c' w',bi lo w'.heap.size w' (.slice sa (xss.length + 1) c') (xss ++ [row]) (vs ++ [.slice su nu cu]) → w.grownBy w' (blk v) → wpList Try.prog ops Q rest (a.put o.dst (.slice sa (xss.length + 1) c')) w') :
  wpList Try.prog ops Q (o :: rest) a w:=by
 obtain ⟨i0,hi',hz0,hz1,hz2⟩:=info_parts Try.infoS
 have hcells : ∀ (j : Nat) (u : Value),[Value.slice su nu cu][j]? = some u → w.cell? ((⟨b,0,none⟩ : Addr).add j) = some u:=by
  intro j u hj
  match j,hj with
  | 0, hj => simp at hj; subst hj; simpa [Addr.add] using hcell
 have h1c : ∀ u ∈ [Value.slice su nu cu],u.oneCell' = true:=by intro u hu;simp at hu;subst hu;rfl
 refine wpList_append_own _ hg s x 23 hop lo 22 i0 (.slice none 0 0) 1 24 Try.underlying23 hi' hz0 hz1 hz2 rfl (by decide) v xss.length vs hs (by have:=aE.row hown.2.1;rwa [hown.1] at this) ⟨b,0,none⟩ 1 c [.slice su nu cu] hx rfl hcells h1c (by unfold maxLen;omega) (by omega) hbase ?_
 intro v' w' h1 h2 _
 have hV : aE 22 lo w'.heap.size w' v' (vs ++ [.slice su nu cu]):=d7 h1
 have hR : bi lo w'.heap.size w' v' (xss ++ [row]) (vs ++ [.slice su nu cu]):=by
  refine ⟨by simp [hown.1],hV,fun k hk=>?_,?_⟩
  · rw [nh,ku,hown.1]
    simp only [List.length_append,List.length_singleton] at hk
    by_cases e : k < xss.length
    · rw [if_pos e,if_pos e]
      have hk':=hown.2.2.1 k e
      have hm : ∀ g,blk (vs.getD k (.slice none 0 0)) = some g → blk v ≠ some g:=ip hown hk'
      exact ((hk'.grown h2 (fun g hg' e'=>hm g hg' (by rw [← e']))).top).mono (Nat.le_refl _) (Nat.le_refl _)
    · have e2 : k = xss.length:=by omega
      rw [if_neg e,if_neg e,if_pos e2,if_pos e2]
      exact (hu.grown h2 (fun g hg' e'=>ip hown hu g hg' (by rw [← e']))).top
  · rw [List.filterMap_append,List.nodup_append]
    refine ⟨hown.2.2.2,?_,?_⟩
    · cases hq : blk (Value.slice su nu cu) <;> simp [hq]
    · intro y hy z hz e
      subst e
      cases hq : blk (Value.slice su nu cu) with
      | none => simp [hq] at hz
      | some q => simp [hq] at hz; subst hz; exact hne y hq hy
 obtain ⟨sa,n',c',rfl,hI⟩:=hR.is
 have hn : n' = xss.length + 1:=by have:=hI.len;simp at this;omega
 subst hn
 exact hK sa c' w' hR h2
end Go.Proofs.Ythjamlponejffaa
namespace Go.Proofs.Ythjamlponejffaa
set_option linter.unusedVariables false
set_option linter.unusedSimpArgs false
open Go.RowKit
theorem kv {w : World} (ty : TypeId) {lo hi : Nat} {v : Value} {xs : List Int} (hown : aM lo hi w v xs) (y : Int) (bx c : Nat) (hcell : w.cell? ⟨bx,0,none⟩ = some (.int .i64 y)) (hlen : xs.length ≤ 1048576) (hbase : lo ≤ w.heap.size) :
  ∃ sa c' w',(Builtin.append_ #[22,22] ty #[v,.slice (some ⟨bx,0,none⟩) 1 c]).run Try.prog w = .ok (.slice sa (xs.length + 1) c') w' ∧ aM lo w'.heap.size w' (.slice sa (xs.length + 1) c') (xs ++ [y]) ∧ w.grownBy w' (blk v) ∧ ∀ g,blk (.slice sa (xs.length + 1) c') = some g → blk v = some g ∨ w.heap.size ≤ g:=by
 obtain ⟨i0,hi',hz0,hz1,hz2⟩:=info_parts Try.infoI
 have hcells : ∀ (j : Nat) (u : Value),[Value.int .i64 y][j]? = some u → w.cell? ((⟨bx,0,none⟩ : Addr).add j) = some u:=by
  intro j u hj
  match j,hj with
  | 0, hj => simp at hj; subst hj; simpa [Addr.add] using hcell
 have h1c : ∀ u ∈ [Value.int .i64 y],u.oneCell' = true:=by intro u hu;simp at hu;subst hu;rfl
 have fin : ∀ (v' : Value) (w' : World) (lo' : Nat),lo ≤ lo' → w'.ownsRow lo' 2 1 v' (xs.length + 1) (xs.map (.int .i64) ++ [.int .i64 y]) → ∃ sa c',v' = .slice sa (xs.length + 1) c' ∧ aM lo' w'.heap.size w' v' (xs ++ [y]):=by
  intro v' w' lo' hl h1
  have h3 : aM lo' w'.heap.size w' v' (xs ++ [y]):=by
   have:=d7 h1
   rwa [show xs.map (Value.int .i64) ++ [.int .i64 y] = (xs ++ [y]).map (.int .i64) by simp] at this
  obtain ⟨sa,n',c',rfl,hJ⟩:=h3.is
  have hn' : n' = xs.length + 1:=by have:=hJ.1;simp at this;omega
  subst hn'
  exact ⟨sa,c',rfl,h3⟩
 have hrow : w.ownsRow lo 2 1 v xs.length (xs.map (.int .i64)):=by have:=aE.row hown;rwa [List.length_map] at this
 rcases hown with ⟨rfl,hx⟩|⟨g,cap,cur,rfl,h1,h1',h2,h3,h4,h5,h6⟩
 · have hx : xs = []:=by simpa using hx
   subst hx
   obtain ⟨v',w',hrun,r1,r2,_⟩:=run_append_own (P:=Try.prog) w w.heap.size 22 ty 2 i0 (.int .i64 0) 1 8 Try.underlying22 hi' hz0 hz1 hz2 rfl (by decide) (.slice none 0 0) 0 [] (World.ownsRow_nil w _ _ 1) ⟨bx,0,none⟩ 1 c [.int .i64 y] rfl hcells h1c (by unfold maxLen;omega) (by omega) (Nat.le_refl _)
   obtain ⟨sa,c',rfl,h⟩:=fin v' w' w.heap.size hbase (by simpa using r1)
   exact ⟨sa,c',w',hrun,aM.mono h hbase (Nat.le_refl _),r2,fun g hg=>.inr (aM.blks h g hg).1⟩
 · rw [List.length_map] at h3 h6 hrow ⊢
   by_cases hroom : xs.length + 1 ≤ cap
   · obtain ⟨w',hrun,r1,r2⟩:=run_append_fits (P:=Try.prog) w lo 22 ty 2 i0 1 Try.underlying22 hi' hz1 g xs.length cap (xs.map (.int .i64)) hrow ⟨bx,0,none⟩ 1 c [.int .i64 y] rfl hcells h1c hroom
     obtain ⟨sa,c',e,h⟩:=fin _ w' lo (Nat.le_refl _) r1
     injection e with e1 e2 e3
     subst e1 e3
     exact ⟨_,_,w',hrun,h,r2,fun g' hg=>.inl (by simpa [blk,Value.ownBlock] using hg)⟩
   · have holds : ∀ (j : Nat) (u : Value),(xs.map (Value.int .i64))[j]? = some u → w.cell? ((⟨g,0,none⟩ : Addr).add j) = some u:=fun j u hj=>hrow.cells (g:=g) rfl j u hj
     obtain ⟨v',w',hrun,r1,r2⟩:=run_append_arg_grows (P:=Try.prog) w 22 ty 2 i0 (.int .i64 0) 1 8 Try.underlying22 hi' hz0 hz1 hz2 rfl (by decide) ⟨g,0,none⟩ xs.length cap (xs.map (.int .i64)) (by simp) holds ⟨bx,0,none⟩ 1 c [.int .i64 y] rfl hcells (by omega) (by unfold maxLen;omega) (by omega)
     obtain ⟨sa,c',rfl,h⟩:=fin v' w' w.heap.size hbase r1
     exact ⟨sa,c',w',hrun,aM.mono h hbase (Nat.le_refl _),⟨r2.os,r2.tape,r2.output,r2.size,fun k hk _=>r2.block k hk (fun e=>by cases e)⟩,fun g hg=>.inr (aM.blks h g hg).1⟩
theorem bi.put {lo hi : Nat} {w w' : World} {gv nv cv : Nat} {xss : List (List Int)} {vs : List Value} (h : bi lo hi w (.slice (some ⟨gv,0,none⟩) nv cv) xss vs) {k : Nat} (hk : k < xss.length) {u : Value} {ys : List Int}
  (hu : aM lo w'.heap.size w' u ys) (hg : w.grownBy w' (blk (vs.getD k (.slice none 0 0)))) (hf : ∀ g,blk u = some g → blk (vs.getD k (.slice none 0 0)) = some g ∨ w.heap.size ≤ g) :
  bi lo w'.heap.size (w'.setCell ⟨gv,k,none⟩ u) (.slice (some ⟨gv,0,none⟩) nv cv) (xss.set k ys) (vs.set k u):=by
 have hne : blk (.slice (some ⟨gv,0,none⟩) nv cv) ≠ blk (vs.getD k (.slice none 0 0)):=fun e=>by
  have:=jN h.2.1 (h.2.2.1 k hk) (by decide) gv rfl
  exact this (by rw [← e];rfl)
 have hV : aE 22 lo w'.heap.size w' (.slice (some ⟨gv,0,none⟩) nv cv) vs:=(aE.top (aE.keep h.2.1 (w':=w') fun g hg'=>hg.block g (aE.lt h.2.1 g hg').2.2 (by
  intro e;exact hne (by rw [hg',e]))))
 have hvu : ∀ g,blk u = some g → gv ≠ g:=fun g hg' e=>jN hV hu (by decide) gv rfl (by rw [hg',e])
 refine ⟨by simp [h.1],(aE.set hV k u),fun j hj=>?_,?_⟩
 · rw [List.length_set] at hj
   rw [ov hk]
   have hgd : (vs.set k u).getD j (.slice none 0 0) = if j = k then u else vs.getD j (.slice none 0 0):=by
    simp only [List.getD_eq_getElem?_getD,List.getElem?_set]
    by_cases e : k = j
    · subst e;simp [h.1,hk]
    · rw [if_neg e,if_neg (fun h=>e h.symm)]
   rw [hgd]
   by_cases e : j = k
   · rw [if_pos e,if_pos e]
     exact aE.other hu (fun e'=>hvu gv e' rfl) k u
   · rw [if_neg e,if_neg e]
     have hj':=h.2.2.1 j hj
     have hd:=oB h.2.2.2 (i:=j) (j:=k) (by rw [h.1];exact hj) (by rw [h.1];exact hk) e (.slice none 0 0)
     have h1 : aM lo w'.heap.size w' (vs.getD j (.slice none 0 0)) (gr xss j):=aE.top (aE.keep hj' (w':=w') fun g hg'=>hg.block g (aE.lt hj' g hg').2.2 (fun e'=>hd g hg' e'.symm))
     exact aE.other h1 (fun e'=>jN hV h1 (by decide) gv rfl e') k u
 · have hlt : ∀ g,g ∈ vs.filterMap blk → g < w.heap.size:=by
    intro g hg'
    obtain ⟨x,hx,e⟩:=List.mem_filterMap.1 hg'
    obtain ⟨j,hj,e2⟩:=List.getElem_of_mem hx
    have:=h.2.2.1 j (by rw [← h.1];exact hj)
    rw [List.getD_eq_getElem?_getD,List.getElem?_eq_getElem hj] at this
    simp only [Option.getD_some,e2] at this
    exact (aE.lt this g e).2.2
   have hk' : k < vs.length:=by rw [h.1];exact hk
   have e1 : vs = vs.take k ++ vs.getD k (.slice none 0 0) :: vs.drop (k + 1):=by
    rw [List.getD_eq_getElem?_getD,List.getElem?_eq_getElem hk',Option.getD_some,List.getElem_cons_drop,List.take_append_drop]
   have hn:=h.2.2.2
   rw [e1] at hn hlt
   rw [List.set_eq_take_append_cons_drop,if_pos hk']
   revert hn hlt hf
   generalize vs.getD k (.slice none 0 0) = o
   generalize vs.take k = a
   generalize vs.drop (k + 1) = b
   intro hf hlt hn
   rw [List.filterMap_append,List.filterMap_cons] at hn hlt ⊢
   cases hu' : blk u with
   | none =>
     simp only
     cases ho : blk o with
     | none => rw [ho] at hn; exact hn
     | some q => rw [ho] at hn; simp only at hn; exact (hn.sublist (List.Sublist.append (List.Sublist.refl _) (List.sublist_cons_self _ _)))
   | some p =>
     simp only
     rcases hf p hu' with e|e
     · rw [e] at hn;exact hn
     · have hn2 : (a.filterMap blk ++ b.filterMap blk).Nodup:=by
        cases ho : blk o with
        | none => rw [ho] at hn; exact hn
        | some q => rw [ho] at hn; simp only at hn; exact (hn.sublist (List.Sublist.append (List.Sublist.refl _) (List.sublist_cons_self _ _)))
       have hm : ∀ g,g ∈ a.filterMap blk ++ b.filterMap blk → g < w.heap.size:=by
        intro g hg'
        apply hlt g
        rcases List.mem_append.1 hg' with h'|h'
        · exact List.mem_append.2 (.inl h')
        · cases ho : blk o with
          | none => exact List.mem_append.2 (.inr h')
          | some q => exact List.mem_append.2 (.inr (List.mem_cons_of_mem _ h'))
       have hp : ¬ p ∈ a.filterMap blk ++ b.filterMap blk:=fun h'=>by have:=hm p h';omega
       exact (List.perm_middle.nodup_iff).2 (List.nodup_cons.2 ⟨hp,hn2⟩)
end Go.Proofs.Ythjamlponejffaa
namespace Go.Proofs.Ythjamlponejffaa
set_option linter.unusedVariables false
set_option linter.unusedSimpArgs false
open Go.RowKit
def bC (xs : List Int) (m : Int) : Prop:=∀ k,k < xs.length → 0 ≤ gi xs k ∧ gi xs k < m ∧ (0 < k → gi xs (k - 1) < gi xs k)
structure ArOk (a : Ar) : Prop where
 pos : 1 ≤ a.own.length
 le : a.own.length ≤ 256
 len : a.nxt.length = a.own.length
 vert : ∀ v,v < a.own.length → 0 ≤ gi a.own v ∧ gi a.own v ≤ 1 ∧ 1 ≤ (gr a.nxt v).length ∧ (gr a.nxt v).length ≤ 16 ∧ bC (gr a.nxt v) a.own.length
structure PaOk (g : Pa) : Prop where
 ar : ArOk g.ar
 len : g.prio.length = g.ar.own.length
 prio : ∀ v,v < g.prio.length → 0 ≤ gi g.prio v ∧ gi g.prio v ≤ 40
theorem oC {xs : List Int} {m : Int} (h : bC xs m) : ∀ k,k < xs.length → (k : Int) ≤ gi xs k:=by
 intro k
 induction k with
 | zero => intro hk; exact (h 0 hk).1
 | succ k ih => intro hk; have := ih (by omega); have := (h (k + 1) hk).2.2 (by omega); simp only [Nat.add_sub_cancel] at this; omega
theorem eC {xs : List Int} {m : Int} (h : bC xs m) (hm : 0 ≤ m) : (xs.length : Int) ≤ m:=by
 by_cases hx : xs.length = 0
 · omega
 · have h1:=oC h (xs.length - 1) (by omega)
   have h2:=(h (xs.length - 1) (by omega)).2.1
   omega
set_option maxHeartbeats 400000 in
theorem je (sa : Option Addr) (n c : Nat) (xs : List Int) (m : Int) (w : World) (hI : cK w sa n c xs) :
  Calls Try.prog 112 #[.slice sa n c,.int .i64 m] w fun e w'=>e = .returned (.bool (tf (bC xs m))) ∧ w = w':=by
 have hmax:=hI.max
 have HL:=Lib.hid hI.1
 go_enter Try.func112,Try.ntmps112
 go_wp2
 go_loop [9] (fun i=>∃ k : Nat,k ≤ n ∧ i = .int .i64 k ∧ ∀ j,j < k → 0 ≤ gi xs j ∧ gi xs j < m ∧ (0 < j → gi xs (j - 1) < gi xs j)) (fun i=>n - (intOf i).toNat)
 case atStart=>exact ⟨0,by omega,rfl,fun j hj=>by omega⟩
 case round =>
  obtain ⟨k,hk,rfl,hS⟩:=hrel
  have HS:=Lib.hid hS;clear hS
  by_cases hlt : k < n
  · obtain ⟨b,o,rfl,hSb,hc⟩:=hI.get hlt
    have hck:=hc k hlt
    have hcp : 0 < k → w.cell? ⟨b,o + (k - 1),none⟩ = some (.int .i64 (gi xs (k-1))):=fun h=>hc (k-1) (by omega)
    clear hc
    go_wp2
    all_goals first
     | (go_ret; exact ⟨bu (aH (fun h => by have := h k (by rw [HL.out]; exact hlt); omega)).symm, rfl⟩)
     | (go_round
        case rel=>exact ⟨k + 1,by omega,by go_num,fun j hj=>by
           by_cases e : j = k
           · rw [e];omega
           · exact HS.out j (by omega)⟩
        case measure=>simp [intOf];omega)
  · go_wp2
    go_ret
    exact ⟨bu (bh (fun j hj=>HS.out j (by rw [HL.out] at hj;omega))).symm,rfl⟩
set_option maxHeartbeats 400000 in
theorem kw (x lo hi : Int) (w : World) : Calls Try.prog 65 #[.int .i64 x,.int .i64 lo,.int .i64 hi] w fun e w'=>e = .returned (.bool (tf (lo ≤ x ∧ x ≤ hi))) ∧ w = w':=by
 by_cases h1 : lo ≤ x
 · by_cases h2 : x ≤ hi
   · rw [bh ⟨h1,h2⟩]
     go_enter Try.func65,Try.ntmps65
     go_wp2
     go_ret
     exact ⟨rfl,rfl⟩
   · rw [aH (fun h=>h2 h.2)]
     go_enter Try.func65,Try.ntmps65
     go_wp2
     go_ret
     exact ⟨rfl,rfl⟩
 · rw [aH (fun h=>h1 h.1)]
   go_enter Try.func65,Try.ntmps65
   go_wp2
   go_ret
   exact ⟨rfl,rfl⟩
theorem dF (x lo hi : Int) (b : Bool) (h : tf (lo ≤ x ∧ x ≤ hi) = b) (w : World) : Calls Try.prog 65 #[.int .i64 x,.int .i64 lo,.int .i64 hi] w fun e w'=>e = .returned (.bool b) ∧ w = w':=by
 have:=kw x lo hi w
 rwa [h] at this
theorem jO (x lo hi : Int) (b : Bool) (h : tf (lo ≤ x ∧ x ≤ hi) = b) (w : World) : Calls Try.prog 65 #[.int .i64 x,.int .i64 lo,.int .i64 hi] w fun e w'=>e = .returned (.bool b) ∧ w' = w :=
 (dF x lo hi b h w).mono fun _ _ h=>⟨h.1,h.2.symm⟩
set_option maxHeartbeats 800000 in
theorem gR (sa : Option Addr) (n c : Nat) (xs : List Int) (m : Int) (w : World) (hI : cK w sa n c xs) (h0 : 0 ≤ m) (hm : m ≤ 4611686018427387904) :
  Calls Try.prog 106 #[.slice sa n c,.int .i64 m] w (Qb w (tf (bC xs m))):=by
 have hmax:=hI.max
 have HL:=Lib.hid hI.1
 go_enter Try.func106,Try.ntmps106
 go_wp2
 go_loopw [5] (fun i wr=>∃ k : Nat,k ≤ n ∧ i = .int .i64 k ∧ (∀ j,j < k → 0 ≤ gi xs j ∧ gi xs j < m ∧ (0 < j → gi xs (j - 1) < gi xs j)) ∧ Qt w wr) (fun i _=>n - (intOf i).toNat)
 case atStart=>exact ⟨0,by omega,rfl,fun j hj=>by omega,Qt.refl w⟩
 case round =>
  obtain ⟨k,hk,rfl,hS,hq⟩:=hrel
  have HS:=Lib.hid hS;clear hS
  by_cases hlt : k < n
  · obtain ⟨b,o,rfl,hSb,hc⟩:=(hI.below hq.below).get hlt
    have hck:=hc k hlt
    have i0 : (0 : Int) ≤ (k : Int):=by omega
    have i1 : (k : Int) < (n : Int):=by omega
    by_cases h1 : 0 ≤ gi xs k ∧ gi xs k ≤ m - 1
    · have k1:=Lib.hid (bh h1)
      have H1:=Lib.hid h1
      clear h1
      by_cases hk0 : 0 < k
      · have d1 : decide ((0 : Int) < (k : Int)) = true:=by simp;omega
        have hcp:=hc (k - 1) (by omega)
        have i2 : (0 : Int) ≤ (k : Int) - 1:=by omega
        have i3 : (k : Int) - 1 < (n : Int):=by omega
        clear hc
        by_cases h2 : gi xs k ≤ gi xs (k - 1)
        · have d2 : decide (gi xs k ≤ gi xs (k - 1)) = true:=by simp;omega
          go_wp2
          go_quiet ((go_at_call 65;exact Calls.quiet_of_same (jO _ _ _ true k1.out _)))
          go_wp2
          go_ret
          exact ⟨bu (aH (fun h=>by have:=(h k (by rw [HL.out];exact hlt)).2.2 hk0;omega)).symm,hq.drewN _⟩
        · have d2 : decide (gi xs k ≤ gi xs (k - 1)) = false:=by simp;omega
          go_wp2
          go_quiet ((go_at_call 65;exact Calls.quiet_of_same (jO _ _ _ true k1.out _)))
          go_wp2
          go_roundw
          case rel=>exact ⟨k + 1,by omega,by go_num,fun j hj=>by
           by_cases e : j = k
           · rw [e];have:=H1.out;omega
           · exact HS.out j (by omega),hq.drewN _⟩
          case measure=>simp [intOf];omega
      · have d1 : decide ((0 : Int) < (k : Int)) = false:=by simp;omega
        clear hc
        go_wp2
        go_quiet ((go_at_call 65;exact Calls.quiet_of_same (jO _ _ _ true k1.out _)))
        go_wp2
        go_roundw
        case rel=>exact ⟨k + 1,by omega,by go_num,fun j hj=>by
         by_cases e : j = k
         · rw [e];have:=H1.out;omega
         · exact HS.out j (by omega),hq.drewN _⟩
        case measure=>simp [intOf];omega
    · have k1:=Lib.hid (aH h1)
      have H1:=Lib.hid h1
      clear h1 hc
      go_wp2
      go_quiet ((go_at_call 65;exact Calls.quiet_of_same (jO _ _ _ false k1.out _)))
      go_wp2
      go_ret
      exact ⟨bu (aH (fun h=>H1.out (by have:=h k (by rw [HL.out];exact hlt);omega))).symm,hq.drewN _⟩
  · go_wp2
    go_ret
    exact ⟨bu (bh (fun j hj=>HS.out j (by rw [HL.out] at hj;omega))).symm,hq⟩
set_option maxHeartbeats 400000 in
theorem gz (sa : Option Addr) (n c : Nat) (xs : List Int) (m : Int) (w : World) (hI : cK w sa n c xs) (h0 : 0 ≤ m) (hm : m ≤ 4611686018427387904) :
  Calls Try.prog 68 #[.slice sa n c,.int .i64 m] w (Qb w (tf (bC xs m))):=by
 have hmax:=hI.max
 have HL:=Lib.hid hI.1
 by_cases hn : (n : Int) ≤ m
 · by_cases hs : bC xs m
   · have k1:=Lib.hid (bh hs)
     clear hs
     go_enter Try.func68,Try.ntmps68
     go_wp2_with (go_at_call 106;refine (gR _ _ _ _ _ _ hI h0 hm).mono ?_;rw [k1.out];rintro e w2 ⟨rfl,q,rfl⟩)
     go_ret
     exact ⟨bu k1.out.symm,q,rfl⟩
   · have k1:=Lib.hid (aH hs)
     clear hs
     go_enter Try.func68,Try.ntmps68
     go_wp2_with (go_at_call 106;refine (gR _ _ _ _ _ _ hI h0 hm).mono ?_;rw [k1.out];rintro e w2 ⟨rfl,q,rfl⟩)
     go_ret
     exact ⟨bu k1.out.symm,q,rfl⟩
 · go_enter Try.func68,Try.ntmps68
   go_wp2
   go_ret
   exact ⟨bu (aH (fun h=>by have:=eC h h0;have:=HL.out;omega)).symm,0,rfl⟩
def iq (a : Ar) (k : Nat) : Prop:=∀ v,v < k → 0 ≤ gi a.own v ∧ gi a.own v ≤ 1 ∧ 1 ≤ (gr a.nxt v).length ∧ (gr a.nxt v).length ≤ 16 ∧ bC (gr a.nxt v) a.own.length
theorem iq.next {a : Ar} {k : Nat} (h : iq a k) (hk : 0 ≤ gi a.own k ∧ gi a.own k ≤ 1 ∧ 1 ≤ (gr a.nxt k).length ∧ (gr a.nxt k).length ≤ 16 ∧ bC (gr a.nxt k) a.own.length) : iq a (k + 1):=by
 intro v hv
 by_cases e : v = k
 · rw [e];exact hk
 · exact h v (by omega)
end Go.Proofs.Ythjamlponejffaa
namespace Go.Proofs.Ythjamlponejffaa
set_option linter.unusedVariables false
set_option linter.unusedSimpArgs false
open Go.RowKit
attribute [local go_sem ↓] Go.wp_at_zero Go.wp_at_succ
noncomputable def lst (p : Nat → Prop) : Nat → List Int
 | 0 => []
 | k + 1 => @ite _ (p k) (Classical.propDecidable _) (lst p k ++ [(k : Int)]) (lst p k)
theorem eQ {p : Nat → Prop} {k : Nat} (h : p k) : lst p (k + 1) = lst p k ++ [(k : Int)]:=if_pos h
theorem gA {p : Nat → Prop} {k : Nat} (h : ¬ p k) : lst p (k + 1) = lst p k:=if_neg h
theorem mG {p : Nat → Prop} {k : Nat} {x : Int} : x ∈ lst p k ↔ ∃ v,v < k ∧ p v ∧ x = v:=by
 induction k with
 | zero => simp [lst]
 | succ k ih =>
   by_cases h : p k
   · rw [eQ h,List.mem_append,ih]
     constructor
     · rintro (⟨v,h1,h2,h3⟩|h1)
       · exact ⟨v,by omega,h2,h3⟩
       · simp at h1;exact ⟨k,by omega,h,h1⟩
     · rintro ⟨v,h1,h2,h3⟩
       by_cases e : v = k
       · subst e;right;simp [h3]
       · left;exact ⟨v,by omega,h2,h3⟩
   · rw [gA h,ih]
     constructor
     · rintro ⟨v,h1,h2⟩;exact ⟨v,by omega,h2⟩
     · rintro ⟨v,h1,h2,h3⟩
       by_cases e : v = k
       · subst e;exact absurd h2 h
       · exact ⟨v,by omega,h2,h3⟩
theorem gB {p q : Nat → Prop} {n : Nat} (h : ∀ v,v < n → (p v ↔ q v)) : lst p n = lst q n:=by
 induction n with
 | zero => rfl
 | succ n ih =>
   have ih:=ih fun v hv=>h v (by omega)
   by_cases hp : p n
   · rw [eQ hp,eQ ((h n (by omega)).1 hp),ih]
   · rw [gA hp,gA (fun hq=>hp ((h n (by omega)).2 hq)),ih]
noncomputable def mks (n : Nat) (p : Nat → Prop) : List Bool:=bZ n fun k=>tf (p k)
theorem dG (n : Nat) (p : Nat → Prop) : (mks n p).length = n:=cI _ _
theorem fh {n k : Nat} (p : Nat → Prop) (h : k < n) : gb (mks n p) k = tf (p k):=cT _ h
theorem ni {p q : Nat → Prop} {n : Nat} (h : ∀ v,v < n → (p v ↔ q v)) : mks n p = mks n q:=cC fun k hk=>ew (h k hk)
theorem fi (n : Nat) (f : Nat → Int) : tab (n + 1) f = tab n f ++ [f n]:=by simp [tab,List.range_succ]
def Bnd (xs : List Int) (m : Nat) : Prop:=∀ k,k < xs.length → 0 ≤ gi xs k ∧ gi xs k < m
theorem bC.bnd {xs : List Int} {m : Nat} (h : bC xs m) : Bnd xs m:=fun k hk=>⟨(h k hk).1,(h k hk).2.1⟩
theorem mH (lo : Nat) (w : World) (c : Nat) (hlo : lo ≤ w.heap.size) : aM lo (w.alloc (.cells #[] 2)).heap.size (w.alloc (.cells #[] 2)) (.slice (some ⟨w.heap.size,0,none⟩) 0 0) [] :=
 .inr ⟨w.heap.size,0,#[],rfl,hlo,by simp,heap_alloc_new _ _,by simp,by simp,by simp,by simp⟩
theorem rl (v : Value) (a : Ar) (w : World) (hA : IsA w v a) : Calls Try.prog 101 #[v] w (Bi w a.own.length):=by
 obtain ⟨_,_,rfl,⟨s1,n1,c1,rfl,h1⟩,⟨s2,n2,c2,rfl,h2⟩⟩:=hA
 have H1:=Lib.hid h1.1
 have hm:=h1.max
 go_enter Try.func101,Try.ntmps101
 go_wp2
 go_ret
 exact ⟨jL (by rw [H1.out]),(by repeat' (first|(with_reducible exact Below.refl _ _)|(with_reducible apply Below.alloc)|(with_reducible apply Below.drew)|(with_reducible apply al)|omega|(simp only [World.size_alloc,World.size_setCell,World.size_drew];omega)))⟩
end Go.Proofs.Ythjamlponejffaa
namespace Go.Proofs.Ythjamlponejffaa
set_option linter.unusedVariables false
set_option linter.unusedSimpArgs false
open Go.RowKit
attribute [local go_sem ↓] Go.wp_at_zero Go.wp_at_succ
def mI (xs : List Int) (x : Int) (k : Nat) : Prop:=k < xs.length ∧ gi xs k = x ∧ ∀ j,j < k → gi xs j ≠ x
noncomputable def idx (xs : List Int) (x : Int) : Int:=@dite _ (∃ k,mI xs x k) (Classical.propDecidable _) (fun h=>((Classical.choose h : Nat) : Int)) (fun _=>-1)
theorem oD {xs : List Int} {x : Int} (h : ¬ x ∈ xs) : idx xs x = -1:=dif_neg (by rintro ⟨k,h1,h2,_⟩;exact h (by rw [← h2];exact dz h1))
theorem oE {xs : List Int} {x : Int} {k : Nat} (hk : k < xs.length) (e : gi xs k = x) (hm : ∀ j,j < k → gi xs j ≠ x) : idx xs x = k:=by
 have hex : ∃ k,mI xs x k:=⟨k,hk,e,hm⟩
 unfold idx
 rw [dif_pos hex]
 obtain ⟨h1,h2,h3⟩:=Classical.choose_spec hex
 congr 1
 rcases Nat.lt_trichotomy (Classical.choose hex) k with h|h|h
 · exact absurd h2 (hm _ h)
 · exact h
 · exact absurd e (h3 _ h)
theorem nj (xs : List Int) (x : Int) : (idx xs x = -1 ∧ ¬ x ∈ xs) ∨ ∃ k,k < xs.length ∧ gi xs k = x ∧ (∀ j,j < k → gi xs j ≠ x) ∧ idx xs x = k:=by
 by_cases h : x ∈ xs
 · right
   have key : ∀ n,(∃ k,k < n ∧ k < xs.length ∧ gi xs k = x) → ∃ k,k < xs.length ∧ gi xs k = x ∧ ∀ j,j < k → gi xs j ≠ x:=by
    intro n
    induction n with
    | zero => rintro ⟨k, h, _⟩; omega
    | succ n ih =>
      rintro ⟨k,h1,h2,h3⟩
      by_cases hc : ∃ k,k < n ∧ k < xs.length ∧ gi xs k = x
      · exact ih hc
      · exact ⟨k,h2,h3,fun j hj e=>hc ⟨j,by omega,by omega,e⟩⟩
   obtain ⟨k,h1,h2⟩:=dS h
   obtain ⟨k,h1,h2,h3⟩:=key xs.length ⟨k,h1,h1,h2⟩
   exact ⟨k,h1,h2,h3,oE h1 h2 h3⟩
 · exact Or.inl ⟨oD h,h⟩
set_option maxHeartbeats 400000 in
theorem jf (sa : Option Addr) (n c : Nat) (xs : List Int) (x : Int) (w : World) (hI : cK w sa n c xs) :
  Calls Try.prog 110 #[.slice sa n c,.int .i64 x] w fun e w'=>e = .returned (.int .i64 (idx xs x)) ∧ w = w':=by
 have hmax:=hI.max
 have HL:=Lib.hid hI.1
 go_enter Try.func110,Try.ntmps110
 go_wp2
 go_loop [8] (fun i=>∃ k : Nat,k ≤ n ∧ i = .int .i64 k ∧ ∀ j,j < k → gi xs j ≠ x) (fun i=>n - (intOf i).toNat)
 case atStart=>exact ⟨0,by omega,rfl,fun j hj=>by omega⟩
 case round =>
  obtain ⟨k,hk,rfl,hS⟩:=hrel
  have HS:=Lib.hid hS;clear hS
  by_cases hlt : k < n
  · obtain ⟨b,o,rfl,hSb,hc⟩:=hI.get hlt
    have hck:=hc k hlt
    clear hc
    by_cases he : gi xs k = x
    · have HE:=Lib.hid he
      have hd : (x == gi xs k) = true:=by simp [he]
      clear he
      go_wp2
      go_ret
      exact ⟨jL (oE (by rw [HL.out];exact hlt) HE.out HS.out).symm,rfl⟩
    · have HE:=Lib.hid he
      have hd : (x == gi xs k) = false:=by simp;exact fun h=>he h.symm
      clear he
      go_wp2
      go_round
      case rel=>exact ⟨k + 1,by omega,by go_num,fun j hj=>by
       by_cases e : j = k
       · rw [e];exact HE.out
       · exact HS.out j (by omega)⟩
      case measure=>simp [intOf];omega
  · go_wp2
    go_ret
    exact ⟨jL (oD (fun h=>by obtain ⟨k',h1,h2⟩:=dS h;exact HS.out k' (by rw [HL.out] at h1;omega) h2)).symm,rfl⟩
theorem jP (sa : Option Addr) (n c : Nat) (xs : List Int) (x : Int) (w : World) (hI : cK w sa n c xs) :
  Calls Try.prog 75 #[.slice sa n c,.int .i64 x] w fun e w'=>e = .returned (.bool (tf (x ∈ xs))) ∧ w = w':=by
 rcases nj xs x with ⟨h1,h2⟩|⟨k,h1,h2,h3,h4⟩
 · rw [aH h2]
   have H1:=Lib.hid h1
   clear h1 h2
   go_enter Try.func75,Try.ntmps75
   go_wp2_with (go_at_call 110;refine (jf _ _ _ _ _ _ hI).mono ?_;rw [H1.out];rintro e w2 ⟨rfl,rfl⟩)
   go_ret
   exact ⟨rfl,rfl⟩
 · rw [bh (by rw [← h2];exact dz h1)]
   have H4:=Lib.hid h4
   clear h1 h2 h3 h4
   go_enter Try.func75,Try.ntmps75
   go_wp2_with (go_at_call 110;refine (jf _ _ _ _ _ _ hI).mono ?_;rw [H4.out];rintro e w2 ⟨rfl,rfl⟩)
   go_ret
   exact ⟨bu (by simp),rfl⟩
set_option maxHeartbeats 400000 in
theorem nk (n : Nat) (w : World) (hn : n ≤ 256) : Calls Try.prog 100 #[.int .i64 n] w (ox w (tab n fun v=>v)):=by
 go_enter Try.func100,Try.ntmps100
 go_wp2
 go_loopw [3,4] (fun v i wr=>∃ (k c : Nat) (sa : Option Addr),k ≤ n ∧ i = .int .i64 k ∧ v = .slice sa k c ∧ aM w.heap.size wr.heap.size wr (.slice sa k c) (tab k fun v=>v) ∧ Below w.heap.size w wr) (fun _ i _=>n - (intOf i).toNat)
 case atStart=>exact ⟨0,0,_,by omega,rfl,rfl,mH _ _ 0 (Nat.le_refl _),aD _ _⟩
 case round =>
  obtain ⟨k,c,sa,hk,rfl,rfl,ho,hb⟩:=hrel
  by_cases hlt : k < n
  · go_wp2_with (at_builtin;refine jM rfl _ _ rfl rfl (aM.alloc ho _) k _ _ rfl (by simp) (by simp;omega) (by have:=hb.size;simp;omega) ?_;intro sa' c' w2 ho2 hO2)
    go_roundw
    case rel =>
     rw [bD] at *
     exact ⟨k + 1,c',sa',by omega,by go_num,rfl,by rwa [← fi (f:=fun v=>(v : Int))] at ho2,mE hb hO2⟩
    case measure=>simp [intOf];omega
  · go_wp2
    go_ret
    have e : k = n:=by omega
    subst e
    exact ⟨_,_,_,rfl,ho,hb⟩
theorem p9 (v : Value) (a : Ar) (w : World) (hA : IsA w v a) (hn : a.own.length ≤ 256) : Calls Try.prog 60 #[v] w (ox w (tab a.own.length fun v=>v)):=by
 obtain ⟨_,_,rfl,⟨s1,n1,c1,rfl,h1⟩,⟨s2,n2,c2,rfl,h2⟩⟩:=id hA
 go_enter Try.func60,Try.ntmps60
 go_wp2_with (first
  | (go_at_call 101; refine (rl _ _ _ (hA.below (by repeat' (first | (with_reducible exact Below.refl _ _) | (with_reducible apply Below.alloc) | (with_reducible apply Below.drew) | (with_reducible apply al) | omega | (simp only [World.size_alloc, World.size_setCell, World.size_drew]; omega))))).mono ?_; rintro e w2 ⟨rfl, hb2⟩)
  | (go_at_call 100; refine (nk _ _ hn).mono ?_; rintro e w3 ⟨s3, n3, c3, rfl, ho3, hb3⟩))
 go_ret
 have hz2:=hb2.size
 simp only [World.size_alloc] at hz2
 exact ⟨_,_,_,rfl,ho3.mono (by omega) (Nat.le_refl _),(by repeat' (first|(with_reducible exact Below.refl _ _)|(with_reducible assumption)|(with_reducible apply ao)|(with_reducible apply Below.alloc)|(with_reducible apply Below.drew)|(with_reducible apply al)|(with_reducible refine Below.trans ?_ (Below.mono (by assumption) ?_))|omega|(simp only [World.size_alloc,World.size_setCell,World.size_drew];omega)))⟩
end Go.Proofs.Ythjamlponejffaa
namespace Go.Proofs.Ythjamlponejffaa
set_option linter.unusedVariables false
set_option linter.unusedSimpArgs false
open Go.RowKit
attribute [local go_sem ↓] Go.wp_at_zero Go.wp_at_succ
end Go.Proofs.Ythjamlponejffaa
namespace Go.Proofs.Ythjamlponejffaa
set_option linter.unusedVariables false
set_option linter.unusedSimpArgs false
open Go.RowKit
set_option maxHeartbeats 1000000 in
theorem jQ (v : Value) (a : Ar) (w : World) (hA : IsA w v a) :
  Calls Try.prog 78 #[v] w (Bb w (tf (ArOk a))):=by
 obtain ⟨_,_,rfl,⟨s1,n1,c1,rfl,h1⟩,⟨s2,n2,c2,rfl,h2⟩⟩:=hA
 have hm1:=h1.max
 have hm2:=h2.max
 have H1:=Lib.hid h1.1
 have H2:=Lib.hid h2.len
 by_cases hp : 1 ≤ n1 ∧ n1 ≤ 256 ∧ n2 = n1
 · obtain ⟨hp1,hp2,rfl⟩:=hp
   go_enter Try.func78,Try.ntmps78
   go_wp2
   go_loop [25] (fun i=>∃ k : Nat,k ≤ n2 ∧ i = .int .i64 k ∧ iq a k) (fun i=>n2 - (intOf i).toNat)
   case atStart=>exact ⟨0,by omega,rfl,fun j hj=>by omega⟩
   case round =>
    obtain ⟨k,hk,rfl,hS⟩:=hrel
    by_cases hlt : k < n2
    · obtain ⟨b1,o1,rfl,hb1,hc1⟩:=h1.get hlt
      obtain ⟨b2,o2,rfl,hb2,A,L,C,hc2⟩:=h2.get hlt
      have q1:=hc1 k hlt
      obtain ⟨q2,hI⟩:=hc2 k hlt
      have hl:=Lib.hid hI.1
      have hlm:=hI.max
      clear hc1 hc2
      by_cases hs : bC (gr a.nxt k) n2
      · have k1 : tf (bC (gr a.nxt k) n2) = true:=bh hs
        have K1:=Lib.hid hs
        clear hs
        go_wp2_with (go_at_call 112;refine (je _ _ _ _ _ _ (hI.alloc _)).mono ?_;rw [k1];rintro e w2 ⟨rfl,rfl⟩)
        all_goals first
         | (go_ret; exact ⟨bu (aH (fun h => by have := h.vert k (by rw [H1.out]; exact hlt); have := hl.out; omega)).symm, aD _ _⟩)
         | (go_round
            case rel=>exact ⟨k + 1,by omega,by go_num,hS.next ⟨by omega,by omega,by have:=hl.out;omega,by have:=hl.out;omega,by rw [H1.out];exact K1.out⟩⟩
            case measure=>simp [intOf];omega)
      · have k1 : tf (bC (gr a.nxt k) n2) = false:=aH hs
        have K1:=Lib.hid hs
        clear hs
        go_wp2_with (go_at_call 112;refine (je _ _ _ _ _ _ (hI.alloc _)).mono ?_;rw [k1];rintro e w2 ⟨rfl,rfl⟩)
        all_goals go_ret
        all_goals exact ⟨bu (aH (fun h=>K1.out (by have:=(h.vert k (by rw [H1.out];exact hlt)).2.2.2.2;rwa [H1.out] at this))).symm,aD _ _⟩
    · go_wp2
      go_ret
      exact ⟨bu (bh ⟨by rw [H1.out];omega,by rw [H1.out];omega,by rw [H1.out,H2.out],fun v hv=>hS v (by rw [H1.out] at hv;omega)⟩).symm,aD _ _⟩
 · by_cases he : n2 = n1
   · go_enter Try.func78,Try.ntmps78
     go_wp2
     all_goals first
      | (go_ret; exact ⟨bu (aH (fun h => by have := h.pos; have := h.le; have := h.len; have := H1.out; have := H2.out; omega)).symm, aD _ _⟩)
      | (exfalso; omega)
   · have hb1 : (n2 != n1) = true:=by simp [he]
     have hb2 : ((n2 : Int) != (n1 : Int)) = true:=by simp;omega
     go_enter Try.func78,Try.ntmps78
     go_wp2
     all_goals go_ret
     all_goals exact ⟨bu (aH (fun h=>by have:=h.pos;have:=h.le;have:=h.len;have:=H1.out;have:=H2.out;omega)).symm,aD _ _⟩
end Go.Proofs.Ythjamlponejffaa
namespace Go.Proofs.Ythjamlponejffaa
set_option linter.unusedVariables false
set_option linter.unusedSimpArgs false
open Go.RowKit
set_option maxHeartbeats 2000000 in
theorem lH (v : Value) (a : Ar) (w : World) (hA : IsA w v a) :
  Calls Try.prog 81 #[v] w (Bb w (tf (ArOk a))):=by
 obtain ⟨_,_,rfl,⟨s1,n1,c1,rfl,h1⟩,⟨s2,n2,c2,rfl,h2⟩⟩:=hA
 have hm1:=h1.max
 have hm2:=h2.max
 have H1:=Lib.hid h1.1
 have H2:=Lib.hid h2.len
 by_cases hp0 : 1 ≤ n1 ∧ n1 ≤ 256
 · have k0:=Lib.hid (bh (p:=(1 : Int) ≤ n1 ∧ (n1 : Int) ≤ 256) (by omega))
   by_cases hp : n2 = n1
   · obtain ⟨hp1,hp2⟩:=hp0
     subst hp
     go_enter Try.func81,Try.ntmps81
     go_wp2_with (go_at_call 65;refine (dF _ _ _ _ k0.out _).mono ?_;rintro e w2 ⟨rfl,rfl⟩)
     go_loopw [4] (fun i wr=>∃ k q : Nat,k ≤ n2 ∧ i = .int .i64 k ∧ iq a k ∧ wr = (w.alloc (.cells #[.slice s1 n2 c1,.slice s2 n2 c2] 30)).drewN q) (fun i _=>n2 - (intOf i).toNat)
     case atStart=>exact ⟨0,0,by omega,rfl,fun j hj=>by omega,rfl⟩
     case round =>
      obtain ⟨k,q,hk,rfl,hS,rfl⟩:=hrel
      by_cases hlt : k < n2
      · obtain ⟨b1,o1,rfl,hb1,hc1⟩:=h1.get hlt
        obtain ⟨b2,o2,rfl,hb2,A,L,C,hc2⟩:=h2.get hlt
        have q1:=hc1 k hlt
        obtain ⟨q2,hI⟩:=hc2 k hlt
        have hl:=Lib.hid hI.1
        have hlm:=hI.max
        clear hc1 hc2
        by_cases ho : 0 ≤ gi a.own k ∧ gi a.own k ≤ 1
        · have k2:=Lib.hid (bh ho)
          have HO:=Lib.hid ho
          clear ho
          by_cases hs : bC (gr a.nxt k) n2
          · have k1 : tf (bC (gr a.nxt k) n2) = true:=bh hs
            have K1:=Lib.hid hs
            clear hs
            go_wp2_with (first
             | (go_at_call 65; refine (dF _ _ _ _ k2.out _).mono ?_; rintro e w2 ⟨rfl, rfl⟩)
             | (go_at_call 68; refine (gz _ _ _ _ _ _ (hI.below (by repeat' (first | (with_reducible exact Below.refl _ _) | (with_reducible assumption) | (with_reducible apply ao) | (with_reducible apply Below.alloc) | (with_reducible apply Below.drew) | (with_reducible apply al) | (with_reducible refine Below.trans ?_ (Below.mono (by assumption) ?_)) | omega | (simp only [World.size_alloc, World.size_setCell, World.size_drew]; omega)))) (by omega) (by omega)).mono ?_; rw [k1]; rintro e w2 ⟨rfl, q3, rfl⟩))
            all_goals first
             | (go_ret; exact ⟨bu (aH (fun h => by have := h.vert k (by rw [H1.out]; exact hlt); have := hl.out; omega)).symm, (by repeat' (first | (with_reducible exact Below.refl _ _) | (with_reducible assumption) | (with_reducible apply ao) | (with_reducible apply Below.alloc) | (with_reducible apply Below.drew) | (with_reducible apply al) | (with_reducible refine Below.trans ?_ (Below.mono (by assumption) ?_)) | omega | (simp only [World.size_alloc, World.size_setCell, World.size_drew]; omega)))⟩)
             | (go_roundw
                case rel=>exact ⟨k + 1,_,by omega,by go_num,hS.next ⟨HO.out.1,HO.out.2,by have:=hl.out;omega,by have:=hl.out;omega,by rw [H1.out];exact K1.out⟩,rfl⟩
                case measure=>simp [intOf];omega)
          · have k1 : tf (bC (gr a.nxt k) n2) = false:=aH hs
            have K1:=Lib.hid hs
            clear hs
            go_wp2_with (first
             | (go_at_call 65; refine (dF _ _ _ _ k2.out _).mono ?_; rintro e w2 ⟨rfl, rfl⟩)
             | (go_at_call 68; refine (gz _ _ _ _ _ _ (hI.below (by repeat' (first | (with_reducible exact Below.refl _ _) | (with_reducible assumption) | (with_reducible apply ao) | (with_reducible apply Below.alloc) | (with_reducible apply Below.drew) | (with_reducible apply al) | (with_reducible refine Below.trans ?_ (Below.mono (by assumption) ?_)) | omega | (simp only [World.size_alloc, World.size_setCell, World.size_drew]; omega)))) (by omega) (by omega)).mono ?_; rw [k1]; rintro e w2 ⟨rfl, q3, rfl⟩))
            all_goals go_ret
            all_goals exact ⟨bu (aH (fun h=>K1.out (by have:=(h.vert k (by rw [H1.out];exact hlt)).2.2.2.2;rwa [H1.out] at this))).symm,(by repeat' (first|(with_reducible exact Below.refl _ _)|(with_reducible assumption)|(with_reducible apply ao)|(with_reducible apply Below.alloc)|(with_reducible apply Below.drew)|(with_reducible apply al)|(with_reducible refine Below.trans ?_ (Below.mono (by assumption) ?_))|omega|(simp only [World.size_alloc,World.size_setCell,World.size_drew];omega)))⟩
        · have k2:=Lib.hid (aH ho)
          have HO:=Lib.hid ho
          clear ho
          go_wp2_with (go_at_call 65;refine (dF _ _ _ _ k2.out _).mono ?_;rintro e w2 ⟨rfl,rfl⟩)
          go_ret
          exact ⟨bu (aH (fun h=>HO.out (by have:=h.vert k (by rw [H1.out];exact hlt);omega))).symm,(by repeat' (first|(with_reducible exact Below.refl _ _)|(with_reducible assumption)|(with_reducible apply ao)|(with_reducible apply Below.alloc)|(with_reducible apply Below.drew)|(with_reducible apply al)|(with_reducible refine Below.trans ?_ (Below.mono (by assumption) ?_))|omega|(simp only [World.size_alloc,World.size_setCell,World.size_drew];omega)))⟩
      · go_wp2
        go_ret
        exact ⟨bu (bh ⟨by rw [H1.out];omega,by rw [H1.out];omega,by rw [H1.out,H2.out],fun v hv=>hS v (by rw [H1.out] at hv;omega)⟩).symm,(by repeat' (first|(with_reducible exact Below.refl _ _)|(with_reducible assumption)|(with_reducible apply ao)|(with_reducible apply Below.alloc)|(with_reducible apply Below.drew)|(with_reducible apply al)|(with_reducible refine Below.trans ?_ (Below.mono (by assumption) ?_))|omega|(simp only [World.size_alloc,World.size_setCell,World.size_drew];omega)))⟩
   · go_enter Try.func81,Try.ntmps81
     go_wp2_with (go_at_call 65;refine (dF _ _ _ _ k0.out _).mono ?_;rintro e w2 ⟨rfl,rfl⟩)
     go_ret
     exact ⟨bu (aH (fun h=>by have:=h.len;have:=H1.out;have:=H2.out;omega)).symm,(by repeat' (first|(with_reducible exact Below.refl _ _)|(with_reducible assumption)|(with_reducible apply ao)|(with_reducible apply Below.alloc)|(with_reducible apply Below.drew)|(with_reducible apply al)|(with_reducible refine Below.trans ?_ (Below.mono (by assumption) ?_))|omega|(simp only [World.size_alloc,World.size_setCell,World.size_drew];omega)))⟩
 · have k0:=Lib.hid (aH (p:=(1 : Int) ≤ n1 ∧ (n1 : Int) ≤ 256) (by omega))
   go_enter Try.func81,Try.ntmps81
   go_wp2_with (go_at_call 65;refine (dF _ _ _ _ k0.out _).mono ?_;rintro e w2 ⟨rfl,rfl⟩)
   go_ret
   exact ⟨bu (aH (fun h=>by have:=h.pos;have:=h.le;have:=H1.out;omega)).symm,(by repeat' (first|(with_reducible exact Below.refl _ _)|(with_reducible assumption)|(with_reducible apply ao)|(with_reducible apply Below.alloc)|(with_reducible apply Below.drew)|(with_reducible apply al)|(with_reducible refine Below.trans ?_ (Below.mono (by assumption) ?_))|omega|(simp only [World.size_alloc,World.size_setCell,World.size_drew];omega)))⟩
end Go.Proofs.Ythjamlponejffaa
namespace Go.Proofs.Ythjamlponejffaa
set_option linter.unusedVariables false
set_option linter.unusedSimpArgs false
open Go.RowKit
set_option maxHeartbeats 1000000 in
theorem rm (v : Value) (g : Pa) (w : World) (hP : IsP w v g) :
  Calls Try.prog 74 #[v] w (Bb w (tf (PaOk g))):=by
 obtain ⟨_,_,_,rfl,⟨s1,n1,c1,rfl,h1⟩,⟨s2,n2,c2,rfl,h2⟩,⟨s3,n3,c3,rfl,h3⟩⟩:=hP
 have hA : IsA w (.agg #[.slice s1 n1 c1,.slice s2 n2 c2]) g.ar:=⟨_,_,rfl,h1.is,h2.is⟩
 have hm3:=h3.max
 have H1:=Lib.hid h1.1
 have H3:=Lib.hid h3.1
 by_cases ha : ArOk g.ar
 · have ka : tf (ArOk g.ar) = true:=bh ha
   have KA:=Lib.hid ha
   clear ha
   by_cases he : n3 = n1
   · subst he
     go_enter Try.func74,Try.ntmps74
     go_wp2_with (go_at_call 78;refine (jQ _ _ _ (hA.below (by repeat' (first|(with_reducible exact Below.refl _ _)|(with_reducible assumption)|(with_reducible apply ao)|(with_reducible apply Below.alloc)|(with_reducible apply Below.drew)|(with_reducible apply al)|(with_reducible refine Below.trans ?_ (Below.mono (by assumption) ?_))|omega|(simp only [World.size_alloc,World.size_setCell,World.size_drew];omega))))).mono ?_;rw [ka];rintro e w2 ⟨rfl,hb2⟩;have hcf:=ik hb2;obtain ⟨hcell2,hfr2⟩:=hcf)
     go_loop [22] (fun i=>∃ k : Nat,k ≤ n3 ∧ i = .int .i64 k ∧ ∀ v,v < k → 0 ≤ gi g.prio v ∧ gi g.prio v ≤ 40) (fun i=>n3 - (intOf i).toNat)
     case atStart=>exact ⟨0,by omega,rfl,fun j hj=>by omega⟩
     case round =>
      obtain ⟨k,hk,rfl,hS⟩:=hrel
      have HS:=Lib.hid hS
      clear hS
      by_cases hlt : k < n3
      · obtain ⟨b,o,rfl,hbl,hc⟩:=(h3.below (w':=w2) (by repeat' (first|(with_reducible exact Below.refl _ _)|(with_reducible assumption)|(with_reducible apply ao)|(with_reducible apply Below.alloc)|(with_reducible apply Below.drew)|(with_reducible apply al)|(with_reducible refine Below.trans ?_ (Below.mono (by assumption) ?_))|omega|(simp only [World.size_alloc,World.size_setCell,World.size_drew];omega)))).get hlt
        have hck:=hc k hlt
        clear hc
        go_wp2
        all_goals first
         | (go_ret; exact ⟨bu (aH (fun h => by have := h.prio k (by rw [H3.out]; exact hlt); omega)).symm, (by repeat' (first | (with_reducible exact Below.refl _ _) | (with_reducible assumption) | (with_reducible apply ao) | (with_reducible apply Below.alloc) | (with_reducible apply Below.drew) | (with_reducible apply al) | (with_reducible refine Below.trans ?_ (Below.mono (by assumption) ?_)) | omega | (simp only [World.size_alloc, World.size_setCell, World.size_drew]; omega)))⟩)
         | (go_round
            case rel=>exact ⟨k + 1,by omega,by go_num,fun j hj=>by
               by_cases e : j = k
               · rw [e];omega
               · exact HS.out j (by omega)⟩
            case measure=>simp [intOf];omega)
      · go_wp2
        go_ret
        exact ⟨bu (bh ⟨KA.out,by rw [H3.out,H1.out],fun v hv=>HS.out v (by rw [H3.out] at hv;omega)⟩).symm,(by repeat' (first|(with_reducible exact Below.refl _ _)|(with_reducible assumption)|(with_reducible apply ao)|(with_reducible apply Below.alloc)|(with_reducible apply Below.drew)|(with_reducible apply al)|(with_reducible refine Below.trans ?_ (Below.mono (by assumption) ?_))|omega|(simp only [World.size_alloc,World.size_setCell,World.size_drew];omega)))⟩
   · have hb1 : (n3 != n1) = true:=by simp [he]
     have hb3 : ((n3 : Int) != (n1 : Int)) = true:=by simp;omega
     go_enter Try.func74,Try.ntmps74
     go_wp2_with (go_at_call 78;refine (jQ _ _ _ (hA.below (by repeat' (first|(with_reducible exact Below.refl _ _)|(with_reducible assumption)|(with_reducible apply ao)|(with_reducible apply Below.alloc)|(with_reducible apply Below.drew)|(with_reducible apply al)|(with_reducible refine Below.trans ?_ (Below.mono (by assumption) ?_))|omega|(simp only [World.size_alloc,World.size_setCell,World.size_drew];omega))))).mono ?_;rw [ka];rintro e w2 ⟨rfl,hb2⟩;have hcf:=ik hb2;obtain ⟨hcell2,hfr2⟩:=hcf)
     go_ret
     exact ⟨bu (aH (fun h=>by have:=h.len;have:=H1.out;have:=H3.out;omega)).symm,(by repeat' (first|(with_reducible exact Below.refl _ _)|(with_reducible assumption)|(with_reducible apply ao)|(with_reducible apply Below.alloc)|(with_reducible apply Below.drew)|(with_reducible apply al)|(with_reducible refine Below.trans ?_ (Below.mono (by assumption) ?_))|omega|(simp only [World.size_alloc,World.size_setCell,World.size_drew];omega)))⟩
 · have ka : tf (ArOk g.ar) = false:=aH ha
   have KA:=Lib.hid ha
   clear ha
   go_enter Try.func74,Try.ntmps74
   go_wp2_with (go_at_call 78;refine (jQ _ _ _ (hA.below (by repeat' (first|(with_reducible exact Below.refl _ _)|(with_reducible assumption)|(with_reducible apply ao)|(with_reducible apply Below.alloc)|(with_reducible apply Below.drew)|(with_reducible apply al)|(with_reducible refine Below.trans ?_ (Below.mono (by assumption) ?_))|omega|(simp only [World.size_alloc,World.size_setCell,World.size_drew];omega))))).mono ?_;rw [ka];rintro e w2 ⟨rfl,hb2⟩;have hcf:=ik hb2;obtain ⟨hcell2,hfr2⟩:=hcf)
   go_ret
   exact ⟨bu (aH (fun h=>KA.out h.ar)).symm,(by repeat' (first|(with_reducible exact Below.refl _ _)|(with_reducible assumption)|(with_reducible apply ao)|(with_reducible apply Below.alloc)|(with_reducible apply Below.drew)|(with_reducible apply al)|(with_reducible refine Below.trans ?_ (Below.mono (by assumption) ?_))|omega|(simp only [World.size_alloc,World.size_setCell,World.size_drew];omega)))⟩
set_option maxHeartbeats 1000000 in
theorem rn (v : Value) (g : Pa) (w : World) (hP : IsP w v g) :
  Calls Try.prog 39 #[v] w (Bb w (tf (PaOk g))):=by
 obtain ⟨_,_,_,rfl,⟨s1,n1,c1,rfl,h1⟩,⟨s2,n2,c2,rfl,h2⟩,⟨s3,n3,c3,rfl,h3⟩⟩:=hP
 have hA : IsA w (.agg #[.slice s1 n1 c1,.slice s2 n2 c2]) g.ar:=⟨_,_,rfl,h1.is,h2.is⟩
 have hm3:=h3.max
 have H1:=Lib.hid h1.1
 have H3:=Lib.hid h3.1
 by_cases ha : ArOk g.ar
 · have ka : tf (ArOk g.ar) = true:=bh ha
   have KA:=Lib.hid ha
   clear ha
   by_cases he : n3 = n1
   · subst he
     go_enter Try.func39,Try.ntmps39
     go_wp2_with (go_at_call 81;refine (lH _ _ _ (hA.below (by repeat' (first|(with_reducible exact Below.refl _ _)|(with_reducible assumption)|(with_reducible apply ao)|(with_reducible apply Below.alloc)|(with_reducible apply Below.drew)|(with_reducible apply al)|(with_reducible refine Below.trans ?_ (Below.mono (by assumption) ?_))|omega|(simp only [World.size_alloc,World.size_setCell,World.size_drew];omega))))).mono ?_;rw [ka];rintro e w2 ⟨rfl,hb2⟩;have hcf:=ik hb2;obtain ⟨hcell2,hfr2⟩:=hcf)
     go_loop [3] (fun i=>∃ k : Nat,k ≤ n3 ∧ i = .int .i64 k ∧ ∀ v,v < k → 0 ≤ gi g.prio v ∧ gi g.prio v ≤ 40) (fun i=>n3 - (intOf i).toNat)
     case atStart=>exact ⟨0,by omega,rfl,fun j hj=>by omega⟩
     case round =>
      obtain ⟨k,hk,rfl,hS⟩:=hrel
      have HS:=Lib.hid hS
      clear hS
      by_cases hlt : k < n3
      · obtain ⟨b,o,rfl,hbl,hc⟩:=(h3.below (w':=w2) (by repeat' (first|(with_reducible exact Below.refl _ _)|(with_reducible assumption)|(with_reducible apply ao)|(with_reducible apply Below.alloc)|(with_reducible apply Below.drew)|(with_reducible apply al)|(with_reducible refine Below.trans ?_ (Below.mono (by assumption) ?_))|omega|(simp only [World.size_alloc,World.size_setCell,World.size_drew];omega)))).get hlt
        have hck:=hc k hlt
        clear hc
        by_cases hp : 0 ≤ gi g.prio k ∧ gi g.prio k ≤ 40
        · have k2:=Lib.hid (bh hp)
          have HP:=Lib.hid hp
          clear hp
          go_wp2_with (go_at_call 65;refine (dF _ _ _ _ k2.out _).mono ?_;rintro e w3 ⟨rfl,rfl⟩)
          go_round
          case rel=>exact ⟨k + 1,by omega,by go_num,fun j hj=>by
           by_cases e : j = k
           · rw [e];exact HP.out
           · exact HS.out j (by omega)⟩
          case measure=>simp [intOf];omega
        · have k2:=Lib.hid (aH hp)
          have HP:=Lib.hid hp
          clear hp
          go_wp2_with (go_at_call 65;refine (dF _ _ _ _ k2.out _).mono ?_;rintro e w3 ⟨rfl,rfl⟩)
          go_ret
          exact ⟨bu (aH (fun h=>HP.out (h.prio k (by rw [H3.out];exact hlt)))).symm,(by repeat' (first|(with_reducible exact Below.refl _ _)|(with_reducible assumption)|(with_reducible apply ao)|(with_reducible apply Below.alloc)|(with_reducible apply Below.drew)|(with_reducible apply al)|(with_reducible refine Below.trans ?_ (Below.mono (by assumption) ?_))|omega|(simp only [World.size_alloc,World.size_setCell,World.size_drew];omega)))⟩
      · go_wp2
        go_ret
        exact ⟨bu (bh ⟨KA.out,by rw [H3.out,H1.out],fun v hv=>HS.out v (by rw [H3.out] at hv;omega)⟩).symm,(by repeat' (first|(with_reducible exact Below.refl _ _)|(with_reducible assumption)|(with_reducible apply ao)|(with_reducible apply Below.alloc)|(with_reducible apply Below.drew)|(with_reducible apply al)|(with_reducible refine Below.trans ?_ (Below.mono (by assumption) ?_))|omega|(simp only [World.size_alloc,World.size_setCell,World.size_drew];omega)))⟩
   · have hb1 : (n3 != n1) = true:=by simp [he]
     have hb3 : ((n3 : Int) != (n1 : Int)) = true:=by simp;omega
     go_enter Try.func39,Try.ntmps39
     go_wp2_with (go_at_call 81;refine (lH _ _ _ (hA.below (by repeat' (first|(with_reducible exact Below.refl _ _)|(with_reducible assumption)|(with_reducible apply ao)|(with_reducible apply Below.alloc)|(with_reducible apply Below.drew)|(with_reducible apply al)|(with_reducible refine Below.trans ?_ (Below.mono (by assumption) ?_))|omega|(simp only [World.size_alloc,World.size_setCell,World.size_drew];omega))))).mono ?_;rw [ka];rintro e w2 ⟨rfl,hb2⟩;have hcf:=ik hb2;obtain ⟨hcell2,hfr2⟩:=hcf)
     go_ret
     exact ⟨bu (aH (fun h=>by have:=h.len;have:=H1.out;have:=H3.out;omega)).symm,(by repeat' (first|(with_reducible exact Below.refl _ _)|(with_reducible assumption)|(with_reducible apply ao)|(with_reducible apply Below.alloc)|(with_reducible apply Below.drew)|(with_reducible apply al)|(with_reducible refine Below.trans ?_ (Below.mono (by assumption) ?_))|omega|(simp only [World.size_alloc,World.size_setCell,World.size_drew];omega)))⟩
 · have ka : tf (ArOk g.ar) = false:=aH ha
   have KA:=Lib.hid ha
   clear ha
   go_enter Try.func39,Try.ntmps39
   go_wp2_with (go_at_call 81;refine (lH _ _ _ (hA.below (by repeat' (first|(with_reducible exact Below.refl _ _)|(with_reducible assumption)|(with_reducible apply ao)|(with_reducible apply Below.alloc)|(with_reducible apply Below.drew)|(with_reducible apply al)|(with_reducible refine Below.trans ?_ (Below.mono (by assumption) ?_))|omega|(simp only [World.size_alloc,World.size_setCell,World.size_drew];omega))))).mono ?_;rw [ka];rintro e w2 ⟨rfl,hb2⟩;have hcf:=ik hb2;obtain ⟨hcell2,hfr2⟩:=hcf)
   go_ret
   exact ⟨bu (aH (fun h=>KA.out h.ar)).symm,(by repeat' (first|(with_reducible exact Below.refl _ _)|(with_reducible assumption)|(with_reducible apply ao)|(with_reducible apply Below.alloc)|(with_reducible apply Below.drew)|(with_reducible apply al)|(with_reducible refine Below.trans ?_ (Below.mono (by assumption) ?_))|omega|(simp only [World.size_alloc,World.size_setCell,World.size_drew];omega)))⟩
end Go.Proofs.Ythjamlponejffaa
