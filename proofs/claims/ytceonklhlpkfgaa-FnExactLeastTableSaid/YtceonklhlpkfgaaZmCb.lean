/-
  Words for all walks: facts carried from world to world; the rules of make and append on a slice of the call's own.
-/
import Derived.Test.YtceonklhlpkfgaaZmCa
import Derived.Laws.AppendOwnNone
import Derived.ArgAppend
namespace Go.Proofs.Ytceonklhlpkfgaa
set_option linter.unusedVariables false
set_option linter.unusedSimpArgs false
open Go.RowKit
def Bi (w : World) (x : Int) (e : Ending) (w' : World) : Prop:=e = .returned (.int .i64 x) ∧ Below w.heap.size w w'
theorem al {w w' : World} {b o : Nat} {v : Value} (h : w.cell? ⟨b,o,none⟩ = some v) (hb : Below w.heap.size w w') : w'.cell? ⟨b,o,none⟩ = some v:=by
 rw [hb.cell (World.block_lt_of_cell? w _ h)];exact h
theorem gy {w w' : World} (h : Below w.drew.heap.size w.drew w') : Below w.heap.size w w':=(bq w).trans h
structure Outside (lo hi : Nat) (w w' : World) : Prop where
 os : w'.os = w.os
 tape : w'.tape = w.tape
 output : w'.output = w.output
 size : w.heap.size ≤ w'.heap.size
 block : ∀ k,k < w.heap.size → (k < lo ∨ hi ≤ k) → w'.heap[k]? = w.heap[k]?
theorem Outside.refl (lo hi : Nat) (w : World) : Outside lo hi w w:=⟨rfl,rfl,rfl,Nat.le_refl _,fun _ _ _=>rfl⟩
theorem Outside.trans {lo hi : Nat} {a b c : World} (h : Outside lo hi a b) (k : Outside lo hi b c) : Outside lo hi a c :=
 ⟨k.os.trans h.os,k.tape.trans h.tape,k.output.trans h.output,Nat.le_trans h.size k.size,fun i hi' ho=>(k.block i (Nat.lt_of_lt_of_le hi' h.size) ho).trans (h.block i hi' ho)⟩
theorem Outside.mono {lo hi lo' hi' : Nat} {a b : World} (h : Outside lo hi a b) (h1 : lo' ≤ lo) (h2 : hi ≤ hi') : Outside lo' hi' a b :=
 ⟨h.os,h.tape,h.output,h.size,fun k hk ho=>h.block k hk (by omega)⟩
theorem Below.outside {a b : World} (h : Below a.heap.size a b) (lo hi : Nat) : Outside lo hi a b:=⟨h.os,h.tape,h.output,h.size,fun k hk _=>h.block k hk⟩
theorem Outside.below {lo hi B : Nat} {a b : World} (h : Outside lo hi a b) (hB : B ≤ lo ∧ B ≤ a.heap.size) : Below B a b:=⟨h.os,h.tape,h.output,h.size,fun k hk=>h.block k (by omega) (by omega)⟩
theorem Outside.set {lo hi : Nat} {a w : World} (h : Outside lo hi a w) {g k : Nat} (hg : lo ≤ g ∧ g < hi) (u : Value) : Outside lo hi a (w.setCell ⟨g,k,none⟩ u) :=
 h.trans ⟨rfl,rfl,rfl,by rw [World.size_setCell];exact Nat.le_refl _,fun i hi' ho=>Below.heap_setCell _ _ _ _ (fun e=>by simp only at e;omega)⟩
theorem cm {lo hi : Nat} {w w' : World} {b o : Nat} {v : Value} (h : w.cell? ⟨b,o,none⟩ = some v) (hO : Outside lo hi w w') (hb : b < lo ∨ hi ≤ b) : w'.cell? ⟨b,o,none⟩ = some v:=by
 have:=World.block_lt_of_cell? w _ h
 rw [World.cell?_of_block (w:=w) (hO.block b this hb)];exact h
theorem Outside.kept {lo hi lo' hi' : Nat} {w w' : World} (hO : Outside lo hi w w') (hd : hi' ≤ lo ∨ hi ≤ lo') : bp lo' hi' w w':=⟨hO.size,fun g h1 h2 h3=>hO.block g h3 (by omega)⟩
theorem aA.out {lo hi lo' hi' : Nat} {w w' : World} {v : Value} {x : List Int} (h : aA lo' hi' w v x) (hO : Outside lo hi w w') (hd : hi' ≤ lo ∨ hi ≤ lo') : aA lo' hi' w' v x:=h.kept (hO.kept hd)
theorem cE.out {lo hi lo' hi' : Nat} {w w' : World} {v : Value} {x : Pa} (h : cE lo' hi' w v x) (hO : Outside lo hi w w') (hd : hi' ≤ lo ∨ hi ≤ lo') : cE lo' hi' w' v x:=h.kept (hO.kept hd)
theorem dp.out {lo hi lo' hi' : Nat} {w w' : World} {v : Value} {x : List (List Int)} (h : dp lo' hi' w v x) (hO : Outside lo hi w w') (hd : hi' ≤ lo ∨ hi ≤ lo') : dp lo' hi' w' v x:=let ⟨vs,h⟩:=h;⟨vs,h.kept (hO.kept hd)⟩
theorem dp.below {lo hi : Nat} {w w' : World} {v : Value} {x : List (List Int)} (h : dp lo hi w v x) (hb : Below w.heap.size w w') : dp lo hi w' v x:=let ⟨vs,h⟩:=h;⟨vs,h.below hb⟩
theorem dp.is {lo hi : Nat} {w : World} {v : Value} {x : List (List Int)} (h : dp lo hi w v x) : cD w v x:=let ⟨_,h⟩:=h;h.is
theorem IsP.form {w : World} {v : Value} {g : Pa} (h : IsP w v g) : ∃ s0 n0 c0 s1 n1 c1 s2 n2 c2,v = .agg #[.slice s0 n0 c0,.slice s1 n1 c1,.slice s2 n2 c2]:=by
 obtain ⟨_,_,_,rfl,⟨s1,n1,c1,rfl,_⟩,⟨s2,n2,c2,rfl,_⟩,⟨s3,n3,c3,rfl,_⟩⟩:=h
 exact ⟨_,_,_,_,_,_,_,_,_,rfl⟩
theorem IsI.form {w : World} {v : Value} {g : List Int} (h : IsI w v g) : ∃ s0 n0 c0,v = .slice s0 n0 c0:=let ⟨s,n,c,e,_⟩:=h;⟨s,n,c,e⟩
theorem cD.form {w : World} {v : Value} {g : List (List Int)} (h : cD w v g) : ∃ s0 n0 c0,v = .slice s0 n0 c0:=let ⟨s,n,c,e,_⟩:=h;⟨s,n,c,e⟩
theorem IsI.ints {w : World} {s : Option Addr} {n c : Nat} {g : List Int} (h : IsI w (.slice s n c) g) : b8 w s n c g:=by
 obtain ⟨_,_,_,e,h⟩:=h
 simp only [Value.slice.injEq] at e
 obtain ⟨rfl,rfl,rfl⟩:=e
 exact h
theorem cD.rws {w : World} {s : Option Addr} {n c : Nat} {g : List (List Int)} (h : cD w (.slice s n c) g) : Rws w s n c g:=by
 obtain ⟨_,_,_,e,h⟩:=h
 simp only [Value.slice.injEq] at e
 obtain ⟨rfl,rfl,rfl⟩:=e
 exact h
def d5 (w : World) (g : List Int) (e : Ending) (w' : World) : Prop:=∃ s n c,e = .returned (.slice s n c) ∧ aA w.heap.size w'.heap.size w' (.slice s n c) g ∧ Below w.heap.size w w'
def m8 (w w' : World) : Prop:=Below w.heap.size w w'
theorem m8.trans {a b c : World} (h : m8 a b) (k : Below b.heap.size b c) : m8 a c:=Below.trans h (k.mono h.size)
theorem m9 (p : Prop) : (Hid (tf p = true) ∧ Hid p) ∨ (Hid (tf p = false) ∧ Hid (¬ p)):=by
 by_cases h : p
 · exact Or.inl ⟨aE h,h⟩
 · exact Or.inr ⟨ap h,h⟩
def Blk (w : World) (B : Nat) (cs : List Value) (T : TypeId) : Prop:=w.heap[B]? = some (.cells cs.toArray T (0,0))
theorem Blk.cell {w : World} {B : Nat} {cs : List Value} {T : TypeId} (h : Blk w B cs T) (k : Nat) {v : Value} (hv : cs[k]? = some v) : w.cell? ⟨B,k,none⟩ = some v:=by
 unfold Blk at h;simp [World.cell?,h,hv]
theorem Blk.lt {w : World} {B : Nat} {cs : List Value} {T : TypeId} (h : Blk w B cs T) : B < w.heap.size:=(Array.getElem?_eq_some_iff.1 h).1
theorem Blk.out {w w' : World} {B lo hi : Nat} {cs : List Value} {T : TypeId} (h : Blk w B cs T) (hO : Outside lo hi w w') (hd : B < lo ∨ hi ≤ B) : Blk w' B cs T:=(hO.block B h.lt hd).trans h
theorem Blk.below {w w' : World} {B : Nat} {cs : List Value} {T : TypeId} (h : Blk w B cs T) (hb : Below w.heap.size w w') : Blk w' B cs T:=(hb.block B h.lt).trans h
theorem Blk.alloc {w : World} {B : Nat} {cs : List Value} {T : TypeId} (h : Blk w B cs T) (o : Obj) : Blk (w.alloc o) B cs T:=h.below (ao w o)
theorem Blk.drew {w : World} {B : Nat} {cs : List Value} {T : TypeId} (h : Blk w B cs T) : Blk w.drew B cs T:=h.below (bq w)
theorem Blk.set {w : World} {B : Nat} {cs : List Value} {T : TypeId} (h : Blk w B cs T) (k : Nat) (u : Value) : Blk (w.setCell ⟨B,k,none⟩ u) B (cs.set k u) T:=by
 unfold Blk at h ⊢
 simp [World.setCell,Array.getElem?_modify,h]
theorem Blk.other {w : World} {B g : Nat} {cs : List Value} {T : TypeId} (h : Blk w B cs T) (hne : g ≠ B) (k : Nat) (u : Value) : Blk (w.setCell ⟨g,k,none⟩ u) B cs T :=
 (Below.heap_setCell _ _ _ _ (fun e=>hne e.symm)).trans h
theorem cF (w : World) (cs : List Value) (T : TypeId) : Blk (w.alloc (.cells cs.toArray T)) w.heap.size cs T:=heap_alloc_new _ _
theorem cG {e : TypeId} {lo hi : Nat} {w w' : World} {v : Value} {xs : List Value} (h : aC e lo hi w v xs) (hg : w.grownBy w' v.ownBlock) : Outside lo hi w w' :=
 ⟨hg.os,hg.tape,hg.output,hg.size,fun k hk ho=>hg.block k hk (fun e=>by have:=h.lt k e.symm;omega)⟩
theorem gj {w wr w2 : World} {hi : Nat} {o : Obj} (hb : Below w.heap.size w wr) (hO : Outside w.heap.size hi (wr.alloc o) w2) : Below w.heap.size w w2 :=
 (hb.alloc hb.size o).trans (hO.below ⟨Nat.le_refl _,by have:=hb.size;simp;omega⟩)
theorem nc {B : Nat} {w wr w2 : World} {lo hi : Nat} {o : Obj} (hb : Below B w wr) (hO : Outside lo hi (wr.alloc o) w2) (h1 : B ≤ lo) (h2 : B ≤ wr.heap.size) : Below B w w2 :=
 (hb.alloc h2 o).trans (hO.below ⟨h1,by simp;omega⟩)
theorem aA.off {lo hi : Nat} {w : World} {v : Value} {xs : List Int} (h : aA lo hi w v xs) {g : Nat} (hg : g < lo) (k : Nat) (u : Value) : aA lo hi (w.setCell ⟨g,k,none⟩ u) v xs :=
 aC.other h (fun e=>by have:=(aC.lt h _ e).1;omega) k u
theorem bY.off {lo hi : Nat} {w : World} {v : Value} {xs : List Bool} (h : bY lo hi w v xs) {g : Nat} (hg : g < lo) (k : Nat) (u : Value) : bY lo hi (w.setCell ⟨g,k,none⟩ u) v xs :=
 aC.other h (fun e=>by have:=(aC.lt h _ e).1;omega) k u
section
variable {w : World} {ops : Array Oper} {rest : List Oper} {o : Oper} {a : Act} {Q : Exit → Act → World → Prop}
theorem fg (hg : o.guard = none) (s x : Operand) (hop : o.op = .call { callee:=.builtin .append,args:=#[s,x],argTypes:=#[22,22] })
  {lo hi : Nat} {v : Value} {xs : List Int} (hs : a.eval s = v) (hown : aA lo hi w v xs) (y : Int) (b c : Nat) (hx : a.eval x = .slice (some ⟨b,0,none⟩) 1 c) (hcell : w.cell? ⟨b,0,none⟩ = some (.int .i64 y))
  (hlen : xs.length ≤ 1048576) (hbase : lo ≤ w.heap.size)
  (hK : ∀ sa c' w',aA lo w'.heap.size w' (.slice sa (xs.length + 1) c') (xs ++ [y]) → Outside lo hi w w' → wpList Try.prog ops Q rest (a.put o.dst (.slice sa (xs.length + 1) c')) w') :
  wpList Try.prog ops Q (o :: rest) a w:=by
 obtain ⟨i0,hi',hz0,hz1,hz2⟩:=info_parts Try.infoI
 refine wpList_append_own _ hg s x 22 hop lo 2 i0 (.int .i64 0) 1 8 Try.underlying22 hi' hz0 hz1 hz2 rfl (by decide) v xs.length (xs.map (.int .i64)) hs (by have:=aC.row hown;rwa [List.length_map] at this) ⟨b,0,none⟩ 1 c [.int .i64 y] hx rfl ?_ ?_ (by unfold maxLen;omega) (by omega) hbase ?_
 · intro j u hj
   match j,hj with
   | 0, hj => simp at hj; subst hj; simpa [Addr.add] using hcell
 · intro u hu;simp at hu;subst hu;rfl
 · intro v' w' h1 h2 _
   have h3 : aA lo w'.heap.size w' v' (xs ++ [y]):=by
    have:=bL h1
    rwa [show xs.map (Value.int .i64) ++ [.int .i64 y] = (xs ++ [y]).map (.int .i64) by simp] at this
   obtain ⟨sa,n',c',rfl,hI⟩:=h3.is
   have hn : n' = xs.length + 1:=by have:=hI.1;simp at this;omega
   subst hn
   exact hK sa c' w' h3 (cG hown h2)
end
theorem gz (a b : Int) : ((a != b) = false ∧ (a == b) = true ∧ Hid (a = b)) ∨ ((a != b) = true ∧ (a == b) = false ∧ Hid (a ≠ b)):=by
 by_cases h : a = b
 · exact Or.inl ⟨by simp [h],by simp [h],h⟩
 · exact Or.inr ⟨by simp [h],by simp [h],h⟩
end Go.Proofs.Ytceonklhlpkfgaa
namespace Go.Proofs.Ytceonklhlpkfgaa
set_option linter.unusedVariables false
set_option linter.unusedSimpArgs false
open Go.RowKit
section
variable {w : World} {o : Oper} {a : Act} {Q : Exit → Act → World → Prop} {K : Act → World → Prop}
theorem l4 {ops : Array Oper} {rest : List Oper} (hg : o.guard = none) (s x : Operand) (hop : o.op = .call { callee:=.builtin .append,args:=#[s,x],argTypes:=#[22,22] })
  (b : Addr) (hs : a.eval s = .slice (some b) 0 0) (y : Int) (bx c : Nat) (hx : a.eval x = .slice (some ⟨bx,0,none⟩) 1 c) (hcell : w.cell? ⟨bx,0,none⟩ = some (.int .i64 y))
  (hK : ∀ sa c' w',aA w.heap.size w'.heap.size w' (.slice sa 1 c') [y] → Below w.heap.size w w' → wpList Try.prog ops Q rest (a.put o.dst (.slice sa 1 c')) w') :
  wpList Try.prog ops Q (o :: rest) a w:=by
 obtain ⟨i0,hi',hz0,hz1,hz2⟩:=info_parts Try.infoI
 refine wpList_append_grows w hg s x 22 hop 2 i0 (.int .i64 0) 1 8 Try.underlying22 hi' hz0 hz1 hz2 rfl (by decide) (some b) 0 0 [] hs (by intro h;cases h) rfl (by intro b' _ j u h;simp at h) ⟨bx,0,none⟩ 1 c [.int .i64 y] hx rfl ?_ ?_ (by omega) (by unfold maxLen;omega) (by omega) ?_
 · intro j u hj
   match j,hj with
   | 0, hj => simp at hj; subst hj; simpa [Addr.add] using hcell
 · intro u hu;simp at hu;subst hu;rfl
 · intro v' w' h1 h2
   have h3 : aA w.heap.size w'.heap.size w' v' [y]:=by
    have:=bL h1
    unfold aA;simpa using this
   obtain ⟨sa,n',c',rfl,hJ⟩:=h3.is
   have hn' : n' = 1:=by have:=hJ.1;simpa using this.symm
   subst hn'
   exact hK sa c' w' h3 ((Below.refl _ _).grown h2 (Nat.le_refl _) (fun k h=>by cases h))
end
def ia (b : Addr) (lo hi : Nat) (w : World) (v : Value) (xs : List Int) : Prop:=aA lo hi w v xs ∨ (v = .slice (some b) 0 0 ∧ xs = [])
theorem ia.len {b : Addr} {lo hi : Nat} {w : World} {sa : Option Addr} {n cap : Nat} {xs : List Int} (h : ia b lo hi w (.slice sa n cap) xs) : xs.length = n:=by
 rcases h with h|⟨h,rfl⟩
 · exact h.len
 · injection h with _ h2 _;rw [h2];rfl
end Go.Proofs.Ytceonklhlpkfgaa
namespace Go.Proofs.Ytceonklhlpkfgaa
set_option linter.unusedVariables false
set_option linter.unusedSimpArgs false
open Go.RowKit
theorem ia.below {b : Addr} {lo hi : Nat} {w w' : World} {v : Value} {xs : List Int} (h : ia b lo hi w v xs) (hb : Below w.heap.size w w') : ia b lo hi w' v xs:=h.imp (fun h=>h.below hb) id
section
variable {w : World} {o : Oper} {a : Act} {Q : Exit → Act → World → Prop} {K : Act → World → Prop}
theorem jO (s x : Operand) (hop : o.op = .call { callee:=.builtin .append,args:=#[s,x],argTypes:=#[22,22] })
  {b : Addr} {lo hi : Nat} {v : Value} {xs : List Int} (hs : a.eval s = v) (hown : ia b lo hi w v xs) (y : Int) (bx c : Nat) (hx : a.eval x = .slice (some ⟨bx,0,none⟩) 1 c) (hcell : w.cell? ⟨bx,0,none⟩ = some (.int .i64 y))
  (hlen : xs.length ≤ 1048576) (hbase : lo ≤ w.heap.size)
  (hK : ∀ sa c' w',aA lo w'.heap.size w' (.slice sa (xs.length + 1) c') (xs ++ [y]) → Outside lo hi w w' → K (a.put o.dst (.slice sa (xs.length + 1) c')) w') : o.wp Try.prog a w K Q:=by
 obtain ⟨i0,hi',hz0,hz1,hz2⟩:=info_parts Try.infoI
 have hcells : ∀ (j : Nat) (u : Value),[Value.int .i64 y][j]? = some u → w.cell? ((⟨bx,0,none⟩ : Addr).add j) = some u:=by
  intro j u hj
  match j,hj with
  | 0, hj => simp at hj; subst hj; simpa [Addr.add] using hcell
 have h1c : ∀ u ∈ [Value.int .i64 y],u.oneCell' = true:=by intro u hu;simp at hu;subst hu;rfl
 rcases hown with hown|⟨rfl,rfl⟩
 · refine wp_append_own w s x 22 hop lo 2 i0 (.int .i64 0) 1 8 Try.underlying22 hi' hz0 hz1 hz2 rfl (by decide) v xs.length (xs.map (.int .i64)) hs (by have:=aC.row hown;rwa [List.length_map] at this) ⟨bx,0,none⟩ 1 c [.int .i64 y] hx rfl hcells h1c (by unfold maxLen;omega) (by omega) hbase ?_
   intro v' w' h1 h2 _
   have h3 : aA lo w'.heap.size w' v' (xs ++ [y]):=by
    have:=bL h1
    rwa [show xs.map (Value.int .i64) ++ [.int .i64 y] = (xs ++ [y]).map (.int .i64) by simp] at this
   obtain ⟨sa,n',c',rfl,hI⟩:=h3.is
   have hn : n' = xs.length + 1:=by have:=hI.1;simp at this;omega
   subst hn
   exact hK sa c' w' h3 (cG hown h2)
 · have hnil : ∀ (j : Nat) (u : Value),([] : List Value)[j]? = some u → w.cell? (b.add j) = some u:=by
    intro j u h;simp at h
   obtain ⟨v',w',hrun,r1,r2⟩:=run_append_arg_grows (P:=Try.prog) w 22 o.type 2 i0 (.int .i64 0) 1 8 Try.underlying22 hi' hz0 hz1 hz2 rfl (by decide) b 0 0 [] rfl hnil ⟨bx,0,none⟩ 1 c [.int .i64 y] rfl hcells (by omega) (by unfold maxLen;omega) (by omega)
   have h3 : aA w.heap.size w'.heap.size w' v' [y]:=by
    have:=bL r1
    unfold aA;simpa using this
   obtain ⟨sa,n',c',rfl,hJ⟩:=h3.is
   have hn' : n' = 1:=by have:=hJ.1;simpa using this.symm
   subst hn'
   unfold Oper.wp execOp
   simp only [hop,resolve,invoke,builtin,Sem.run_bind,Sem.run_pure,Result.andThen_ok,List.map_toArray,List.map_cons,List.map_nil,hs,hx,hrun]
   exact hK sa c' w' (h3.mono hbase (Nat.le_refl _)) (Go.Proofs.Ytceonklhlpkfgaa.Below.outside ((Below.refl _ _).grown r2 (Nat.le_refl _) (fun k h=>by cases h)) _ _)
theorem ib {ops : Array Oper} {E : Prop} (hg : o.guard = none) (s x : Operand) (hop : o.op = .call { callee:=.builtin .append,args:=#[s,x],argTypes:=#[22,22] })
  {b : Addr} {lo hi : Nat} {v : Value} {xs : List Int} (hs : a.eval s = v) (hown : ia b lo hi w v xs) (y : Int) (bx c : Nat) (hx : a.eval x = .slice (some ⟨bx,0,none⟩) 1 c) (hcell : w.cell? ⟨bx,0,none⟩ = some (.int .i64 y))
  (hlen : xs.length ≤ 1048576) (hbase : lo ≤ w.heap.size)
  (hK : ∀ sa c' w',aA lo w'.heap.size w' (.slice sa (xs.length + 1) c') (xs ++ [y]) → Outside lo hi w w' → K (a.put o.dst (.slice sa (xs.length + 1) c')) w') :
  if Region.wanted o (yielded ops a.tmps) = true then Oper.wp Try.prog o a w K Q else E:=by
 have hw : Region.wanted o (yielded ops a.tmps) = true:=by simp [Region.wanted,hg]
 rw [if_pos hw]
 exact jO s x hop hs hown y bx c hx hcell hlen hbase hK
end
end Go.Proofs.Ytceonklhlpkfgaa
namespace Go.Proofs.Ytceonklhlpkfgaa
set_option linter.unusedVariables false
set_option linter.unusedSimpArgs false
open Go.RowKit
attribute [local go_sem ↓] Go.wp_at_zero Go.wp_at_succ
theorem l5 {w wr : World} {g k : Nat} (h : w.grownBy wr (some g)) (u : Value) : w.grownBy (wr.setCell ⟨g,k,none⟩ u) (some g) :=
 ⟨h.os,h.tape,h.output,by rw [World.size_setCell];exact h.size,fun j hj hne=>by rw [Below.heap_setCell _ _ _ _ (fun e=>hne (by rw [e]))];exact h.block j hj hne⟩
theorem aC.grown {e : TypeId} {lo hi : Nat} {w w' : World} {v : Value} {vs : List Value} {b : Option Nat} (h : aC e lo hi w v vs) (hg : w.grownBy w' b) (hne : ∀ g,blk v = some g → b ≠ some g) : aC e lo hi w' v vs :=
 h.keep fun g hb=>hg.block g (h.lt g hb).2.2 (fun e=>hne g hb e.symm)
theorem aA.grown {lo hi : Nat} {w w' : World} {v : Value} {xs : List Int} {b : Option Nat} (h : aA lo hi w v xs) (hg : w.grownBy w' b) (hne : ∀ g,blk v = some g → b ≠ some g) : aA lo hi w' v xs:=aC.grown h hg hne
structure Touch (B : Nat → Prop) (w w' : World) : Prop where
 os : w'.os = w.os
 tape : w'.tape = w.tape
 output : w'.output = w.output
 size : w.heap.size ≤ w'.heap.size
 block : ∀ k,k < w.heap.size → ¬ B k → w'.heap[k]? = w.heap[k]?
theorem Touch.refl (B : Nat → Prop) (w : World) : Touch B w w:=⟨rfl,rfl,rfl,Nat.le_refl _,fun _ _ _=>rfl⟩
theorem Touch.trans {B : Nat → Prop} {a b c : World} (h : Touch B a b) (k : Touch B b c) : Touch B a c :=
 ⟨k.os.trans h.os,k.tape.trans h.tape,k.output.trans h.output,Nat.le_trans h.size k.size,fun i hi hb=>(k.block i (Nat.lt_of_lt_of_le hi h.size) hb).trans (h.block i hi hb)⟩
theorem Touch.mono {B B' : Nat → Prop} {a b : World} (h : Touch B a b) (hB : ∀ g,B g → B' g) : Touch B' a b:=⟨h.os,h.tape,h.output,h.size,fun k hk hb=>h.block k hk fun h=>hb (hB k h)⟩
theorem Touch.outside {B : Nat → Prop} {lo hi : Nat} {a b : World} (h : Touch B a b) (hB : ∀ g,B g → lo ≤ g ∧ g < hi) : Outside lo hi a b:=⟨h.os,h.tape,h.output,h.size,fun k hk ho=>h.block k hk fun h=>by have:=hB k h;omega⟩
theorem cy {w w' : World} {b : Option Nat} (h : w.grownBy w' b) : Touch (fun g=>b = some g) w w':=⟨h.os,h.tape,h.output,h.size,fun k hk hb=>h.block k hk fun e=>hb e.symm⟩
theorem fU {B : Nat → Prop} {w w' : World} (h : Below w.heap.size w w') : Touch B w w':=⟨h.os,h.tape,h.output,h.size,fun k hk _=>h.block k hk⟩
theorem aC.touch {e : TypeId} {lo hi : Nat} {w w' : World} {v : Value} {vs : List Value} {B : Nat → Prop} (h : aC e lo hi w v vs) (hg : Touch B w w') (hne : ∀ g,blk v = some g → ¬ B g) : aC e lo hi w' v vs :=
 h.keep fun g hb=>hg.block g (h.lt g hb).2.2 (hne g hb)
theorem aA.touch {lo hi : Nat} {w w' : World} {v : Value} {xs : List Int} {B : Nat → Prop} (h : aA lo hi w v xs) (hg : Touch B w w') (hne : ∀ g,blk v = some g → ¬ B g) : aA lo hi w' v xs:=aC.touch h hg hne
theorem gA {B : Nat → Prop} {w w' : World} {b o : Nat} {v : Value} (h : w.cell? ⟨b,o,none⟩ = some v) (hO : Touch B w w') (hb : ¬ B b) : w'.cell? ⟨b,o,none⟩ = some v:=by
 have:=World.block_lt_of_cell? w _ h
 rw [World.cell?_of_block (w:=w) (hO.block b this hb)];exact h
def mkI (n : Nat) (k : Int) : List Int:=tab n fun j=>k + j
theorem oT (n : Nat) (k : Int) : (mkI n k).length = n:=bM _ _
theorem qc {n j : Nat} (k : Int) (h : j < n) : gi (mkI n k) j = k + j:=ca _ h
set_option maxHeartbeats 400000 in
theorem fH {lo hi : Nat} {w : World} {sa : Option Addr} {n c : Nat} {xs : List Int} (h : aA lo hi w (.slice sa n c) xs) (k : Int) (h0 : 0 ≤ k) (h1 : k ≤ 4611686018427387904) (hn : n ≤ 1048576) :
  Calls Try.prog 37 #[.slice sa n c,.int .i64 k] w fun e w'=>e = .returned (.int .i64 (k + n)) ∧ aA lo hi w' (.slice sa n c) (mkI n k) ∧ w.grownBy w' (blk (.slice sa n c)):=by
 have hl:=h.len
 go_enter Try.func37,Try.ntmps37
 go_wp2
 go_loopw [1,5] (fun q i wr=>∃ j : Nat,j ≤ n ∧ i = .int .i64 j ∧ q = .int .i64 (k + j) ∧ aA lo hi wr (.slice sa n c) (tab n fun i=>if i < j then k + i else gi xs i) ∧ w.grownBy wr (blk (.slice sa n c))) (fun _ i _=>n - (intOf i).toNat)
 case atStart =>
  refine ⟨0,by omega,rfl,by simp,?_,World.grownBy.refl _ _⟩
  rw [bX (g:=gi xs) (fun j hj=>if_neg (by omega))]
  rw [← hl] at h ⊢
  rwa [jL]
 case round =>
  obtain ⟨j,hj,rfl,rfl,ho,hg⟩:=hrel
  by_cases hlt : j < n
  · obtain ⟨g,cap,e,_⟩:=ho.at (k:=j) (by simpa using hlt)
    injection e with e1 e2 e3
    clear e2
    subst e1 e3
    obtain ⟨q1,q2,q3,q4⟩:=ho.cell hlt
    go_wp2
    go_roundw
    case rel =>
     refine ⟨j + 1,by omega,by go_num,by congr 1;omega,?_,l5 hg _⟩
     have:=aA.set ho j (k + j)
     rwa [jK (f:=fun i=>k + i) (d:=gi xs) hlt] at this
    case measure=>simp [intOf];omega
  · go_wp2
    go_ret
    have e : j = n:=by omega
    subst e
    refine ⟨rfl,?_,hg⟩
    rwa [bX (g:=fun i=>k + (i : Int)) (fun i hi=>if_pos hi)] at ho
set_option maxHeartbeats 400000 in
theorem l6 {w : World} {sa : Option Addr} {n c : Nat} (k : Int) (h : IsI w (.slice sa n c) (mkI n k)) (h0 : 0 ≤ k) (h1 : k ≤ 4611686018427387904) (hn : n ≤ 1048576) :
  Calls Try.prog 38 #[.slice sa n c,.int .i64 k] w fun e w'=>e = .returned (.int .i64 (k + n)) ∧ w = w':=by
 have hI:=h.ints
 clear h
 go_enter Try.func38,Try.ntmps38
 go_wp2
 go_loop [1,5] (fun q i=>∃ j : Nat,j ≤ n ∧ i = .int .i64 j ∧ q = .int .i64 (k + j)) (fun _ i=>n - (intOf i).toNat)
 case atStart=>exact ⟨0,by omega,rfl,by simp⟩
 case round =>
  obtain ⟨j,hj,rfl,rfl⟩:=hrel
  by_cases hlt : j < n
  · obtain ⟨b,o,rfl,hbl,hc⟩:=hI.get hlt
    have hck:=hc j hlt
    rw [qc k hlt] at hck
    clear hc
    go_wp2
    go_round
    case rel=>exact ⟨j + 1,by omega,by go_num,by congr 1;omega⟩
    case measure=>simp [intOf];omega
  · go_wp2
    go_ret
    have e : j = n:=by omega
    subst e
    exact ⟨rfl,rfl⟩
end Go.Proofs.Ytceonklhlpkfgaa
namespace Go.Proofs.Ytceonklhlpkfgaa
set_option linter.unusedVariables false
set_option linter.unusedSimpArgs false
open Go.RowKit
attribute [local go_sem ↓] Go.wp_at_zero Go.wp_at_succ
theorem dA {e e' : TypeId} {lo hi lo' hi' : Nat} {w : World} {v u : Value} {vs us : List Value} (h : aC e lo hi w v vs) (h' : aC e' lo' hi' w u us) (hne : e ≠ e') : ∀ g,blk v = some g → blk u ≠ some g:=by
 intro g hg hu
 rcases h with ⟨rfl,_⟩|⟨g1,c1,cur1,rfl,_,_,hh,_⟩
 · simp [blk,Value.ownBlock] at hg
 rcases h' with ⟨rfl,_⟩|⟨g2,c2,cur2,rfl,_,_,hh2,_⟩
 · simp [blk,Value.ownBlock] at hu
 simp [blk,Value.ownBlock] at hg hu
 subst hg hu
 rw [hh] at hh2
 simp at hh2
 exact hne hh2.2
theorem gB {vs : List Value} (h : (vs.filterMap blk).Nodup) {i j : Nat} (hi : i < vs.length) (hj : j < vs.length) (hij : i ≠ j) (d : Value) : ∀ g,blk (vs.getD i d) = some g → blk (vs.getD j d) ≠ some g:=by
 induction vs generalizing i j with
 | nil => simp at hi
 | cons v vs ih =>
   intro g h1 h2
   have hn : (vs.filterMap blk).Nodup:=by
    rw [List.filterMap_cons] at h
    cases hb : blk v with
    | none => rw [hb] at h; exact h
    | some x => rw [hb] at h; exact (List.nodup_cons.1 h).2
   have hmem : ∀ k,k < vs.length → blk (vs.getD k d) = some g → g ∈ vs.filterMap blk:=fun k hk hb=>List.mem_filterMap.2 ⟨vs.getD k d,by rw [List.getD_eq_getElem?_getD,List.getElem?_eq_getElem hk];exact List.getElem_mem hk,hb⟩
   have hv : blk v = some g → ¬ g ∈ vs.filterMap blk:=fun hb=>by rw [List.filterMap_cons,hb] at h;exact (List.nodup_cons.1 h).1
   cases i with
   | zero =>
     cases j with
     | zero => exact hij rfl
     | succ j => exact hv h1 (hmem j (by simpa using hj) (by simpa using h2))
   | succ i =>
     cases j with
     | zero => exact hv h2 (hmem i (by simpa using hi) (by simpa using h1))
     | succ j => exact ih hn (by simpa using hi) (by simpa using hj) (by omega) g (by simpa using h1) (by simpa using h2)
def ic (n : Nat) (f : Nat → List Int) : List (List Int):=(List.range n).map f
theorem ch (n : Nat) (f : Nat → List Int) : (ic n f).length = n:=by simp [ic]
theorem et {n k : Nat} (f : Nat → List Int) (h : k < n) : gr (ic n f) k = f k:=by simp [gr,ic,List.getD,h]
theorem lz {xs : List (List Int)} {n : Nat} {f : Nat → List Int} (hl : xs.length = n) (h : ∀ k,k < n → gr xs k = f k) : xs = ic n f :=
 mW (by rw [hl,ch]) fun k hk=>by rw [h k (by omega),et f (by omega)]
theorem gC {n : Nat} {f g : Nat → List Int} (h : ∀ k,k < n → f k = g k) : ic n f = ic n g:=lz (ch _ _) fun k hk=>by rw [et f hk,h k hk]
theorem l7 (xs : List (List Int)) : ic xs.length (gr xs) = xs:=(lz rfl fun _ _=>rfl).symm
def i7 (xss : List (List Int)) (k : Int) : List (List Int):=ic xss.length fun i=>mkI (gr xss i).length (k + b7 xss i)
def bR (xss : List (List Int)) : Nat:=b7 xss xss.length
theorem fV (xss : List (List Int)) {j : Nat} (h : j ≤ xss.length) : b7 xss j ≤ bR xss:=fG xss h
theorem aQ.len {lo hi : Nat} {w : World} {sa : Option Addr} {n c : Nat} {xss : List (List Int)} {vs : List Value} (h : aQ lo hi w (.slice sa n c) xss vs) : xss.length = n:=by
 obtain ⟨_,_,_,e,h1,_⟩:=h.is
 injection e with _ e2 _
 omega
theorem aQ.row {lo hi : Nat} {w : World} {sa : Option Addr} {n c : Nat} {xss : List (List Int)} {vs : List Value} (h : aQ lo hi w (.slice sa n c) xss vs) {j : Nat} (hj : j < n) :
  ∃ g s' n' c',sa = some ⟨g,0,none⟩ ∧ w.cell? ⟨g,j,none⟩ = some (.slice s' n' c') ∧ vs.getD j (.slice none 0 0) = .slice s' n' c' ∧ aA lo hi w (.slice s' n' c') (gr xss j) ∧ n' = (gr xss j).length:=by
 have hl:=h.len
 obtain ⟨g,cap,e,_,_,_,h3,_⟩:=h.2.1.at (k:=j) (.slice none 0 0) (by rw [h.1];omega)
 injection e with e1 _ _
 have hr:=h.2.2.1 j (by omega)
 obtain ⟨s',n',c',e',hI⟩:=hr.is
 have hc:=h3 j (by rw [h.1];omega)
 rw [e'] at hc hr
 exact ⟨g,s',n',c',e1,hc,e',hr,hI.1.symm⟩
set_option maxHeartbeats 800000 in
theorem gD {lo hi : Nat} {w : World} {sa : Option Addr} {n c : Nat} {xss : List (List Int)} {vs : List Value} (h : aQ lo hi w (.slice sa n c) xss vs) (k : Int) (h0 : 0 ≤ k) (h1 : k ≤ 2305843009213693952) (hn : n ≤ 1048576) (hs : bR xss ≤ 1048576) :
  Calls Try.prog 14 #[.slice sa n c,.int .i64 k] w fun e w'=>e = .returned (.int .i64 (k + bR xss)) ∧ aQ lo hi w' (.slice sa n c) (i7 xss k) vs ∧ Touch (fun g=>g ∈ vs.filterMap blk) w w':=by
 have hl:=h.len
 have HS:=Lib.hid hs
 have HL:=Lib.hid hl
 have hps:=fun j (hj : j ≤ n)=>fV xss (j:=j) (by omega)
 have HP:=Lib.hid hps
 clear hps hs hl
 go_enter Try.func14,Try.ntmps14
 go_wp2
 go_loopw [1,5] (fun q i wr=>∃ j : Nat,j ≤ n ∧ i = .int .i64 j ∧ q = .int .i64 (k + b7 xss j) ∧ aQ lo hi wr (.slice sa n c) (ic n fun i=>if i < j then mkI (gr xss i).length (k + b7 xss i) else gr xss i) vs ∧ Touch (fun g=>g ∈ vs.filterMap blk) w wr) (fun _ i _=>n - (intOf i).toNat)
 case atStart =>
  refine ⟨0,by omega,rfl,by simp [b7],?_,Touch.refl _ _⟩
  rw [gC (g:=gr xss) (fun j hj=>if_neg (by omega)),← HL.out,l7]
  rw [← HL.out] at h
  exact h
 case round =>
  obtain ⟨j,hj,rfl,rfl,ho,hO⟩:=hrel
  by_cases hlt : j < n
  · obtain ⟨g,s',n',c',rfl,hc,ev,hr,en⟩:=ho.row hlt
    rw [et _ hlt,if_neg (by omega)] at hr en
    have hp:=HP.out j hj
    have hs' : bR xss ≤ 1048576:=HS.out
    have hp2:=HP.out (j + 1) hlt
    have HE:=Lib.hid (show b7 xss (j + 1) = b7 xss j + n' by simp only [b7];rw [en])
    have EN:=Lib.hid en
    have EV:=Lib.hid ev
    have hn' : n' ≤ 1048576:=by have:=HE.out;omega
    clear en ev hs'
    generalize hq : b7 xss j = q at *
    have HQ:=Lib.hid hq
    clear hq
    have hk0 : (0 : Int) ≤ k + q:=by omega
    have hk1 : k + (q : Int) ≤ 4611686018427387904:=by have : bR xss ≤ 1048576:=HS.out;omega
    go_wp2_with (go_at_call 37;refine (fH hr _ hk0 hk1 hn').mono ?_;rintro e w2 ⟨rfl,hr2,hg2⟩)
    go_roundw
    case rel =>
     refine ⟨j + 1,by omega,by go_num,by rw [HE.out];congr 1;omega,?_,hO.trans ((cy hg2).mono fun g' hg'=>?_)⟩
     rotate_left
     · exact List.mem_filterMap.2 ⟨vs.getD j (.slice none 0 0),by rw [List.getD_eq_getElem?_getD,List.getElem?_eq_getElem (by have:=ho.1;rw [ch] at this;omega)];exact List.getElem_mem _,by rw [EV.out];exact hg'⟩
     refine ⟨by rw [ch];have:=ho.1;rwa [ch] at this,ho.2.1.grown hg2 (fun g' hg'=>dA ho.2.1 hr (by decide) g' hg'),?_,ho.2.2.2⟩
     intro i hi
     rw [ch] at hi
     rw [et _ hi]
     by_cases e : i = j
     · subst e
       rw [if_pos (by omega),EV.out,← EN.out]
       rwa [show (mkI n' (k + (b7 xss i : Int))) = mkI n' (k + (q : Int)) by rw [HQ.out]]
     · have:=ho.2.2.1 i (by rw [ch];exact hi)
       rw [et _ hi] at this
       rw [show (if i < j + 1 then mkI (gr xss i).length (k + b7 xss i) else gr xss i) = if i < j then mkI (gr xss i).length (k + b7 xss i) else gr xss i by
        by_cases e2 : i < j
        · rw [if_pos e2,if_pos (by omega)]
        · rw [if_neg e2,if_neg (by omega)]]
       refine this.grown hg2 fun g' hg'=>?_
       rw [← EV.out]
       have hvl : vs.length = n:=by have:=ho.1;rwa [ch] at this
       exact gB ho.2.2.2 (by omega) (by omega) e _ g' hg'
    case measure=>simp [intOf];omega
  · go_wp2
    go_ret
    have e : j = n:=by omega
    subst e
    refine ⟨bS (by unfold bR;rw [HL.out]),?_,hO⟩
    rw [gC (g:=fun i=>mkI (gr xss i).length (k + b7 xss i)) (fun i hi=>if_pos hi)] at ho
    unfold i7
    rw [HL.out]
    exact ho
set_option maxHeartbeats 800000 in
theorem kB {w : World} {sa : Option Addr} {n c : Nat} (xss : List (List Int)) (k : Int) (h : cD w (.slice sa n c) (i7 xss k)) (h0 : 0 ≤ k) (h1 : k ≤ 2305843009213693952) (hn : n ≤ 1048576) (hs : bR xss ≤ 1048576) :
  Calls Try.prog 15 #[.slice sa n c,.int .i64 k] w fun e w'=>e = .returned (.int .i64 (k + bR xss)) ∧ w = w':=by
 have hR:=h.rws
 have hl : xss.length = n:=by have:=hR.len;unfold i7 at this;rwa [ch] at this
 have HS:=Lib.hid hs
 have HL:=Lib.hid hl
 have hps:=fun j (hj : j ≤ n)=>fV xss (j:=j) (by omega)
 have HP:=Lib.hid hps
 clear hps hs hl h
 go_enter Try.func15,Try.ntmps15
 go_wp2
 go_loop [1,5] (fun q i=>∃ j : Nat,j ≤ n ∧ i = .int .i64 j ∧ q = .int .i64 (k + b7 xss j)) (fun _ i=>n - (intOf i).toNat)
 case atStart=>exact ⟨0,by omega,rfl,by simp [b7]⟩
 case round =>
  obtain ⟨j,hj,rfl,rfl⟩:=hrel
  by_cases hlt : j < n
  · obtain ⟨b,o,rfl,hbl,A,L,C,hc⟩:=hR.get hlt
    obtain ⟨hck,hI⟩:=hc j hlt
    unfold i7 at hI
    rw [et _ (by rw [HL.out];exact hlt)] at hI
    have en:=hI.1
    rw [oT] at en
    rw [en] at hI
    clear hc
    have hp:=HP.out j hj
    have hs' : bR xss ≤ 1048576:=HS.out
    have hp2:=HP.out (j + 1) hlt
    have HE:=Lib.hid (show b7 xss (j + 1) = b7 xss j + L j by simp only [b7];rw [en])
    have hn' : L j ≤ 1048576:=by have:=HE.out;omega
    clear en hs'
    generalize hq : b7 xss j = q at *
    have HQ:=Lib.hid hq
    clear hq
    have hk0 : (0 : Int) ≤ k + q:=by omega
    have hk1 : k + (q : Int) ≤ 4611686018427387904:=by have : bR xss ≤ 1048576:=HS.out;omega
    go_wp2_with (go_at_call 38;refine (l6 _ hI.is hk0 hk1 hn').mono ?_;rintro e w2 ⟨rfl,rfl⟩)
    all_goals first
     | (exfalso; omega)
     | (go_round
        case rel=>exact ⟨j + 1,by omega,by go_num,by rw [HE.out];congr 1;omega⟩
        case measure=>simp [intOf];omega)
  · go_wp2
    go_ret
    have e : j = n:=by omega
    subst e
    exact ⟨bS (by unfold bR;rw [HL.out]),rfl⟩
def fh (a : Ar) : Nat:=a.own.length + bR a.nxt
def lA (g : Pa) : Nat:=fh g.ar + g.prio.length
def mkA (a : Ar) (k : Int) : Ar:=⟨mkI a.own.length k,i7 a.nxt (k + a.own.length)⟩
def mkP (g : Pa) (k : Int) : Pa:=⟨mkA g.ar k,mkI g.prio.length (k + fh g.ar)⟩
theorem aQ.touch {lo hi : Nat} {w w' : World} {v : Value} {xss : List (List Int)} {vs : List Value} {B : Nat → Prop} (h : aQ lo hi w v xss vs) (hg : Touch B w w') (h0 : ∀ g,blk v = some g → ¬ B g) (h1 : ∀ g,g ∈ vs.filterMap blk → ¬ B g) : aQ lo hi w' v xss vs :=
 ⟨h.1,h.2.1.touch hg h0,fun k hk=>(h.2.2.1 k hk).touch hg fun g hb=>h1 g (List.mem_filterMap.2 ⟨vs.getD k (.slice none 0 0),by rw [List.getD_eq_getElem?_getD,List.getElem?_eq_getElem (by rw [h.1];exact hk)];exact List.getElem_mem _,hb⟩),h.2.2.2⟩
set_option maxHeartbeats 800000 in
theorem l8 {lo hi : Nat} {w : World} {s1 : Option Addr} {n1 c1 : Nat} {s2 : Option Addr} {n2 c2 : Nat} {a : Ar} {vs : List Value} (h1 : aA lo hi w (.slice s1 n1 c1) a.own) (h2 : aQ lo hi w (.slice s2 n2 c2) a.nxt vs) (hd : ((.slice s1 n1 c1 :: vs).filterMap blk).Nodup)
  (k : Int) (h0 : 0 ≤ k) (hk : k ≤ 1152921504606846976) (hn1 : n1 ≤ 1048576) (hn2 : n2 ≤ 1048576) (hs : bR a.nxt ≤ 1048576) (hhi : hi ≤ w.heap.size) :
  Calls Try.prog 36 #[.agg #[.slice s1 n1 c1,.slice s2 n2 c2],.int .i64 k] w fun e w'=>e = .returned (.int .i64 (k + fh a)) ∧ aA lo hi w' (.slice s1 n1 c1) (mkA a k).own ∧ aQ lo hi w' (.slice s2 n2 c2) (mkA a k).nxt vs ∧ Touch (fun g=>g ∈ (.slice s1 n1 c1 :: vs).filterMap blk) w w':=by
 have hl1:=Lib.hid h1.len
 have hne : ∀ g,blk (.slice s1 n1 c1) = some g → ¬ g ∈ vs.filterMap blk:=fun g hg hm=>by rw [List.filterMap_cons,hg] at hd;exact (List.nodup_cons.1 hd).1 hm
 have HNE:=Lib.hid hne
 clear hne
 have hO0:=dA h1 h2.2.1 (by decide)
 have HO0:=Lib.hid hO0
 clear hO0
 go_enter Try.func36,Try.ntmps36
 go_wp2_with fail
 refine (fH (aC.alloc h1 _) k h0 (by omega) hn1).mono ?_
 rintro e w2 ⟨rfl,hm1,hg1⟩
 have q0 : w2.cell? ⟨w.heap.size,0,none⟩ = some (.slice s1 n1 c1):=gA (B:=fun g=>blk (.slice s1 n1 c1) = some g) (by simp) (cy hg1) (fun hb=>by have:=(h1.blks _ hb).2;omega)
 have q1 : w2.cell? ⟨w.heap.size,1,none⟩ = some (.slice s2 n2 c2):=gA (B:=fun g=>blk (.slice s1 n1 c1) = some g) (by simp) (cy hg1) (fun hb=>by have:=(h1.blks _ hb).2;omega)
 have h2' : aQ lo hi w2 (.slice s2 n2 c2) a.nxt vs:=(h2.below (ao _ _)).touch (cy hg1) (fun g hg hb=>HO0.out g hb hg) (fun g hg hb=>HNE.out g hb hg)
 have hk2 : k + (n1 : Int) ≤ 2305843009213693952:=by omega
 have hk3 : 0 ≤ k + (n1 : Int):=by omega
 go_wp2_with (go_at_call 14;refine (gD h2' _ hk3 hk2 hn2 hs).mono ?_;rintro e w3 ⟨rfl,hm2,hg2⟩)
 go_ret
 refine ⟨bS (by unfold fh;rw [hl1.out];omega),?_,?_,?_⟩
 · unfold mkA;rw [hl1.out]
   exact hm1.touch hg2 (fun g hg=>HNE.out g hg)
 · unfold mkA;rw [hl1.out];exact hm2
 · refine (fU (ao _ _)).trans (((cy hg1).mono fun g hg=>?_).trans (hg2.mono fun g hg=>?_))
   · rw [List.filterMap_cons,hg];exact List.mem_cons_self
   · rw [List.filterMap_cons];cases blk (Value.slice s1 n1 c1) with
     | none => exact hg
     | some x => exact List.mem_cons_of_mem _ hg
theorem i8 {g : Nat} {v : Value} {vs : List Value} (h : blk v = some g) : g ∈ (v :: vs).filterMap blk:=by rw [List.filterMap_cons,h];exact List.mem_cons_self
theorem i9 {g : Nat} {v : Value} {vs : List Value} (h : g ∈ vs.filterMap blk) : g ∈ (v :: vs).filterMap blk:=by
 rw [List.filterMap_cons];cases blk v with
 | none => exact h
 | some x => exact List.mem_cons_of_mem _ h
theorem kC {v : Value} {vs : List Value} (h : ((v :: vs).filterMap blk).Nodup) : (∀ g,blk v = some g → ¬ g ∈ vs.filterMap blk) ∧ (vs.filterMap blk).Nodup:=by
 rw [List.filterMap_cons] at h
 cases hb : blk v with
 | none => rw [hb] at h; exact ⟨fun g hg => (by cases hg), h⟩
 | some x => rw [hb] at h; exact ⟨fun g hg => (by injection hg with hg; rw [← hg]; exact (List.nodup_cons.1 h).1), (List.nodup_cons.1 h).2⟩
set_option maxHeartbeats 800000 in
theorem l9 {lo hi : Nat} {w : World} {s1 : Option Addr} {n1 c1 : Nat} {s2 : Option Addr} {n2 c2 : Nat} {s3 : Option Addr} {n3 c3 : Nat} {g : Pa} (h : cE lo hi w (.agg #[.slice s1 n1 c1,.slice s2 n2 c2,.slice s3 n3 c3]) g)
  (k : Int) (h0 : 0 ≤ k) (hk : k ≤ 576460752303423488) (hs : szP g ≤ 1048576) (hhi : hi ≤ w.heap.size) :
  Calls Try.prog 13 #[.agg #[.slice s1 n1 c1,.slice s2 n2 c2,.slice s3 n3 c3],.int .i64 k] w fun e w'=>e = .returned (.int .i64 (k + lA g)) ∧ cE lo hi w' (.agg #[.slice s1 n1 c1,.slice s2 n2 c2,.slice s3 n3 c3]) (mkP g k) ∧ Outside lo hi w w':=by
 obtain ⟨_,_,_,vs,e,h1,h2,h3,hd⟩:=h
 simp only [Value.agg.injEq,Array.mk.injEq,List.cons.injEq,and_true] at e
 obtain ⟨rfl,rfl,rfl⟩:=e
 have hd':=(List.Perm.filterMap blk (List.Perm.swap (.slice s3 n3 c3) (.slice s1 n1 c1) vs)).nodup_iff.1 hd
 obtain ⟨hd1,hd2⟩:=kC hd'
 have HD:=Lib.hid hd1
 have HD0:=Lib.hid hd
 have hl1:=h1.len
 have hl2:=h2.len
 have hl3:=h3.len
 have hs1 : n1 ≤ 1048576 ∧ n2 ≤ 1048576 ∧ n3 ≤ 1048576 ∧ bR g.ar.nxt ≤ 1048576 ∧ fh g.ar ≤ 2097152:=by
  unfold szP szA cS at hs;unfold fh bR;omega
 have HL:=Lib.hid hl3
 have hb1 : ∀ x,blk (.slice s1 n1 c1) = some x → x < hi:=fun x hx=>(h1.blks x hx).2
 have hb3 : ∀ x,blk (.slice s3 n3 c3) = some x → x < hi:=fun x hx=>(h3.blks x hx).2
 have hbs : ∀ x,x ∈ vs.filterMap blk → x < hi:=fun x hx=>(h2.blks x hx).2
 have hB : ∀ x,x ∈ (.slice s1 n1 c1 :: vs).filterMap blk → lo ≤ x ∧ x < hi:=by
  intro x hx
  rw [List.filterMap_cons] at hx
  cases hq : blk (Value.slice s1 n1 c1) with
  | none => rw [hq] at hx; exact h2.blks x hx
  | some y =>
    rw [hq] at hx
    rcases List.mem_cons.1 hx with e|hx
    · rw [e];exact h1.blks y hq
    · exact h2.blks x hx
 have HB:=Lib.hid hB
 have HB3:=Lib.hid (h3.blks)
 have hO0:=dA h3 h2.2.1 (by decide)
 have HO0:=Lib.hid hO0
 have HHI:=Lib.hid hhi
 clear hd hd' hd1 hl1 hl2 hl3 hb1 hb3 hbs hB hO0 hs
 obtain ⟨e1,e2,e3,e4,e5⟩:=hs1
 go_enter Try.func13,Try.ntmps13
 go_wp2_with fail
 refine (l8 (aC.alloc h1 _) (aQ.below h2 (ao _ _)) hd2 k h0 (by omega) e1 e2 e4 (by simp;omega)).mono ?_
 rintro e w2 ⟨rfl,hm1,hm2,hg1⟩
 have hsz:=hg1.size
 simp only [World.size_alloc] at hsz
 have q0 : w2.cell? ⟨w.heap.size,0,none⟩ = some (.slice s1 n1 c1):=gA (by simp) hg1 (fun hb=>by have:=(HB.out _ hb).2;omega)
 have q1 : w2.cell? ⟨w.heap.size,1,none⟩ = some (.slice s2 n2 c2):=gA (by simp) hg1 (fun hb=>by have:=(HB.out _ hb).2;omega)
 have q2 : w2.cell? ⟨w.heap.size,2,none⟩ = some (.slice s3 n3 c3):=gA (by simp) hg1 (fun hb=>by have:=(HB.out _ hb).2;omega)
 have h3' : aA lo hi w2 (.slice s3 n3 c3) g.prio:=(aA.alloc h3 _).touch hg1 (fun x hx hb=>HD.out x hx hb)
 have hk2 : k + (fh g.ar : Int) ≤ 4611686018427387904:=by omega
 have hk3 : 0 ≤ k + (fh g.ar : Int):=by omega
 go_wp2_with (go_at_call 37;refine (fH h3' _ hk3 hk2 e3).mono ?_;rintro e w3 ⟨rfl,hm3,hg2⟩)
 go_ret
 have t2 : Touch (fun x=>blk (.slice s3 n3 c3) = some x) w2 w3:=cy hg2
 refine ⟨bS (by unfold lA;rw [HL.out];omega),⟨_,_,_,vs,rfl,hm1.touch t2 (fun x hx hb=>HD.out x hb (i8 hx)),hm2.touch t2 (fun x hx hb=>HO0.out x hb hx) (fun x hx hb=>HD.out x hb (i9 hx)),?_,HD0.out⟩,?_⟩
 · unfold mkP;rw [HL.out];exact hm3
 · exact ((fU (B:=fun _=>False) (ao _ _)).outside (fun _ h=>h.elim)).trans ((hg1.outside HB.out).trans (t2.outside fun x hx=>HB3.out x hx))
end Go.Proofs.Ytceonklhlpkfgaa
namespace Go.Proofs.Ytceonklhlpkfgaa
set_option linter.unusedVariables false
set_option linter.unusedSimpArgs false
open Go.RowKit
theorem gE {lo hi lo' hi' : Nat} {w : World} {v u : Value} {xss : List (List Int)} {vs : List Value} {row : List Int} (h : aQ lo hi w v xss vs) (hu : aA lo' hi' w u row) : ∀ g,blk u = some g → blk v ≠ some g :=
 fun g hg e=>dA h.2.1 hu (by decide) g e hg
theorem ma {xss : List (List Int)} {row : List Int} {k : Nat} : gr (xss ++ [row]) k = if k < xss.length then gr xss k else if k = xss.length then row else []:=by
 by_cases h1 : k < xss.length
 · rw [if_pos h1];simp [gr,List.getD_eq_getElem?_getD,List.getElem?_append_left h1]
 · rw [if_neg h1]
   by_cases h2 : k = xss.length
   · rw [if_pos h2,h2];simp [gr,List.getD_eq_getElem?_getD]
   · rw [if_neg h2];rw [qa (by simp;omega)]
theorem jP {vs : List Value} {u d : Value} {k : Nat} : (vs ++ [u]).getD k d = if k < vs.length then vs.getD k d else if k = vs.length then u else d:=by
 by_cases h1 : k < vs.length
 · rw [if_pos h1];simp [List.getD_eq_getElem?_getD,List.getElem?_append_left h1]
 · rw [if_neg h1]
   by_cases h2 : k = vs.length
   · rw [if_pos h2,h2];simp [List.getD_eq_getElem?_getD]
   · rw [if_neg h2];simp [List.getD_eq_getElem?_getD,List.getElem?_eq_none (show (vs ++ [u]).length ≤ k by simp;omega)]
theorem nd (lo hi : Nat) (w : World) : aQ lo hi w (.slice none 0 0) [] []:=⟨rfl,mZ _ _ _ _,fun k hk=>by simp at hk,by simp⟩
theorem kD (lo : Nat) (w : World) (hlo : lo ≤ w.heap.size) : aQ lo (w.alloc (.cells #[] 22)).heap.size (w.alloc (.cells #[] 22)) (.slice (some ⟨w.heap.size,0,none⟩) 0 0) [] [] :=
 ⟨rfl,.inr ⟨w.heap.size,0,#[],rfl,hlo,by simp,heap_alloc_new _ _,by simp,by simp,by simp,by simp⟩,fun k hk=>by simp at hk,by simp⟩
end Go.Proofs.Ytceonklhlpkfgaa
namespace Go.Proofs.Ytceonklhlpkfgaa
set_option linter.unusedVariables false
set_option linter.unusedSimpArgs false
open Go.RowKit
theorem aQ.put {lo hi : Nat} {w w' : World} {gv nv cv : Nat} {xss : List (List Int)} {vs : List Value} (h : aQ lo hi w (.slice (some ⟨gv,0,none⟩) nv cv) xss vs) {k : Nat} (hk : k < xss.length) {u : Value} {ys : List Int}
  (hu : aA lo w'.heap.size w' u ys) (hg : w.grownBy w' (blk (vs.getD k (.slice none 0 0)))) (hf : ∀ g,blk u = some g → blk (vs.getD k (.slice none 0 0)) = some g ∨ w.heap.size ≤ g) :
  aQ lo w'.heap.size (w'.setCell ⟨gv,k,none⟩ u) (.slice (some ⟨gv,0,none⟩) nv cv) (xss.set k ys) (vs.set k u):=by
 have hne : blk (.slice (some ⟨gv,0,none⟩) nv cv) ≠ blk (vs.getD k (.slice none 0 0)):=fun e=>by
  have:=dA h.2.1 (h.2.2.1 k hk) (by decide) gv rfl
  exact this (by rw [← e];rfl)
 have hV : aC 22 lo w'.heap.size w' (.slice (some ⟨gv,0,none⟩) nv cv) vs:=(aC.top (aC.keep h.2.1 (w':=w') fun g hg'=>hg.block g (aC.lt h.2.1 g hg').2.2 (by
  intro e;exact hne (by rw [hg',e]))))
 have hvu : ∀ g,blk u = some g → gv ≠ g:=fun g hg' e=>dA hV hu (by decide) gv rfl (by rw [hg',e])
 refine ⟨by simp [h.1],(aC.set hV k u),fun j hj=>?_,?_⟩
 · rw [List.length_set] at hj
   rw [fF hk]
   have hgd : (vs.set k u).getD j (.slice none 0 0) = if j = k then u else vs.getD j (.slice none 0 0):=by
    simp only [List.getD_eq_getElem?_getD,List.getElem?_set]
    by_cases e : k = j
    · subst e;simp [h.1,hk]
    · rw [if_neg e,if_neg (fun h=>e h.symm)]
   rw [hgd]
   by_cases e : j = k
   · rw [if_pos e,if_pos e]
     exact aC.other hu (fun e'=>hvu gv e' rfl) k u
   · rw [if_neg e,if_neg e]
     have hj':=h.2.2.1 j hj
     have hd:=gB h.2.2.2 (i:=j) (j:=k) (by rw [h.1];exact hj) (by rw [h.1];exact hk) e (.slice none 0 0)
     have h1 : aA lo w'.heap.size w' (vs.getD j (.slice none 0 0)) (gr xss j):=aC.top (aC.keep hj' (w':=w') fun g hg'=>hg.block g (aC.lt hj' g hg').2.2 (fun e'=>hd g hg' e'.symm))
     exact aC.other h1 (fun e'=>dA hV h1 (by decide) gv rfl e') k u
 · have hlt : ∀ g,g ∈ vs.filterMap blk → g < w.heap.size:=by
    intro g hg'
    obtain ⟨x,hx,e⟩:=List.mem_filterMap.1 hg'
    obtain ⟨j,hj,e2⟩:=List.getElem_of_mem hx
    have:=h.2.2.1 j (by rw [← h.1];exact hj)
    rw [List.getD_eq_getElem?_getD,List.getElem?_eq_getElem hj] at this
    simp only [Option.getD_some,e2] at this
    exact (aC.lt this g e).2.2
   have hk' : k < vs.length:=by rw [h.1];exact hk
   have e1 : vs = vs.take k ++ vs.getD k (.slice none 0 0) :: vs.drop (k + 1):=by
    rw [List.getD_eq_getElem?_getD,List.getElem?_eq_getElem hk',Option.getD_some,List.getElem_cons_drop,List.take_append_drop]
   have hn:=h.2.2.2
   rw [e1] at hn hlt
   rw [List.set_eq_take_append_cons_drop,if_pos hk']
   revert hn hlt hf
   generalize vs.getD k (.slice none 0 0) = o
   generalize vs.take k = a
   generalize vs.drop (k + 1) = b
   intro hf hlt hn
   rw [List.filterMap_append,List.filterMap_cons] at hn hlt ⊢
   cases hu' : blk u with
   | none =>
     simp only
     cases ho : blk o with
     | none => rw [ho] at hn; exact hn
     | some q => rw [ho] at hn; simp only at hn; exact (hn.sublist (List.Sublist.append (List.Sublist.refl _) (List.sublist_cons_self _ _)))
   | some p =>
     simp only
     rcases hf p hu' with e|e
     · rw [e] at hn;exact hn
     · have hn2 : (a.filterMap blk ++ b.filterMap blk).Nodup:=by
        cases ho : blk o with
        | none => rw [ho] at hn; exact hn
        | some q => rw [ho] at hn; simp only at hn; exact (hn.sublist (List.Sublist.append (List.Sublist.refl _) (List.sublist_cons_self _ _)))
       have hm : ∀ g,g ∈ a.filterMap blk ++ b.filterMap blk → g < w.heap.size:=by
        intro g hg'
        apply hlt g
        rcases List.mem_append.1 hg' with h'|h'
        · exact List.mem_append.2 (.inl h')
        · cases ho : blk o with
          | none => exact List.mem_append.2 (.inr h')
          | some q => exact List.mem_append.2 (.inr (List.mem_cons_of_mem _ h'))
       have hp : ¬ p ∈ a.filterMap blk ++ b.filterMap blk:=fun h'=>by have:=hm p h';omega
       exact (List.perm_middle.nodup_iff).2 (List.nodup_cons.2 ⟨hp,hn2⟩)
end Go.Proofs.Ytceonklhlpkfgaa
namespace Go.Proofs.Ytceonklhlpkfgaa
set_option linter.unusedVariables false
set_option linter.unusedSimpArgs false
open Go.RowKit
def cT (xs : List Int) (m : Int) : Prop:=∀ k,k < xs.length → 0 ≤ gi xs k ∧ gi xs k < m ∧ (0 < k → gi xs (k - 1) < gi xs k)
structure ArOk (a : Ar) : Prop where
 pos : 1 ≤ a.own.length
 le : a.own.length ≤ 256
 len : a.nxt.length = a.own.length
 vert : ∀ v,v < a.own.length → 0 ≤ gi a.own v ∧ gi a.own v ≤ 1 ∧ 1 ≤ (gr a.nxt v).length ∧ (gr a.nxt v).length ≤ 16 ∧ cT (gr a.nxt v) a.own.length
structure PaOk (g : Pa) : Prop where
 ar : ArOk g.ar
 len : g.prio.length = g.ar.own.length
 prio : ∀ v,v < g.prio.length → 0 ≤ gi g.prio v ∧ gi g.prio v ≤ 40
theorem ne {xs : List Int} {m : Int} (h : cT xs m) : ∀ k,k < xs.length → (k : Int) ≤ gi xs k:=by
 intro k
 induction k with
 | zero => intro hk; exact (h 0 hk).1
 | succ k ih => intro hk; have := ih (by omega); have := (h (k + 1) hk).2.2 (by omega); simp only [Nat.add_sub_cancel] at this; omega
theorem mb {xs : List Int} {m : Int} (h : cT xs m) (hm : 0 ≤ m) : (xs.length : Int) ≤ m:=by
 by_cases hx : xs.length = 0
 · omega
 · have h1:=ne h (xs.length - 1) (by omega)
   have h2:=(h (xs.length - 1) (by omega)).2.1
   omega
set_option maxHeartbeats 400000 in
theorem iv (sa : Option Addr) (n c : Nat) (xs : List Int) (m : Int) (w : World) (hI : b8 w sa n c xs) :
  Calls Try.prog 69 #[.slice sa n c,.int .i64 m] w fun e w'=>e = .returned (.bool (tf (cT xs m))) ∧ w = w':=by
 have hmax:=hI.max
 have HL:=Lib.hid hI.1
 go_enter Try.func69,Try.ntmps69
 go_wp2
 go_loop [9] (fun i=>∃ k : Nat,k ≤ n ∧ i = .int .i64 k ∧ ∀ j,j < k → 0 ≤ gi xs j ∧ gi xs j < m ∧ (0 < j → gi xs (j - 1) < gi xs j)) (fun i=>n - (intOf i).toNat)
 case atStart=>exact ⟨0,by omega,rfl,fun j hj=>by omega⟩
 case round =>
  obtain ⟨k,hk,rfl,hS⟩:=hrel
  have HS:=Lib.hid hS;clear hS
  by_cases hlt : k < n
  · obtain ⟨b,o,rfl,hSb,hc⟩:=hI.get hlt
    have hck:=hc k hlt
    have hcp : 0 < k → w.cell? ⟨b,o + (k - 1),none⟩ = some (.int .i64 (gi xs (k-1))):=fun h=>hc (k-1) (by omega)
    clear hc
    go_wp2
    all_goals first
     | (go_ret; exact ⟨az (ap (fun h => by have := h k (by rw [HL.out]; exact hlt); omega)).symm, rfl⟩)
     | (go_round
        case rel=>exact ⟨k + 1,by omega,by go_num,fun j hj=>by
           by_cases e : j = k
           · rw [e];omega
           · exact HS.out j (by omega)⟩
        case measure=>simp [intOf];omega)
  · go_wp2
    go_ret
    exact ⟨az (aE (fun j hj=>HS.out j (by rw [HL.out] at hj;omega))).symm,rfl⟩
set_option maxHeartbeats 400000 in
theorem nf (x lo hi : Int) (w : World) : Calls Try.prog 21 #[.int .i64 x,.int .i64 lo,.int .i64 hi] w fun e w'=>e = .returned (.bool (tf (lo ≤ x ∧ x ≤ hi))) ∧ w = w':=by
 by_cases h1 : lo ≤ x
 · by_cases h2 : x ≤ hi
   · rw [aE ⟨h1,h2⟩]
     go_enter Try.func21,Try.ntmps21
     go_wp2
     go_ret
     exact ⟨rfl,rfl⟩
   · rw [ap (fun h=>h2 h.2)]
     go_enter Try.func21,Try.ntmps21
     go_wp2
     go_ret
     exact ⟨rfl,rfl⟩
 · rw [ap (fun h=>h1 h.1)]
   go_enter Try.func21,Try.ntmps21
   go_wp2
   go_ret
   exact ⟨rfl,rfl⟩
theorem dd (x lo hi : Int) (b : Bool) (h : tf (lo ≤ x ∧ x ≤ hi) = b) (w : World) : Calls Try.prog 21 #[.int .i64 x,.int .i64 lo,.int .i64 hi] w fun e w'=>e = .returned (.bool b) ∧ w = w':=by
 have:=nf x lo hi w
 rwa [h] at this
theorem ja (x lo hi : Int) (b : Bool) (h : tf (lo ≤ x ∧ x ≤ hi) = b) (w : World) : Calls Try.prog 21 #[.int .i64 x,.int .i64 lo,.int .i64 hi] w fun e w'=>e = .returned (.bool b) ∧ w' = w :=
 (dd x lo hi b h w).mono fun _ _ h=>⟨h.1,h.2.symm⟩
set_option maxHeartbeats 800000 in
theorem fW (sa : Option Addr) (n c : Nat) (xs : List Int) (m : Int) (w : World) (hI : b8 w sa n c xs) (h0 : 0 ≤ m) (hm : m ≤ 4611686018427387904) :
  Calls Try.prog 75 #[.slice sa n c,.int .i64 m] w (Qb w (tf (cT xs m))):=by
 have hmax:=hI.max
 have HL:=Lib.hid hI.1
 go_enter Try.func75,Try.ntmps75
 go_wp2
 go_loopw [5] (fun i wr=>∃ k : Nat,k ≤ n ∧ i = .int .i64 k ∧ (∀ j,j < k → 0 ≤ gi xs j ∧ gi xs j < m ∧ (0 < j → gi xs (j - 1) < gi xs j)) ∧ Qt w wr) (fun i _=>n - (intOf i).toNat)
 case atStart=>exact ⟨0,by omega,rfl,fun j hj=>by omega,Qt.refl w⟩
 case round =>
  obtain ⟨k,hk,rfl,hS,hq⟩:=hrel
  have HS:=Lib.hid hS;clear hS
  by_cases hlt : k < n
  · obtain ⟨b,o,rfl,hSb,hc⟩:=(hI.below hq.below).get hlt
    have hck:=hc k hlt
    have i0 : (0 : Int) ≤ (k : Int):=by omega
    have i1 : (k : Int) < (n : Int):=by omega
    by_cases h1 : 0 ≤ gi xs k ∧ gi xs k ≤ m - 1
    · have k1:=Lib.hid (aE h1)
      have H1:=Lib.hid h1
      clear h1
      by_cases hk0 : 0 < k
      · have d1 : decide ((0 : Int) < (k : Int)) = true:=by simp;omega
        have hcp:=hc (k - 1) (by omega)
        have i2 : (0 : Int) ≤ (k : Int) - 1:=by omega
        have i3 : (k : Int) - 1 < (n : Int):=by omega
        clear hc
        by_cases h2 : gi xs k ≤ gi xs (k - 1)
        · have d2 : decide (gi xs k ≤ gi xs (k - 1)) = true:=by simp;omega
          go_wp2
          go_quiet ((go_at_call 21;exact Calls.quiet_of_same (ja _ _ _ true k1.out _)))
          go_wp2
          go_ret
          exact ⟨az (ap (fun h=>by have:=(h k (by rw [HL.out];exact hlt)).2.2 hk0;omega)).symm,hq.drewN _⟩
        · have d2 : decide (gi xs k ≤ gi xs (k - 1)) = false:=by simp;omega
          go_wp2
          go_quiet ((go_at_call 21;exact Calls.quiet_of_same (ja _ _ _ true k1.out _)))
          go_wp2
          go_roundw
          case rel=>exact ⟨k + 1,by omega,by go_num,fun j hj=>by
           by_cases e : j = k
           · rw [e];have:=H1.out;omega
           · exact HS.out j (by omega),hq.drewN _⟩
          case measure=>simp [intOf];omega
      · have d1 : decide ((0 : Int) < (k : Int)) = false:=by simp;omega
        clear hc
        go_wp2
        go_quiet ((go_at_call 21;exact Calls.quiet_of_same (ja _ _ _ true k1.out _)))
        go_wp2
        go_roundw
        case rel=>exact ⟨k + 1,by omega,by go_num,fun j hj=>by
         by_cases e : j = k
         · rw [e];have:=H1.out;omega
         · exact HS.out j (by omega),hq.drewN _⟩
        case measure=>simp [intOf];omega
    · have k1:=Lib.hid (ap h1)
      have H1:=Lib.hid h1
      clear h1 hc
      go_wp2
      go_quiet ((go_at_call 21;exact Calls.quiet_of_same (ja _ _ _ false k1.out _)))
      go_wp2
      go_ret
      exact ⟨az (ap (fun h=>H1.out (by have:=h k (by rw [HL.out];exact hlt);omega))).symm,hq.drewN _⟩
  · go_wp2
    go_ret
    exact ⟨az (aE (fun j hj=>HS.out j (by rw [HL.out] at hj;omega))).symm,hq⟩
set_option maxHeartbeats 400000 in
theorem iw (sa : Option Addr) (n c : Nat) (xs : List Int) (m : Int) (w : World) (hI : b8 w sa n c xs) (h0 : 0 ≤ m) (hm : m ≤ 4611686018427387904) :
  Calls Try.prog 71 #[.slice sa n c,.int .i64 m] w (Qb w (tf (cT xs m))):=by
 have hmax:=hI.max
 have HL:=Lib.hid hI.1
 by_cases hn : (n : Int) ≤ m
 · by_cases hs : cT xs m
   · have k1:=Lib.hid (aE hs)
     clear hs
     go_enter Try.func71,Try.ntmps71
     go_wp2_with (go_at_call 75;refine (fW _ _ _ _ _ _ hI h0 hm).mono ?_;rw [k1.out];rintro e w2 ⟨rfl,q,rfl⟩)
     go_ret
     exact ⟨az k1.out.symm,q,rfl⟩
   · have k1:=Lib.hid (ap hs)
     clear hs
     go_enter Try.func71,Try.ntmps71
     go_wp2_with (go_at_call 75;refine (fW _ _ _ _ _ _ hI h0 hm).mono ?_;rw [k1.out];rintro e w2 ⟨rfl,q,rfl⟩)
     go_ret
     exact ⟨az k1.out.symm,q,rfl⟩
 · go_enter Try.func71,Try.ntmps71
   go_wp2
   go_ret
   exact ⟨az (ap (fun h=>by have:=mb h h0;have:=HL.out;omega)).symm,0,rfl⟩
def gF (a : Ar) (k : Nat) : Prop:=∀ v,v < k → 0 ≤ gi a.own v ∧ gi a.own v ≤ 1 ∧ 1 ≤ (gr a.nxt v).length ∧ (gr a.nxt v).length ≤ 16 ∧ cT (gr a.nxt v) a.own.length
theorem gF.next {a : Ar} {k : Nat} (h : gF a k) (hk : 0 ≤ gi a.own k ∧ gi a.own k ≤ 1 ∧ 1 ≤ (gr a.nxt k).length ∧ (gr a.nxt k).length ≤ 16 ∧ cT (gr a.nxt k) a.own.length) : gF a (k + 1):=by
 intro v hv
 by_cases e : v = k
 · rw [e];exact hk
 · exact h v (by omega)
end Go.Proofs.Ytceonklhlpkfgaa
namespace Go.Proofs.Ytceonklhlpkfgaa
set_option linter.unusedVariables false
set_option linter.unusedSimpArgs false
open Go.RowKit
attribute [local go_sem ↓] Go.wp_at_zero Go.wp_at_succ
noncomputable def lst (p : Nat → Prop) : Nat → List Int
 | 0 => []
 | k + 1 => @ite _ (p k) (Classical.propDecidable _) (lst p k ++ [(k : Int)]) (lst p k)
theorem fi {p : Nat → Prop} {k : Nat} (h : p k) : lst p (k + 1) = lst p k ++ [(k : Int)]:=if_pos h
theorem gG {p : Nat → Prop} {k : Nat} (h : ¬ p k) : lst p (k + 1) = lst p k:=if_neg h
theorem lB (p : Nat → Prop) (k : Nat) : (lst p k).length ≤ k:=by
 induction k with
 | zero => simp [lst]
 | succ k ih =>
   by_cases h : p k
   · rw [fi h];simp;omega
   · rw [gG h];omega
theorem dt {p : Nat → Prop} {k : Nat} {x : Int} : x ∈ lst p k ↔ ∃ v,v < k ∧ p v ∧ x = v:=by
 induction k with
 | zero => simp [lst]
 | succ k ih =>
   by_cases h : p k
   · rw [fi h,List.mem_append,ih]
     constructor
     · rintro (⟨v,h1,h2,h3⟩|h1)
       · exact ⟨v,by omega,h2,h3⟩
       · simp at h1;exact ⟨k,by omega,h,h1⟩
     · rintro ⟨v,h1,h2,h3⟩
       by_cases e : v = k
       · subst e;right;simp [h3]
       · left;exact ⟨v,by omega,h2,h3⟩
   · rw [gG h,ih]
     constructor
     · rintro ⟨v,h1,h2⟩;exact ⟨v,by omega,h2⟩
     · rintro ⟨v,h1,h2,h3⟩
       by_cases e : v = k
       · subst e;exact absurd h2 h
       · exact ⟨v,by omega,h2,h3⟩
theorem fI {p q : Nat → Prop} {n : Nat} (h : ∀ v,v < n → (p v ↔ q v)) : lst p n = lst q n:=by
 induction n with
 | zero => rfl
 | succ n ih =>
   have ih:=ih fun v hv=>h v (by omega)
   by_cases hp : p n
   · rw [fi hp,fi ((h n (by omega)).1 hp),ih]
   · rw [gG hp,gG (fun hq=>hp ((h n (by omega)).2 hq)),ih]
noncomputable def dP (p : Int → Prop) (xs : List Int) : Nat → List Int
 | 0 => []
 | k + 1 => @ite _ (p (gi xs k)) (Classical.propDecidable _) (dP p xs k ++ [gi xs k]) (dP p xs k)
theorem dC {p : Int → Prop} {xs : List Int} {k : Nat} (h : p (gi xs k)) : dP p xs (k + 1) = dP p xs k ++ [gi xs k]:=if_pos h
theorem eu {p : Int → Prop} {xs : List Int} {k : Nat} (h : ¬ p (gi xs k)) : dP p xs (k + 1) = dP p xs k:=if_neg h
theorem jQ (p : Int → Prop) (xs : List Int) (k : Nat) : (dP p xs k).length ≤ k:=by
 induction k with
 | zero => simp [dP]
 | succ k ih =>
   by_cases h : p (gi xs k)
   · rw [dC h];simp;omega
   · rw [eu h];omega
theorem gH (n : Nat) (f : Nat → Int) : tab (n + 1) f = tab n f ++ [f n]:=by simp [tab,List.range_succ]
def Bnd (xs : List Int) (m : Nat) : Prop:=∀ k,k < xs.length → 0 ≤ gi xs k ∧ gi xs k < m
theorem cT.bnd {xs : List Int} {m : Nat} (h : cT xs m) : Bnd xs m:=fun k hk=>⟨(h k hk).1,(h k hk).2.1⟩
theorem ew (lo : Nat) (w : World) (c : Nat) (hlo : lo ≤ w.heap.size) : aA lo (w.alloc (.cells #[] 2)).heap.size (w.alloc (.cells #[] 2)) (.slice (some ⟨w.heap.size,0,none⟩) 0 0) [] :=
 .inr ⟨w.heap.size,0,#[],rfl,hlo,by simp,heap_alloc_new _ _,by simp,by simp,by simp,by simp⟩
theorem qd (v : Value) (a : Ar) (w : World) (hA : IsA w v a) : Calls Try.prog 49 #[v] w (Bi w a.own.length):=by
 obtain ⟨_,_,rfl,⟨s1,n1,c1,rfl,h1⟩,⟨s2,n2,c2,rfl,h2⟩⟩:=hA
 have H1:=Lib.hid h1.1
 have hm:=h1.max
 go_enter Try.func49,Try.ntmps49
 go_wp2
 go_ret
 exact ⟨bS (by rw [H1.out]),(by repeat' (first|(with_reducible exact Below.refl _ _)|(with_reducible apply Below.alloc)|(with_reducible apply Below.drew)|(with_reducible apply ah)|omega|(simp only [World.size_alloc,World.size_setCell,World.size_drew];omega)))⟩
end Go.Proofs.Ytceonklhlpkfgaa
namespace Go.Proofs.Ytceonklhlpkfgaa
set_option linter.unusedVariables false
set_option linter.unusedSimpArgs false
open Go.RowKit
attribute [local go_sem ↓] Go.wp_at_zero Go.wp_at_succ
set_option maxHeartbeats 400000 in
theorem mc (n : Nat) (w : World) (hn : n ≤ 256) : Calls Try.prog 74 #[.int .i64 n] w (d5 w (tab n fun v=>v)):=by
 go_enter Try.func74,Try.ntmps74
 go_wp2
 go_loopw [3,4] (fun v i wr=>∃ (k c : Nat) (sa : Option Addr),k ≤ n ∧ i = .int .i64 k ∧ v = .slice sa k c ∧ aA w.heap.size wr.heap.size wr (.slice sa k c) (tab k fun v=>v) ∧ Below w.heap.size w wr) (fun _ i _=>n - (intOf i).toNat)
 case atStart=>exact ⟨0,0,_,by omega,rfl,rfl,ew _ _ 0 (Nat.le_refl _),ao _ _⟩
 case round =>
  obtain ⟨k,c,sa,hk,rfl,rfl,ho,hb⟩:=hrel
  by_cases hlt : k < n
  · go_wp2_with (at_builtin;refine fg rfl _ _ rfl rfl (aA.alloc ho _) k _ _ rfl (by simp) (by simp;omega) (by have:=hb.size;simp;omega) ?_;intro sa' c' w2 ho2 hO2)
    go_roundw
    case rel =>
     rw [bM] at *
     exact ⟨k + 1,c',sa',by omega,by go_num,rfl,by rwa [← gH (f:=fun v=>(v : Int))] at ho2,gj hb hO2⟩
    case measure=>simp [intOf];omega
  · go_wp2
    go_ret
    have e : k = n:=by omega
    subst e
    exact ⟨_,_,_,rfl,ho,hb⟩
theorem lC (v : Value) (a : Ar) (w : World) (hA : IsA w v a) (hn : a.own.length ≤ 256) : Calls Try.prog 67 #[v] w (d5 w (tab a.own.length fun v=>v)):=by
 obtain ⟨_,_,rfl,⟨s1,n1,c1,rfl,h1⟩,⟨s2,n2,c2,rfl,h2⟩⟩:=id hA
 go_enter Try.func67,Try.ntmps67
 go_wp2_with (first
  | (go_at_call 49; refine (qd _ _ _ (hA.below (by repeat' (first | (with_reducible exact Below.refl _ _) | (with_reducible apply Below.alloc) | (with_reducible apply Below.drew) | (with_reducible apply ah) | omega | (simp only [World.size_alloc, World.size_setCell, World.size_drew]; omega))))).mono ?_; rintro e w2 ⟨rfl, hb2⟩)
  | (go_at_call 74; refine (mc _ _ hn).mono ?_; rintro e w3 ⟨s3, n3, c3, rfl, ho3, hb3⟩))
 go_ret
 have hz2:=hb2.size
 simp only [World.size_alloc] at hz2
 exact ⟨_,_,_,rfl,ho3.mono (by omega) (Nat.le_refl _),(by repeat' (first|(with_reducible exact Below.refl _ _)|(with_reducible assumption)|(with_reducible apply ak)|(with_reducible apply Below.alloc)|(with_reducible apply Below.drew)|(with_reducible apply ah)|(with_reducible refine Below.trans ?_ (Below.mono (by assumption) ?_))|omega|(simp only [World.size_alloc,World.size_setCell,World.size_drew];omega)))⟩
set_option maxHeartbeats 400000 in
theorem kE (v u : Value) (g : Pa) (xs : List Int) (p : Int) (w : World) (hP : IsP w v g) (hx : IsI w u xs) (hB : Bnd xs g.prio.length) (hl : xs.length ≤ 1048576) :
  Calls Try.prog 70 #[v,u,.int .i64 p] w (d5 w (dP (fun x=>gi g.prio x.toNat = p) xs xs.length)):=by
 obtain ⟨_,_,_,rfl,⟨s1,n1,c1,rfl,h1⟩,⟨s2,n2,c2,rfl,h2⟩,⟨s3,n3,c3,rfl,h3⟩⟩:=hP
 obtain ⟨s4,n4,c4,rfl,h4⟩:=hx
 have hm4:=h4.max
 have hm3:=h3.max
 obtain rfl:=h4.1
 have H3:=Lib.hid h3.1
 have HB:=Lib.hid hB
 clear hB
 go_enter Try.func70,Try.ntmps70
 go_wp2
 generalize hqw1 : w.alloc (.cells #[.slice s1 n1 c1,.slice s2 n2 c2,.slice s3 n3 c3] 33) = w1
 have hbw : Below w.heap.size w w1:=by rw [← hqw1];exact (by repeat' (first|(with_reducible exact Below.refl _ _)|(with_reducible apply Below.alloc)|(with_reducible apply Below.drew)|(with_reducible apply ah)|omega|(simp only [World.size_alloc,World.size_setCell,World.size_drew];omega)))
 have hew1:=Lib.hid (show w1.heap.size = w.heap.size + 1 by rw [← hqw1];simp)
 have hsw : w.heap.size + 1 ≤ w1.heap.size:=by rw [← hqw1];simp only [World.size_alloc];omega
 have hswa : w.heap.size < w1.heap.size:=by omega
 have HQw1_0 : Blk w1 (w.heap.size) [.slice s1 n1 c1,.slice s2 n2 c2,.slice s3 n3 c3] 33:=by rw [← hqw1];have hnew:=cF w [.slice s1 n1 c1,.slice s2 n2 c2,.slice s3 n3 c3] 33;(try simp only [World.size_alloc] at hnew);exact hnew
 have b0_0 : w1.cell? ⟨w.heap.size,0,none⟩ = some (.slice s1 n1 c1):=HQw1_0.cell 0 rfl
 have b0_1 : w1.cell? ⟨w.heap.size,1,none⟩ = some (.slice s2 n2 c2):=HQw1_0.cell 1 rfl
 have b0_2 : w1.cell? ⟨w.heap.size,2,none⟩ = some (.slice s3 n3 c3):=HQw1_0.cell 2 rfl
 have HRw1:=Lib.hid HQw1_0
 clear HQw1_0
 clear hqw1
 go_loopw [7,13] (fun v i wr=>∃ (k n c : Nat) (sa : Option Addr),k ≤ xs.length ∧ i = .int .i64 k ∧ v = .slice sa n c ∧ aA w1.heap.size wr.heap.size wr (.slice sa n c) (dP (fun x=>gi g.prio x.toNat = p) xs k) ∧ Below w1.heap.size w1 wr) (fun _ i _=>xs.length - (intOf i).toNat)
 case atStart=>exact ⟨0,0,0,_,by omega,rfl,rfl,by rw [← hew1.out];exact ew _ _ 0 (Nat.le_refl _),ao _ _⟩
 case round =>
  obtain ⟨k,n,c,sa,hk,rfl,rfl,ho,hb⟩:=hrel
  have hBwr : Below w1.heap.size w1 (wr):=(by repeat' (first|(with_reducible exact Below.refl _ _)|(with_reducible assumption)|(with_reducible apply ak)|(with_reducible apply Below.alloc)|(with_reducible apply Below.drew)|(with_reducible apply ah)|(with_reducible refine Below.trans ?_ (Below.mono (by assumption) ?_))|omega|(simp only [World.size_alloc,World.size_setCell,World.size_drew];omega)))
  replace b0_2:=al b0_2 hBwr
  replace hbw : Below w.heap.size w (wr):=hbw.trans (hBwr.mono hbw.size)
  clear hBwr
  by_cases hlt : k < xs.length
  · obtain ⟨b,o,rfl,hbl,hc⟩:=(h4.below hbw).get hlt
    have hck:=hc k hlt
    clear hc
    obtain ⟨hb0,hb1⟩:=HB.out k hlt
    have hb2 : (gi xs k).toNat < n3:=by have:=H3.out;omega
    obtain ⟨b3,o3,rfl,hbl3,hc3⟩:=(h3.below hbw).get hb2
    have hck3:=hc3 _ hb2
    have hb1' : gi xs k < n3:=by have:=H3.out;omega
    clear hc3 hb1
    have hfl:=jQ (fun x=>gi g.prio x.toNat = p) xs k
    have hol:=ho.len
    by_cases he : gi g.prio (gi xs k).toNat = p
    · have hd : (gi g.prio (gi xs k).toNat == p) = true:=by simp [he]
      have HE:=Lib.hid he
      have HO:=Lib.hid hol
      clear he hol
      go_wp2_with (at_builtin;refine fg rfl _ _ rfl rfl (aA.alloc ho _) (gi xs k) _ _ rfl (by simp) (by omega) (by have:=hb.size;simp;omega) ?_;intro sa' c' w2 ho2 hO2)
      go_roundw
      case rel=>exact ⟨k + 1,_,c',sa',by omega,by go_num,rfl,by rw [dC HE.out];exact ho2,gj hb hO2⟩
      case measure=>simp [intOf];omega
    · have hd : (gi g.prio (gi xs k).toNat == p) = false:=by simp [he]
      have HE:=Lib.hid he
      have HO:=Lib.hid hol
      clear he hol
      go_wp2
      go_roundw
      case rel=>exact ⟨k + 1,_,c,sa,by omega,by go_num,rfl,by rw [eu HE.out];exact ho,hb⟩
      case measure=>simp [intOf];omega
  · go_wp2
    go_ret
    have e : k = xs.length:=by omega
    subst e
    exact ⟨_,_,_,rfl,ho.mono (by omega) (Nat.le_refl _),hbw⟩
end Go.Proofs.Ytceonklhlpkfgaa
namespace Go.Proofs.Ytceonklhlpkfgaa
set_option linter.unusedVariables false
set_option linter.unusedSimpArgs false
open Go.RowKit
attribute [local go_sem ↓] Go.wp_at_zero Go.wp_at_succ
set_option maxHeartbeats 400000 in
theorem fX (sa : Option Addr) (n c : Nat) (xs : List Int) (x : Int) (w : World) (hI : b8 w sa n c xs) :
  Calls Try.prog 44 #[.slice sa n c,.int .i64 x] w fun e w'=>e = .returned (.bool (tf (x ∈ xs))) ∧ w = w':=by
 have hmax:=hI.max
 have HL:=Lib.hid hI.1
 go_enter Try.func44,Try.ntmps44
 go_wp2
 go_loop [5] (fun i=>∃ k : Nat,k ≤ n ∧ i = .int .i64 k ∧ ∀ j,j < k → gi xs j ≠ x) (fun i=>n - (intOf i).toNat)
 case atStart=>exact ⟨0,by omega,rfl,fun j hj=>by omega⟩
 case round =>
  obtain ⟨k,hk,rfl,hS⟩:=hrel
  have HS:=Lib.hid hS;clear hS
  by_cases hlt : k < n
  · obtain ⟨b,o,rfl,hSb,hc⟩:=hI.get hlt
    have hck:=hc k hlt
    clear hc
    rcases gz (gi xs k) x with ⟨d1,d2,HE⟩|⟨d1,d2,HE⟩
    · go_wp2
      go_ret
      exact ⟨az (aE (by rw [← HE.out];exact fC (by rw [HL.out];exact hlt))).symm,rfl⟩
    · go_wp2
      go_round
      case rel=>exact ⟨k + 1,by omega,by go_num,fun j hj=>by
       by_cases e : j = k
       · rw [e];exact HE.out
       · exact HS.out j (by omega)⟩
      case measure=>simp [intOf];omega
  · go_wp2
    go_ret
    exact ⟨az (ap (fun h=>by obtain ⟨k',h1,h2⟩:=kA h;exact HS.out k' (by rw [HL.out] at h1;omega) h2)).symm,rfl⟩
end Go.Proofs.Ytceonklhlpkfgaa
namespace Go.Proofs.Ytceonklhlpkfgaa
set_option linter.unusedVariables false
set_option linter.unusedSimpArgs false
open Go.RowKit
set_option maxHeartbeats 1000000 in
theorem kF (v : Value) (a : Ar) (w : World) (hA : IsA w v a) :
  Calls Try.prog 60 #[v] w (Bb w (tf (ArOk a))):=by
 obtain ⟨_,_,rfl,⟨s1,n1,c1,rfl,h1⟩,⟨s2,n2,c2,rfl,h2⟩⟩:=hA
 have hm1:=h1.max
 have hm2:=h2.max
 have H1:=Lib.hid h1.1
 have H2:=Lib.hid h2.len
 by_cases hp : 1 ≤ n1 ∧ n1 ≤ 256 ∧ n2 = n1
 · obtain ⟨hp1,hp2,rfl⟩:=hp
   go_enter Try.func60,Try.ntmps60
   go_wp2
   go_loop [25] (fun i=>∃ k : Nat,k ≤ n2 ∧ i = .int .i64 k ∧ gF a k) (fun i=>n2 - (intOf i).toNat)
   case atStart=>exact ⟨0,by omega,rfl,fun j hj=>by omega⟩
   case round =>
    obtain ⟨k,hk,rfl,hS⟩:=hrel
    by_cases hlt : k < n2
    · obtain ⟨b1,o1,rfl,hb1,hc1⟩:=h1.get hlt
      obtain ⟨b2,o2,rfl,hb2,A,L,C,hc2⟩:=h2.get hlt
      have q1:=hc1 k hlt
      obtain ⟨q2,hI⟩:=hc2 k hlt
      have hl:=Lib.hid hI.1
      have hlm:=hI.max
      clear hc1 hc2
      by_cases hs : cT (gr a.nxt k) n2
      · have k1 : tf (cT (gr a.nxt k) n2) = true:=aE hs
        have K1:=Lib.hid hs
        clear hs
        go_wp2_with (go_at_call 69;refine (iv _ _ _ _ _ _ (hI.alloc _)).mono ?_;rw [k1];rintro e w2 ⟨rfl,rfl⟩)
        all_goals first
         | (go_ret; exact ⟨az (ap (fun h => by have := h.vert k (by rw [H1.out]; exact hlt); have := hl.out; omega)).symm, ao _ _⟩)
         | (go_round
            case rel=>exact ⟨k + 1,by omega,by go_num,hS.next ⟨by omega,by omega,by have:=hl.out;omega,by have:=hl.out;omega,by rw [H1.out];exact K1.out⟩⟩
            case measure=>simp [intOf];omega)
      · have k1 : tf (cT (gr a.nxt k) n2) = false:=ap hs
        have K1:=Lib.hid hs
        clear hs
        go_wp2_with (go_at_call 69;refine (iv _ _ _ _ _ _ (hI.alloc _)).mono ?_;rw [k1];rintro e w2 ⟨rfl,rfl⟩)
        all_goals go_ret
        all_goals exact ⟨az (ap (fun h=>K1.out (by have:=(h.vert k (by rw [H1.out];exact hlt)).2.2.2.2;rwa [H1.out] at this))).symm,ao _ _⟩
    · go_wp2
      go_ret
      exact ⟨az (aE ⟨by rw [H1.out];omega,by rw [H1.out];omega,by rw [H1.out,H2.out],fun v hv=>hS v (by rw [H1.out] at hv;omega)⟩).symm,ao _ _⟩
 · by_cases he : n2 = n1
   · go_enter Try.func60,Try.ntmps60
     go_wp2
     all_goals first
      | (go_ret; exact ⟨az (ap (fun h => by have := h.pos; have := h.le; have := h.len; have := H1.out; have := H2.out; omega)).symm, ao _ _⟩)
      | (exfalso; omega)
   · have hb1 : (n2 != n1) = true:=by simp [he]
     have hb2 : ((n2 : Int) != (n1 : Int)) = true:=by simp;omega
     go_enter Try.func60,Try.ntmps60
     go_wp2
     all_goals go_ret
     all_goals exact ⟨az (ap (fun h=>by have:=h.pos;have:=h.le;have:=h.len;have:=H1.out;have:=H2.out;omega)).symm,ao _ _⟩
end Go.Proofs.Ytceonklhlpkfgaa
namespace Go.Proofs.Ytceonklhlpkfgaa
set_option linter.unusedVariables false
set_option linter.unusedSimpArgs false
open Go.RowKit
set_option maxHeartbeats 2000000 in
theorem kG (v : Value) (a : Ar) (w : World) (hA : IsA w v a) :
  Calls Try.prog 65 #[v] w (Bb w (tf (ArOk a))):=by
 obtain ⟨_,_,rfl,⟨s1,n1,c1,rfl,h1⟩,⟨s2,n2,c2,rfl,h2⟩⟩:=hA
 have hm1:=h1.max
 have hm2:=h2.max
 have H1:=Lib.hid h1.1
 have H2:=Lib.hid h2.len
 by_cases hp0 : 1 ≤ n1 ∧ n1 ≤ 256
 · have k0:=Lib.hid (aE (p:=(1 : Int) ≤ n1 ∧ (n1 : Int) ≤ 256) (by omega))
   by_cases hp : n2 = n1
   · obtain ⟨hp1,hp2⟩:=hp0
     subst hp
     go_enter Try.func65,Try.ntmps65
     go_wp2_with (go_at_call 21;refine (dd _ _ _ _ k0.out _).mono ?_;rintro e w2 ⟨rfl,rfl⟩)
     go_loopw [4] (fun i wr=>∃ k q : Nat,k ≤ n2 ∧ i = .int .i64 k ∧ gF a k ∧ wr = (w.alloc (.cells #[.slice s1 n2 c1,.slice s2 n2 c2] 31)).drewN q) (fun i _=>n2 - (intOf i).toNat)
     case atStart=>exact ⟨0,0,by omega,rfl,fun j hj=>by omega,rfl⟩
     case round =>
      obtain ⟨k,q,hk,rfl,hS,rfl⟩:=hrel
      by_cases hlt : k < n2
      · obtain ⟨b1,o1,rfl,hb1,hc1⟩:=h1.get hlt
        obtain ⟨b2,o2,rfl,hb2,A,L,C,hc2⟩:=h2.get hlt
        have q1:=hc1 k hlt
        obtain ⟨q2,hI⟩:=hc2 k hlt
        have hl:=Lib.hid hI.1
        have hlm:=hI.max
        clear hc1 hc2
        by_cases ho : 0 ≤ gi a.own k ∧ gi a.own k ≤ 1
        · have k2:=Lib.hid (aE ho)
          have HO:=Lib.hid ho
          clear ho
          by_cases hs : cT (gr a.nxt k) n2
          · have k1 : tf (cT (gr a.nxt k) n2) = true:=aE hs
            have K1:=Lib.hid hs
            clear hs
            go_wp2_with (first
             | (go_at_call 21; refine (dd _ _ _ _ k2.out _).mono ?_; rintro e w2 ⟨rfl, rfl⟩)
             | (go_at_call 71; refine (iw _ _ _ _ _ _ (hI.below (by repeat' (first | (with_reducible exact Below.refl _ _) | (with_reducible assumption) | (with_reducible apply ak) | (with_reducible apply Below.alloc) | (with_reducible apply Below.drew) | (with_reducible apply ah) | (with_reducible refine Below.trans ?_ (Below.mono (by assumption) ?_)) | omega | (simp only [World.size_alloc, World.size_setCell, World.size_drew]; omega)))) (by omega) (by omega)).mono ?_; rw [k1]; rintro e w2 ⟨rfl, q3, rfl⟩))
            all_goals first
             | (go_ret; exact ⟨az (ap (fun h => by have := h.vert k (by rw [H1.out]; exact hlt); have := hl.out; omega)).symm, (by repeat' (first | (with_reducible exact Below.refl _ _) | (with_reducible assumption) | (with_reducible apply ak) | (with_reducible apply Below.alloc) | (with_reducible apply Below.drew) | (with_reducible apply ah) | (with_reducible refine Below.trans ?_ (Below.mono (by assumption) ?_)) | omega | (simp only [World.size_alloc, World.size_setCell, World.size_drew]; omega)))⟩)
             | (go_roundw
                case rel=>exact ⟨k + 1,_,by omega,by go_num,hS.next ⟨HO.out.1,HO.out.2,by have:=hl.out;omega,by have:=hl.out;omega,by rw [H1.out];exact K1.out⟩,rfl⟩
                case measure=>simp [intOf];omega)
          · have k1 : tf (cT (gr a.nxt k) n2) = false:=ap hs
            have K1:=Lib.hid hs
            clear hs
            go_wp2_with (first
             | (go_at_call 21; refine (dd _ _ _ _ k2.out _).mono ?_; rintro e w2 ⟨rfl, rfl⟩)
             | (go_at_call 71; refine (iw _ _ _ _ _ _ (hI.below (by repeat' (first | (with_reducible exact Below.refl _ _) | (with_reducible assumption) | (with_reducible apply ak) | (with_reducible apply Below.alloc) | (with_reducible apply Below.drew) | (with_reducible apply ah) | (with_reducible refine Below.trans ?_ (Below.mono (by assumption) ?_)) | omega | (simp only [World.size_alloc, World.size_setCell, World.size_drew]; omega)))) (by omega) (by omega)).mono ?_; rw [k1]; rintro e w2 ⟨rfl, q3, rfl⟩))
            all_goals go_ret
            all_goals exact ⟨az (ap (fun h=>K1.out (by have:=(h.vert k (by rw [H1.out];exact hlt)).2.2.2.2;rwa [H1.out] at this))).symm,(by repeat' (first|(with_reducible exact Below.refl _ _)|(with_reducible assumption)|(with_reducible apply ak)|(with_reducible apply Below.alloc)|(with_reducible apply Below.drew)|(with_reducible apply ah)|(with_reducible refine Below.trans ?_ (Below.mono (by assumption) ?_))|omega|(simp only [World.size_alloc,World.size_setCell,World.size_drew];omega)))⟩
        · have k2:=Lib.hid (ap ho)
          have HO:=Lib.hid ho
          clear ho
          go_wp2_with (go_at_call 21;refine (dd _ _ _ _ k2.out _).mono ?_;rintro e w2 ⟨rfl,rfl⟩)
          go_ret
          exact ⟨az (ap (fun h=>HO.out (by have:=h.vert k (by rw [H1.out];exact hlt);omega))).symm,(by repeat' (first|(with_reducible exact Below.refl _ _)|(with_reducible assumption)|(with_reducible apply ak)|(with_reducible apply Below.alloc)|(with_reducible apply Below.drew)|(with_reducible apply ah)|(with_reducible refine Below.trans ?_ (Below.mono (by assumption) ?_))|omega|(simp only [World.size_alloc,World.size_setCell,World.size_drew];omega)))⟩
      · go_wp2
        go_ret
        exact ⟨az (aE ⟨by rw [H1.out];omega,by rw [H1.out];omega,by rw [H1.out,H2.out],fun v hv=>hS v (by rw [H1.out] at hv;omega)⟩).symm,(by repeat' (first|(with_reducible exact Below.refl _ _)|(with_reducible assumption)|(with_reducible apply ak)|(with_reducible apply Below.alloc)|(with_reducible apply Below.drew)|(with_reducible apply ah)|(with_reducible refine Below.trans ?_ (Below.mono (by assumption) ?_))|omega|(simp only [World.size_alloc,World.size_setCell,World.size_drew];omega)))⟩
   · go_enter Try.func65,Try.ntmps65
     go_wp2_with (go_at_call 21;refine (dd _ _ _ _ k0.out _).mono ?_;rintro e w2 ⟨rfl,rfl⟩)
     go_ret
     exact ⟨az (ap (fun h=>by have:=h.len;have:=H1.out;have:=H2.out;omega)).symm,(by repeat' (first|(with_reducible exact Below.refl _ _)|(with_reducible assumption)|(with_reducible apply ak)|(with_reducible apply Below.alloc)|(with_reducible apply Below.drew)|(with_reducible apply ah)|(with_reducible refine Below.trans ?_ (Below.mono (by assumption) ?_))|omega|(simp only [World.size_alloc,World.size_setCell,World.size_drew];omega)))⟩
 · have k0:=Lib.hid (ap (p:=(1 : Int) ≤ n1 ∧ (n1 : Int) ≤ 256) (by omega))
   go_enter Try.func65,Try.ntmps65
   go_wp2_with (go_at_call 21;refine (dd _ _ _ _ k0.out _).mono ?_;rintro e w2 ⟨rfl,rfl⟩)
   go_ret
   exact ⟨az (ap (fun h=>by have:=h.pos;have:=h.le;have:=H1.out;omega)).symm,(by repeat' (first|(with_reducible exact Below.refl _ _)|(with_reducible assumption)|(with_reducible apply ak)|(with_reducible apply Below.alloc)|(with_reducible apply Below.drew)|(with_reducible apply ah)|(with_reducible refine Below.trans ?_ (Below.mono (by assumption) ?_))|omega|(simp only [World.size_alloc,World.size_setCell,World.size_drew];omega)))⟩
end Go.Proofs.Ytceonklhlpkfgaa
namespace Go.Proofs.Ytceonklhlpkfgaa
set_option linter.unusedVariables false
set_option linter.unusedSimpArgs false
open Go.RowKit
set_option maxHeartbeats 1000000 in
theorem qe (v : Value) (g : Pa) (w : World) (hP : IsP w v g) :
  Calls Try.prog 47 #[v] w (Bb w (tf (PaOk g))):=by
 obtain ⟨_,_,_,rfl,⟨s1,n1,c1,rfl,h1⟩,⟨s2,n2,c2,rfl,h2⟩,⟨s3,n3,c3,rfl,h3⟩⟩:=hP
 have hA : IsA w (.agg #[.slice s1 n1 c1,.slice s2 n2 c2]) g.ar:=⟨_,_,rfl,h1.is,h2.is⟩
 have hm3:=h3.max
 have H1:=Lib.hid h1.1
 have H3:=Lib.hid h3.1
 by_cases ha : ArOk g.ar
 · have ka : tf (ArOk g.ar) = true:=aE ha
   have KA:=Lib.hid ha
   clear ha
   by_cases he : n3 = n1
   · subst he
     go_enter Try.func47,Try.ntmps47
     go_wp2_with (go_at_call 60;refine (kF _ _ _ (hA.below (by repeat' (first|(with_reducible exact Below.refl _ _)|(with_reducible assumption)|(with_reducible apply ak)|(with_reducible apply Below.alloc)|(with_reducible apply Below.drew)|(with_reducible apply ah)|(with_reducible refine Below.trans ?_ (Below.mono (by assumption) ?_))|omega|(simp only [World.size_alloc,World.size_setCell,World.size_drew];omega))))).mono ?_;rw [ka];rintro e w2 ⟨rfl,hb2⟩;have hcf:=b9 hb2;obtain ⟨hcell2,hfr2⟩:=hcf)
     go_loop [22] (fun i=>∃ k : Nat,k ≤ n3 ∧ i = .int .i64 k ∧ ∀ v,v < k → 0 ≤ gi g.prio v ∧ gi g.prio v ≤ 40) (fun i=>n3 - (intOf i).toNat)
     case atStart=>exact ⟨0,by omega,rfl,fun j hj=>by omega⟩
     case round =>
      obtain ⟨k,hk,rfl,hS⟩:=hrel
      have HS:=Lib.hid hS
      clear hS
      by_cases hlt : k < n3
      · obtain ⟨b,o,rfl,hbl,hc⟩:=(h3.below (w':=w2) (by repeat' (first|(with_reducible exact Below.refl _ _)|(with_reducible assumption)|(with_reducible apply ak)|(with_reducible apply Below.alloc)|(with_reducible apply Below.drew)|(with_reducible apply ah)|(with_reducible refine Below.trans ?_ (Below.mono (by assumption) ?_))|omega|(simp only [World.size_alloc,World.size_setCell,World.size_drew];omega)))).get hlt
        have hck:=hc k hlt
        clear hc
        go_wp2
        all_goals first
         | (go_ret; exact ⟨az (ap (fun h => by have := h.prio k (by rw [H3.out]; exact hlt); omega)).symm, (by repeat' (first | (with_reducible exact Below.refl _ _) | (with_reducible assumption) | (with_reducible apply ak) | (with_reducible apply Below.alloc) | (with_reducible apply Below.drew) | (with_reducible apply ah) | (with_reducible refine Below.trans ?_ (Below.mono (by assumption) ?_)) | omega | (simp only [World.size_alloc, World.size_setCell, World.size_drew]; omega)))⟩)
         | (go_round
            case rel=>exact ⟨k + 1,by omega,by go_num,fun j hj=>by
               by_cases e : j = k
               · rw [e];omega
               · exact HS.out j (by omega)⟩
            case measure=>simp [intOf];omega)
      · go_wp2
        go_ret
        exact ⟨az (aE ⟨KA.out,by rw [H3.out,H1.out],fun v hv=>HS.out v (by rw [H3.out] at hv;omega)⟩).symm,(by repeat' (first|(with_reducible exact Below.refl _ _)|(with_reducible assumption)|(with_reducible apply ak)|(with_reducible apply Below.alloc)|(with_reducible apply Below.drew)|(with_reducible apply ah)|(with_reducible refine Below.trans ?_ (Below.mono (by assumption) ?_))|omega|(simp only [World.size_alloc,World.size_setCell,World.size_drew];omega)))⟩
   · have hb1 : (n3 != n1) = true:=by simp [he]
     have hb3 : ((n3 : Int) != (n1 : Int)) = true:=by simp;omega
     go_enter Try.func47,Try.ntmps47
     go_wp2_with (go_at_call 60;refine (kF _ _ _ (hA.below (by repeat' (first|(with_reducible exact Below.refl _ _)|(with_reducible assumption)|(with_reducible apply ak)|(with_reducible apply Below.alloc)|(with_reducible apply Below.drew)|(with_reducible apply ah)|(with_reducible refine Below.trans ?_ (Below.mono (by assumption) ?_))|omega|(simp only [World.size_alloc,World.size_setCell,World.size_drew];omega))))).mono ?_;rw [ka];rintro e w2 ⟨rfl,hb2⟩;have hcf:=b9 hb2;obtain ⟨hcell2,hfr2⟩:=hcf)
     go_ret
     exact ⟨az (ap (fun h=>by have:=h.len;have:=H1.out;have:=H3.out;omega)).symm,(by repeat' (first|(with_reducible exact Below.refl _ _)|(with_reducible assumption)|(with_reducible apply ak)|(with_reducible apply Below.alloc)|(with_reducible apply Below.drew)|(with_reducible apply ah)|(with_reducible refine Below.trans ?_ (Below.mono (by assumption) ?_))|omega|(simp only [World.size_alloc,World.size_setCell,World.size_drew];omega)))⟩
 · have ka : tf (ArOk g.ar) = false:=ap ha
   have KA:=Lib.hid ha
   clear ha
   go_enter Try.func47,Try.ntmps47
   go_wp2_with (go_at_call 60;refine (kF _ _ _ (hA.below (by repeat' (first|(with_reducible exact Below.refl _ _)|(with_reducible assumption)|(with_reducible apply ak)|(with_reducible apply Below.alloc)|(with_reducible apply Below.drew)|(with_reducible apply ah)|(with_reducible refine Below.trans ?_ (Below.mono (by assumption) ?_))|omega|(simp only [World.size_alloc,World.size_setCell,World.size_drew];omega))))).mono ?_;rw [ka];rintro e w2 ⟨rfl,hb2⟩;have hcf:=b9 hb2;obtain ⟨hcell2,hfr2⟩:=hcf)
   go_ret
   exact ⟨az (ap (fun h=>KA.out h.ar)).symm,(by repeat' (first|(with_reducible exact Below.refl _ _)|(with_reducible assumption)|(with_reducible apply ak)|(with_reducible apply Below.alloc)|(with_reducible apply Below.drew)|(with_reducible apply ah)|(with_reducible refine Below.trans ?_ (Below.mono (by assumption) ?_))|omega|(simp only [World.size_alloc,World.size_setCell,World.size_drew];omega)))⟩
set_option maxHeartbeats 1000000 in
theorem qf (v : Value) (g : Pa) (w : World) (hP : IsP w v g) :
  Calls Try.prog 54 #[v] w (Bb w (tf (PaOk g))):=by
 obtain ⟨_,_,_,rfl,⟨s1,n1,c1,rfl,h1⟩,⟨s2,n2,c2,rfl,h2⟩,⟨s3,n3,c3,rfl,h3⟩⟩:=hP
 have hA : IsA w (.agg #[.slice s1 n1 c1,.slice s2 n2 c2]) g.ar:=⟨_,_,rfl,h1.is,h2.is⟩
 have hm3:=h3.max
 have H1:=Lib.hid h1.1
 have H3:=Lib.hid h3.1
 by_cases ha : ArOk g.ar
 · have ka : tf (ArOk g.ar) = true:=aE ha
   have KA:=Lib.hid ha
   clear ha
   by_cases he : n3 = n1
   · subst he
     go_enter Try.func54,Try.ntmps54
     go_wp2_with (go_at_call 65;refine (kG _ _ _ (hA.below (by repeat' (first|(with_reducible exact Below.refl _ _)|(with_reducible assumption)|(with_reducible apply ak)|(with_reducible apply Below.alloc)|(with_reducible apply Below.drew)|(with_reducible apply ah)|(with_reducible refine Below.trans ?_ (Below.mono (by assumption) ?_))|omega|(simp only [World.size_alloc,World.size_setCell,World.size_drew];omega))))).mono ?_;rw [ka];rintro e w2 ⟨rfl,hb2⟩;have hcf:=b9 hb2;obtain ⟨hcell2,hfr2⟩:=hcf)
     go_loop [3] (fun i=>∃ k : Nat,k ≤ n3 ∧ i = .int .i64 k ∧ ∀ v,v < k → 0 ≤ gi g.prio v ∧ gi g.prio v ≤ 40) (fun i=>n3 - (intOf i).toNat)
     case atStart=>exact ⟨0,by omega,rfl,fun j hj=>by omega⟩
     case round =>
      obtain ⟨k,hk,rfl,hS⟩:=hrel
      have HS:=Lib.hid hS
      clear hS
      by_cases hlt : k < n3
      · obtain ⟨b,o,rfl,hbl,hc⟩:=(h3.below (w':=w2) (by repeat' (first|(with_reducible exact Below.refl _ _)|(with_reducible assumption)|(with_reducible apply ak)|(with_reducible apply Below.alloc)|(with_reducible apply Below.drew)|(with_reducible apply ah)|(with_reducible refine Below.trans ?_ (Below.mono (by assumption) ?_))|omega|(simp only [World.size_alloc,World.size_setCell,World.size_drew];omega)))).get hlt
        have hck:=hc k hlt
        clear hc
        by_cases hp : 0 ≤ gi g.prio k ∧ gi g.prio k ≤ 40
        · have k2:=Lib.hid (aE hp)
          have HP:=Lib.hid hp
          clear hp
          go_wp2_with (go_at_call 21;refine (dd _ _ _ _ k2.out _).mono ?_;rintro e w3 ⟨rfl,rfl⟩)
          go_round
          case rel=>exact ⟨k + 1,by omega,by go_num,fun j hj=>by
           by_cases e : j = k
           · rw [e];exact HP.out
           · exact HS.out j (by omega)⟩
          case measure=>simp [intOf];omega
        · have k2:=Lib.hid (ap hp)
          have HP:=Lib.hid hp
          clear hp
          go_wp2_with (go_at_call 21;refine (dd _ _ _ _ k2.out _).mono ?_;rintro e w3 ⟨rfl,rfl⟩)
          go_ret
          exact ⟨az (ap (fun h=>HP.out (h.prio k (by rw [H3.out];exact hlt)))).symm,(by repeat' (first|(with_reducible exact Below.refl _ _)|(with_reducible assumption)|(with_reducible apply ak)|(with_reducible apply Below.alloc)|(with_reducible apply Below.drew)|(with_reducible apply ah)|(with_reducible refine Below.trans ?_ (Below.mono (by assumption) ?_))|omega|(simp only [World.size_alloc,World.size_setCell,World.size_drew];omega)))⟩
      · go_wp2
        go_ret
        exact ⟨az (aE ⟨KA.out,by rw [H3.out,H1.out],fun v hv=>HS.out v (by rw [H3.out] at hv;omega)⟩).symm,(by repeat' (first|(with_reducible exact Below.refl _ _)|(with_reducible assumption)|(with_reducible apply ak)|(with_reducible apply Below.alloc)|(with_reducible apply Below.drew)|(with_reducible apply ah)|(with_reducible refine Below.trans ?_ (Below.mono (by assumption) ?_))|omega|(simp only [World.size_alloc,World.size_setCell,World.size_drew];omega)))⟩
   · have hb1 : (n3 != n1) = true:=by simp [he]
     have hb3 : ((n3 : Int) != (n1 : Int)) = true:=by simp;omega
     go_enter Try.func54,Try.ntmps54
     go_wp2_with (go_at_call 65;refine (kG _ _ _ (hA.below (by repeat' (first|(with_reducible exact Below.refl _ _)|(with_reducible assumption)|(with_reducible apply ak)|(with_reducible apply Below.alloc)|(with_reducible apply Below.drew)|(with_reducible apply ah)|(with_reducible refine Below.trans ?_ (Below.mono (by assumption) ?_))|omega|(simp only [World.size_alloc,World.size_setCell,World.size_drew];omega))))).mono ?_;rw [ka];rintro e w2 ⟨rfl,hb2⟩;have hcf:=b9 hb2;obtain ⟨hcell2,hfr2⟩:=hcf)
     go_ret
     exact ⟨az (ap (fun h=>by have:=h.len;have:=H1.out;have:=H3.out;omega)).symm,(by repeat' (first|(with_reducible exact Below.refl _ _)|(with_reducible assumption)|(with_reducible apply ak)|(with_reducible apply Below.alloc)|(with_reducible apply Below.drew)|(with_reducible apply ah)|(with_reducible refine Below.trans ?_ (Below.mono (by assumption) ?_))|omega|(simp only [World.size_alloc,World.size_setCell,World.size_drew];omega)))⟩
 · have ka : tf (ArOk g.ar) = false:=ap ha
   have KA:=Lib.hid ha
   clear ha
   go_enter Try.func54,Try.ntmps54
   go_wp2_with (go_at_call 65;refine (kG _ _ _ (hA.below (by repeat' (first|(with_reducible exact Below.refl _ _)|(with_reducible assumption)|(with_reducible apply ak)|(with_reducible apply Below.alloc)|(with_reducible apply Below.drew)|(with_reducible apply ah)|(with_reducible refine Below.trans ?_ (Below.mono (by assumption) ?_))|omega|(simp only [World.size_alloc,World.size_setCell,World.size_drew];omega))))).mono ?_;rw [ka];rintro e w2 ⟨rfl,hb2⟩;have hcf:=b9 hb2;obtain ⟨hcell2,hfr2⟩:=hcf)
   go_ret
   exact ⟨az (ap (fun h=>KA.out h.ar)).symm,(by repeat' (first|(with_reducible exact Below.refl _ _)|(with_reducible assumption)|(with_reducible apply ak)|(with_reducible apply Below.alloc)|(with_reducible apply Below.drew)|(with_reducible apply ah)|(with_reducible refine Below.trans ?_ (Below.mono (by assumption) ?_))|omega|(simp only [World.size_alloc,World.size_setCell,World.size_drew];omega)))⟩
end Go.Proofs.Ytceonklhlpkfgaa
