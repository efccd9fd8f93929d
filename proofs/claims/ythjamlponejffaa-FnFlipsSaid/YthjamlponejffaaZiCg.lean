/-
  The reference's game with both ways of its edges: l7Of, l7Edge, l7Degree.
-/
import Derived.Test.YthjamlponejffaaZiCb
namespace Go.Proofs.Ythjamlponejffaa
set_option linter.unusedVariables false
set_option linter.unusedSimpArgs false
open Go.RowKit
attribute [local go_sem ↓] Go.wp_at_zero Go.wp_at_succ
def dB (n : Nat) (f : Nat → List Int) : List (List Int):=(List.range n).map f
@[simp] theorem iN (n : Nat) (f : Nat → List Int) : (dB n f).length = n:=by simp [dB]
theorem dK {n k : Nat} (f : Nat → List Int) (h : k < n) : gr (dB n f) k = f k:=by simp [gr,dB,List.getD,h]
theorem mW {xs : List (List Int)} {n : Nat} {f : Nat → List Int} (hl : xs.length = n) (h : ∀ k,k < n → gr xs k = f k) : xs = dB n f:=by
 apply List.ext_getElem (by simp [hl])
 intro k h1 h2
 have:=h k (by omega)
 rw [← dK f (by omega : k < n)] at this
 rw [lE (by omega),lE (by simp;omega)] at this
 exact this
theorem pw {n k : Nat} {f : Nat → List Int} {x : List Int} (hk : k < n) : (dB n f).set k x = dB n fun i=>if i = k then x else f i :=
 mW (by simp) fun j hj=>by rw [ov (by simpa using hk),dK f hj]
theorem fZ {n : Nat} {f g : Nat → List Int} (h : ∀ k,k < n → f k = g k) : dB n f = dB n g:=mW (by simp) fun k hk=>by rw [dK _ hk,h k hk]
def bY (row : List Int) (v u : Nat) : Nat → List Int
 | 0 => []
 | i + 1 => bY row v u i ++ if (gi row i).toNat = u then [(v : Int)] else []
def bK (nxt : List (List Int)) (u : Nat) : Nat → List Int
 | 0 => []
 | k + 1 => bK nxt u k ++ bY (gr nxt k) k u (gr nxt k).length
theorem gX (row : List Int) (v u : Nat) : ∀ i,(bY row v u i).length ≤ i:=by
 intro i
 induction i with
 | zero => simp [bY]
 | succ i ih => unfold bY; rw [List.length_append]; split <;> simp <;> omega
theorem iO {nxt : List (List Int)} {m : Nat} (u : Nat) : ∀ k,(∀ j,j < k → (gr nxt j).length ≤ m) → (bK nxt u k).length ≤ m * k:=by
 intro k
 induction k with
 | zero => intro _; simp [bK]
 | succ k ih =>
   intro h
   have h1:=ih fun j hj=>h j (by omega)
   have h2:=gX (gr nxt k) k u (gr nxt k).length
   have h3:=h k (by omega)
   unfold bK
   rw [List.length_append,Nat.mul_succ]
   omega
structure Gm where
 own : List Int
 prio : List Int
 nxt : List (List Int)
 prev : List (List Int)
 pick : List Int
def c9 (g : Pa) : Gm:=⟨g.ar.own,g.prio,g.ar.nxt,dB g.prio.length fun u=>bK g.ar.nxt u g.prio.length,tab g.prio.length fun _=>-1⟩
def IsG (w : World) (v : Value) (g : Gm) : Prop:=∃ vo vp vn vq vk,v = .agg #[vo,vp,vn,vq,vk] ∧ IsI w vo g.own ∧ IsI w vp g.prio ∧ dT w vn g.nxt ∧ dT w vq g.prev ∧ IsI w vk g.pick
theorem IsG.below {w w' : World} {v : Value} {g : Gm} (h : IsG w v g) (hb : Below w.heap.size w w') : IsG w' v g :=
 let ⟨vo,vp,vn,vq,vk,e,h1,h2,h3,h4,h5⟩:=h;⟨vo,vp,vn,vq,vk,e,h1.below hb,h2.below hb,h3.below hb,h4.below hb,h5.below hb⟩
section
variable {w : World} {ops : Array Oper} {o : Oper} {a : Act} {Q : Exit → Act → World → Prop} {K : Act → World → Prop} {E : Prop}
theorem kk (hg : o.guard = none) (s x : Operand) (hop : o.op = .call { callee:=.builtin .append,args:=#[s,x],argTypes:=#[22,22] })
  {lo hi : Nat} {v : Value} {xs : List Int} (hs : a.eval s = v) (hown : aM lo hi w v xs) (y : Int) (bx c : Nat) (hx : a.eval x = .slice (some ⟨bx,0,none⟩) 1 c) (hcell : w.cell? ⟨bx,0,none⟩ = some (.int .i64 y))
  (hlen : xs.length ≤ 1048576) (hbase : lo ≤ w.heap.size)
  (hK : ∀ sa c' w',aM lo w'.heap.size w' (.slice sa (xs.length + 1) c') (xs ++ [y]) → w.grownBy w' (blk v) → (∀ g,blk (.slice sa (xs.length + 1) c') = some g → blk v = some g ∨ w.heap.size ≤ g) → K (a.put o.dst (.slice sa (xs.length + 1) c')) w') :
  if Region.wanted o (yielded ops a.tmps) = true then Oper.wp Try.prog o a w K Q else E:=by
 have hw : Region.wanted o (yielded ops a.tmps) = true:=by simp [Region.wanted,hg]
 rw [if_pos hw]
 obtain ⟨sa,c',w',hrun,h1,h2,h3⟩:=kv o.type hown y bx c hcell hlen hbase
 unfold Oper.wp execOp
 simp only [hop,resolve,invoke,builtin,Sem.run_bind,Sem.run_pure,Result.andThen_ok,List.map_toArray,List.map_cons,List.map_nil,hs,hx,hrun]
 exact hK sa c' w' h1 h2 h3
end
end Go.Proofs.Ythjamlponejffaa
namespace Go.Proofs.Ythjamlponejffaa
set_option linter.unusedVariables false
set_option linter.unusedSimpArgs false
open Go.RowKit
theorem bT {w : World} {B : Nat} {cs : List Value} {T : TypeId} (h : B = w.heap.size) : Blk (w.alloc (.cells cs.toArray T)) B cs T:=by subst h;exact dE _ _ _
theorem bU {lo B n : Nat} {w : World} (h : B = w.heap.size) (hlo : lo ≤ B) (hn : n ≤ 1048576) : aM lo (w.alloc (.cells (madeCells #[.int .i64 0] n) 2)).heap.size (w.alloc (.cells (madeCells #[.int .i64 0] n) 2)) (.slice (some ⟨B,0,none⟩) n n) (tab n fun _=>0):=by
 subst h
 refine .inr ⟨_,n,_,?_,hlo,by simp,heap_alloc_new _ _,?_,by unfold maxLen;omega,?_,?_⟩
 · simp
 · simp
 · have:=congrArg List.length (jd n);simpa using this
 · rw [jd];exact List.take_of_length_le (by simp)
theorem bV {lo B n : Nat} {w : World} (h : B = w.heap.size) (hlo : lo ≤ B) (hn : n ≤ 1048576) : bi lo (w.alloc (.cells (madeCells #[.slice none 0 0] n) 22)).heap.size (w.alloc (.cells (madeCells #[.slice none 0 0] n) 22)) (.slice (some ⟨B,0,none⟩) n n) (dB n fun _=>[]) (List.replicate n (.slice none 0 0)):=by
 subst h
 refine ⟨by simp,.inr ⟨_,n,_,?_,hlo,by simp,heap_alloc_new _ _,?_,by unfold maxLen;omega,?_,?_⟩,fun k hk=>?_,?_⟩
 · simp
 · simp
 · have:=congrArg List.length (gQ n);simpa using this
 · rw [gQ];simp
 · rw [iN] at hk
   rw [dK _ hk,show (List.replicate n (Value.slice none 0 0)).getD k (.slice none 0 0) = .slice none 0 0 by simp [List.getD_eq_getElem?_getD,List.getElem?_replicate];split <;> rfl]
   exact ou _ _ _ _
 · rw [show (List.replicate n (Value.slice none 0 0)).filterMap blk = [] from by simp [blk,Value.ownBlock,List.filterMap_replicate]]
   exact List.nodup_nil
theorem bi.alloc {lo hi : Nat} {w : World} {v : Value} {xss : List (List Int)} {vs : List Value} (h : bi lo hi w v xss vs) (o : Obj) : bi lo hi (w.alloc o) v xss vs:=h.below (aD w o)
theorem bi.drew {lo hi : Nat} {w : World} {v : Value} {xss : List (List Int)} {vs : List Value} (h : bi lo hi w v xss vs) : bi lo hi w.drew v xss vs:=h.below (bJ w)
theorem dO {K : Act → World → Prop} {Q : Exit → Act → World → Prop} {e : Exit} {a : Act} {W : World} (F : World → Prop) (hF : F W) (h : ∀ W',F W' → Exit.then K Q e a W') : Exit.then K Q e a W:=h W hF
theorem dP (n : Nat) : (List.replicate n (Value.slice none 0 0)).filterMap blk = []:=by simp [blk,Value.ownBlock,List.filterMap_replicate]
theorem bi.off {lo hi : Nat} {w : World} {v : Value} {xss : List (List Int)} {vs : List Value} (h : bi lo hi w v xss vs) {g : Nat} (h1 : blk v ≠ some g) (h2 : ¬ g ∈ vs.filterMap blk) (k : Nat) (u : Value) : bi lo hi (w.setCell ⟨g,k,none⟩ u) v xss vs:=by
 refine ⟨h.1,aE.other h.2.1 h1 k u,fun j hj=>aE.other (h.2.2.1 j hj) (fun e=>h2 ?_) k u,h.2.2.2⟩
 have hj' : j < vs.length:=by rw [h.1];exact hj
 rw [List.getD_eq_getElem?_getD,List.getElem?_eq_getElem hj',Option.getD_some] at e
 exact List.mem_filterMap.2 ⟨_,List.getElem_mem hj',e⟩
structure Mk (L : Nat) (cs : Nat → Nat → List Value) (n p4 gq gk : Nat) (xss : List (List Int)) (pk : List Int) (vs : List Value) (w : World) : Prop where
 blk : Blk w p4 (cs gq gk) 72
 own : bi L w.heap.size w (.slice (some ⟨gq,0,none⟩) n n) xss vs
 pick : aM L w.heap.size w (.slice (some ⟨gk,0,none⟩) n n) pk
 rows : ∀ g,g ∈ vs.filterMap Go.Proofs.Ythjamlponejffaa.blk → L + 3 ≤ g
 b4 : L ≤ p4 ∧ p4 < L + 3
 bq : L ≤ gq ∧ gq < L + 3
 bk : L ≤ gk ∧ gk < L + 3
 ne1 : p4 ≠ gq
 ne2 : p4 ≠ gk
 ne3 : gq ≠ gk
 sz : L + 3 ≤ w.heap.size
theorem aM.oth {lo hi : Nat} {w : World} {v : Value} {xs : List Int} (h : aM lo hi w v xs) {g : Nat} (hne : Go.Proofs.Ythjamlponejffaa.blk v ≠ some g) (k : Nat) (u : Value) : aM lo hi (w.setCell ⟨g,k,none⟩ u) v xs:=aE.other h hne k u
theorem jF {nxt : List (List Int)} {n k i : Nat} (hu : (gi (gr nxt k) i).toNat < n) :
  (dB n fun u=>bK nxt u k ++ bY (gr nxt k) k u i).set (gi (gr nxt k) i).toNat (gr (dB n fun u=>bK nxt u k ++ bY (gr nxt k) k u i) (gi (gr nxt k) i).toNat ++ [(k : Int)]) = dB n fun u=>bK nxt u k ++ bY (gr nxt k) k u (i + 1):=by
 rw [pw hu]
 refine fZ fun u' hu'=>?_
 by_cases e : u' = (gi (gr nxt k) i).toNat
 · rw [if_pos e,dK _ hu,← e]
   show _ = _ ++ (bY (gr nxt k) k u' i ++ if (gi (gr nxt k) i).toNat = u' then [(k : Int)] else [])
   rw [if_pos e.symm,List.append_assoc]
 · rw [if_neg e]
   show _ = _ ++ (bY (gr nxt k) k u' i ++ if (gi (gr nxt k) i).toNat = u' then [(k : Int)] else [])
   rw [if_neg (fun h=>e h.symm),List.append_nil]
namespace Mk
variable {L : Nat} {cs : Nat → Nat → List Value} {n p4 gq gk : Nat} {xss : List (List Int)} {pk : List Int} {vs : List Value} {w : World}
theorem below {w' : World} (h : Mk L cs n p4 gq gk xss pk vs w) (hb : Below w.heap.size w w') : Mk L cs n p4 gq gk xss pk vs w' :=
 ⟨h.blk.below hb,(h.own.below hb).top,aM.top (aE.below h.pick hb),h.rows,h.b4,h.bq,h.bk,h.ne1,h.ne2,h.ne3,Nat.le_trans h.sz hb.size⟩
theorem far (h : Mk L cs n p4 gq gk xss pk vs w) {g : Nat} (hg : g < L + 3) : ¬ g ∈ vs.filterMap Go.Proofs.Ythjamlponejffaa.blk:=fun hm=>by have:=h.rows g hm;omega
theorem cast {xss' : List (List Int)} {pk' : List Int} (h : Mk L cs n p4 gq gk xss pk vs w) (e1 : xss = xss') (e2 : pk = pk') : Mk L cs n p4 gq gk xss' pk' vs w:=by subst e1 e2;exact h
theorem setPick (h : Mk L cs n p4 gq gk xss pk vs w) (j : Nat) (x : Int) : Mk L cs n p4 gq gk xss (pk.set j x) vs (w.setCell ⟨gk,j,none⟩ (.int .i64 x)) :=
 ⟨h.blk.other h.ne2.symm j _,(h.own.off (fun e=>h.ne3 (by simpa [Go.Proofs.Ythjamlponejffaa.blk,Value.ownBlock] using e)) (h.far h.bk.2) j _).top,(aM.set h.pick j x).top,h.rows,h.b4,h.bq,h.bk,h.ne1,h.ne2,h.ne3,by rw [World.size_setCell];exact h.sz⟩
theorem rowBlk (h : Mk L cs n p4 gq gk xss pk vs w) {u : Nat} (hu : u < xss.length) {g : Nat} (hg : g < L + 3) : Go.Proofs.Ythjamlponejffaa.blk (vs.getD u (.slice none 0 0)) ≠ some g:=by
 intro e
 have hu' : u < vs.length:=by rw [h.own.1];exact hu
 rw [List.getD_eq_getElem?_getD,List.getElem?_eq_getElem hu',Option.getD_some] at e
 exact h.far hg (List.mem_filterMap.2 ⟨_,List.getElem_mem hu',e⟩)
theorem mid (h : Mk L cs n p4 gq gk xss pk vs w) {u : Nat} (hu : u < xss.length) {w2 : World} (hg : w.grownBy w2 (Go.Proofs.Ythjamlponejffaa.blk (vs.getD u (.slice none 0 0)))) :
  Blk w2 p4 (cs gq gk) 72 ∧ aE 22 L w2.heap.size w2 (.slice (some ⟨gq,0,none⟩) n n) vs ∧ aM L w2.heap.size w2 (.slice (some ⟨gk,0,none⟩) n n) pk :=
 ⟨(hg.block p4 h.blk.lt (fun e=>h.rowBlk hu h.b4.2 e.symm)).trans h.blk,
  aE.top (aE.keep h.own.2.1 (w':=w2) fun g hg'=>hg.block g (aE.lt h.own.2.1 g hg').2.2 (fun e=>h.rowBlk hu (g:=g) (by simp [Go.Proofs.Ythjamlponejffaa.blk,Value.ownBlock] at hg';have:=h.bq;omega) e.symm)),
  aM.top (aE.keep h.pick (w':=w2) fun g hg'=>hg.block g (aE.lt h.pick g hg').2.2 (fun e=>h.rowBlk hu (g:=g) (by simp [Go.Proofs.Ythjamlponejffaa.blk,Value.ownBlock] at hg';have:=h.bk;omega) e.symm))⟩
theorem app (h : Mk L cs n p4 gq gk xss pk vs w) {u : Nat} (hu : u < xss.length) {w2 : World} {nv : Value} {ys : List Int} (hO : aM L w2.heap.size w2 nv ys) (hg : w.grownBy w2 (Go.Proofs.Ythjamlponejffaa.blk (vs.getD u (.slice none 0 0))))
  (hf : ∀ g,Go.Proofs.Ythjamlponejffaa.blk nv = some g → Go.Proofs.Ythjamlponejffaa.blk (vs.getD u (.slice none 0 0)) = some g ∨ w.heap.size ≤ g) : Mk L cs n p4 gq gk (xss.set u ys) pk (vs.set u nv) (w2.setCell ⟨gq,u,none⟩ nv):=by
 obtain ⟨m1,m2,m3⟩:=h.mid hu hg
 refine ⟨m1.other h.ne1.symm u _,(h.own.put hu hO hg hf).top,aM.top (aM.oth m3 (fun e=>h.ne3 (by simpa [Go.Proofs.Ythjamlponejffaa.blk,Value.ownBlock] using e.symm)) u _),fun g hm=>?_,h.b4,h.bq,h.bk,h.ne1,h.ne2,h.ne3,by rw [World.size_setCell];exact Nat.le_trans h.sz hg.size⟩
 obtain ⟨x,hx,e⟩:=List.mem_filterMap.1 hm
 rcases List.mem_or_eq_of_mem_set hx with hx|rfl
 · exact h.rows g (List.mem_filterMap.2 ⟨x,hx,e⟩)
 · rcases hf g e with e'|e'
   · rcases Nat.lt_or_ge g (L + 3) with hl|hl
     · exact absurd e' (h.rowBlk hu hl)
     · exact hl
   · exact Nat.le_trans h.sz e'
theorem cell (h : Mk L cs n p4 gq gk xss pk vs w) {u : Nat} (hu : u < xss.length) : w.cell? ⟨gq,u,none⟩ = some (vs.getD u (.slice none 0 0)) ∧ w.frozen? ⟨gq,u,none⟩ = false ∧ gq < w.heap.size:=by
 obtain ⟨g',cap',e,_,_,h2,h3,h4⟩:=h.own.2.1.at (.slice none 0 0) (k:=u) (by rw [h.own.1];exact hu)
 simp only [Value.slice.injEq,Option.some.injEq,Addr.mk.injEq,and_true] at e
 obtain ⟨rfl,_⟩:=e
 exact ⟨h3 u (by rw [h.own.1];exact hu),h4 u,h2⟩
theorem cell2 {w2 : World} (h : aE 22 L w2.heap.size w2 (.slice (some ⟨gq,0,none⟩) n n) vs) {u : Nat} (hu : u < vs.length) : w2.cell? ⟨gq,u,none⟩ = some (vs.getD u (.slice none 0 0)) ∧ w2.frozen? ⟨gq,u,none⟩ = false ∧ gq < w2.heap.size:=by
 obtain ⟨g',cap',e,_,_,h2,h3,h4⟩:=h.at (.slice none 0 0) (k:=u) hu
 simp only [Value.slice.injEq,Option.some.injEq,Addr.mk.injEq,and_true] at e
 obtain ⟨rfl,_⟩:=e
 exact ⟨h3 u hu,h4 u,h2⟩
end Mk
end Go.Proofs.Ythjamlponejffaa
namespace Go.Proofs.Ythjamlponejffaa
set_option linter.unusedVariables false
set_option linter.unusedSimpArgs false
open Go.RowKit
attribute [local go_sem ↓] Go.wp_at_zero Go.wp_at_succ
end Go.Proofs.Ythjamlponejffaa
