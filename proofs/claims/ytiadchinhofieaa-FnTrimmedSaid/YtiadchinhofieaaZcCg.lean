/-
  The reference's game with both ways of its edges: l7Of, l7Edge, l7Degree.
-/
import Derived.Test.YtiadchinhofieaaZcCb
namespace Go.Proofs.Ytiadchinhofieaa
set_option linter.unusedVariables false
set_option linter.unusedSimpArgs false
open Go.RowKit
attribute [local go_sem ↓] Go.wp_at_zero Go.wp_at_succ
def cZ (n : Nat) (f : Nat → List Int) : List (List Int):=(List.range n).map f
@[simp] theorem fb (n : Nat) (f : Nat → List Int) : (cZ n f).length = n:=by simp [cZ]
theorem dL {n k : Nat} (f : Nat → List Int) (h : k < n) : gr (cZ n f) k = f k:=by simp [gr,cZ,List.getD,h]
theorem jh {xs : List (List Int)} {n : Nat} {f : Nat → List Int} (hl : xs.length = n) (h : ∀ k,k < n → gr xs k = f k) : xs = cZ n f:=by
 apply List.ext_getElem (by simp [hl])
 intro k h1 h2
 have:=h k (by omega)
 rw [← dL f (by omega : k < n)] at this
 rw [jn (by omega),jn (by simp;omega)] at this
 exact this
theorem qK {n k : Nat} {f : Nat → List Int} {x : List Int} (hk : k < n) : (cZ n f).set k x = cZ n fun i=>if i = k then x else f i :=
 jh (by simp) fun j hj=>by rw [pP (by simpa using hk),dL f hj]
theorem eC {n : Nat} {f g : Nat → List Int} (h : ∀ k,k < n → f k = g k) : cZ n f = cZ n g:=jh (by simp) fun k hk=>by rw [dL _ hk,h k hk]
def bW (row : List Int) (v u : Nat) : Nat → List Int
 | 0 => []
 | i + 1 => bW row v u i ++ if (gi row i).toNat = u then [(v : Int)] else []
def bG (nxt : List (List Int)) (u : Nat) : Nat → List Int
 | 0 => []
 | k + 1 => bG nxt u k ++ bW (gr nxt k) k u (gr nxt k).length
theorem fZ (row : List Int) (v u : Nat) : ∀ i,(bW row v u i).length ≤ i:=by
 intro i
 induction i with
 | zero => simp [bW]
 | succ i ih => unfold bW; rw [List.length_append]; split <;> simp <;> omega
theorem gZ {nxt : List (List Int)} {m : Nat} (u : Nat) : ∀ k,(∀ j,j < k → (gr nxt j).length ≤ m) → (bG nxt u k).length ≤ m * k:=by
 intro k
 induction k with
 | zero => intro _; simp [bG]
 | succ k ih =>
   intro h
   have h1:=ih fun j hj=>h j (by omega)
   have h2:=fZ (gr nxt k) k u (gr nxt k).length
   have h3:=h k (by omega)
   unfold bG
   rw [List.length_append,Nat.mul_succ]
   omega
structure Gm where
 own : List Int
 prio : List Int
 nxt : List (List Int)
 prev : List (List Int)
 pick : List Int
def eS (g : Pa) : Gm:=⟨g.ar.own,g.prio,g.ar.nxt,cZ g.prio.length fun u=>bG g.ar.nxt u g.prio.length,tab g.prio.length fun _=>-1⟩
def IsG (w : World) (v : Value) (g : Gm) : Prop:=∃ vo vp vn vq vk,v = .agg #[vo,vp,vn,vq,vk] ∧ IsI w vo g.own ∧ IsI w vp g.prio ∧ dV w vn g.nxt ∧ dV w vq g.prev ∧ IsI w vk g.pick
theorem IsG.below {w w' : World} {v : Value} {g : Gm} (h : IsG w v g) (hb : Below w.heap.size w w') : IsG w' v g :=
 let ⟨vo,vp,vn,vq,vk,e,h1,h2,h3,h4,h5⟩:=h;⟨vo,vp,vn,vq,vk,e,h1.below hb,h2.below hb,h3.below hb,h4.below hb,h5.below hb⟩
section
variable {w : World} {ops : Array Oper} {o : Oper} {a : Act} {Q : Exit → Act → World → Prop} {K : Act → World → Prop} {E : Prop}
theorem lw (hg : o.guard = none) (s x : Operand) (hop : o.op = .call { callee:=.builtin .append,args:=#[s,x],argTypes:=#[22,22] })
  {lo hi : Nat} {v : Value} {xs : List Int} (hs : a.eval s = v) (hown : a9 lo hi w v xs) (y : Int) (bx c : Nat) (hx : a.eval x = .slice (some ⟨bx,0,none⟩) 1 c) (hcell : w.cell? ⟨bx,0,none⟩ = some (.int .i64 y))
  (hlen : xs.length ≤ 1048576) (hbase : lo ≤ w.heap.size)
  (hK : ∀ sa c' w',a9 lo w'.heap.size w' (.slice sa (xs.length + 1) c') (xs ++ [y]) → w.grownBy w' (blk v) → (∀ g,blk (.slice sa (xs.length + 1) c') = some g → blk v = some g ∨ w.heap.size ≤ g) → K (a.put o.dst (.slice sa (xs.length + 1) c')) w') :
  if Region.wanted o (yielded ops a.tmps) = true then Oper.wp Try.prog o a w K Q else E:=by
 have hw : Region.wanted o (yielded ops a.tmps) = true:=by simp [Region.wanted,hg]
 rw [if_pos hw]
 obtain ⟨sa,c',w',hrun,h1,h2,h3⟩:=iV o.type hown y bx c hcell hlen hbase
 unfold Oper.wp execOp
 simp only [hop,resolve,invoke,builtin,Sem.run_bind,Sem.run_pure,Result.andThen_ok,List.map_toArray,List.map_cons,List.map_nil,hs,hx,hrun]
 exact hK sa c' w' h1 h2 h3
theorem nA (l c : Operand) (hop : o.op = Op.makeSlice 23 l c) (kl kc : IntKind) (L C : Int) (n : Nat) (hl : a.eval l = .int kl L) (hc : a.eval c = .int kc C) (hL : L = (n : Int)) (hC : C = (n : Int)) (hn : n ≤ 1048576)
  (hK : ∀ b w',b = w.heap.size → bi b w'.heap.size w' (.slice (some ⟨b,0,none⟩) n n) (cZ n fun _=>[]) (List.replicate n (.slice none 0 0)) → Below b w w' → b < w'.heap.size → K (a.put o.dst (.slice (some ⟨b,0,none⟩) n n)) w') : o.wp Try.prog a w K Q:=by
 obtain ⟨i0,hi,hz0,hz1,hz2⟩:=info_parts Try.infoS
 obtain ⟨w',hrun,r1,r2⟩:=run_make_full (P:=Try.prog) w w.heap.size 23 22 i0 (.slice none 0 0) 1 Try.underlying23 hi hz0 hz1 kl kc n (by rw [hz2];omega) (by unfold maxLen;omega) (Nat.le_refl _)
 subst hL
 subst hC
 rw [Nat.mul_one,show (Value.slice none 0 0).cells = #[.slice none 0 0] from rfl,eF] at r1
 unfold Oper.wp
 simp [execOp,hop,hl,hc,hrun,Result.andThen]
 refine hK _ w' rfl ⟨by simp,?_,fun k hk=>?_,?_⟩ ((Below.refl _ _).grown r2 (Nat.le_refl _) (fun k h=>by cases h)) (r1.lt _ rfl).2
 · have:=dy r1
   exact this
 · rw [fb] at hk
   rw [dL _ hk,show (List.replicate n (Value.slice none 0 0)).getD k (.slice none 0 0) = .slice none 0 0 by simp [List.getD_eq_getElem?_getD,List.getElem?_replicate];split <;> rfl]
   exact lK _ _ _ _
 · rw [show (List.replicate n (Value.slice none 0 0)).filterMap blk = [] from by simp [blk,Value.ownBlock,List.filterMap_replicate]]
   exact List.nodup_nil
end
end Go.Proofs.Ytiadchinhofieaa
namespace Go.Proofs.Ytiadchinhofieaa
set_option linter.unusedVariables false
set_option linter.unusedSimpArgs false
open Go.RowKit
theorem co {w : World} {B : Nat} {cs : List Value} {T : TypeId} (h : B = w.heap.size) : Blk (w.alloc (.cells cs.toArray T)) B cs T:=by subst h;exact bM _ _ _
theorem cr {lo B n : Nat} {w : World} (h : B = w.heap.size) (hlo : lo ≤ B) (hn : n ≤ 1048576) : a9 lo (w.alloc (.cells (madeCells #[.int .i64 0] n) 2)).heap.size (w.alloc (.cells (madeCells #[.int .i64 0] n) 2)) (.slice (some ⟨B,0,none⟩) n n) (tab n fun _=>0):=by
 subst h
 refine .inr ⟨_,n,_,?_,hlo,by simp,heap_alloc_new _ _,?_,by unfold maxLen;omega,?_,?_⟩
 · simp
 · simp
 · have:=congrArg List.length (iD n);simpa using this
 · rw [iD];exact List.take_of_length_le (by simp)
theorem cw {lo B n : Nat} {w : World} (h : B = w.heap.size) (hlo : lo ≤ B) (hn : n ≤ 1048576) : bi lo (w.alloc (.cells (madeCells #[.slice none 0 0] n) 22)).heap.size (w.alloc (.cells (madeCells #[.slice none 0 0] n) 22)) (.slice (some ⟨B,0,none⟩) n n) (cZ n fun _=>[]) (List.replicate n (.slice none 0 0)):=by
 subst h
 refine ⟨by simp,.inr ⟨_,n,_,?_,hlo,by simp,heap_alloc_new _ _,?_,by unfold maxLen;omega,?_,?_⟩,fun k hk=>?_,?_⟩
 · simp
 · simp
 · have:=congrArg List.length (eF n);simpa using this
 · rw [eF];simp
 · rw [fb] at hk
   rw [dL _ hk,show (List.replicate n (Value.slice none 0 0)).getD k (.slice none 0 0) = .slice none 0 0 by simp [List.getD_eq_getElem?_getD,List.getElem?_replicate];split <;> rfl]
   exact lK _ _ _ _
 · rw [show (List.replicate n (Value.slice none 0 0)).filterMap blk = [] from by simp [blk,Value.ownBlock,List.filterMap_replicate]]
   exact List.nodup_nil
theorem bi.alloc {lo hi : Nat} {w : World} {v : Value} {xss : List (List Int)} {vs : List Value} (h : bi lo hi w v xss vs) (o : Obj) : bi lo hi (w.alloc o) v xss vs:=h.below (ay w o)
theorem bi.drew {lo hi : Nat} {w : World} {v : Value} {xss : List (List Int)} {vs : List Value} (h : bi lo hi w v xss vs) : bi lo hi w.drew v xss vs:=h.below (bj w)
theorem ee {K : Act → World → Prop} {Q : Exit → Act → World → Prop} {e : Exit} {a : Act} {W : World} (F : World → Prop) (hF : F W) (h : ∀ W',F W' → Exit.then K Q e a W') : Exit.then K Q e a W:=h W hF
theorem ef (n : Nat) : (List.replicate n (Value.slice none 0 0)).filterMap blk = []:=by simp [blk,Value.ownBlock,List.filterMap_replicate]
theorem bi.off {lo hi : Nat} {w : World} {v : Value} {xss : List (List Int)} {vs : List Value} (h : bi lo hi w v xss vs) {g : Nat} (h1 : blk v ≠ some g) (h2 : ¬ g ∈ vs.filterMap blk) (k : Nat) (u : Value) : bi lo hi (w.setCell ⟨g,k,none⟩ u) v xss vs:=by
 refine ⟨h.1,aI.other h.2.1 h1 k u,fun j hj=>aI.other (h.2.2.1 j hj) (fun e=>h2 ?_) k u,h.2.2.2⟩
 have hj' : j < vs.length:=by rw [h.1];exact hj
 rw [List.getD_eq_getElem?_getD,List.getElem?_eq_getElem hj',Option.getD_some] at e
 exact List.mem_filterMap.2 ⟨_,List.getElem_mem hj',e⟩
structure Mk (L : Nat) (cs : Nat → Nat → List Value) (n p4 gq gk : Nat) (xss : List (List Int)) (pk : List Int) (vs : List Value) (w : World) : Prop where
 blk : Blk w p4 (cs gq gk) 101
 own : bi L w.heap.size w (.slice (some ⟨gq,0,none⟩) n n) xss vs
 pick : a9 L w.heap.size w (.slice (some ⟨gk,0,none⟩) n n) pk
 rows : ∀ g,g ∈ vs.filterMap Go.Proofs.Ytiadchinhofieaa.blk → L + 3 ≤ g
 b4 : L ≤ p4 ∧ p4 < L + 3
 bq : L ≤ gq ∧ gq < L + 3
 bk : L ≤ gk ∧ gk < L + 3
 ne1 : p4 ≠ gq
 ne2 : p4 ≠ gk
 ne3 : gq ≠ gk
 sz : L + 3 ≤ w.heap.size
theorem a9.oth {lo hi : Nat} {w : World} {v : Value} {xs : List Int} (h : a9 lo hi w v xs) {g : Nat} (hne : Go.Proofs.Ytiadchinhofieaa.blk v ≠ some g) (k : Nat) (u : Value) : a9 lo hi (w.setCell ⟨g,k,none⟩ u) v xs:=aI.other h hne k u
theorem iL {nxt : List (List Int)} {n k i : Nat} (hu : (gi (gr nxt k) i).toNat < n) :
  (cZ n fun u=>bG nxt u k ++ bW (gr nxt k) k u i).set (gi (gr nxt k) i).toNat (gr (cZ n fun u=>bG nxt u k ++ bW (gr nxt k) k u i) (gi (gr nxt k) i).toNat ++ [(k : Int)]) = cZ n fun u=>bG nxt u k ++ bW (gr nxt k) k u (i + 1):=by
 rw [qK hu]
 refine eC fun u' hu'=>?_
 by_cases e : u' = (gi (gr nxt k) i).toNat
 · rw [if_pos e,dL _ hu,← e]
   show _ = _ ++ (bW (gr nxt k) k u' i ++ if (gi (gr nxt k) i).toNat = u' then [(k : Int)] else [])
   rw [if_pos e.symm,List.append_assoc]
 · rw [if_neg e]
   show _ = _ ++ (bW (gr nxt k) k u' i ++ if (gi (gr nxt k) i).toNat = u' then [(k : Int)] else [])
   rw [if_neg (fun h=>e h.symm),List.append_nil]
namespace Mk
variable {L : Nat} {cs : Nat → Nat → List Value} {n p4 gq gk : Nat} {xss : List (List Int)} {pk : List Int} {vs : List Value} {w : World}
theorem below {w' : World} (h : Mk L cs n p4 gq gk xss pk vs w) (hb : Below w.heap.size w w') : Mk L cs n p4 gq gk xss pk vs w' :=
 ⟨h.blk.below hb,(h.own.below hb).top,a9.top (aI.below h.pick hb),h.rows,h.b4,h.bq,h.bk,h.ne1,h.ne2,h.ne3,Nat.le_trans h.sz hb.size⟩
theorem far (h : Mk L cs n p4 gq gk xss pk vs w) {g : Nat} (hg : g < L + 3) : ¬ g ∈ vs.filterMap Go.Proofs.Ytiadchinhofieaa.blk:=fun hm=>by have:=h.rows g hm;omega
theorem cast {xss' : List (List Int)} {pk' : List Int} (h : Mk L cs n p4 gq gk xss pk vs w) (e1 : xss = xss') (e2 : pk = pk') : Mk L cs n p4 gq gk xss' pk' vs w:=by subst e1 e2;exact h
theorem setPick (h : Mk L cs n p4 gq gk xss pk vs w) (j : Nat) (x : Int) : Mk L cs n p4 gq gk xss (pk.set j x) vs (w.setCell ⟨gk,j,none⟩ (.int .i64 x)) :=
 ⟨h.blk.other h.ne2.symm j _,(h.own.off (fun e=>h.ne3 (by simpa [Go.Proofs.Ytiadchinhofieaa.blk,Value.ownBlock] using e)) (h.far h.bk.2) j _).top,(a9.set h.pick j x).top,h.rows,h.b4,h.bq,h.bk,h.ne1,h.ne2,h.ne3,by rw [World.size_setCell];exact h.sz⟩
theorem rowBlk (h : Mk L cs n p4 gq gk xss pk vs w) {u : Nat} (hu : u < xss.length) {g : Nat} (hg : g < L + 3) : Go.Proofs.Ytiadchinhofieaa.blk (vs.getD u (.slice none 0 0)) ≠ some g:=by
 intro e
 have hu' : u < vs.length:=by rw [h.own.1];exact hu
 rw [List.getD_eq_getElem?_getD,List.getElem?_eq_getElem hu',Option.getD_some] at e
 exact h.far hg (List.mem_filterMap.2 ⟨_,List.getElem_mem hu',e⟩)
theorem mid (h : Mk L cs n p4 gq gk xss pk vs w) {u : Nat} (hu : u < xss.length) {w2 : World} (hg : w.grownBy w2 (Go.Proofs.Ytiadchinhofieaa.blk (vs.getD u (.slice none 0 0)))) :
  Blk w2 p4 (cs gq gk) 101 ∧ aI 22 L w2.heap.size w2 (.slice (some ⟨gq,0,none⟩) n n) vs ∧ a9 L w2.heap.size w2 (.slice (some ⟨gk,0,none⟩) n n) pk :=
 ⟨(hg.block p4 h.blk.lt (fun e=>h.rowBlk hu h.b4.2 e.symm)).trans h.blk,
  aI.top (aI.keep h.own.2.1 (w':=w2) fun g hg'=>hg.block g (aI.lt h.own.2.1 g hg').2.2 (fun e=>h.rowBlk hu (g:=g) (by simp [Go.Proofs.Ytiadchinhofieaa.blk,Value.ownBlock] at hg';have:=h.bq;omega) e.symm)),
  a9.top (aI.keep h.pick (w':=w2) fun g hg'=>hg.block g (aI.lt h.pick g hg').2.2 (fun e=>h.rowBlk hu (g:=g) (by simp [Go.Proofs.Ytiadchinhofieaa.blk,Value.ownBlock] at hg';have:=h.bk;omega) e.symm))⟩
theorem app (h : Mk L cs n p4 gq gk xss pk vs w) {u : Nat} (hu : u < xss.length) {w2 : World} {nv : Value} {ys : List Int} (hO : a9 L w2.heap.size w2 nv ys) (hg : w.grownBy w2 (Go.Proofs.Ytiadchinhofieaa.blk (vs.getD u (.slice none 0 0))))
  (hf : ∀ g,Go.Proofs.Ytiadchinhofieaa.blk nv = some g → Go.Proofs.Ytiadchinhofieaa.blk (vs.getD u (.slice none 0 0)) = some g ∨ w.heap.size ≤ g) : Mk L cs n p4 gq gk (xss.set u ys) pk (vs.set u nv) (w2.setCell ⟨gq,u,none⟩ nv):=by
 obtain ⟨m1,m2,m3⟩:=h.mid hu hg
 refine ⟨m1.other h.ne1.symm u _,(h.own.put hu hO hg hf).top,a9.top (a9.oth m3 (fun e=>h.ne3 (by simpa [Go.Proofs.Ytiadchinhofieaa.blk,Value.ownBlock] using e.symm)) u _),fun g hm=>?_,h.b4,h.bq,h.bk,h.ne1,h.ne2,h.ne3,by rw [World.size_setCell];exact Nat.le_trans h.sz hg.size⟩
 obtain ⟨x,hx,e⟩:=List.mem_filterMap.1 hm
 rcases List.mem_or_eq_of_mem_set hx with hx|rfl
 · exact h.rows g (List.mem_filterMap.2 ⟨x,hx,e⟩)
 · rcases hf g e with e'|e'
   · rcases Nat.lt_or_ge g (L + 3) with hl|hl
     · exact absurd e' (h.rowBlk hu hl)
     · exact hl
   · exact Nat.le_trans h.sz e'
theorem cell (h : Mk L cs n p4 gq gk xss pk vs w) {u : Nat} (hu : u < xss.length) : w.cell? ⟨gq,u,none⟩ = some (vs.getD u (.slice none 0 0)) ∧ w.frozen? ⟨gq,u,none⟩ = false ∧ gq < w.heap.size:=by
 obtain ⟨g',cap',e,_,_,h2,h3,h4⟩:=h.own.2.1.at (.slice none 0 0) (k:=u) (by rw [h.own.1];exact hu)
 simp only [Value.slice.injEq,Option.some.injEq,Addr.mk.injEq,and_true] at e
 obtain ⟨rfl,_⟩:=e
 exact ⟨h3 u (by rw [h.own.1];exact hu),h4 u,h2⟩
theorem cell2 {w2 : World} (h : aI 22 L w2.heap.size w2 (.slice (some ⟨gq,0,none⟩) n n) vs) {u : Nat} (hu : u < vs.length) : w2.cell? ⟨gq,u,none⟩ = some (vs.getD u (.slice none 0 0)) ∧ w2.frozen? ⟨gq,u,none⟩ = false ∧ gq < w2.heap.size:=by
 obtain ⟨g',cap',e,_,_,h2,h3,h4⟩:=h.at (.slice none 0 0) (k:=u) hu
 simp only [Value.slice.injEq,Option.some.injEq,Addr.mk.injEq,and_true] at e
 obtain ⟨rfl,_⟩:=e
 exact ⟨h3 u hu,h4 u,h2⟩
end Mk
end Go.Proofs.Ytiadchinhofieaa
namespace Go.Proofs.Ytiadchinhofieaa
set_option linter.unusedVariables false
set_option linter.unusedSimpArgs false
open Go.RowKit
attribute [local go_sem ↓] Go.wp_at_zero Go.wp_at_succ
section
variable {w : World} {ops : Array Oper} {o : Oper} {rest : List Oper} {a : Act} {Q : Exit → Act → World → Prop}
theorem qL (hg : o.guard = none) (l c : Operand) (hop : o.op = Op.makeSlice 23 l c) (kl kc : IntKind) (L C : Int) (n : Nat) (hl : a.eval l = .int kl L) (hc : a.eval c = .int kc C) (hL : L = (n : Int)) (hC : C = (n : Int)) (hn : n ≤ 1048576)
  (hK : ∀ b w',b = w.heap.size → bi b w'.heap.size w' (.slice (some ⟨b,0,none⟩) n n) (cZ n fun _=>[]) (List.replicate n (.slice none 0 0)) → Below b w w' → b < w'.heap.size → wpList Try.prog ops Q rest (a.put o.dst (.slice (some ⟨b,0,none⟩) n n)) w') :
  wpList Try.prog ops Q (o :: rest) a w:=by
 have hw : Region.wanted o (yielded ops a.tmps) = true:=by simp [Region.wanted,hg]
 unfold wpList
 rw [if_pos hw]
 exact .inl (nA l c hop kl kc L C n hl hc hL hC hn hK)
theorem qM (hg : o.guard = none) (s x : Operand) (hop : o.op = .call { callee:=.builtin .append,args:=#[s,x],argTypes:=#[22,22] })
  {lo hi : Nat} {v : Value} {xs : List Int} (hs : a.eval s = v) (hown : a9 lo hi w v xs) (y : Int) (bx c : Nat) (hx : a.eval x = .slice (some ⟨bx,0,none⟩) 1 c) (hcell : w.cell? ⟨bx,0,none⟩ = some (.int .i64 y))
  (hlen : xs.length ≤ 1048576) (hbase : lo ≤ w.heap.size)
  (hK : ∀ sa c' w',a9 lo w'.heap.size w' (.slice sa (xs.length + 1) c') (xs ++ [y]) → w.grownBy w' (blk v) → (∀ g,blk (.slice sa (xs.length + 1) c') = some g → blk v = some g ∨ w.heap.size ≤ g) → wpList Try.prog ops Q rest (a.put o.dst (.slice sa (xs.length + 1) c')) w') :
  wpList Try.prog ops Q (o :: rest) a w:=by
 have hw : Region.wanted o (yielded ops a.tmps) = true:=by simp [Region.wanted,hg]
 unfold wpList
 rw [if_pos hw]
 refine .inl ?_
 obtain ⟨sa,c',w',hrun,h1,h2,h3⟩:=iV o.type hown y bx c hcell hlen hbase
 unfold Oper.wp execOp
 simp only [hop,resolve,invoke,builtin,Sem.run_bind,Sem.run_pure,Result.andThen_ok,List.map_toArray,List.map_cons,List.map_nil,hs,hx,hrun]
 exact hK sa c' w' h1 h2 h3
end
def wm (w : World) (a : Ar) (e : Ending) (w' : World) : Prop:=∃ vq vs,e = .returned vq ∧ bi w.heap.size w'.heap.size w' vq (cZ a.own.length fun u=>bG a.nxt u a.own.length) vs ∧ Below w.heap.size w w'
set_option maxRecDepth 100000 in
set_option maxHeartbeats 4000000 in
theorem pc (v : Value) (a : Ar) (w : World) (hA : IsA w v a) (ha : ArOk a) : Calls Try.prog 148 #[v] w (wm w a):=by
 obtain ⟨_,_,rfl,⟨s1,n1,c1,rfl,h1⟩,⟨s2,n2,c2,rfl,h2⟩⟩:=hA
 have hm1:=h1.max
 have hm2:=h2.max
 obtain rfl:=h1.1
 have hn:=ha.le
 have hln : n2 = a.own.length:=by have:=h2.len;have:=ha.len;omega
 subst hln
 have HA:=Lib.hid ha
 clear ha
 go_enter Try.func148,Try.ntmps148
 go_wp2_with (at_make;refine qL rfl _ _ rfl _ _ _ _ a.own.length rfl rfl rfl rfl (by omega) ?_;intro gq w2 hgq ho hb2 hz2;have HB:=Blk.below (bM w [.slice s1 a.own.length c1,.slice s2 a.own.length c2] 30) (by rw [← hgq];exact hb2);have b0_0:=HB.cell 0 rfl;have b0_1:=HB.cell 1 rfl;clear HB)
 have hgq' : gq = w.heap.size + 1:=by rw [hgq];simp
 have hbw : Below w.heap.size w w2:=(ay _ _).trans (hb2.mono (by rw [hgq'];omega))
 clear hb2 hgq
 subst hgq'
 go_loopw [15] (fun i wr=>∃ (k : Nat) (vs : List Value),k ≤ a.own.length ∧ i = .int .i64 k ∧ bi (w.heap.size + 1) wr.heap.size wr (.slice (some ⟨w.heap.size + 1,0,none⟩) a.own.length a.own.length) (cZ a.own.length fun u=>bG a.nxt u k) vs ∧ Below (w.heap.size + 1) w2 wr) (fun i _=>a.own.length - (intOf i).toNat)
 case atStart=>exact ⟨0,_,by omega,rfl,ho,Below.refl _ _⟩
 case round =>
  clear ho
  obtain ⟨k,vs,hk,rfl,hO,hb⟩:=hrel
  have c0_1:=dE b0_1 hb (by omega)
  have hbq : Below w.heap.size w wr:=hbw.trans (hb.mono (by omega))
  by_cases hlt : k < a.own.length
  · obtain ⟨bb,ob,rfl,hbb,A,La,C,hcb⟩:=h2.get hlt
    obtain ⟨hcb1,hIr⟩:=hcb k hlt
    clear hcb
    have hck:=ah hcb1 hbq
    obtain ⟨_,_,hr1,hr2,hr3⟩:=HA.out.vert k hlt
    have hLk:=hIr.1
    obtain ⟨b5,o5,e5,hb5,_⟩:=hIr.get (k:=0) (by omega)
    rw [e5] at hck hcb1 hIr
    clear e5
    go_wp2
    go_loopw [22] (fun v wr=>∃ (i : Nat) (vs : List Value),i ≤ La k ∧ v = .int .i64 i ∧ bi (w.heap.size + 1) wr.heap.size wr (.slice (some ⟨w.heap.size + 1,0,none⟩) a.own.length a.own.length) (cZ a.own.length fun u=>bG a.nxt u k ++ bW (gr a.nxt k) k u i) vs ∧ Below (w.heap.size + 1) w2 wr) (fun v _=>La k - (intOf v).toNat)
    case atStart=>exact ⟨0,vs,by omega,rfl,by rw [eC (g:=fun u=>bG a.nxt u k) (fun u _=>by simp [bW])];exact hO,hb⟩
    case round =>
     clear hO hb hbq hck
     obtain ⟨i,vs,hi,rfl,hO,hb⟩:=hrel
     have hbq : Below w.heap.size w wr:=hbw.trans (hb.mono (by omega))
     by_cases hil : i < La k
     · have hc5i:=(hIr.below hbq).2.cell _ rfl i hil
       obtain ⟨hu0,hu1,_⟩:=hr3 i (by omega)
       have hu : (gi (gr a.nxt k) i).toNat < a.own.length:=by omega
       have hux : (gi (gr a.nxt k) i).toNat < (cZ a.own.length fun u=>bG a.nxt u k ++ bW (gr a.nxt k) k u i).length:=by rw [fb];exact hu
       have hRow:=hO.2.2.1 _ hux
       have hlen : (gr (cZ a.own.length fun u=>bG a.nxt u k ++ bW (gr a.nxt k) k u i) (gi (gr a.nxt k) i).toNat).length ≤ 1048576:=by
        rw [dL _ hu,List.length_append]
        have p1:=gZ (nxt:=a.nxt) (m:=16) (gi (gr a.nxt k) i).toNat k (fun j hj=>(HA.out.vert j (by omega)).2.2.2.1)
        have p2:=fZ (gr a.nxt k) k (gi (gr a.nxt k) i).toNat i
        omega
       have HGR:=Lib.hid hlen
       clear hlen
       have hcell : ∀ {w3 : World},aI 22 (w.heap.size + 1) w3.heap.size w3 (.slice (some ⟨w.heap.size + 1,0,none⟩) a.own.length a.own.length) vs → w3.cell? ⟨w.heap.size + 1,(gi (gr a.nxt k) i).toNat,none⟩ = some (vs.getD (gi (gr a.nxt k) i).toNat (.slice none 0 0)) ∧ w3.frozen? ⟨w.heap.size + 1,(gi (gr a.nxt k) i).toNat,none⟩ = false ∧ w.heap.size + 1 < w3.heap.size:=fun h=>Mk.cell2 h (by rw [hO.1];exact hux)
       obtain ⟨x1,x2,x3⟩:=hcell hO.2.1
       have hsz : w.heap.size + 1 ≤ wr.heap.size:=by omega
       have hne : blk (.slice (some ⟨w.heap.size + 1,0,none⟩) a.own.length a.own.length) ≠ blk (vs.getD (gi (gr a.nxt k) i).toNat (.slice none 0 0)):=fun e=>eQ hO.2.1 hRow (by decide) (w.heap.size + 1) rfl (by rw [← e];rfl)
       go_wp2_with (at_builtin;refine qM rfl _ _ rfl rfl (aI.below hRow (by repeat' (first|(with_reducible exact Below.refl _ _)|(with_reducible assumption)|(with_reducible apply ap)|(with_reducible apply Below.alloc)|(with_reducible apply Below.drew)|(with_reducible apply aj)|(with_reducible refine Below.trans ?_ (Below.mono (by assumption) ?_))|omega|(simp only [World.size_alloc,World.size_setCell,World.size_drew];omega)))) (k : Int) _ _ rfl (by simp) HGR.out (by simp;omega) ?_;intro sa c' w5 h5 g5 f5;have hV5:=aI.top (aI.keep (aI.alloc hO.2.1 _) (w':=w5) fun g hg'=>g5.block g (aI.lt (aI.alloc hO.2.1 _) g hg').2.2 (fun e=>hne (hg'.trans e)));obtain ⟨y1,y2,y3⟩:=hcell hV5;clear hV5)
       go_roundw
       case rel =>
        have HP:=bi.put (hO.below (ay _ _)) hux h5 g5 f5
        rw [iL hu] at HP
        have hB5 : Below (w.heap.size + 1) w2 w5:=(hb.alloc (by omega) _).grown g5 (by simp;omega) (fun g hg=>(aI.lt hRow g hg).1)
        exact ⟨i + 1,_,by omega,by go_num,HP.top,ap hB5 (Nat.le_refl _) _⟩
       case measure=>simp [intOf];omega
     · have ei : i = La k:=by omega
       go_wp2_with fail
       go_roundw
       case rel=>exact ⟨k + 1,vs,by omega,by go_num,by rw [eC (g:=fun u=>bG a.nxt u k ++ bW (gr a.nxt k) k u i) (fun u _=>by rw [ei,← hLk];rfl)];exact hO,hb⟩
       case measure=>simp [intOf];omega
  · have e : k = a.own.length:=by omega
    subst e
    go_wp2_with fail
    go_ret
    exact ⟨_,vs,rfl,hO.mono (by omega) (Nat.le_refl _),hbq⟩
end Go.Proofs.Ytiadchinhofieaa
