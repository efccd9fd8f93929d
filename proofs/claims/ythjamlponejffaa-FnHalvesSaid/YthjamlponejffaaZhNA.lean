/-
  Queries in plain words: rounds and answers.
-/
import Derived.Test.YthjamlponejffaaZhCp
import Derived.Test.YthjamlponejffaaZhCb
import Derived.Maps.OwnSet
import Derived.DeepKeys4
namespace Go.Proofs.Ythjamlponejffaa
set_option linter.unusedVariables false
set_option linter.unusedSimpArgs false
open Go.RowKit
structure Mv (b : Nat) (w w' : World) : Prop where
 out : Outside b (b + 1) w w'
 was : ∃ es c,w.heap[b]? = some (.map es c)
theorem Mv.cell {b : Nat} {w w' : World} (h : Mv b w w') {k o : Nat} {v : Value} (hc : w.cell? ⟨k,o,none⟩ = some v) : w'.cell? ⟨k,o,none⟩ = some v:=by
 have hlt : k < w.heap.size:=World.block_lt_of_cell? w _ hc
 have hne : k ≠ b:=fun e=>by
  obtain ⟨es,c,hm⟩:=h.was
  subst e
  simp [World.cell?,hm] at hc
 rw [← hc]
 simp only [World.cell?,h.out.block k hlt (by omega)]
theorem Cells.mv {b : Nat} {w w' : World} {sa : Option Addr} {n c : Nat} {vs : Nat → Value} (h : Cells w sa n c vs) (hb : Mv b w w') : Cells w' sa n c vs :=
 ⟨h.cap,h.max,h.nil,h.spot,fun ad e k hk=>hb.cell (h.cell ad e k hk)⟩
theorem cQ.mv {b : Nat} {w w' : World} {sa : Option Addr} {n c : Nat} {xs : List Int} (h : cQ w sa n c xs) (hb : Mv b w w') : cQ w' sa n c xs:=⟨h.1,h.2.mv hb⟩
theorem IsI.mv {b : Nat} {w w' : World} {v : Value} {xs : List Int} (h : IsI w v xs) (hb : Mv b w w') : IsI w' v xs:=let ⟨sa,n,c,e,h⟩:=h;⟨sa,n,c,e,h.mv hb⟩
theorem d8.mv {b : Nat} {w w' : World} {v : Value} {xss : List (List Int)} (h : d8 w v xss) (hb : Mv b w w') : d8 w' v xss:=by
 obtain ⟨sa,n,c,e,h⟩:=h
 obtain ⟨A,L,C,h1,h2⟩:=h.cells
 exact ⟨sa,n,c,e,h.len,A,L,C,h1.mv hb,fun k hk=>(h2 k hk).mv hb⟩
theorem IsP.mv {b : Nat} {w w' : World} {v : Value} {g : Pa} (h : IsP w v g) (hb : Mv b w w') : IsP w' v g:=let ⟨x,y,z,e,h1,h2,h3⟩:=h;⟨x,y,z,e,h1.mv hb,h2.mv hb,h3.mv hb⟩
abbrev Dm:=DataW Value
def rdV (v : Value) : Option (Dm × List MemPlace):=some (.held v,[])
theorem pc {v u : Value} {ps : List MemPlace} (h : rdV v = some (.held u,ps)) : u = v:=by
 simp only [rdV,Option.some.injEq,Prod.mk.injEq,DataW.held.injEq] at h
 exact h.1.symm
def r9 : Dm → List (Lit × Dm)
 | .map es => es
 | _ => []
theorem t9 {D : Dm} {k : Lit} (hD : Maps.IsMap D) (h : Maps.has D k = true) (z : Dm) : ∃ p,p ∈ r9 D ∧ p.1 = k ∧ D.atKey k z = p.2:=by
 obtain ⟨es,rfl⟩:=hD
 rw [Maps.has_eq,List.any_eq_true] at h
 obtain ⟨q,hq,hs⟩:=h
 have hf : (es.find? fun p=>p.1.sameKey k).isSome = true:=List.find?_isSome.2 ⟨q,hq,hs⟩
 obtain ⟨p,hp⟩:=Option.isSome_iff_exists.1 hf
 have h1:=List.mem_of_find?_eq_some hp
 have h2:=List.find?_some hp
 refine ⟨p,h1,WideAt.sameKey_eq h2,?_⟩
 simp only [DataW.atKey,hp]
theorem ub {D : Dm} {k : Lit} {d : Dm} (hD : Maps.IsMap D) {p : Lit × Dm} (h : p ∈ r9 (D.put k d)) : p = (k,d) ∨ p ∈ r9 D:=by
 obtain ⟨es,rfl⟩:=hD
 rw [DataW.put_eq] at h
 have h' : p ∈ ChangeMaps.putKey k d es:=h
 unfold ChangeMaps.putKey at h'
 rcases ChangeMaps.mem_insert_iff.1 h' with h|h
 · exact .inl h
 · exact .inr (List.mem_filter.1 h).1
theorem qy {f : Nat → Nat} {n : Nat} (hn : ∀ k,f k < n) : ∀ k,(∀ i j,i < j → j < k → f i ≠ f j) → num (fun v=>∃ j,j < k ∧ f j = v) n = k:=by
 intro k
 induction k with
 | zero => intro _; exact dZ.2 fun t _ ⟨j, h, _⟩ => absurd h (Nat.not_lt_zero _)
 | succ k ih =>
   intro hd
   have hdr : num (fun v=>∃ j,j < k + 1 ∧ f j = v) n = num (fun v=>∃ j,j < k ∧ f j = v) n + 1:=by
    refine j1 (t0:=f k) (hn k) ⟨k,by omega,rfl⟩ fun t _=>⟨?_,?_⟩
    · rintro ⟨j,h,e⟩
      exact ⟨⟨j,by omega,e⟩,fun e'=>hd j k h (by omega) (e.trans e')⟩
    · rintro ⟨⟨j,h,e⟩,hne⟩
      by_cases ej : j = k
      · subst ej;exact absurd e.symm hne
      · exact ⟨j,by omega,e⟩
   rw [hdr,ih fun i j hi hj=>hd i j hi (by omega)]
theorem uc {D : Dm} (ht : Maps.Tidy D) {N : Nat} (hN : 0 < N) {f : Nat → Lit} (hc : ∀ p,p ∈ r9 D → ∃ c,c < N ∧ p.1 = f c) : Maps.size D ≤ N:=by
 obtain ⟨es,rfl,hp⟩:=ht
 show es.length ≤ N
 have hch : ∀ i : Nat,∃ c,c < N ∧ ∀ p,es[i]? = some p → p.1 = f c:=fun i=>by
  cases hi : es[i]? with
  | none => exact ⟨0, hN, fun p h => by cases h⟩
  | some p =>
    obtain ⟨c,h1,h2⟩:=hc p (List.mem_of_getElem? hi)
    exact ⟨c,h1,fun q h=>by cases h;exact h2⟩
 refine Nat.le_trans (Nat.le_of_eq (qy (f:=fun i=>Classical.choose (hch i)) (fun i=>(Classical.choose_spec (hch i)).1) es.length fun i j hij hj e=>?_).symm) gZ
 have hi' : i < es.length:=by omega
 have h1:=(Classical.choose_spec (hch i)).2 es[i] (List.getElem?_eq_getElem hi')
 have h2:=(Classical.choose_spec (hch j)).2 es[j] (List.getElem?_eq_getElem hj)
 have e' : Classical.choose (hch i) = Classical.choose (hch j):=e
 rw [e'] at h1
 exact List.pairwise_iff_getElem.1 hp i j hi' hj hij (h1.trans h2.symm)
theorem sc {P : Program} {k : TypeId} {w : World} {b n : Nat} {D : Dm} (h : w.ownsMap P k rdV b n D) : w.ownsMap P k rdV b (Maps.size D) D:=by
 obtain ⟨es,clock,hb,F,hs,rfl⟩:=h
 refine ⟨es,clock,hb,F,?_,rfl⟩
 simp [Maps.size,length_sorted]
theorem wa {P : Program} {k : TypeId} {w w' : World} {b n : Nat} {D : Dm} (h : w.ownsMap P k rdV b n D) (hg : w.grownBy w' (some b)) : Mv b w w':=by
 obtain ⟨es,clock,hb,_⟩:=h
 exact ⟨⟨hg.os,hg.tape,hg.output,hg.size,fun j hj ho=>hg.block j hj fun e=>by injection e with e;omega⟩,es,clock,hb⟩
theorem qz {P : Program} {k : TypeId} {w w' : World} {b n : Nat} {D : Dm} (h : w.ownsMap P k rdV b n D) (hg : Below w.heap.size w w') : w'.ownsMap P k rdV b n D:=by
 have hlt:=h.lt
 obtain ⟨es,clock,hb,r⟩:=h
 exact ⟨es,clock,(hg.block b hlt).trans hb,r⟩
theorem ud {P : Program} {k : TypeId} {w w' : World} {b n : Nat} {D : Dm} (h : w.ownsMap P k rdV b n D) (hg : Below w.heap.size w w') : Mv b w w':=by
 obtain ⟨es,clock,hb,_⟩:=h
 exact ⟨Below.outside hg _ _,es,clock,hb⟩
theorem Mv.trans {b : Nat} {x y z : World} (h : Mv b x y) (k : Mv b y z) : Mv b x z:=⟨h.out.trans k.out,h.was⟩
theorem Mv.below {b : Nat} {w w' : World} (h : Mv b w w') {B : Nat} (hB : B ≤ b) (hs : B ≤ w.heap.size) : Below B w w':=h.out.below ⟨hB,hs⟩
end Go.Proofs.Ythjamlponejffaa
namespace Go.Proofs.Ythjamlponejffaa
set_option linter.unusedVariables false
set_option linter.unusedSimpArgs false
open Go.RowKit
theorem lR {A B C : Nat → Prop} : ∀ {k : Nat},(∀ v,A v → C v) → (∀ v,B v → C v) → (∀ v,A v → ¬ B v) → num A k + num B k ≤ num C k
 | 0, _, _, _ => Nat.le_refl _
 | k + 1, hA, hB, hd => by
   have ih:=lR (k:=k) hA hB hd
   by_cases a : A k
   · rw [ct a,cT (hd k a),ct (hA k a)];omega
   · by_cases b : B k
     · rw [cT a,ct b,ct (hB k b)];omega
     · rw [cT a,cT b]
       by_cases c : C k
       · rw [ct c];omega
       · rw [cT c];omega
theorem lS {A B : Nat → Prop} (h : ∀ v,A v → B v) {k : Nat} : num A k ≤ num B k:=by
 have:=lR (A:=A) (B:=fun _=>False) (C:=B) (k:=k) h (fun _ h=>h.elim) (fun _ _ h=>h)
 omega
def qR (P : PG.Gm) (A : Int → (Nat → Prop) → Int → Int → Nat → Prop) (who d mine yours : Int) (S : Nat → Prop) : Nat → Prop :=
 PG.Diff S (PG.Attr P (1 - who) S (A (1 - who) (PG.Diff S (PG.Attr P who S fun v=>P.prio v = d)) yours mine))
def itQ (R : (Nat → Prop) → Nat → Prop) (S : Nat → Prop) : Nat → Nat → Prop
 | 0 => S
 | k + 1 => R (itQ R S k)
open Classical in

noncomputable def qA (P : PG.Gm) (n : Nat) : Nat → Int → (Nat → Prop) → Int → Int → Nat → Prop
 | 0, _, _, _, _ => fun _ => False
 | D + 1, who, S, mine, yours =>
   if mine = 0 then fun _=>False else
    itQ (qR P (qA P n D) who D mine (yours / 2)) (qR P (qA P n D) who D mine yours (itQ (qR P (qA P n D) who D mine (yours / 2)) S n)) n
theorem dN {P : PG.Gm} {A : Int → (Nat → Prop) → Int → Int → Nat → Prop} {who d mine yours : Int} {S : Nat → Prop} {v : Nat} (h : qR P A who d mine yours S v) : S v:=h.1
theorem gn {R : (Nat → Prop) → Nat → Prop} (hR : ∀ T v,R T v → T v) {S : Nat → Prop} : ∀ k v,itQ R S k v → S v
 | 0, _, h => h
 | k + 1, v, h => gn hR k v (hR _ _ h)
theorem jB {R : (Nat → Prop) → Nat → Prop} (hR : ∀ T v,R T v → T v) {S : Nat → Prop} {n : Nat} (hS : ∀ v,S v → v < n) : R (itQ R S n) = itQ R S n:=by
 have key : ∀ k,R (itQ R S k) = itQ R S k ∨ num (itQ R S k) n + k ≤ n:=by
  intro k
  induction k with
  | zero => exact .inr (by have := gZ (p := itQ R S 0) (k := n); omega)
  | succ k ih =>
    by_cases e : R (itQ R S k) = itQ R S k
    · left
      show R (R (itQ R S k)) = R (itQ R S k)
      rw [e,e]
    · have h:=ih.resolve_left e
      right
      have hx : ∃ v,v < n ∧ itQ R S k v ∧ ¬ R (itQ R S k) v:=by
       refine Classical.byContradiction fun hno=>e (funext fun v=>propext ⟨hR _ _,fun hv=>?_⟩)
       refine Classical.byContradiction fun h'=>hno ⟨v,hS v (gn hR k v hv),hv,h'⟩
      have:=iS (p:=itQ R S k) (q:=itQ R S (k + 1)) (k:=n) (fun t _ h=>hR _ _ h) hx
      omega
 rcases key n with h|h
 · exact h
 · have h0 : num (itQ R S n) n = 0:=by omega
   have hno : ∀ v,¬ itQ R S n v:=fun v hv=>dZ.1 h0 v (hS v (gn hR n v hv)) hv
   exact funext fun v=>propext ⟨fun h=>absurd (hR _ _ h) (hno v),fun h=>absurd h (hno v)⟩
theorem ir {R : (Nat → Prop) → Nat → Prop} {S : Nat → Prop} {k : Nat} (h : R (itQ R S k) = itQ R S k) : ∀ j,itQ R S (k + j) = itQ R S k
 | 0 => rfl
 | j + 1 => by show R (itQ R S (k + j)) = _; rw [ir h j, h]
theorem uf {R : (Nat → Prop) → Nat → Prop} (hR : ∀ T v,R T v → T v) {S : Nat → Prop} {n : Nat} (hS : ∀ v,S v → v < n) {k : Nat} (h : R (itQ R S k) = itQ R S k) : itQ R S k = itQ R S n:=by
 rcases Nat.le_total k n with e|e
 · obtain ⟨j,rfl⟩:=Nat.exists_eq_add_of_le e
   exact (ir h j).symm
 · obtain ⟨j,rfl⟩:=Nat.exists_eq_add_of_le e
   exact ir (jB hR hS) j
theorem sd {P : PG.Gm} {n : Nat} : ∀ {D : Nat} {who : Int} {S : Nat → Prop} {mine yours : Int} {v : Nat},qA P n D who S mine yours v → S v
 | 0, _, _, _, _, _, h => h.elim
 | D + 1, who, S, mine, yours, v, h => by
   rw [qA] at h
   split at h
   · exact h.elim
   · exact gn (fun _ _ h=>dN h) _ _ (dN (gn (fun _ _ h=>dN h) _ _ h))
theorem u4 {P : PG.Gm} {n D : Nat} {who : Int} {S : Nat → Prop} {mine yours : Int} (h : mine = 0) : qA P n D who S mine yours = fun _=>False:=by
 cases D with
 | zero => rfl
 | succ D => rw [qA, if_pos h]
theorem wb {P : PG.Gm} {n D : Nat} {who : Int} {S : Nat → Prop} {mine yours : Int} (h : ∀ v,¬ S v) : qA P n D who S mine yours = fun _=>False :=
 funext fun v=>propext ⟨fun h'=>h v (sd h'),False.elim⟩
theorem lT {P : PG.Gm} {n D : Nat} {who : Int} {S : Nat → Prop} {mine yours : Int} (h : mine ≠ 0) : qA P n (D + 1) who S mine yours =
  itQ (qR P (qA P n D) who D mine (yours / 2)) (qR P (qA P n D) who D mine yours (itQ (qR P (qA P n D) who D mine (yours / 2)) S n)) n:=by
 rw [qA,if_neg h]
theorem ug {P : PG.Gm} {n D : Nat} {who : Int} {S : Nat → Prop} {mine yours : Int} (h : mine ≠ 0) (hS : ∀ v,S v → v < n)
  (he : qR P (qA P n D) who D mine yours (itQ (qR P (qA P n D) who D mine (yours / 2)) S n) = itQ (qR P (qA P n D) who D mine (yours / 2)) S n) :
  qA P n (D + 1) who S mine yours = itQ (qR P (qA P n D) who D mine (yours / 2)) S n:=by
 rw [lT h,he]
 have h1:=jB (R:=qR P (qA P n D) who D mine (yours / 2)) (fun _ _ h=>dN h) hS
 have h2:=ir (R:=qR P (qA P n D) who D mine (yours / 2)) (S:=itQ (qR P (qA P n D) who D mine (yours / 2)) S n) (k:=0) h1 n
 rw [Nat.zero_add] at h2
 exact h2
theorem se {P : PG.Gm} {who : Int} {S : Nat → Prop} (v : Nat) : ¬ PG.Attr P who S (fun _=>False) v:=fun h =>
 PG.attr_least (X:=fun _=>False) (fun _ _ h=>h) (fun _ _ _ _ _ h=>h) (fun _ _ _ ⟨u,hu,hS⟩ h=>h u hu hS) v h
theorem uh {P : PG.Gm} {n : Nat} {who d mine yours : Int} {S : Nat → Prop} : qR P (qA P n 0) who d mine yours S = S :=
 funext fun v=>propext ⟨fun h=>h.1,fun h=>⟨h,se v⟩⟩
theorem mL {P : PG.Gm} {n : Nat} (hf : PG.Fin P n) {A : Int → (Nat → Prop) → Int → Int → Nat → Prop} {who d mine yours : Int} {S : Nat → Prop} (h : PG.Total P S) : PG.Total P (qR P A who d mine yours S):=PG.total_diff hf h
theorem k7 {P : PG.Gm} {R : (Nat → Prop) → Nat → Prop} (hR : ∀ T,PG.Total P T → PG.Total P (R T)) {S : Nat → Prop} (h : PG.Total P S) : ∀ k,PG.Total P (itQ R S k)
 | 0 => h
 | k + 1 => hR _ (k7 hR h k)
theorem og {P : PG.Gm} {who d : Int} {S : Nat → Prop} (h : ∀ v,S v → P.prio v ≤ d) : ∀ v,PG.Diff S (PG.Attr P who S fun v=>P.prio v = d) v → P.prio v ≤ d - 1:=fun v hv=>by
 have h1:=h v hv.1
 have h2 : P.prio v ≠ d:=fun e=>hv.2 (PG.attr_goal hv.1 e)
 omega
end Go.Proofs.Ythjamlponejffaa
