/-
  What is reached: a queue's and a stack's walk in plain words.
-/
import Derived.Test.YtiadchinhofieaaGreatZfR1
import Derived.Test.YtiadchinhofieaaGreatZfE14
import Derived.Test.YtiadchinhofieaaGreatZfD5
import Derived.Test.YtiadchinhofieaaGreatZfNp
namespace Go.Proofs.YtiadchinhofieaaGreat
set_option linter.unusedVariables false
set_option linter.unusedSimpArgs false
open Go.RowKit
theorem w7 {g : Pa} (hg : PaOk g) {v : Nat} (hv : v < g.prio.length) {u : Int} (hu : u ∈ gr g.ar.nxt v) : 0 ≤ u ∧ u < g.prio.length:=by
 obtain ⟨t,ht,e⟩:=cR hu
 have hl:=hg.len
 have:=(hg.ar.vert v (by omega)).2.2.2.2 t ht
 rw [e] at this;exact ⟨this.1,by omega⟩
end Go.Proofs.YtiadchinhofieaaGreat
namespace Go.Proofs.YtiadchinhofieaaGreat
set_option linter.unusedVariables false
set_option linter.unusedSimpArgs false
open Go.RowKit
def edR (row : Nat → List Int) (v u : Nat) : Prop:=∃ t,t < (row v).length ∧ gi (row v) t = (u : Int)
inductive Rch (E : Nat → Nat → Prop) (F L : Nat → Prop) : Nat → Prop where
 | base {u : Nat} (h : F u) : Rch E F L u
 | step {w u : Nat} (t : Rch E F L w) (h : E w u) (l : L u) : Rch E F L u
theorem rL {out : List Bool} {n u : Nat} (hl : out.length = n) (hu : u < n) (hn : gb out u = false) : num (fun v=>gb (out.set u true) v = true) n = num (fun v=>gb out v = true) n + 1:=by
 refine jy (t0:=u) hu (by rw [dZ (by omega),if_pos rfl]) fun t ht=>?_
 rw [dZ (by omega)]
 by_cases e : t = u
 · subst e;simp [hn]
 · simp [e]
theorem mH {out : List Bool} {u v : Nat} (h : gb out v = true) (hu : u < out.length) : gb (out.set u true) v = true:=by
 rw [dZ hu]
 split
 · rfl
 · exact h
theorem kL {out : List Bool} {u v : Nat} (hu : u < out.length) (h : gb (out.set u true) v = true) : v = u ∨ gb out v = true:=by
 rw [dZ hu] at h
 split at h
 · exact .inl (by assumption)
 · exact .inr h
theorem fH {q : List Int} {x : Int} {j : Nat} (h : j < q.length) : gi (q ++ [x]) j = gi q j:=by simp [gi,List.getD_eq_getElem?_getD,List.getElem?_append_left h]
theorem jc {q : List Int} {x : Int} : gi (q ++ [x]) q.length = x:=by simp [gi,List.getD_eq_getElem?_getD]
structure RInv (row : Nat → List Int) (F L : Nat → Prop) (n i t : Nat) (q : List Int) (out : List Bool) : Prop where
 ol : out.length = n
 ql : q.length = num (fun v=>gb out v = true) n
 qr : ∀ j,j < q.length → 0 ≤ gi q j ∧ gi q j < n ∧ gb out (gi q j).toNat = true
 qo : ∀ v,v < n → gb out v = true → (v : Int) ∈ q
 rc : ∀ v,v < n → gb out v = true → Rch (edR row) F L v
 fo : ∀ v,v < n → F v → gb out v = true
 cl : ∀ j,j < i → ∀ s,s < (row (gi q j).toNat).length → L (gi (row (gi q j).toNat) s).toNat → gb out (gi (row (gi q j).toNat) s).toNat = true
 ct : ∀ s,s < t → s < (row (gi q i).toNat).length → L (gi (row (gi q i).toNat) s).toNat → gb out (gi (row (gi q i).toNat) s).toNat = true
theorem RInv.qle {row : Nat → List Int} {F L : Nat → Prop} {n i t : Nat} {q : List Int} {out : List Bool} (h : RInv row F L n i t q out) : q.length ≤ n:=by rw [h.ql];exact qK
theorem RInv.start {row : Nat → List Int} {F L : Nat → Prop} {n : Nat} {out : List Bool} (hl : out.length = n) (hF : ∀ v,v < n → (F v ↔ gb out v = true)) : RInv row F L n 0 0 (eM out n) out:=by
 refine ⟨hl,pf _ _,fun j hj=>?_,fun v hv h=>gp.2 ⟨v,hv,rfl,h⟩,fun v hv h=>.base ((hF v hv).2 h),fun v hv h=>(hF v hv).1 h,fun j hj=>absurd hj (Nat.not_lt_zero _),fun s hs=>absurd hs (Nat.not_lt_zero _)⟩
 obtain ⟨v,h1,h2,h3⟩:=gp.1 (cD hj)
 rw [h2,Int.toNat_natCast]
 exact ⟨by omega,by omega,h3⟩
theorem RInv.skip {row : Nat → List Int} {F L : Nat → Prop} {n i t : Nat} {q : List Int} {out : List Bool} (h : RInv row F L n i t q out) (hs : L (gi (row (gi q i).toNat) t).toNat → gb out (gi (row (gi q i).toNat) t).toNat = true) : RInv row F L n i (t + 1) q out:=by
 refine ⟨h.ol,h.ql,h.qr,h.qo,h.rc,h.fo,h.cl,fun s hs' hl hL=>?_⟩
 by_cases e : s = t
 · subst e;exact hs hL
 · exact h.ct s (by omega) hl hL
theorem RInv.next {row : Nat → List Int} {F L : Nat → Prop} {n i t : Nat} {q : List Int} {out : List Bool} (h : RInv row F L n i t q out) (ht : (row (gi q i).toNat).length ≤ t) : RInv row F L n (i + 1) 0 q out:=by
 refine ⟨h.ol,h.ql,h.qr,h.qo,h.rc,h.fo,fun j hj s hs hL=>?_,fun s hs=>absurd hs (Nat.not_lt_zero _)⟩
 by_cases e : j = i
 · subst e;exact h.ct s (by omega) hs hL
 · exact h.cl j (by omega) s hs hL
theorem RInv.mark {row : Nat → List Int} {F L : Nat → Prop} {n i t : Nat} {q : List Int} {out : List Bool} (h : RInv row F L n i t q out) (hi : i < q.length) (ht : t < (row (gi q i).toNat).length) {u : Int} (hu : gi (row (gi q i).toNat) t = u) (h0 : 0 ≤ u) (h1 : u < n) (hL : L u.toNat) (ho : gb out u.toNat = false) : RInv row F L n i (t + 1) (q ++ [u]) (out.set u.toNat true):=by
 have hl:=h.ol
 have hun : u.toNat < n:=by omega
 have hlt : u.toNat < out.length:=by omega
 have hqi : gi (q ++ [u]) i = gi q i:=fH hi
 refine ⟨by rw [List.length_set];exact hl,by rw [rL hl hun ho,← h.ql];simp,fun j hj=>?_,fun v hv hb=>?_,fun v hv hb=>?_,fun v hv hF=>mH (h.fo v hv hF) hlt,fun j hj=>?_,?_⟩
 · by_cases e : j < q.length
   · rw [fH e]
     obtain ⟨a,b,c⟩:=h.qr j e
     exact ⟨a,b,mH c hlt⟩
   · have : j = q.length:=by simp at hj;omega
     subst this
     rw [jc]
     exact ⟨h0,h1,by rw [dZ hlt,if_pos rfl]⟩
 · rcases kL hlt hb with e|e
   · exact List.mem_append.2 (.inr (List.mem_singleton.2 (by omega)))
   · exact List.mem_append.2 (.inl (h.qo v hv e))
 · rcases kL hlt hb with e|e
   · subst e
     obtain ⟨a,b,c⟩:=h.qr i hi
     exact .step (h.rc _ (by omega) c) ⟨t,ht,by omega⟩ hL
   · exact h.rc v hv e
 · rw [fH (by omega)]
   exact fun s hs hL'=>mH (h.cl j hj s hs hL') hlt
 · rw [hqi]
   intro s hs hs' hL'
   by_cases e : s = t
   · subst e;rw [hu,dZ hlt,if_pos rfl]
   · exact mH (h.ct s (by omega) hs' hL') hlt
theorem RInv.fin {row : Nat → List Int} {F L : Nat → Prop} {n i : Nat} {q : List Int} {out : List Bool} (h : RInv row F L n i 0 q out) (hi : q.length ≤ i) (hF : ∀ v,F v → v < n) (hw : ∀ v,v < n → ∀ t,t < (row v).length → 0 ≤ gi (row v) t ∧ gi (row v) t < n) : out = mks n (Rch (edR row) F L):=by
 refine iu h.ol fun v hv=>?_
 have key : ∀ v,Rch (edR row) F L v → v < n ∧ gb out v = true:=by
  intro v hr
  induction hr with
  | base hf => exact ⟨hF _ hf, h.fo _ (hF _ hf) hf⟩
  | @step w u t he l ih =>
    obtain ⟨s,hs,e⟩:=he
    obtain ⟨j,hj,e2⟩:=cR (h.qo w ih.1 ih.2)
    have h1:=hw w ih.1 s hs
    have h2:=h.cl j (by omega) s
    rw [e2,Int.toNat_natCast,e,Int.toNat_natCast] at h2
    exact ⟨by omega,h2 hs l⟩
 by_cases hb : gb out v = true
 · rw [hb,aP (h.rc v hv hb)]
 · rw [aq fun hr=>hb (key v hr).2]
   simpa using hb
structure SInv (row : Nat → List Int) (L : Nat → Prop) (n v0 : Nat) (todo : List Int) (out : List Bool) (pd : Nat → Nat → Prop) : Prop where
 ol : out.length = n
 tl : todo.length ≤ num (fun v=>gb out v = true) n + 1
 tr : ∀ j,j < todo.length → 0 ≤ gi todo j ∧ gi todo j < n ∧ ((gi todo j).toNat = v0 ∨ gb out (gi todo j).toNat = true)
 rc : ∀ u,gb out u = true → PG.Way (edR row) L v0 u
 cl : ∀ w s,w < n → (w = v0 ∨ gb out w = true) → (w : Int) ∉ todo → s < (row w).length → ¬ pd w s → L (gi (row w) s).toNat → gb out (gi (row w) s).toNat = true
theorem uU {n v : Nat} : gb (List.replicate n false) v = false:=by
 simp only [gb,List.getD_eq_getElem?_getD,List.getElem?_replicate]
 split <;> rfl
theorem SInv.start {row : Nat → List Int} {L : Nat → Prop} {n v0 : Nat} (hv : v0 < n) : SInv row L n v0 [(v0 : Int)] (List.replicate n false) fun _ _=>False:=by
 refine ⟨List.length_replicate,by simp,fun j hj=>?_,fun u hu=>?_,fun w s hw hc hn=>?_⟩
 · have : j = 0:=by simpa using hj
   subst this
   exact ⟨by show (0 : Int) ≤ (v0 : Int);omega,by show (v0 : Int) < n;omega,.inl (Int.toNat_natCast _)⟩
 · rw [uU] at hu;cases hu
 · rcases hc with e|e
   · subst e;exact absurd (List.mem_singleton.2 rfl) hn
   · rw [uU] at e;cases e
theorem SInv.skip {row : Nat → List Int} {L : Nat → Prop} {n v0 x t : Nat} {todo : List Int} {out : List Bool} (h : SInv row L n v0 todo out fun w s=>w = x ∧ t ≤ s) (hs : L (gi (row x) t).toNat → gb out (gi (row x) t).toNat = true) : SInv row L n v0 todo out fun w s=>w = x ∧ t + 1 ≤ s:=by
 refine ⟨h.ol,h.tl,h.tr,h.rc,fun w s hw hc hn hl hpd hL=>?_⟩
 by_cases e : w = x ∧ s = t
 · obtain ⟨rfl,rfl⟩:=e;exact hs hL
 · refine h.cl w s hw hc hn hl (fun ⟨a,b⟩=>e ⟨a,?_⟩) hL
   have : ¬ t + 1 ≤ s:=fun c=>hpd ⟨a,c⟩
   omega
theorem SInv.done {row : Nat → List Int} {L : Nat → Prop} {n v0 x t : Nat} {todo : List Int} {out : List Bool} (h : SInv row L n v0 todo out fun w s=>w = x ∧ t ≤ s) (ht : (row x).length ≤ t) : SInv row L n v0 todo out fun _ _=>False:=by
 refine ⟨h.ol,h.tl,h.tr,h.rc,fun w s hw hc hn hl _ hL=>h.cl w s hw hc hn hl (fun ⟨a,b⟩=>?_) hL⟩
 subst a
 omega
theorem SInv.mark {row : Nat → List Int} {L : Nat → Prop} {n v0 x t : Nat} {todo : List Int} {out : List Bool} (h : SInv row L n v0 todo out fun w s=>w = x ∧ t ≤ s) (hx : x = v0 ∨ gb out x = true) (ht : t < (row x).length) {u : Int} (hu : gi (row x) t = u) (h0 : 0 ≤ u) (h1 : u < n) (hL : L u.toNat) (ho : gb out u.toNat = false) : SInv row L n v0 (todo ++ [u]) (out.set u.toNat true) fun w s=>w = x ∧ t + 1 ≤ s:=by
 have hl:=h.ol
 have hun : u.toNat < n:=by omega
 have hlt : u.toNat < out.length:=by omega
 refine ⟨by rw [List.length_set];exact hl,?_,fun j hj=>?_,fun v hb=>?_,fun w s hw hc hn hs hpd hL'=>?_⟩
 · rw [rL hl hun ho,List.length_append];have:=h.tl;simp;omega
 · by_cases e : j < todo.length
   · rw [fH e]
     obtain ⟨a,b,c⟩:=h.tr j e
     exact ⟨a,b,c.imp id fun c=>mH c hlt⟩
   · have : j = todo.length:=by simp at hj;omega
     subst this
     rw [jc]
     exact ⟨h0,h1,.inr (by rw [dZ hlt,if_pos rfl])⟩
 · rcases kL hlt hb with e|e
   · subst e
     have he : edR row x u.toNat:=⟨t,ht,by omega⟩
     rcases hx with e|e
     · subst e;exact .one he hL
     · exact .more (h.rc _ e) he hL
   · exact h.rc v e
 · have hn' : (w : Int) ∉ todo:=fun hm=>hn (List.mem_append.2 (.inl hm))
   have hwu : w ≠ u.toNat:=fun e=>hn (List.mem_append.2 (.inr (List.mem_singleton.2 (by omega))))
   by_cases e : w = x ∧ s = t
   · obtain ⟨rfl,rfl⟩:=e
     rw [hu,dZ hlt,if_pos rfl]
   · exact mH (h.cl w s hw (hc.imp id fun c=>(kL hlt c).resolve_left hwu) hn' hs (fun ⟨a,b⟩=>e ⟨a,by have : ¬ t + 1 ≤ s:=fun c=>hpd ⟨a,c⟩;omega⟩) hL') hlt
theorem SInv.fin {row : Nat → List Int} {L : Nat → Prop} {n v0 : Nat} {out : List Bool} (h : SInv row L n v0 [] out fun _ _=>False) (hv : v0 < n) (hw : ∀ v,v < n → ∀ t,t < (row v).length → 0 ≤ gi (row v) t ∧ gi (row v) t < n) : out = mks n (PG.Way (edR row) L v0):=by
 refine iu h.ol fun v hv'=>?_
 have step : ∀ w u,w < n → (w = v0 ∨ gb out w = true) → edR row w u → L u → u < n ∧ gb out u = true:=fun w u hwn hc ⟨s,hs,e⟩ l=>by
  have h1:=hw w hwn s hs
  have h2:=h.cl w s hwn hc (List.not_mem_nil) hs (fun x=>x)
  rw [e,Int.toNat_natCast] at h2
  exact ⟨by omega,h2 l⟩
 have key : ∀ v,PG.Way (edR row) L v0 v → v < n ∧ gb out v = true:=by
  intro v hr
  induction hr with
  | one he l => exact step _ _ hv (.inl rfl) he l
  | more t he l ih => exact step _ _ ih.1 (.inr ih.2) he l
 by_cases hb : gb out v = true
 · rw [hb,aP (h.rc v hb)]
 · rw [aq fun hr=>hb (key v hr).2]
   simpa using hb
end Go.Proofs.YtiadchinhofieaaGreat
