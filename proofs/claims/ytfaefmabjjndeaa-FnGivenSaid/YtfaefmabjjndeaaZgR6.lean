/-
  Right answers: the program's side, what is reached, bad loops, the whole check.
-/
import Derived.Test.YtfaefmabjjndeaaZgR5
import Derived.Test.YtfaefmabjjndeaaZgE15
namespace Go.Proofs.Ytfaefmabjjndeaa
set_option linter.unusedVariables false
set_option linter.unusedSimpArgs false
open Go.RowKit
attribute [local irreducible] aG cO Aw Le
theorem kH {n v : Nat} {p : Nat → Prop} : gb (mks n p) v = true ↔ v < n ∧ p v:=by
 constructor
 · intro h
   rcases Nat.lt_or_ge v n with h'|h'
   · rw [dY _ h'] at h
     exact ⟨h',gw.1 h⟩
   · rw [gb,List.getD_eq_getElem?_getD,List.getElem?_eq_none (by rw [cS];exact h')] at h;cases h
 · rintro ⟨h1,h2⟩
   rw [dY _ h1,bZ h2]
noncomputable def jo (g : Pa) (i : Int) (R ps : List Int) (k : Nat) : List Int:=i9 (fun x=>¬ gi g.prio x.toNat % 2 = i ∧ mr g R ps x) R k
theorem ss {g : Pa} {i : Int} {R ps : List Int} : jo g i R ps R.length = [] ↔ ms g i R ps:=by
 unfold jo
 rw [rZ _ (Nat.le_refl _)]
 refine forall_congr' fun j=>forall_congr' fun _=>?_
 constructor
 · intro h
   by_cases e : gi g.prio (gi R j).toNat % 2 = i
   · exact .inl e
   · exact .inr fun hb=>h ⟨e,hb⟩
 · rintro (h|h) ⟨a,b⟩
   · exact a h
   · exact h b
noncomputable def nr (g : Pa) (R : List Int) (v : Nat) : List Bool:=mks g.prio.length fun u=>(u : Int) ∈ R ∧ gi g.prio u ≤ gi g.prio v
theorem tT {g : Pa} (hg : PaOk g) {ps : List Int} (hp : d8 g ps) {R : List Int} {v : Nat} (hv : v < g.prio.length) : PG.Way (edR (gr (ef g.ar ps).nxt)) (fun u=>gb (nr g R v) u = true) v v ↔ mr g R ps v:=by
 have hok:=dO hg hp
 have hl:=hg.len
 have hrow : ∀ x,x < g.prio.length → ∀ t,t < (gr (ef g.ar ps).nxt x).length → 0 ≤ gi (gr (ef g.ar ps).nxt x) t ∧ gi (gr (ef g.ar ps).nxt x) t < g.prio.length:=fun x hx t ht=>by
  have h1:=(hok.ar.vert x (by show x < g.ar.own.length;omega)).2.2.2.2 t ht
  have h2 : gi (gr (ef g.ar ps).nxt x) t < (g.ar.own.length : Int):=h1.2.1
  exact ⟨h1.1,by omega⟩
 unfold mr
 rw [Int.toNat_natCast]
 constructor
 · intro h
   refine h.mono (Q:=fun x=>x < g.prio.length) (fun x y hx ⟨t,ht,e⟩=>?_) (fun x hx=>(kH.1 hx).1) (fun x hx=>(kH.1 hx).2) hv
   have:=hrow x hx t ht
   exact (iU _ _).2 ⟨hx,by show y < g.prio.length;omega,t,ht,e⟩
 · intro h
   have hin : ∀ {y},PG.Way (pgP (cW g ps)).E (fun u : Nat=>(u : Int) ∈ R ∧ gi g.prio u ≤ gi g.prio v) v y → PG.Way (edR (gr (ef g.ar ps).nxt)) (fun u=>gb (nr g R v) u = true) v y:=by
    intro y h
    induction h with
    | one he l =>
      obtain ⟨a,b,c⟩:=(iU _ _).1 he
      exact .one c (kH.2 ⟨b,l⟩)
    | more t he l ih =>
      obtain ⟨a,b,c⟩:=(iU _ _).1 he
      exact .more ih c (kH.2 ⟨b,l⟩)
   exact hin h
theorem su {n u : Nat} {p q : Nat → Prop} {b : Bool} (hu : u < n) (hb : b = tf (q u)) (h : ∀ v,v < n → v ≠ u → (q v ↔ p v)) : (mks n p).set u b = mks n q:=by
 refine eq (by rw [List.length_set];exact cS _ _) fun v hv=>?_
 rw [eu (by rw [cS];exact hu)]
 by_cases e : v = u
 · subst e;rw [if_pos rfl,hb]
 · rw [if_neg e,dY _ hv];exact (dP (h v hv e)).symm
theorem u9 {n : Nat} : List.replicate n false = mks n fun _=>False :=
 eq List.length_replicate fun v _=>by rw [oC,aX fun h=>h]
theorem kI {g : Pa} {W P : List Int} (h : lB g W P) (i : Int) : d8 g (fZ g P i):=by
 refine ⟨ii _ _ _,fun v hv=>?_⟩
 rw [ii] at hv
 obtain ⟨_,h2,h3⟩:=h.2 v hv
 rw [iZ hv]
 split
 · by_cases e : gi g.ar.own v = gi W v
   · exact .inr (h2 e)
   · exact .inl (h3 e)
 · exact .inl rfl
theorem sv {g : Pa} (hg : PaOk g) {ps : List Int} (h : d8 g ps) : ∀ v,v < ps.length → gi ps v < g.prio.length:=fun v hv=>by
 have:=h.1
 rcases h.2 v hv with e|e
 · omega
 · exact (pn hg (by omega) e).2
end Go.Proofs.Ytfaefmabjjndeaa
