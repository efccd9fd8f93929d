/-
  Worths: their order in plain words.
-/
import Derived.Test.YtlodllmpndflcaaZoD5
namespace Go.Proofs.Ytlodllmpndflcaa
set_option linter.unusedVariables false
set_option linter.unusedSimpArgs false
open Go.RowKit
structure Wt where
 hd : Int
 ov : List Int
 wy : Int
def Hv (g : Pa) (x y : Int) : Prop:=gi g.prio y.toNat < gi g.prio x.toNat ∨ (gi g.prio x.toNat = gi g.prio y.toNat ∧ y < x)
def EvP (g : Pa) (x : Int) : Prop:=gi g.prio x.toNat % 2 = 0
structure WtOk (g : Pa) (a : Wt) : Prop where
 hd : f4 g.prio.length a.hd
 ov : cZ a.ov g.prio.length
 wy : 0 ≤ a.wy ∧ a.wy ≤ 12
 hv : ∀ j,j < a.ov.length → Hv g (gi a.ov j) a.hd
theorem im {g : Pa} {x y z : Int} (h : Hv g x y) (k : Hv g y z) : Hv g x z:=by unfold Hv at *;omega
theorem gz {g : Pa} {x y : Int} (h : Hv g x y) : ¬ Hv g y x:=by unfold Hv at *;omega
theorem kF {g : Pa} {x y : Int} (h : x ≠ y) : Hv g x y ∨ Hv g y x:=by unfold Hv at *;omega
def Alk (A B : List Int) (x : Int) : Prop:=x ∈ A ↔ x ∈ B
def BO (g : Pa) (A B : List Int) : Prop:=∃ x : Nat,x < g.prio.length ∧ ¬ Alk A B x ∧ (∀ v : Nat,v < g.prio.length → Hv g v x → Alk A B v) ∧ ((x : Int) ∈ A ↔ EvP g x)
def dV (g : Pa) (A B : List Int) : Prop:=∀ v : Nat,v < g.prio.length → Alk A B v
theorem vv {g : Pa} {A B C : List Int} (h : BO g A B) (k : BO g B C) : BO g A C:=by
 obtain ⟨x,x1,x2,x3,x4⟩:=h
 obtain ⟨y,y1,y2,y3,y4⟩:=k
 by_cases e : x = y
 · subst e
   exact absurd (show Alk A B x by unfold Alk;rw [x4,y4]) x2
 · rcases kF (g:=g) (x:=(x : Int)) (y:=y) (by omega) with hc|hc
   · have hb:=y3 x x1 hc
     refine ⟨x,x1,fun ha=>x2 ?_,fun v hv hh=>?_,x4⟩
     · unfold Alk at *;rw [ha,hb]
     · have:=x3 v hv hh;have:=y3 v hv (im hh hc);unfold Alk at *;rw [‹(v : Int) ∈ A ↔ _›];assumption
   · have hb:=x3 y y1 hc
     refine ⟨y,y1,fun ha=>y2 ?_,fun v hv hh=>?_,?_⟩
     · unfold Alk at *;rw [← hb];exact ha
     · have:=y3 v hv hh;have:=x3 v hv (im hh hc);unfold Alk at *;rw [‹(v : Int) ∈ A ↔ _›];assumption
     · unfold Alk at hb;rw [hb];exact y4
theorem vw {g : Pa} {A B : List Int} (h : BO g A B) : ¬ BO g B A:=by
 rintro ⟨y,y1,y2,y3,y4⟩
 obtain ⟨x,x1,x2,x3,x4⟩:=h
 have hs : ∀ v : Int,Alk A B v → Alk B A v:=fun v h=>h.symm
 by_cases e : x = y
 · subst e
   exact x2 (show Alk A B x by unfold Alk;rw [x4,y4])
 · rcases kF (g:=g) (x:=(x : Int)) (y:=y) (by omega) with hc|hc
   · exact x2 (show Alk A B x from (y3 x x1 hc).symm)
   · exact y2 (hs _ (x3 y y1 hc))
theorem mC {g : Pa} {A B : List Int} (h : BO g A B) : ¬ dV g A B:=fun h2=>by
 obtain ⟨x,x1,x2,_⟩:=h
 exact x2 (h2 x x1)
theorem rS {g : Pa} {A A' B : List Int} (h : dV g A' A) (k : BO g A B) : BO g A' B:=by
 obtain ⟨x,x1,x2,x3,x4⟩:=k
 refine ⟨x,x1,fun ha=>x2 ?_,fun v hv hh=>?_,?_⟩
 · have:=h x x1;unfold Alk at *;rw [← this];exact ha
 · have:=h v hv;have:=x3 v hv hh;unfold Alk at *;rw [‹(v : Int) ∈ A' ↔ _›];assumption
 · have:=h x x1;unfold Alk at this;rw [this];exact x4
theorem qk {g : Pa} {A B B' : List Int} (h : dV g B B') (k : BO g A B) : BO g A B':=by
 obtain ⟨x,x1,x2,x3,x4⟩:=k
 exact ⟨x,x1,fun ha=>x2 (Iff.trans ha (h x x1).symm),fun v hv hh=>Iff.trans (x3 v hv hh) (h v hv),x4⟩
def d6 (g : Pa) (a b : Wt) : Prop :=
 (a.hd ≠ b.hd ∧ ((EvP g a.hd ∧ ¬ EvP g b.hd) ∨ (EvP g a.hd ∧ EvP g b.hd ∧ Hv g a.hd b.hd) ∨ (¬ EvP g a.hd ∧ ¬ EvP g b.hd ∧ Hv g b.hd a.hd))) ∨
 (a.hd = b.hd ∧ (BO g a.ov b.ov ∨ (dV g a.ov b.ov ∧ ((EvP g a.hd ∧ a.wy < b.wy) ∨ (¬ EvP g a.hd ∧ b.wy < a.wy)))))
theorem tx {g : Pa} {A B C : List Int} (h : dV g A B) (k : dV g B C) : dV g A C:=fun v hv=>(h v hv).trans (k v hv)
theorem rT {g : Pa} {a b c : Wt} (h : d6 g a b) (k : d6 g b c) : d6 g a c:=by
 rcases h with ⟨h1,h2⟩|⟨h1,h2⟩ <;> rcases k with ⟨k1,k2⟩|⟨k1,k2⟩
 · have hne : a.hd ≠ c.hd:=fun e=>by
    rw [e] at h2
    rcases h2 with ⟨p,q⟩|⟨p,q,r⟩|⟨p,q,r⟩ <;> rcases k2 with ⟨s,t⟩|⟨s,t,u⟩|⟨s,t,u⟩ <;> first|exact absurd p t|exact absurd s q|exact absurd t p|exact absurd q s|exact gz r u|contradiction
   refine .inl ⟨hne,?_⟩
   rcases h2 with ⟨p,q⟩|⟨p,q,r⟩|⟨p,q,r⟩ <;> rcases k2 with ⟨s,t⟩|⟨s,t,u⟩|⟨s,t,u⟩ <;> first|contradiction|exact .inl ⟨p,t⟩|exact .inr (.inl ⟨p,t,im r u⟩)|exact .inr (.inr ⟨p,t,im u r⟩)
 · refine .inl ⟨by rw [← k1];exact h1,by rw [← k1];exact h2⟩
 · refine .inl ⟨by rw [h1];exact k1,by rw [h1];exact k2⟩
 · refine .inr ⟨h1.trans k1,?_⟩
   rw [← h1] at k2
   rcases h2 with h2|⟨h2,h3⟩ <;> rcases k2 with k2|⟨k2,k3⟩
   · exact .inl (vv h2 k2)
   · exact .inl (qk k2 h2)
   · exact .inl (rS h2 k2)
   · refine .inr ⟨tx h2 k2,?_⟩
     rcases h3 with ⟨p,q⟩|⟨p,q⟩ <;> rcases k3 with ⟨r,s⟩|⟨r,s⟩ <;> first|(exact absurd p r)|(exact absurd r p)|(exact .inl ⟨p,by omega⟩)|(exact .inr ⟨p,by omega⟩)
theorem nA : ∀ (xs ys : List Int),xs.Pairwise (· < ·) → ys.Pairwise (· < ·) → (∀ x,x ∈ xs ↔ x ∈ ys) → xs = ys:=by
 intro xs
 induction xs with
 | nil =>
   intro ys _ _ h
   cases ys with
   | nil => rfl
   | cons y ys => exact absurd ((h y).2 List.mem_cons_self) (by simp)
 | cons x xs ih =>
   intro ys hx hy h
   cases ys with
   | nil => exact absurd ((h x).1 List.mem_cons_self) (by simp)
   | cons y ys =>
     obtain ⟨hx1,hx2⟩:=List.pairwise_cons.1 hx
     obtain ⟨hy1,hy2⟩:=List.pairwise_cons.1 hy
     have e : x = y:=by
      have h1:=(h x).1 List.mem_cons_self
      have h2:=(h y).2 List.mem_cons_self
      rcases List.mem_cons.1 h1 with h1|h1
      · exact h1
      · rcases List.mem_cons.1 h2 with h2|h2
        · exact h2.symm
        · have:=hy1 x h1;have:=hx1 y h2;omega
     subst e
     rw [ih ys hx2 hy2 fun z=>?_]
     constructor
     · intro hz
       have h3:=hx1 z hz
       rcases List.mem_cons.1 ((h z).1 (List.mem_cons_of_mem _ hz)) with e|h4
       · omega
       · exact h4
     · intro hz
       have h3:=hy1 z hz
       rcases List.mem_cons.1 ((h z).2 (List.mem_cons_of_mem _ hz)) with e|h4
       · omega
       · exact h4
theorem kG {xs : List Int} {m : Int} (h : cZ xs m) : xs.Pairwise (· < ·):=by
 rw [List.pairwise_iff_getElem]
 have key : ∀ d i,i + d + 1 < xs.length → gi xs i < gi xs (i + d + 1):=by
  intro d
  induction d with
  | zero => intro i hi; exact (h (i + 1) hi).2.2 (Nat.succ_pos _)
  | succ d ih =>
    intro i hi
    have h1:=ih i (by omega)
    have h2:=(h (i + d + 1 + 1) (by omega)).2.2 (Nat.succ_pos _)
    rw [show i + d + 1 + 1 - 1 = i + d + 1 by omega] at h2
    rw [show i + (d + 1) + 1 = i + d + 1 + 1 by omega]
    omega
 intro i j hi hj hij
 have:=key (j - i - 1) i (by omega)
 rw [show i + (j - i - 1) + 1 = j by omega] at this
 rwa [dB hi,dB hj] at this
theorem oK {g : Pa} {a b : Wt} (h : a.hd = b.hd ∧ a.wy = b.wy ∧ a.ov = b.ov) : ¬ d6 g a b:=by
 obtain ⟨h1,h2,h3⟩:=h
 rintro (⟨k,_⟩|⟨_,k|⟨_,k⟩⟩)
 · exact k h1
 · rw [h3] at k;exact mC k fun v _=>Iff.rfl
 · omega
end Go.Proofs.Ytlodllmpndflcaa
