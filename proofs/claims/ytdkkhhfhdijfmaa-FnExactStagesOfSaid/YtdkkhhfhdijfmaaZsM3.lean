/-
  A contract in the old words whose function hands back a new list, as a contract in the new ones.
-/
import Derived.Test.YtdkkhhfhdijfmaaZsCa
import Derived.Test.YtdkkhhfhdijfmaaZsCb
import Derived.Test.YtdkkhhfhdijfmaaZsFc
namespace Go.Proofs.Ytdkkhhfhdijfmaa
set_option linter.unusedVariables false
set_option linter.unusedSimpArgs false
open Go.RowKit
namespace MS
def lx : List Int → List Int → Prop
 | [], [] => False
 | [], _ :: _ => True
 | _ :: _, [] => False
 | a :: ar, b :: bs => a < b ∨ (a = b ∧ lx ar bs)
theorem gz : ∀ a,¬ lx a a
 | [], h => h
 | a :: ar, h => h.elim (fun h => by omega) fun h => gz ar h.2
theorem jR : ∀ {a b c},lx a b → lx b c → lx a c
 | [], [], _, h, _ => h.elim
 | [], _ :: _, [], _, h => h.elim
 | [], _ :: _, _ :: _, _, _ => trivial
 | _ :: _, [], _, h, _ => h.elim
 | _ :: _, _ :: _, [], _, h => h.elim
 | a :: ar, b :: bs, c :: cs, h, k => by
   rcases h with h|⟨rfl,h⟩ <;> rcases k with k|⟨rfl,k⟩
   · exact .inl (by omega)
   · exact .inl h
   · exact .inl k
   · exact .inr ⟨rfl,jR h k⟩
theorem my : ∀ a b,lx a b ∨ a = b ∨ lx b a
 | [], [] => .inr (.inl rfl)
 | [], _ :: _ => .inl trivial
 | _ :: _, [] => .inr (.inr trivial)
 | a :: ar, b :: bs => by
   rcases Int.lt_trichotomy a b with h|rfl|h
   · exact .inl (.inl h)
   · rcases my ar bs with h|rfl|h
     · exact .inl (.inr ⟨rfl,h⟩)
     · exact .inr (.inl rfl)
     · exact .inr (.inr (.inr ⟨rfl,h⟩))
   · exact .inr (.inr (.inl h))
theorem mz {a b : List Int} (h : lx a b) : ¬ lx b a:=fun k=>gz _ (jR h k)
def le (a b : List Int) : Prop:=¬ lx b a
theorem le_refl (a : List Int) : le a a:=gz a
theorem ra {a b : List Int} : le a b ↔ lx a b ∨ a = b :=
 ⟨fun h=>(my a b).imp_right fun k=>k.elim id fun k=>absurd k h,fun h=>h.elim mz fun e=>e ▸ gz a⟩
theorem mA {a b : List Int} (h : lx a b) : le a b:=mz h
theorem le_trans {a b c : List Int} (h : le a b) (k : le b c) : le a c:=by
 rcases ra.1 h with h|rfl
 · rcases ra.1 k with k|rfl
   · exact mA (jR h k)
   · exact mA h
 · exact k
def dif (c : Nat) (a b : List Int) : Prop:=∃ i,i ≤ c ∧ (∀ j,j < i → gi a j = gi b j) ∧ gi a i < gi b i
section
variable {K : Nat} {mx : Nat → Int}
def Ok (K : Nat) (mx : Nat → Int) (m : List Int) : Prop:=m = [1] ∨ (m.length = K + 1 ∧ gi m 0 = 0 ∧ ∀ i,i < K → 0 ≤ gi m (i + 1) ∧ gi m (i + 1) ≤ mx i)
theorem Ok.h0 {m : List Int} (h : Ok K mx m) : gi m 0 = 0 ∨ m = [1]:=h.elim .inr fun h=>.inl h.2.1
theorem Ok.pos {m : List Int} (h : Ok K mx m) : 0 < m.length:=by
 rcases h with rfl|h
 · decide
 · omega
theorem Ok.live {m : List Int} (h : Ok K mx m) (h1 : gi m 0 ≠ 1) : m.length = K + 1 ∧ gi m 0 = 0 ∧ ∀ i,i < K → 0 ≤ gi m (i + 1) ∧ gi m (i + 1) ≤ mx i:=by
 rcases h with rfl|h
 · exact absurd rfl h1
 · exact h
theorem pG {m : List Int} {i : Nat} (h : m.length ≤ i) : gi m i = 0:=by simp [gi,List.getD_eq_getElem?_getD,List.getElem?_eq_none h]
def num (B : Nat) (m : List Int) : Nat → Nat
 | 0 => (gi m 0).toNat
 | k + 1 => num B m k * B + (gi m (k + 1)).toNat
theorem fR {B : Nat} {a b : List Int} (hb : ∀ i,(gi a i).toNat < B) (h0 : ∀ i,0 ≤ gi a i) (h1 : ∀ i,0 ≤ gi b i) : ∀ k,dif k a b → num B a k < num B b k
 | 0, ⟨i, h1', h2, h3⟩ => by
   have : i = 0:=by omega
   subst this
   show (gi a 0).toNat < (gi b 0).toNat
   have:=h0 0
   omega
 | k + 1, ⟨i, h1', h2, h3⟩ => by
   show num B a k * B + _ < num B b k * B + _
   rcases Nat.lt_or_ge i (k + 1) with h|h
   · have:=fR hb h0 h1 k ⟨i,by omega,h2,h3⟩
     have h4:=hb (k + 1)
     have : num B a k * B + B ≤ num B b k * B:=by
      rw [← Nat.succ_mul];exact Nat.mul_le_mul_right _ this
     omega
   · have : i = k + 1:=by omega
     subst this
     have e : ∀ t,t ≤ k → num B a t = num B b t:=by
      intro t
      induction t with
      | zero => intro _; show (gi a 0).toNat = (gi b 0).toNat; rw [h2 0 (by omega)]
      | succ t ih => intro ht; show num B a t * B + _ = num B b t * B + _; rw [ih (by omega), h2 (t + 1) (by omega)]
     rw [e k (Nat.le_refl _)]
     have:=h0 (k + 1)
     omega
end
end MS
end Go.Proofs.Ytdkkhhfhdijfmaa
namespace Go.Proofs.Ytdkkhhfhdijfmaa
set_option linter.unusedVariables false
set_option linter.unusedSimpArgs false
open Go.RowKit
theorem mB {φ : Nat → Loc} {hp : Hp} {w : World} {loc : Loc} {nn : Fl} {xs : List Int} (h : iB φ hp w loc (.arr 2 nn (.I xs))) (hh : nn.hd = true) {lo : Nat} (hlo : ∀ b,loc.blk = some b → lo ≤ b) : aO lo w.heap.size w loc.val xs :=
 sk h hh rfl rfl hlo (by simp) fun i v hi hr=>by
  have hi' : i < xs.length:=hi
  cases hr with
  | sl hv' => simp [C.view] at hv'
  | int => simp [gi, List.getD_eq_getElem?_getD, List.getElem?_eq_getElem hi']
theorem lA {φ : Nat → Loc} {hp : Hp} {w : World} {ν : Nat} {v : Value} {T : TypeId} {nn : Fl} {c : C} (h : AVC φ hp w (.sl ν) v) (he : hp ν = some (.arr T nn c)) : v = (φ ν).val:=by
 cases h with
 | sl h hk => rfl
 | sld h hk v hv => rw [he] at h; injection h with h; subst h; simp [Ent.kind] at hk
theorem kC (l : Loc) : ∃ s n c,l.val = .slice s n c:=by cases l <;> exact ⟨_,_,_,rfl⟩
end Go.Proofs.Ytdkkhhfhdijfmaa
