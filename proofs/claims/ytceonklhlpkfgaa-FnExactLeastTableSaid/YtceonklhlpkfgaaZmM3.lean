/-
  A contract in the old words whose function hands back a new list, as a contract in the new ones.
-/
import Derived.Test.YtceonklhlpkfgaaZmCa
import Derived.Test.YtceonklhlpkfgaaZmCb
import Derived.Test.YtceonklhlpkfgaaZmFc
namespace Go.Proofs.Ytceonklhlpkfgaa
set_option linter.unusedVariables false
set_option linter.unusedSimpArgs false
open Go.RowKit
namespace MS
def lx : List Int → List Int → Prop
 | [], [] => False
 | [], _ :: _ => True
 | _ :: _, [] => False
 | a :: ar, b :: bs => a < b ∨ (a = b ∧ lx ar bs)
theorem dg : ∀ a,¬ lx a a
 | [], h => h
 | a :: ar, h => h.elim (fun h => by omega) fun h => dg ar h.2
theorem gW : ∀ {a b c},lx a b → lx b c → lx a c
 | [], [], _, h, _ => h.elim
 | [], _ :: _, [], _, h => h.elim
 | [], _ :: _, _ :: _, _, _ => trivial
 | _ :: _, [], _, h, _ => h.elim
 | _ :: _, _ :: _, [], _, h => h.elim
 | a :: ar, b :: bs, c :: cs, h, k => by
   rcases h with h|⟨rfl,h⟩ <;> rcases k with k|⟨rfl,k⟩
   · exact .inl (by omega)
   · exact .inl h
   · exact .inl k
   · exact .inr ⟨rfl,gW h k⟩
theorem lx_total : ∀ a b,lx a b ∨ a = b ∨ lx b a
 | [], [] => .inr (.inl rfl)
 | [], _ :: _ => .inl trivial
 | _ :: _, [] => .inr (.inr trivial)
 | a :: ar, b :: bs => by
   rcases Int.lt_trichotomy a b with h|rfl|h
   · exact .inl (.inl h)
   · rcases lx_total ar bs with h|rfl|h
     · exact .inl (.inr ⟨rfl,h⟩)
     · exact .inr (.inl rfl)
     · exact .inr (.inr (.inr ⟨rfl,h⟩))
   · exact .inr (.inr (.inl h))
theorem lx_asymm {a b : List Int} (h : lx a b) : ¬ lx b a:=fun k=>dg _ (gW h k)
theorem lx_ne {a b : List Int} (h : lx a b) : a ≠ b:=fun e=>dg _ (e ▸ h)
def le (a b : List Int) : Prop:=¬ lx b a
theorem le_refl (a : List Int) : le a a:=dg a
theorem jw {a b : List Int} : le a b ↔ lx a b ∨ a = b :=
 ⟨fun h=>(lx_total a b).imp_right fun k=>k.elim id fun k=>absurd k h,fun h=>h.elim lx_asymm fun e=>e ▸ dg a⟩
theorem dL {a b : List Int} (h : lx a b) : le a b:=lx_asymm h
theorem le_trans {a b c : List Int} (h : le a b) (k : le b c) : le a c:=by
 rcases jw.1 h with h|rfl
 · rcases jw.1 k with k|rfl
   · exact dL (gW h k)
   · exact dL h
 · exact k
theorem pG {a b : List Int} (h : le a b) (k : le b a) : a = b:=by
 rcases jw.1 h with h|h
 · exact absurd h k
 · exact h
noncomputable def cmp (a b : List Int) : Int:=@ite _ (lx a b) (Classical.propDecidable _) (-1) (@ite _ (a = b) (Classical.propDecidable _) 0 1)
theorem cmp_lt {a b : List Int} : cmp a b < 0 ↔ lx a b:=by
 unfold cmp
 split
 · simp_all
 · split <;> simp_all
theorem cmp_gt {a b : List Int} : 0 < cmp a b ↔ lx b a:=by
 unfold cmp
 split
 · rename_i h;simp;exact lx_asymm h
 · split
   · rename_i e;subst e;simp;exact dg _
   · rename_i h1 h2;simp
     rcases lx_total a b with h|h|h
     · exact absurd h h1
     · exact absurd h h2
     · exact h
def dif (c : Nat) (a b : List Int) : Prop:=∃ i,i ≤ c ∧ (∀ j,j < i → gi a j = gi b j) ∧ gi a i < gi b i
theorem lk : ∀ {a b : List Int},a.length = b.length → (lx a b ↔ ∃ i,i < a.length ∧ (∀ j,j < i → gi a j = gi b j) ∧ gi a i < gi b i)
 | [], [], _ => ⟨fun h => h.elim, fun ⟨i, h, _⟩ => by simp at h⟩
 | a :: ar, b :: bs, hl => by
   have hl' : ar.length = bs.length:=by simpa using hl
   constructor
   · rintro (h|⟨rfl,h⟩)
     · exact ⟨0,by simp,fun j hj=>absurd hj (Nat.not_lt_zero _),h⟩
     · obtain ⟨i,h1,h2,h3⟩:=(lk hl').1 h
       refine ⟨i + 1,by simp;exact h1,fun j hj=>?_,h3⟩
       match j with
       | 0 => rfl
       | j + 1 => exact h2 j (by omega)
   · rintro ⟨i,h1,h2,h3⟩
     match i with
     | 0 => exact .inl h3
     | i + 1 => exact .inr ⟨h2 0 (by omega), (lk hl').2 ⟨i, by simpa using h1, fun j hj => h2 (j + 1) (by omega), h3⟩⟩
section
variable {K : Nat} {mx : Nat → Int}
def Ok (K : Nat) (mx : Nat → Int) (m : List Int) : Prop:=m = [1] ∨ (m.length = K + 1 ∧ gi m 0 = 0 ∧ ∀ i,i < K → 0 ≤ gi m (i + 1) ∧ gi m (i + 1) ≤ mx i)
theorem Ok.h0 {m : List Int} (h : Ok K mx m) : gi m 0 = 0 ∨ m = [1]:=h.elim .inr fun h=>.inl h.2.1
theorem Ok.pos {m : List Int} (h : Ok K mx m) : 0 < m.length:=by
 rcases h with rfl|h
 · decide
 · omega
theorem Ok.lost {m : List Int} (h : Ok K mx m) : gi m 0 = 1 ↔ m = [1]:=⟨fun e=>h.h0.elim (fun k=>by omega) id,fun e=>by rw [e];rfl⟩
theorem Ok.live {m : List Int} (h : Ok K mx m) (h1 : gi m 0 ≠ 1) : m.length = K + 1 ∧ gi m 0 = 0 ∧ ∀ i,i < K → 0 ≤ gi m (i + 1) ∧ gi m (i + 1) ≤ mx i:=by
 rcases h with rfl|h
 · exact absurd rfl h1
 · exact h
theorem eR : Ok K mx [1]:=.inl rfl
theorem d4 {m : List Int} {i : Nat} (h : m.length ≤ i) : gi m i = 0:=by simp [gi,List.getD_eq_getElem?_getD,List.getElem?_eq_none h]
theorem qT {a b : List Int} (ha : Ok K mx a) (hb : Ok K mx b) (h : ∀ i,i ≤ K → gi a i = gi b i) : a = b:=by
 have h00:=h 0 (Nat.zero_le _)
 by_cases e : gi a 0 = 1
 · rw [ha.lost.1 e,hb.lost.1 (by omega)]
 · have h1:=ha.live e
   have h2:=hb.live (by omega)
   exact iY (by omega) fun k hk=>h k (by omega)
theorem lx_ok {a b : List Int} (ha : Ok K mx a) (hb : Ok K mx b) : lx a b ↔ dif K a b:=by
 by_cases e : gi a 0 = gi b 0
 · have hl : a.length = b.length:=by
    rcases ha with rfl|ha <;> rcases hb with rfl|hb
    · rfl
    · exact absurd (e.trans hb.2.1) (by decide)
    · exact absurd (ha.2.1.symm.trans e) (by decide)
    · omega
   rw [lk hl]
   constructor
   · rintro ⟨i,h1,h2⟩
     refine ⟨i,?_,h2⟩
     rcases ha with rfl|ha
     · simp at h1;omega
     · omega
   · rintro ⟨i,h1,h2,h3⟩
     refine ⟨i,?_,h2,h3⟩
     rcases Nat.lt_or_ge i a.length with h|h
     · exact h
     · rw [d4 h,d4 (by omega)] at h3;omega
 · rcases ha.h0 with h0|rfl <;> rcases hb.h0 with k0|rfl
   · omega
   · match a,ha.pos with
     | x :: xs, _ =>
       have h0' : x = 0:=h0
       subst h0'
       exact ⟨fun _=>⟨0,Nat.zero_le _,fun j hj=>absurd hj (Nat.not_lt_zero _),(by decide : (0 : Int) < 1)⟩,fun _=>Or.inl (by decide)⟩
   · match b,hb.pos with
     | x :: xs, _ =>
       have h0' : x = 0:=k0
       subst h0'
       constructor
       · rintro (h|h)
         · exact absurd h (by decide)
         · exact absurd h.1 (by decide)
       · rintro ⟨i,h1,h2,h3⟩
         rcases i with _|i
         · exact absurd (show (1 : Int) < 0 from h3) (by decide)
         · exact absurd (show (1 : Int) = 0 from h2 0 (by omega)) (by decide)
   · exact absurd rfl e
theorem nZ {c d : Nat} {a b : List Int} (h : dif c a b) (hc : c ≤ d) : dif d a b:=let ⟨i,h1,h2⟩:=h;⟨i,by omega,h2⟩
def cut (K c : Nat) (m : List Int) : List Int:=tab (K + 1) fun i=>if i ≤ c then gi m i else 0
def inc (mx : Nat → Int) : Nat → List Int → List Int
 | 0, _ => [1]
 | i + 1, m => if gi m (i + 1) < mx i then m.set (i + 1) (gi m (i + 1) + 1) else inc mx i (m.set (i + 1) 0)
def ask (K : Nat) (mx : Nat → Int) (c : Nat) (od : Bool) (m : List Int) : List Int :=
 if gi m 0 = 1 then [1] else if od then inc mx c (cut K c m) else cut K c m
theorem cut_len (K c : Nat) (m : List Int) : (cut K c m).length = K + 1:=bM _ _
theorem da {c : Nat} (hc : c ≤ K) (m : List Int) (i : Nat) : gi (cut K c m) i = if i ≤ c then gi m i else 0:=by
 rcases Nat.lt_or_ge i (K + 1) with h|h
 · exact ca _ h
 · rw [d4 (by rw [cut_len];exact h),if_neg (by omega)]
theorem cut_ok {c : Nat} (hc : c ≤ K) (hx : ∀ i,0 ≤ mx i) {m : List Int} (h : Ok K mx m) (h1 : gi m 0 ≠ 1) : Ok K mx (cut K c m):=by
 have h2:=h.live h1
 refine .inr ⟨cut_len _ _ _,?_,fun i hi=>?_⟩
 · rw [da hc,if_pos (Nat.zero_le _)];exact h2.2.1
 · rw [da hc]
   split
   · exact h2.2.2 i hi
   · exact ⟨Int.le_refl _,hx i⟩
theorem fx : ∀ (c : Nat) (m : List Int),c < m.length → ((∀ j,j < c → ¬ gi m (j + 1) < mx j) ∧ inc mx c m = [1]) ∨ ∃ k,k < c ∧ gi m (k + 1) < mx k ∧ (∀ j,k < j → j < c → ¬ gi m (j + 1) < mx j) ∧ (inc mx c m).length = m.length ∧ ∀ j,gi (inc mx c m) j = if j ≤ k then gi m j else if j = k + 1 then gi m j + 1 else if j ≤ c then 0 else gi m j
 | 0, m, _ => .inl ⟨fun j hj => absurd hj (Nat.not_lt_zero _), rfl⟩
 | c + 1, m, hm => by
   unfold inc
   by_cases h : gi m (c + 1) < mx c
   · rw [if_pos h]
     refine .inr ⟨c,by omega,h,fun j h1 h2=>by omega,List.length_set,fun j=>?_⟩
     rw [fE hm]
     by_cases e : j = c + 1
     · subst e;rw [if_pos rfl,if_neg (by omega),if_pos rfl]
     · rw [if_neg e]
       by_cases e1 : j ≤ c
       · rw [if_pos e1]
       · rw [if_neg e1,if_neg e,if_neg (by omega)]
   · rw [if_neg h]
     have hg : ∀ j,j ≠ c + 1 → gi (m.set (c + 1) 0) j = gi m j:=fun j hj=>by rw [fE hm,if_neg hj]
     rcases fx c (m.set (c + 1) 0) (by rw [List.length_set];omega) with ⟨h1,h2⟩|⟨k,h1,h2,h3,h4,h5⟩
     · refine .inl ⟨fun j hj=>?_,h2⟩
       by_cases e : j = c
       · subst e;exact h
       · have:=h1 j (by omega);rwa [hg _ (by omega)] at this
     · rw [hg _ (by omega)] at h2
       refine .inr ⟨k,by omega,h2,fun j h6 h7=>?_,by rw [h4,List.length_set],fun j=>?_⟩
       · by_cases e : j = c
         · subst e;exact h
         · have:=h3 j h6 (by omega);rwa [hg _ (by omega)] at this
       · rw [h5 j]
         by_cases e1 : j ≤ k
         · rw [if_pos e1,if_pos e1,hg _ (by omega)]
         · rw [if_neg e1,if_neg e1]
           by_cases e2 : j = k + 1
           · rw [if_pos e2,if_pos e2,hg _ (by omega)]
           · rw [if_neg e2,if_neg e2]
             by_cases e3 : j ≤ c
             · rw [if_pos e3,if_pos (by omega)]
             · rw [if_neg e3]
               by_cases e4 : j = c + 1
               · subst e4;rw [fE hm,if_pos rfl,if_pos (by omega)]
               · rw [if_neg (by omega),hg _ e4]
theorem ll {c : Nat} (hc : c ≤ K) (hx : ∀ i,0 ≤ mx i) {m : List Int} (h : Ok K mx m) (h1 : gi m 0 ≠ 1) : Ok K mx (inc mx c m):=by
 obtain ⟨hl,h0,hd⟩:=h.live h1
 rcases fx (mx:=mx) c m (by omega) with ⟨_,e⟩|⟨k,k1,k2,k3,k4,k5⟩
 · rw [e];exact eR
 · refine .inr ⟨by omega,by rw [k5,if_pos (Nat.zero_le _)];exact h0,fun i hi=>?_⟩
   rw [k5]
   have:=hd i hi
   split
   · exact this
   · split
     · rename_i e
       have : i = k:=by omega
       subst this;omega
     · split
       · exact ⟨Int.le_refl _,hx i⟩
       · exact this
theorem ask_ok {c : Nat} {od : Bool} (hc : c ≤ K) (hx : ∀ i,0 ≤ mx i) {m : List Int} (h : Ok K mx m) : Ok K mx (ask K mx c od m):=by
 unfold ask
 split
 · exact eR
 · rename_i h1
   have h2:=cut_ok hc hx h h1
   split
   · refine ll hc hx h2 ?_
     rw [da hc,if_pos (Nat.zero_le _)];exact h1
   · exact h2
theorem mJ {c : Nat} (hc : c ≤ K) {m b : List Int} (h : Ok K mx m) (h1 : gi m 0 ≠ 1) (hz : ∀ j,c < j → gi m j = 0) (hb : Ok K mx b) (hx : ∀ i,0 ≤ mx i) (hd : dif c m b) : le (inc mx c m) b:=by
 obtain ⟨hl,h0,hdg⟩:=h.live h1
 obtain ⟨i,i1,i2,i3⟩:=hd
 have hi:=ll hc hx h h1
 rcases fx (mx:=mx) c m (by omega) with ⟨k1,e⟩|⟨k,k1,k2,k3,k4,k5⟩
 · rcases i with _|i
   · rw [h0] at i3
     rcases hb.h0 with e'|e'
     · omega
     · rw [e,e'];exact le_refl _
   · have hb0 : gi b 0 = 0:=(i2 0 (by omega)).symm.trans h0
     have:=(hb.live (by omega)).2.2 i (by omega)
     exact absurd i3 (by have:=k1 i (by omega);omega)
 · by_cases e : i ≤ k
   · refine dL ((lx_ok hi hb).2 ⟨i,by omega,fun j hj=>?_,?_⟩)
     · rw [k5,if_pos (by omega)];exact i2 j hj
     · rw [k5,if_pos e];exact i3
   · have hb0 : gi b 0 = 0:=(i2 0 (by omega)).symm.trans h0
     have hbl:=(hb.live (by omega)).2.2
     have : i = k + 1:=by
      rcases Nat.lt_or_ge (k + 1) i with h'|h'
      · exfalso
        have a1:=k3 (i - 1) (by omega) (by omega)
        have a2:=hbl (i - 1) (by omega)
        rw [show i - 1 + 1 = i by omega] at a1 a2
        omega
      · omega
     subst this
     intro hlt
     obtain ⟨t,t1,t2,t3⟩:=(lx_ok hb hi).1 hlt
     rw [k5] at t3
     by_cases e1 : t ≤ k
     · rw [if_pos e1,i2 t (by omega)] at t3;omega
     · rw [if_neg e1] at t3
       by_cases e2 : t = k + 1
       · rw [if_pos e2,e2] at t3;omega
       · rw [if_neg e2] at t3
         have hbt : 0 ≤ gi b t:=by
          have:=hbl (t - 1) (by omega)
          rw [show t - 1 + 1 = t by omega] at this
          exact this.1
         split at t3
         · omega
         · rw [hz t (by omega)] at t3;omega
theorem oc {c : Nat} (hc : c ≤ K) {m : List Int} (h : Ok K mx m) (h1 : gi m 0 ≠ 1) : dif c m (inc mx c m):=by
 obtain ⟨hl,h0,hdg⟩:=h.live h1
 rcases fx (mx:=mx) c m (by omega) with ⟨_,e⟩|⟨k,k1,k2,k3,k4,k5⟩
 · refine ⟨0,Nat.zero_le _,fun j hj=>absurd hj (Nat.not_lt_zero _),?_⟩
   rw [e,h0];decide
 · refine ⟨k + 1,by omega,fun j hj=>by rw [k5,if_pos (by omega)],?_⟩
   rw [k5,if_neg (by omega),if_pos rfl];omega
theorem oe {c : Nat} {od : Bool} (hc : c ≤ K) (hx : ∀ i,0 ≤ mx i) {a b : List Int} (ha : Ok K mx a) (hb : Ok K mx b) (h : le a b) : le (ask K mx c od a) (ask K mx c od b):=by
 rcases jw.1 h with h|rfl
 · have hd:=(lx_ok ha hb).1 h
   obtain ⟨i,i1,i2,i3⟩:=hd
   unfold ask
   by_cases eb : gi b 0 = 1
   · rw [if_pos eb]

     have key : ∀ x,Ok K mx x → le x [1]:=fun x hx' hl=>by
      obtain ⟨t,t1,t2,t3⟩:=(lx_ok eR hx').1 hl
      rcases hx'.h0 with e|e
      · rcases t with _|t
        · rw [e] at t3;exact absurd t3 (by decide)
        · exact absurd ((t2 0 (by omega)).trans e) (by decide)
      · subst e;omega
     exact key _ (ask_ok (od:=od) hc hx ha)
   · have ea : gi a 0 ≠ 1:=fun e=>by
      have hb0 : gi b 0 = 0:=hb.h0.elim id fun e'=>absurd (hb.lost.2 e') eb
      rcases i with _|i
      · omega
      · have:=i2 0 (by omega);omega
     rw [if_neg eb,if_neg ea]
     have oa:=cut_ok hc hx ha ea
     have ob:=cut_ok hc hx hb eb
     have na : gi (cut K c a) 0 ≠ 1:=by rw [da hc,if_pos (Nat.zero_le _)];exact ea
     have nb : gi (cut K c b) 0 ≠ 1:=by rw [da hc,if_pos (Nat.zero_le _)];exact eb
     by_cases e : i ≤ c
     · have hdc : dif c (cut K c a) (cut K c b):=⟨i,e,fun j hj=>by rw [da hc,da hc,if_pos (by omega),if_pos (by omega)];exact i2 j hj,by rw [da hc,da hc,if_pos e,if_pos e];exact i3⟩
       split
       · obtain ⟨t,t1,t2,t3⟩:=oc (mx:=mx) hc ob nb
         refine mJ hc oa na (fun j hj=>by rw [da hc,if_neg (by omega)]) (ll hc hx ob nb) hx ?_
         obtain ⟨i',j1,j2,j3⟩:=hdc
         rcases Nat.lt_trichotomy i' t with h'|h'|h'
         · exact ⟨i',j1,fun j hj=>(j2 j hj).trans (t2 j (by omega)),by rw [← t2 i' h'];exact j3⟩
         · subst h';exact ⟨i',j1,fun j hj=>(j2 j hj).trans (t2 j hj),by omega⟩
         · exact ⟨t,t1,fun j hj=>(j2 j (by omega)).trans (t2 j hj),by rw [j2 t h'];exact t3⟩
       · exact dL ((lx_ok oa ob).2 (nZ hdc hc))
     · have : cut K c a = cut K c b:=qT oa ob fun j _=>by
        rw [da hc,da hc]
        split
        · exact i2 j (by omega)
        · rfl
       rw [this];exact le_refl _
 · exact le_refl _
noncomputable def bst (mn : Bool) (L : Nat → List Int) : Nat → List Int
 | 0 => []
 | k + 1 => @ite _ (k = 0 ∨ (if mn then lx (L k) (bst mn L k) else lx (bst mn L k) (L k))) (Classical.propDecidable _) (L k) (bst mn L k)
theorem bst_yes {mn : Bool} {L : Nat → List Int} {k : Nat} (h : k = 0 ∨ (if mn then lx (L k) (bst mn L k) else lx (bst mn L k) (L k))) : bst mn L (k + 1) = L k:=if_pos h
theorem bst_no {mn : Bool} {L : Nat → List Int} {k : Nat} (h : ¬ (k = 0 ∨ (if mn then lx (L k) (bst mn L k) else lx (bst mn L k) (L k)))) : bst mn L (k + 1) = bst mn L k:=if_neg h
theorem bst_mem (mn : Bool) (L : Nat → List Int) : ∀ k,0 < k → ∃ j,j < k ∧ bst mn L k = L j
 | 0, h => absurd h (Nat.not_lt_zero _)
 | k + 1, _ => by
   by_cases h : k = 0 ∨ (if mn then lx (L k) (bst mn L k) else lx (bst mn L k) (L k))
   · rw [bst_yes h];exact ⟨k,by omega,rfl⟩
   · rw [bst_no h]
     rcases Nat.eq_zero_or_pos k with e|e
     · exact absurd (.inl e) h
     · obtain ⟨j,h1,h2⟩:=bst_mem mn L k e
       exact ⟨j,by omega,h2⟩
theorem jx (L : Nat → List Int) : ∀ k j,j < k → le (bst true L k) (L j)
 | 0, j, h => absurd h (Nat.not_lt_zero _)
 | k + 1, j, h => by
   by_cases hc : k = 0 ∨ (if true = true then lx (L k) (bst true L k) else lx (bst true L k) (L k))
   · rw [bst_yes hc]
     rcases Nat.lt_or_ge j k with h'|h'
     · rcases hc with hc|hc
       · omega
       · exact le_trans (dL (by simpa using hc)) (jx L k j h')
     · rw [show j = k by omega];exact le_refl _
   · rw [bst_no hc]
     rcases Nat.lt_or_ge j k with h'|h'
     · exact jx L k j h'
     · rw [show j = k by omega];exact fun h2=>hc (.inr (by simpa using h2))
theorem jy (L : Nat → List Int) : ∀ k j,j < k → le (L j) (bst false L k)
 | 0, j, h => absurd h (Nat.not_lt_zero _)
 | k + 1, j, h => by
   by_cases hc : k = 0 ∨ (if false = true then lx (L k) (bst false L k) else lx (bst false L k) (L k))
   · rw [bst_yes hc]
     rcases Nat.lt_or_ge j k with h'|h'
     · rcases hc with hc|hc
       · omega
       · exact le_trans (jy L k j h') (dL (by simpa using hc))
     · rw [show j = k by omega];exact le_refl _
   · rw [bst_no hc]
     rcases Nat.lt_or_ge j k with h'|h'
     · exact jy L k j h'
     · rw [show j = k by omega];exact fun h2=>hc (.inr (by simpa using h2))
theorem og (mn : Bool) {L M : Nat → List Int} {k : Nat} (hk : 0 < k) (h : ∀ j,j < k → le (L j) (M j)) : le (bst mn L k) (bst mn M k):=by
 cases mn
 · obtain ⟨j,h1,h2⟩:=bst_mem false L k hk
   rw [h2];exact le_trans (h j h1) (jy M k j h1)
 · obtain ⟨j,h1,h2⟩:=bst_mem true M k hk
   rw [h2];exact le_trans (jx L k j h1) (h j h1)
theorem bst_congr (mn : Bool) {L M : Nat → List Int} : ∀ {k : Nat},(∀ j,j < k → L j = M j) → bst mn L k = bst mn M k
 | 0, _ => rfl
 | k + 1, h => by
   unfold bst
   rw [h k (by omega),bst_congr mn (k:=k) fun j hj=>h j (by omega)]
def num (B : Nat) (m : List Int) : Nat → Nat
 | 0 => (gi m 0).toNat
 | k + 1 => num B m k * B + (gi m (k + 1)).toNat
theorem lm {B : Nat} {a b : List Int} (hb : ∀ i,(gi a i).toNat < B) (h0 : ∀ i,0 ≤ gi a i) (h1 : ∀ i,0 ≤ gi b i) : ∀ k,dif k a b → num B a k < num B b k
 | 0, ⟨i, h1', h2, h3⟩ => by
   have : i = 0:=by omega
   subst this
   show (gi a 0).toNat < (gi b 0).toNat
   have:=h0 0
   omega
 | k + 1, ⟨i, h1', h2, h3⟩ => by
   show num B a k * B + _ < num B b k * B + _
   rcases Nat.lt_or_ge i (k + 1) with h|h
   · have:=lm hb h0 h1 k ⟨i,by omega,h2,h3⟩
     have h4:=hb (k + 1)
     have : num B a k * B + B ≤ num B b k * B:=by
      rw [← Nat.succ_mul];exact Nat.mul_le_mul_right _ this
     omega
   · have : i = k + 1:=by omega
     subst this
     have e : ∀ t,t ≤ k → num B a t = num B b t:=by
      intro t
      induction t with
      | zero => intro _; show (gi a 0).toNat = (gi b 0).toNat; rw [h2 0 (by omega)]
      | succ t ih => intro ht; show num B a t * B + _ = num B b t * B + _; rw [ih (by omega), h2 (t + 1) (by omega)]
     rw [e k (Nat.le_refl _)]
     have:=h0 (k + 1)
     omega
theorem ok_nn {m : List Int} (h : Ok K mx m) (i : Nat) : 0 ≤ gi m i:=by
 rcases h with rfl|⟨h1,h2,h3⟩
 · rcases i with _|i
   · decide
   · rw [d4 (by simp)];exact Int.le_refl _
 · rcases i with _|i
   · omega
   · rcases Nat.lt_or_ge i K with h|h
     · exact (h3 i h).1
     · rw [d4 (by omega)];exact Int.le_refl _
theorem oh {B : Nat} (hB : ∀ i,i < K → mx i < B) (h1B : 1 < B) {m : List Int} (h : Ok K mx m) (i : Nat) : (gi m i).toNat < B:=by
 rcases h with rfl|⟨h1,h2,h3⟩
 · rcases i with _|i
   · exact h1B
   · rw [d4 (by simp)];exact Nat.lt_trans (by decide) h1B
 · rcases i with _|i
   · rw [h2];exact Nat.lt_trans (by decide) h1B
   · rcases Nat.lt_or_ge i K with h|h
     · have:=h3 i h;have:=hB i h;omega
     · rw [d4 (by omega)];exact Nat.lt_trans (by decide) h1B
def gap (B K : Nat) (m : List Int) : Nat:=num B [1] K - num B m K
theorem qU {B : Nat} (hB : ∀ i,i < K → mx i < B) (h1B : 1 < B) {a b : List Int} (ha : Ok K mx a) (hb : Ok K mx b) (h : lx a b) : gap B K b < gap B K a:=by
 have h1:=lm (oh hB h1B ha) (ok_nn ha) (ok_nn hb) K ((lx_ok ha hb).1 h)
 have h2 : num B b K ≤ num B [1] K:=by
  rcases lx_total b [1] with h|rfl|h
  · exact Nat.le_of_lt (lm (oh hB h1B hb) (ok_nn hb) (ok_nn (K:=K) (mx:=mx) eR) K ((lx_ok hb eR).1 h))
  · exact Nat.le_refl _
  · obtain ⟨t,t1,t2,t3⟩:=(lx_ok eR hb).1 h
    rcases hb.h0 with e|e
    · rcases t with _|t
      · rw [e] at t3;exact absurd t3 (by decide)
      · exact absurd ((t2 0 (by omega)).trans e) (by decide)
    · subst e;omega
 unfold gap
 omega
end
end MS
end Go.Proofs.Ytceonklhlpkfgaa
namespace Go.Proofs.Ytceonklhlpkfgaa
set_option linter.unusedVariables false
set_option linter.unusedSimpArgs false
open Go.RowKit
namespace MS
structure Gt where
 n : Nat
 K : Nat
 mx : Nat → Int
 row : Nat → List Int
 c : Nat → Nat
 od : Nat → Bool
 mn : Nat → Bool
structure Gt.Right (G : Gt) : Prop where
 mx0 : ∀ i,0 ≤ G.mx i
 ck : ∀ v,v < G.n → G.c v ≤ G.K
 pos : ∀ v,v < G.n → 0 < (G.row v).length
 nxt : ∀ v,v < G.n → ∀ i,i < (G.row v).length → (gi (G.row v) i).toNat < G.n
def Gt.asks (G : Gt) (t : List (List Int)) (v i : Nat) : List Int:=ask G.K G.mx (G.c v) (G.od v) (gr t (gi (G.row v) i).toNat)
noncomputable def Gt.dem (G : Gt) (t : List (List Int)) (v : Nat) : List Int:=bst (G.mn v) (G.asks t v) (G.row v).length
def Gt.Tab (G : Gt) (t : List (List Int)) : Prop:=t.length = G.n ∧ ∀ v,v < G.n → Ok G.K G.mx (gr t v)
def Gt.leT (G : Gt) (t s : List (List Int)) : Prop:=∀ v,v < G.n → le (gr t v) (gr s v)
def Gt.Steady (G : Gt) (t : List (List Int)) : Prop:=G.Tab t ∧ ∀ v,v < G.n → ¬ lx (gr t v) (G.dem t v)
def Gt.Least (G : Gt) (t : List (List Int)) : Prop:=G.Steady t ∧ ∀ s,G.Steady s → G.leT t s
def Gt.Low (G : Gt) (t : List (List Int)) : Prop:=G.Tab t ∧ ∀ s,G.Steady s → G.leT t s
def Gt.zero (G : Gt) : List (List Int):=(List.range G.n).map fun _=>tab (G.K + 1) fun _=>0
section
variable {G : Gt} (hG : G.Right)
include hG
theorem pH {t : List (List Int)} (ht : G.Tab t) {v i : Nat} (hv : v < G.n) (hi : i < (G.row v).length) : Ok G.K G.mx (G.asks t v i):=ask_ok (hG.ck v hv) hG.mx0 (ht.2 _ (hG.nxt v hv i hi))
theorem dem_ok {t : List (List Int)} (ht : G.Tab t) {v : Nat} (hv : v < G.n) : Ok G.K G.mx (G.dem t v):=by
 obtain ⟨j,h1,h2⟩:=bst_mem (G.mn v) (G.asks t v) _ (hG.pos v hv)
 rw [Gt.dem,h2];exact pH hG ht hv h1
theorem oi {t s : List (List Int)} (ht : G.Tab t) (hs : G.Tab s) (h : G.leT t s) {v : Nat} (hv : v < G.n) : le (G.dem t v) (G.dem s v) :=
 og _ (hG.pos v hv) fun j hj=>oe (hG.ck v hv) hG.mx0 (ht.2 _ (hG.nxt v hv j hj)) (hs.2 _ (hG.nxt v hv j hj)) (h _ (hG.nxt v hv j hj))
omit hG in
theorem pI {t : List (List Int)} (ht : G.Tab t) {v : Nat} (hv : v < G.n) {x : List Int} (hx : Ok G.K G.mx x) : G.Tab (t.set v x) :=
 ⟨by rw [List.length_set];exact ht.1,fun u hu=>by
  rw [fF (by rw [ht.1];exact hv)]
  split
  · exact hx
  · exact ht.2 u hu⟩
theorem low_lift {t : List (List Int)} (h : G.Low t) {v : Nat} (hv : v < G.n) : G.Low (t.set v (G.dem t v)):=by
 refine ⟨pI h.1 hv (dem_ok hG h.1 hv),fun s hs u hu=>?_⟩
 rw [fF (by rw [h.1.1];exact hv)]
 split
 · rename_i e;subst e
   exact le_trans (oi hG h.1 hs.1 (h.2 s hs) hu) (hs.2 u hu)
 · exact h.2 s hs u hu
omit hG in
theorem lR {v : Nat} (hv : v < G.n) : gr G.zero v = tab (G.K + 1) fun _=>0:=by simp [gr,Gt.zero,List.getD_eq_getElem?_getD,hv]
theorem lS : Ok G.K G.mx (tab (G.K + 1) fun _=>0):=.inr ⟨bM _ _,ca _ (by omega),fun i hi=>by
 rw [ca _ (by omega)];exact ⟨Int.le_refl _,hG.mx0 i⟩⟩
theorem zero_low : G.Low G.zero:=by
 refine ⟨⟨by simp [Gt.zero],fun v hv=>by rw [lR hv];exact lS hG⟩,fun s hs v hv hl=>?_⟩
 rw [lR hv] at hl
 obtain ⟨i,i1,i2,i3⟩:=(lx_ok (hs.1.2 v hv) (lS hG)).1 hl
 rw [ca _ (by omega)] at i3
 have:=ok_nn (hs.1.2 v hv) i
 omega
omit hG in
theorem low_steady {t : List (List Int)} (h : G.Low t) (hs : ∀ v,v < G.n → ¬ lx (gr t v) (G.dem t v)) : G.Least t:=⟨⟨h.1,hs⟩,h.2⟩
omit hG in
theorem mK {t s : List (List Int)} (ht : G.Least t) (hs : G.Least s) : t = s:=by
 have h1:=ht.1.1.1
 have h2:=hs.1.1.1
 refine List.ext_getElem (by omega) fun v a b=>?_
 have:=pG (ht.2 s hs.1 v (by omega)) (hs.2 t ht.1 v (by omega))
 simpa [gr,List.getD_eq_getElem?_getD,a,b] using this
end
def gapT (B K : Nat) (t : List (List Int)) : Nat → Nat
 | 0 => 0
 | n + 1 => gapT B K t n + gap B K (gr t n)
theorem kn {B K : Nat} {t : List (List Int)} {v : Nat} {x : List Int} (hv : v < t.length) : ∀ n,(n ≤ v → gapT B K (t.set v x) n = gapT B K t n) ∧ (v < n → gapT B K (t.set v x) n + gap B K (gr t v) = gapT B K t n + gap B K x)
 | 0 => ⟨fun _ => rfl, fun h => absurd h (Nat.not_lt_zero _)⟩
 | n + 1 => by
   obtain ⟨h1,h2⟩:=kn (B:=B) (K:=K) (x:=x) hv n
   refine ⟨fun h=>?_,fun h=>?_⟩
   · show gapT B K _ n + gap B K (gr _ n) = gapT B K _ n + _
     rw [h1 (by omega),fF hv,if_neg (by omega)]
   · show gapT B K _ n + gap B K (gr _ n) + _ = gapT B K _ n + _ + _
     rw [fF hv]
     by_cases e : n = v
     · subst e
       rw [if_pos rfl,h1 (Nat.le_refl _)];omega
     · rw [if_neg e]
       have:=h2 (by omega)
       omega
theorem gapT_lt {G : Gt} {B : Nat} (hB : ∀ i,i < G.K → G.mx i < B) (h1B : 1 < B) {t : List (List Int)} (ht : G.Tab t) {v : Nat} (hv : v < G.n) {x : List Int} (hx : Ok G.K G.mx x) (h : lx (gr t v) x) : gapT B G.K (t.set v x) G.n < gapT B G.K t G.n:=by
 have h1:=(kn (B:=B) (K:=G.K) (x:=x) (show v < t.length by rw [ht.1];exact hv) G.n).2 hv
 have h2:=qU hB h1B (ht.2 v hv) hx h
 omega
theorem least_ex {G : Gt} (hG : G.Right) {B : Nat} (hB : ∀ i,i < G.K → G.mx i < B) (h1B : 1 < B) : ∃ t,G.Least t:=by
 have key : ∀ N t,gapT B G.K t G.n = N → G.Low t → ∃ t,G.Least t:=by
  intro N
  induction N using Nat.strongRecOn with
  | ind N ih =>
    intro t hN ht
    by_cases h : ∃ v,v < G.n ∧ lx (gr t v) (G.dem t v)
    · obtain ⟨v,hv,h⟩:=h
      exact ih _ (by rw [← hN];exact gapT_lt hB h1B ht.1 hv (dem_ok hG ht.1 hv) h) _ rfl (low_lift hG ht hv)
    · exact ⟨t,low_steady ht fun v hv hl=>h ⟨v,hv,hl⟩⟩
 exact key _ _ rfl (zero_low hG)
noncomputable def Gt.least (G : Gt) : List (List Int):=@dite _ (∃ t,G.Least t) (Classical.propDecidable _) (fun h=>Classical.choose h) fun _=>[]
theorem least_is {G : Gt} (h : ∃ t,G.Least t) : G.Least G.least:=by
 unfold Gt.least
 rw [dif_pos h]
 exact Classical.choose_spec h
theorem least_eq {G : Gt} {t : List (List Int)} (h : G.Least t) : t = G.least:=mK h (least_is ⟨t,h⟩)
end MS
end Go.Proofs.Ytceonklhlpkfgaa
namespace Go.Proofs.Ytceonklhlpkfgaa
set_option linter.unusedVariables false
set_option linter.unusedSimpArgs false
open Go.RowKit
theorem gX {P : Program} {f : FuncId} {args : List AV} {fn : Func} (hf : P.funcs[f]? = some fn) (hb : fn.body.isNone = false) (hname : (fn.name == "runtime.NumGoroutine") = false) {xs : List Int}
  (h : ∀ φ hp w (vs : List Value),AVs φ hp w args vs → Calls P f vs.toArray w (d5 w xs)) : aw P f args [.arr 2 .may (.I xs)] (fun ns=>.sl (ns.getD 0 0)):=by
 unfold aw
 refine ⟨⟨fn,hf,hb,hname⟩,fun φ0 hp0 w vs hX H hl hv=>(h φ0 hp0 w vs (.of hl hv)).mono fun e w' ⟨s,n,c,he,ho,hbw⟩=>⟨_,he,?_⟩⟩
 intro ν hl hn hf
 match ν,hl with
 | [ν], _ =>
   have hν : hp0 ν = none:=hf ν (by simp)
   rcases ho with ⟨e1,e2⟩|⟨b,cap,cur,e1,e2,e3,e4,e5,e6,e7,e8⟩
   · have hz : xs.length = 0:=by have:=congrArg List.length e2;simpa using this
     obtain ⟨p1,p2⟩:=H.put hν (fz:=[]) (fun x hx=>by cases hx) (loc:=.nil) (e:=.arr 2 .may (.I xs)) hbw hbw.size (fun g' hg'=>by cases hg') (fun b' hb' _=>hbw.block b' hb') (fun _=>⟨_,rfl,rfl,.inl ⟨rfl,hz,rfl⟩⟩)
     refine ⟨_,p1,p2,?_⟩
     rw [e1]
     refine (congrArg (AVC _ _ w' (.sl ν)) ?_).mp (AVC.sl (ν:=ν) (e:=.arr 2 .may (.I xs)) (ax _ _ _) rfl)
     rw [ax];rfl
   · rw [List.length_map] at e1 e5 e8
     obtain ⟨p1,p2⟩:=H.put hν (fz:=[]) (fun x hx=>by cases hx) (loc:=.at b 0 xs.length cap 1) (e:=.arr 2 .may (.I xs)) hbw hbw.size (fun g' hg'=>.inl (by injection hg' with hg';omega)) (fun b' hb' _=>hbw.block b' hb') (fun _=>by
      refine ⟨_,rfl,rfl,.inr ⟨b,0,cap,cur,rfl,e4,e5,by unfold maxLen at e6;omega,(by show 0 + cap * 1 ≤ _;omega),fun _=>⟨rfl,(by show cap * 1 = _;omega)⟩,fun i hi j hj=>?_⟩⟩
      have hj0 : j = 0:=by have : j < 1:=hj;omega
      subst hj0
      have hi' : i < xs.length:=hi
      have hc : cur[i]? = some (.int .i64 (gi xs i)):=by
       have h8:=congrArg (fun l=>l[i]?) e8
       simp only [List.getElem?_take,List.getElem?_map,hi',if_true,Array.getElem?_toList] at h8
       rw [h8,gi,List.getD_eq_getElem?_getD,List.getElem?_eq_getElem hi']
       rfl
      exact ⟨_,by rw [show 0 + (i * 1 + 0) = i by omega];exact hc,.int _ _⟩)
     refine ⟨_,p1,p2,?_⟩
     rw [e1]
     refine (congrArg (AVC _ _ w' (.sl ν)) ?_).mp (AVC.sl (ν:=ν) (e:=.arr 2 .may (.I xs)) (ax _ _ _) rfl)
     rw [ax];rfl
theorem ol {φ : Nat → Loc} {hp : Hp} {w : World} {loc : Loc} {nn : Fl} {xs : List Int} (h : fL φ hp w loc (.arr 2 nn (.I xs))) (hh : nn.hd = true) {lo : Nat} (hlo : ∀ b,loc.blk = some b → lo ≤ b) : aA lo w.heap.size w loc.val xs :=
 pF h hh rfl rfl hlo (by simp) fun i v hi hr=>by
  have hi' : i < xs.length:=hi
  cases hr with
  | sl hv' => simp [C.view] at hv'
  | int => simp [gi, List.getD_eq_getElem?_getD, List.getElem?_eq_getElem hi']
theorem lT {φ : Nat → Loc} {hp : Hp} {w : World} {ν : Nat} {v : Value} {T : TypeId} {nn : Fl} {c : C} (h : AVC φ hp w (.sl ν) v) (he : hp ν = some (.arr T nn c)) : v = (φ ν).val:=by
 cases h with
 | sl h hk => rfl
 | sld h hk v hv => rw [he] at h; injection h with h; subst h; simp [Ent.kind] at hk
theorem iT (l : Loc) : ∃ s n c,l.val = .slice s n c:=by cases l <;> exact ⟨_,_,_,rfl⟩
theorem lU {P : Program} {f : FuncId} {args : List AV} {xs : List Int} {nn : Fl} {w : World} {vs : List Value} (hF : aw P f args [.arr 2 nn (.I xs)] (fun ns=>.sl (ns.getD 0 0))) (hh : nn.hd = true) (hv : AVs φ00 h00 w args vs) : Calls P f vs.toArray w (d5 w xs):=by
 refine (hF.2 φ00 h00 w vs (fun _ _ h=>by cases h) (pD w) hv.at.1 hv.at.2).mono fun e w' ⟨v,he,ho⟩=>?_
 obtain ⟨φ',H,_,ha⟩:=ho [0] rfl (by decide) (fun _ _=>rfl)
 have l0 : bv (aD h00 []) [0] [Ent.arr 2 nn (.I xs)] 0 = some (.arr 2 nn (.I xs)):=rfl
 have o0:=ol (H.ent 0 _ l0) hh fun b hb=>H.lo 0 b ⟨_,l0,(by show 1 < 2;decide)⟩ hb
 have e1 : v = (φ' 0).val:=lT ha l0
 obtain ⟨s0,n0,c0,q0⟩:=iT (φ' 0)
 rw [q0] at o0 e1
 subst e1
 exact ⟨s0,n0,c0,he,o0,H.fr⟩
end Go.Proofs.Ytceonklhlpkfgaa
