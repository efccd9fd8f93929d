/-
  The reference's attraction.
-/
import Derived.Test.YtfaefmabjjndeaaZtE7
import Derived.Test.YtfaefmabjjndeaaZtCe
import Derived.Test.YtfaefmabjjndeaaZtCp
namespace Go.Proofs.Ytfaefmabjjndeaa
set_option linter.unusedVariables false
set_option linter.unusedSimpArgs false
open Go.RowKit
attribute [local irreducible] FunSpec CallR Aw Le
def pgOf (g : Gm) (n : Nat) : PG.Gm where
  own v:=if gi g.own v = 1 then 1 else 0
  prio v:=if 0 ≤ gi g.prio v ∧ gi g.prio v ≤ 40 then gi g.prio v else 0
  E v u:=v < n ∧ u < n ∧ edg g v u = true ∧ ∃ t,t < (gr g.nxt v).length ∧ gi (gr g.nxt v) t = (u : Int)
  own01 v:=by split <;> simp
  bnd:=⟨40,fun v=>by split <;> omega⟩
  nn v:=by split <;> omega
theorem gr_of {g : Gm} {n : Nat} (hg : GmOk g n) : Gr (pgOf g n) n (gr g.nxt) (gr g.prev) (fun v u=>edg g v u = true) :=
  ⟨fun v u=>Iff.rfl,fun v s t hv=>hg.nu v s t hv,fun v t hv ht=>(hg.nx v hv).2 t ht,hg.pvi,fun u s t hu=>hg.pu u s t hu,fun u t hu ht=>(hg.pv u hu).2 t ht⟩
theorem own_of {g : Gm} {n v : Nat} (hg : GmOk g n) (hv : v < n) : (pgOf g n).own v = gi g.own v:=by
  have:=hg.o1 v hv
  show (if gi g.own v = 1 then (1 : Int) else 0) = _
  split <;> omega
theorem prio_of {g : Gm} {n v : Nat} (hg : GmOk g n) (hv : v < n) : (pgOf g n).prio v = gi g.prio v:=if_pos (hg.p1 v hv)
theorem deg_num {g : Gm} {n : Nat} (hg : GmOk g n) (inn : List Bool) {v : Nat} (hv : v < n) : (deg g inn v) = rem (gr g.nxt) (fun v u=>edg g v u = true) (fun v=>gb inn v = true) (fun _ _=>False) v:=by
  have key : ∀ k,k ≤ (gr g.nxt v).length → degTo g inn v k = num (fun t=>(gb inn (gi (gr g.nxt v) t).toNat = true ∧ edg g v (gi (gr g.nxt v) t).toNat = true) ∧ ¬ False) k:=by
    intro k
    induction k with
    | zero => intro _; rfl
    | succ k ih =>
      intro hk
      have h0:=((hg.nx v hv).2 k (by omega)).1
      have e : (((gi (gr g.nxt v) k).toNat : Nat) : Int) = gi (gr g.nxt v) k:=Int.toNat_of_nonneg h0
      rw [degTo,ih (by omega),Int.toNat_natCast]
      by_cases hp : (gb inn (gi (gr g.nxt v) k).toNat = true ∧ edg g v (gi (gr g.nxt v) k).toNat = true) ∧ ¬ False
      · rw [num_yes hp,if_pos (by rw [e] at hp;rw [hp.1.1,hp.1.2];rfl)]
      · rw [num_no hp,if_neg (fun h=>hp ⟨by rw [e];simpa using h,fun h=>h⟩)];rfl
  exact key _ (Nat.le_refl _)
theorem lstB_num (bs : List Bool) : ∀ k,(lstB bs k).length = num (fun v=>gb bs v = true) k:=by
  intro k
  induction k with
  | zero => rfl
  | succ k ih =>
    rw [lstB,List.length_append,ih]
    by_cases h : gb bs k = true
    · rw [num_yes h,if_pos h];rfl
    · rw [num_no h,if_neg h];rfl
theorem lstB_nodup (bs : List Bool) : ∀ k,(lstB bs k).Nodup:=by
  intro k
  induction k with
  | zero => exact List.nodup_nil
  | succ k ih =>
    rw [lstB]
    split
    · rw [List.nodup_append]
      refine ⟨ih,by simp,fun x hx y hy=>?_⟩
      obtain ⟨v,h1,h2,_⟩:=mem_lstB.1 hx
      simp at hy
      omega
    · rw [List.append_nil];exact ih
theorem fillno {n k : Nat} {f d : Nat → Int} (hv : f k = d k) : (tab n fun i=>if i < k + 1 then f i else d i) = tab n fun i=>if i < k then f i else d i :=
  tab_congr fun j hj=>by
    by_cases e : j = k
    · subst e;rw [if_pos (by omega),if_neg (by omega),hv]
    · by_cases h : j < k
      · rw [if_pos (by omega),if_pos h]
      · rw [if_neg (by omega),if_neg h]
theorem no_of {b : Bool} (h : b = false) : ¬ b = true:=by rw [h];exact Bool.noConfusion
end Go.Proofs.Ytfaefmabjjndeaa
