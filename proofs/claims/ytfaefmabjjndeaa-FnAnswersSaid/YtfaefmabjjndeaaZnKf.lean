/-
  A call that is given a list up and hands back plain data; lists of rows filled step by step.
-/
import Derived.Test.YtfaefmabjjndeaaZnFc
import Derived.Test.YtfaefmabjjndeaaZnCg
namespace Go.Proofs.Ytfaefmabjjndeaa
set_option linter.unusedVariables false
set_option linter.unusedSimpArgs false
open Go.RowKit
theorem qP {P : Program} {hp0 : Hp} {ν : Nat → Nat} {L : List Ent} {f : FuncId} {args avs : List AV} {nw : List Ent} {val : List Nat → AV} {k : Eff → Prop} (hF : ax P f args nw val) (hN : Nm hp0 ν) (i : Nat) {T : TypeId} {nn : Fl} {c : C} (hA : jJ (hpL hp0 ν L) avs args) (hL : L[i]? = some (.arr T nn c)) (hn : aY avs = [ν i]) (hk : nw.all (fun e=>e.kind == 1) = true) (h : k ⟨True,nw,[(ν i,.dead)],val⟩) : ∃ E,cJ P f avs (hpL hp0 ν L) E ∧ k E :=
 ⟨_,iL hF hA [ν i] (fun x hx=>by
  have e:=List.mem_singleton.1 hx
  subst e
  exact ⟨_,by rw [ak hN];exact hL,rfl,by rw [hn];exact hx⟩) (fun e he=>by simpa using List.all_eq_true.1 hk e he) (.inl fun x hx=>by rw [hn] at hx;exact hx),h⟩
theorem vL {n k : Nat} {f d : Nat → List Int} {x : List Int} (hk : k < n) (hx : x = f k) : (dt n fun i=>if i < k + 1 then f i else d i) = (dt n fun i=>if i < k then f i else d i).set k x:=by
 rw [ml hk]
 refine eu fun j hj=>?_
 by_cases e : j = k
 · subst e;rw [if_pos (by omega),if_pos rfl,hx]
 · rw [if_neg e]
   by_cases h : j < k
   · rw [if_pos (by omega),if_pos h]
   · rw [if_neg (by omega),if_neg h]
theorem sE {n k : Nat} {f d : Nat → List Int} (hx : f k = d k) : (dt n fun i=>if i < k + 1 then f i else d i) = dt n fun i=>if i < k then f i else d i :=
 eu fun j hj=>by
  by_cases e : j = k
  · subst e;rw [if_pos (by omega),if_neg (by omega),hx]
  · by_cases h : j < k
    · rw [if_pos (by omega),if_pos h]
    · rw [if_neg (by omega),if_neg h]
theorem pc {n k : Nat} {f d : Nat → List Int} (hk : n ≤ k) : (dt n fun i=>if i < k then f i else d i) = dt n f:=eu fun j hj=>if_pos (by omega)
end Go.Proofs.Ytfaefmabjjndeaa
