/-
  A call that is given a list up and hands back plain data; lists of rows filled step by step.
-/
import Derived.Test.YthjamlponejffaaZiFc
import Derived.Test.YthjamlponejffaaZiCg
namespace Go.Proofs.Ythjamlponejffaa
set_option linter.unusedVariables false
set_option linter.unusedSimpArgs false
open Go.RowKit
theorem pL {P : Program} {hp0 : Hp} {ν : Nat → Nat} {L : List Ent} {f : FuncId} {args avs : List AV} {nw : List Ent} {val : List Nat → AV} {k : Eff → Prop} (hF : ap P f args nw val) (hN : Nm hp0 ν) (i : Nat) {T : TypeId} {nn : Fl} {c : C} (hA : g7 (hpL hp0 ν L) avs args) (hL : L[i]? = some (.arr T nn c)) (hn : au avs = [ν i]) (hk : nw.all (fun e=>e.kind == 1) = true) (h : k ⟨True,nw,[(ν i,.dead)],val⟩) : ∃ E,b9 P f avs (hpL hp0 ν L) E ∧ k E :=
 ⟨_,gH hF hA [ν i] (fun x hx=>by
  have e:=List.mem_singleton.1 hx
  subst e
  exact ⟨_,by rw [ah hN];exact hL,rfl,by rw [hn];exact hx⟩) (fun e he=>by simpa using List.all_eq_true.1 hk e he) (.inl fun x hx=>by rw [hn] at hx;exact hx),h⟩
end Go.Proofs.Ythjamlponejffaa
