/-
  Dominions: the won region is one, and every one is a part of it.
-/
import Derived.Test.YtfmnikiinfbanaaZwD4
import Derived.Test.YtfmnikiinfbanaaZwE13
import Derived.Test.YtfmnikiinfbanaaZwE15
import Derived.Test.YtfmnikiinfbanaaZwD3
namespace Go.Proofs.Ytfmnikiinfbanaa
set_option linter.unusedVariables false
set_option linter.unusedSimpArgs false
open Go.RowKit
def atL (xs : List Int) (x : Int) : List Int:=lstB (tabb xs.length fun v=>gi xs v == x) xs.length
theorem mem_atL {xs : List Int} {x z : Int} : z ∈ atL xs x ↔ ∃ v,v < xs.length ∧ z = (v : Int) ∧ gi xs v = x:=by
  unfold atL
  rw [mem_lstB]
  constructor
  · rintro ⟨v,h1,h2,h3⟩
    rw [gb_tabb _ h1] at h3
    exact ⟨v,h1,h2,by simpa using h3⟩
  · rintro ⟨v,h1,h2,h3⟩
    exact ⟨v,h1,h2,by rw [gb_tabb _ h1];simpa using h3⟩
theorem isSet_lstB {bs : List Bool} : ∀ k : Nat,IsSet (lstB bs k) k:=by
  intro k
  induction k with
  | zero => exact fun j hj => absurd hj (Nat.not_lt_zero _)
  | succ k ih =>
    rw [lstB]
    have hw : IsSet (lstB bs k) ((k + 1 : Nat) : Int):=fun j hj=>by have:=ih j hj;exact ⟨this.1,by omega,this.2.2⟩
    split
    · intro j hj
      have hj' : j < (lstB bs k).length + 1:=by simpa using hj
      rw [gi_snoc]
      by_cases e : j < (lstB bs k).length
      · rw [if_pos e]
        obtain ⟨a,b,c⟩:=hw j e
        refine ⟨a,b,fun h=>?_⟩
        rw [gi_snoc,if_pos (by omega)]
        exact c h
      · have e2 : j = (lstB bs k).length:=by omega
        rw [if_neg e,if_pos e2]
        refine ⟨by omega,by omega,fun h=>?_⟩
        rw [gi_snoc,if_pos (by omega)]
        have:=ih (j - 1) (by omega)
        omega
    · rw [List.append_nil];exact hw
theorem isSet_atL (xs : List Int) (x : Int) : IsSet (atL xs x) xs.length:=isSet_lstB _
end Go.Proofs.Ytfmnikiinfbanaa
namespace Go.Proofs.Ytfmnikiinfbanaa
set_option linter.unusedVariables false
set_option linter.unusedSimpArgs false
open Go.RowKit
theorem own_P {g : Pa} (hg : PaOk g) {v : Nat} (hv : v < g.prio.length) : (pgP g).own v = gi g.ar.own v:=own_of (gmOk_of hg) hv
theorem all_P {g : Pa} (v : Nat) (h : allN g v) : v < g.prio.length:=h
theorem winL_at {g : Pa} (hg : PaOk g) {v : Nat} (hv : v < g.prio.length) {i : Int} (hi : i = 0 ∨ i = 1) : gi (winL g) v = i ↔ PG.Won (pgP g) i (allN g) v:=by
  have hn:=PG.won_not (G:=pgP g) fin_P (fun v h=>h) (total_all hg) (S:=allN g) (v:=v) hv
  unfold winL
  rw [gi_tab _ hv]
  by_cases h : PG.Won (pgP g) 0 (allN g) v
  · rw [tf_true h]
    rcases hi with e|e
    · subst e;exact ⟨fun _=>h,fun _=>rfl⟩
    · subst e;exact ⟨fun e=>absurd e (by decide),fun h'=>absurd h (hn.1 h')⟩
  · rw [tf_false h]
    rcases hi with e|e
    · subst e;exact ⟨fun e=>absurd e (by decide),fun h'=>absurd h' h⟩
    · subst e;exact ⟨fun _=>hn.2 h,fun _=>rfl⟩
theorem winL_01 {g : Pa} {v : Nat} (hv : v < g.prio.length) : gi (winL g) v = 0 ∨ gi (winL g) v = 1:=by
  unfold winL
  rw [gi_tab _ hv]
  split
  · exact .inl rfl
  · exact .inr rfl
end Go.Proofs.Ytfmnikiinfbanaa
