/-
  Dominions: the won region is one, and every one is a part of it.
-/
import Derived.Test.YtfaefmabjjndeaaZtE15
import Derived.Test.YtfaefmabjjndeaaZtD3
import Derived.Test.YtfaefmabjjndeaaZtD9
namespace Go.Proofs.Ytfaefmabjjndeaa
set_option linter.unusedVariables false
set_option linter.unusedSimpArgs false
open Go.RowKit
theorem own_P {g : Pa} (hg : PaOk g) {v : Nat} (hv : v < g.prio.length) : (pgP g).own v = gi g.ar.own v:=own_of (gmOk_of hg) hv
theorem all_P {g : Pa} (v : Nat) (h : allN g v) : v < g.prio.length:=h
theorem winL_at {g : Pa} (hg : PaOk g) {v : Nat} (hv : v < g.prio.length) {i : Int} (hi : i = 0 ∨ i = 1) : gi (winL g) v = i ↔ PG.Won (pgP g) i (allN g) v:=by
  have hn:=PG.won_not (G:=pgP g) fin_P (fun v h=>h) (total_all hg) (S:=allN g) (v:=v) hv
  unfold winL
  rw [gi_tab _ hv]
  by_cases h : PG.Won (pgP g) 0 (allN g) v
  · rw [tf_true h]
    rcases hi with e|e
    · subst e;exact ⟨fun _=>h,fun _=>rfl⟩
    · subst e;exact ⟨fun e=>absurd e (by decide),fun h'=>absurd h (hn.1 h')⟩
  · rw [tf_false h]
    rcases hi with e|e
    · subst e;exact ⟨fun e=>absurd e (by decide),fun h'=>absurd h' h⟩
    · subst e;exact ⟨fun _=>hn.2 h,fun _=>rfl⟩
theorem winL_01 {g : Pa} {v : Nat} (hv : v < g.prio.length) : gi (winL g) v = 0 ∨ gi (winL g) v = 1:=by
  unfold winL
  rw [gi_tab _ hv]
  split
  · exact .inl rfl
  · exact .inr rfl
theorem mem_won {g : Pa} (hg : PaOk g) {i : Int} (hi : i = 0 ∨ i = 1) (v : Nat) : (v : Int) ∈ atL (winL g) i ↔ PG.Won (pgP g) i (allN g) v:=by
  rw [mem_atL,winL_len]
  constructor
  · rintro ⟨u,h1,h2,h3⟩
    have : u = v:=by omega
    subst this
    exact (winL_at hg h1 hi).1 h3
  · intro h
    have hv : v < g.prio.length:=PG.won_in (S:=allN g) h
    exact ⟨v,hv,rfl,(winL_at hg hv hi).2 h⟩
end Go.Proofs.Ytfaefmabjjndeaa
