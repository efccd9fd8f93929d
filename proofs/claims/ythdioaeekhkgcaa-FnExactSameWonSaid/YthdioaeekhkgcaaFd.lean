/-
  Stops of a walk, a state made weaker, results of any shape.
-/
import Derived.Test.YthdioaeekhkgcaaFc
namespace Go.Proofs.Ythdioaeekhkgcaa
set_option linter.unusedVariables false
set_option linter.unusedSimpArgs false
open Go.RowKit

/-- A mark at which a walk stops. -/
def Stop (p : Prop) : Prop := p
section
variable {P : Program} {ti : TI} {N : Nat} {hp0 : Hp} {ν : Nat → Nat} {S : List Fr} {Q : Post}
theorem k_stop (id : Nat) {l : Array Oper} {d : Bool} {tm : Nat → AV} {hp : Hp} (h : Stop (Aw P N hp0 (.region id l d) (Nx P N hp0 S Q) tm hp)) : Aw P N hp0 (.region id l d) (Nx P N hp0 S Q) tm hp := h
theorem k_le {c : Code} {tm tm' : Nat → AV} {hp hp' : Hp} {R : Post} (hl : Le hp0 tm hp tm' hp') (h : Aw P N hp0 c R tm' hp') : Stop (Aw P N hp0 c R tm hp) := fun lo w0 φ0 a w hC => h lo w0 φ0 a w (hl lo w0 φ0 N a w hC)
variable {L : List Ent} {ns νs : List Nat}
abbrev SV (hp0 : Hp) (ν : Nat → Nat) (L : List Ent) (ns νs : List Nat) : AV → AV → Prop := SubV (hpL hp0 ν L) ns νs
inductive SVs (hp0 : Hp) (ν : Nat → Nat) (L : List Ent) (ns νs : List Nat) : List AV → List AV → Prop where
  | nil : SVs hp0 ν L ns νs [] []
  | cons {a b : AV} {l m : List AV} (h : SV hp0 ν L ns νs a b) (t : SVs hp0 ν L ns νs l m) : SVs hp0 ν L ns νs (a :: l) (b :: m)
theorem SVs.at {l m : List AV} (h : SVs hp0 ν L ns νs l m) : m.length = l.length ∧ ∀ i, i < l.length → SV hp0 ν L ns νs (l.getD i .any) (m.getD i .any) := by
  induction h with
  | nil => exact ⟨rfl, fun i h => by simp at h⟩
  | cons h t ih =>
    refine ⟨by simp [ih.1], fun i hi => ?_⟩
    cases i with
    | zero => exact h
    | succ i => exact ih.2 i (by simpa using hi)
theorem sv_c (c : C) : SV hp0 ν L ns νs (.c c) (.c c) := .rd (.refl c)
theorem sv_eq {c c' : C} (h : c = c') : SV hp0 ν L ns νs (.c c) (.c c') := by subst h; exact .rd (.refl c)
theorem sv_unn (c : C) : SV hp0 ν L ns νs (.c (.nn c)) (.c c) := .rd (.unn c)
theorem sv_nul {c : C} {V : View} (hv : c.view = some V) (h0 : V.len = 0) (hn : c.isNN = false) : SV hp0 ν L ns νs (.c .nul) (.c c) := .rd (.nul hv h0 hn)
theorem sv_fz (hN : Nm hp0 ν) {i : Nat} {T : TypeId} {nn : Fl} {c c' : C} (h : L[i]? = some (.arr T nn c)) (h' : ¬ ν i ∈ ns) (hc : c = c') : SV hp0 ν L ns νs (.sl (ν i)) (.c c') := by
  subst hc
  refine .fz (by rw [hpL_get hN]; exact h) h' ?_
  split
  · exact .unn c
  · exact .refl c
theorem sv_sl {x y : Nat} (i : Nat) (hi : i < ns.length) (hx : x = ns.getD i 0) (hy : y = νs.getD i 0) : SV hp0 ν L ns νs (.sl x) (.sl y) := by subst hx; subst hy; exact .sl i hi
theorem sv_agg {l m : List AV} (h : SVs hp0 ν L ns νs l m) : SV hp0 ν L ns νs (.agg l) (.agg m) := .agg h.at.1 h.at.2
theorem sv_tup {l m : List AV} (h : SVs hp0 ν L ns νs l m) : SV hp0 ν L ns νs (.tup l) (.tup m) := .tup h.at.1 h.at.2
/-- The names that go out. -/
inductive Gone (ν : Nat → Nat) (L : List Ent) : List Nat → List Ent → Prop where
  | nil : Gone ν L [] []
  | cons {i : Nat} {T : TypeId} {nn nn' : Fl} {c c' : C} {ns : List Nat} {nw : List Ent} (h : L[i]? = some (.arr T nn c)) (hn : ((!nn'.nn || nn.nn) && (!nn'.hd || nn.hd)) = true) (hc : c = c') (t : Gone ν L ns nw) : Gone ν L (i :: ns) (.arr T nn' c' :: nw)
theorem Gone.at (hN : Nm hp0 ν) {is : List Nat} {nw : List Ent} (h : Gone ν L is nw) : is.length = nw.length ∧ ∀ i, i < (is.map ν).length → ∃ T nn nn' c, hpL hp0 ν L ((is.map ν).getD i 0) = some (.arr T nn c) ∧ nw.getD i .dead = .arr T nn' c ∧ ((nn'.nn = true → nn.nn = true) ∧ (nn'.hd = true → nn.hd = true)) := by
  induction h with
  | nil => exact ⟨rfl, fun i hi => by simp at hi⟩
  | cons h hn hc t ih =>
    subst hc
    refine ⟨by simp [ih.1], fun i hi => ?_⟩
    cases i with
    | zero => exact ⟨_, _, _, _, by rw [List.map_cons, List.getD_cons_zero, hpL_get hN]; exact h, rfl, fl_le hn⟩
    | succ i => exact ih.2 i (by simpa using hi)
theorem nodup_of (hN : Nm hp0 ν) {is : List Nat} (h : is.Nodup) : (is.map ν).Nodup := by
  induction is with
  | nil => exact List.nodup_nil
  | cons i is ih =>
    obtain ⟨h1, h2⟩ := List.nodup_cons.1 h
    rw [List.map_cons, List.nodup_cons]
    refine ⟨fun hm => ?_, ih h2⟩
    obtain ⟨j, k1, k2⟩ := List.mem_map.1 hm
    have := hN.inj _ _ k2
    subst this; exact h1 k1
/-- Any result: the blocks `is` go out as owned, what else is named goes out as data. -/
theorem ret_X {fn : Func} (hN : Nm hp0 ν) (is : List Nat) (his : is.Nodup) {tm : Nat → AV} {e : Exit} {nw : List Ent} {val : List Nat → AV} {r : AV} (he : e = .normal ∨ e = .ret) (hr : resV ti tm (hpL hp0 ν L) fn.results.toList = some r) (hg : Gone ν L is nw) (hv : ∀ νs : List Nat, νs.length = is.length → SV hp0 ν L (is.map ν) νs r (val νs)) :
    RetQ ti fn hp0 nw val e tm (hpL hp0 ν L) :=
  ret_P he hr (ret_of (is.map ν) (nodup_of hN his) (by rw [List.length_map]; exact (hg.at hN).1) (hg.at hN).2 fun νs h => hv νs (by rw [h, List.length_map]))
theorem nm_not (hN : Nm hp0 ν) {i : Nat} {is : List Nat} (h : ¬ i ∈ is) : ¬ ν i ∈ is.map ν := fun hm => by
  obtain ⟨j, h1, h2⟩ := List.mem_map.1 hm
  have := hN.inj _ _ h2
  subst this; exact h h1
end
end Go.Proofs.Ythdioaeekhkgcaa
