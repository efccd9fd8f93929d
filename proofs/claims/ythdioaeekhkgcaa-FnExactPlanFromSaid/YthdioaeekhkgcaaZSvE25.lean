/-
  Answers that come back, in the old words.
-/
import Derived.Test.YthdioaeekhkgcaaZSvE24
import Derived.Test.YthdioaeekhkgcaaZSvAnswer
namespace Go.Proofs.Ythdioaeekhkgcaa
set_option linter.unusedVariables false
set_option linter.unusedSimpArgs false
open Go.RowKit
theorem own_entI {φ : Nat → Loc} {hp : Hp} {w : World} {loc : Loc} {xs : List Int} (h : EntC φ hp w loc (.arr 2 .yes (.I xs))) {lo : Nat} (hlo : ∀ b, loc.blk = some b → lo ≤ b) : OwnI lo w.heap.size w loc.val xs :=
  own_ent h rfl rfl rfl hlo (by simp) fun i v hi hr => by
    have hi' : i < xs.length := hi
    cases hr with
    | sl hv' => simp [C.view] at hv'
    | int => simp [gi, List.getD_eq_getElem?_getD, List.getElem?_eq_getElem hi']
theorem sl_val {φ : Nat → Loc} {hp : Hp} {w : World} {ν : Nat} {v : Value} {T : TypeId} {nn : Fl} {c : C} (h : AVC φ hp w (.sl ν) v) (he : hp ν = some (.arr T nn c)) : v = (φ ν).val := by
  cases h with
  | sl h hk => rfl
  | sld h hk v hv => rw [he] at h; injection h with h; subst h; simp [Ent.kind] at hk
theorem loc_form (l : Loc) : ∃ s n c, l.val = .slice s n c := by cases l <;> exact ⟨_, _, _, rfl⟩
theorem blk_val (l : Loc) : blk l.val = l.blk := by cases l <;> rfl
theorem avs_tup' {φ : Nat → Loc} {hp : Hp} {w : World} {a b : AV} {v : Value} (h : AVC φ hp w (.tup [a, b]) v) : ∃ x y, v = .tuple #[x, y] ∧ AVC φ hp w a x ∧ AVC φ hp w b y := by
  obtain ⟨vs, e, hl, hv⟩ := avc_tup h
  match vs, hl with
  | [x, y], _ => exact ⟨x, y, e, hv 0 (show 0 < 2 by decide), hv 1 (show 1 < 2 by decide)⟩
theorem two_N {x : An} {w w' : World} {ns : List Nat} {φ' : Nat → Loc} {v : Value} {hp0 : Hp} (H : HC φ' (hpNew hp0 [0, 1] [.arr 2 .yes (.I x.won), .arr 2 .yes (.I x.plan)]) w.heap.size w w') (l0 : hpNew hp0 [0, 1] [Ent.arr 2 .yes (.I x.won), .arr 2 .yes (.I x.plan)] 0 = some (.arr 2 .yes (.I x.won))) (l1 : hpNew hp0 [0, 1] [Ent.arr 2 .yes (.I x.won), .arr 2 .yes (.I x.plan)] 1 = some (.arr 2 .yes (.I x.plan)))
    (ha : AVC φ' (hpNew hp0 [0, 1] [.arr 2 .yes (.I x.won), .arr 2 .yes (.I x.plan)]) w' (.agg [.sl 0, .sl 1]) v) : ∃ s0 n0 c0 s1 n1 c1, v = .agg #[.slice s0 n0 c0, .slice s1 n1 c1] ∧ OwnN w.heap.size w'.heap.size w' (.agg #[.slice s0 n0 c0, .slice s1 n1 c1]) x ∧ Below w.heap.size w w' := by
  have o0 := own_entI (H.ent 0 _ l0) fun b hb => H.lo 0 b ⟨_, l0, (by show 1 < 2; decide)⟩ hb
  have o1 := own_entI (H.ent 1 _ l1) fun b hb => H.lo 1 b ⟨_, l1, (by show 1 < 2; decide)⟩ hb
  obtain ⟨xs, ex, hx⟩ := avs_agg ha
  match xs, hx with
  | [va, vb], .cons a1 (.cons a2 .nil) =>
    have e1 : va = (φ' 0).val := sl_val a1 l0
    have e2 : vb = (φ' 1).val := sl_val a2 l1
    have hs : ∀ g, blk (φ' 0).val = some g → blk (φ' 1).val ≠ some g := fun g hg => by
      rw [blk_val] at hg ⊢
      exact H.sep 0 1 g (by decide) ⟨_, l0, (by show 1 ≠ 2; decide)⟩ ⟨_, l1, (by show 1 ≠ 2; decide)⟩ hg
    obtain ⟨s0, n0, c0, q0⟩ := loc_form (φ' 0)
    obtain ⟨s1, n1, c1, q1⟩ := loc_form (φ' 1)
    rw [q0] at o0 e1 hs
    rw [q1] at o1 e2 hs
    subst e1; subst e2
    exact ⟨s0, n0, c0, s1, n1, c1, ex, ⟨_, _, rfl, o0, o1, hs⟩, H.fr⟩
theorem nul_N {w w' : World} {φ' : Nat → Loc} {hp : Hp} {v : Value} (ha : AVC φ' hp w' (.agg [.c .nul, .c .nul]) v) (hb : Below w.heap.size w w') : ∃ s0 n0 c0 s1 n1 c1, v = .agg #[.slice s0 n0 c0, .slice s1 n1 c1] ∧ OwnN w.heap.size w'.heap.size w' (.agg #[.slice s0 n0 c0, .slice s1 n1 c1]) ⟨[], []⟩ ∧ Below w.heap.size w w' := by
  obtain ⟨xs, ex, hx⟩ := avs_agg ha
  match xs, hx with
  | [va, vb], .cons a1 (.cons a2 .nil) =>
    have e1 := avc_nul a1
    have e2 := avc_nul a2
    subst e1; subst e2
    exact ⟨none, 0, 0, none, 0, 0, ex, ⟨_, _, rfl, ownV_nil _ _ _ _, ownV_nil _ _ _ _, fun g h => by cases h⟩, hb⟩
def RetNB (w : World) (x : An) (b : Bool) (e : Ending) (w' : World) : Prop := ∃ s0 n0 c0 s1 n1 c1, e = .returned (.tuple #[.agg #[.slice s0 n0 c0, .slice s1 n1 c1], .bool b]) ∧ OwnN w.heap.size w'.heap.size w' (.agg #[.slice s0 n0 c0, .slice s1 n1 c1]) x ∧ Below w.heap.size w w'
theorem calls_N {P : Program} {f : FuncId} {args : List AV} {x : An} {w : World} {vs : List Value} (hF : FunSpec P f args [.arr 2 .yes (.I x.won), .arr 2 .yes (.I x.plan)] (fun ns => .agg [.sl (ns.getD 0 0), .sl (ns.getD 1 0)])) (hv : AVs φ00 h00 w args vs) : Calls P f vs.toArray w (RetN w x) := by
  refine (hF.2 φ00 h00 w vs (fun _ _ h => by cases h) (hc00 w) hv.at.1 hv.at.2).mono fun e w' ⟨v, he, ho⟩ => ?_
  obtain ⟨φ', H, _, ha⟩ := ho [0, 1] rfl (by decide) (fun _ _ => rfl)
  obtain ⟨s0, n0, c0, s1, n1, c1, e', h1, h2⟩ := two_N (ns := []) H rfl rfl ha
  exact ⟨s0, n0, c0, s1, n1, c1, by rw [he, e'], h1, h2⟩
theorem calls_NB {P : Program} {f : FuncId} {args : List AV} {x : An} {b : Bool} {w : World} {vs : List Value} (hF : FunSpec P f args [.arr 2 .yes (.I x.won), .arr 2 .yes (.I x.plan)] (fun ns => .tup [.agg [.sl (ns.getD 0 0), .sl (ns.getD 1 0)], .c (.bool b)])) (hv : AVs φ00 h00 w args vs) : Calls P f vs.toArray w (RetNB w x b) := by
  refine (hF.2 φ00 h00 w vs (fun _ _ h => by cases h) (hc00 w) hv.at.1 hv.at.2).mono fun e w' ⟨v, he, ho⟩ => ?_
  obtain ⟨φ', H, _, ha⟩ := ho [0, 1] rfl (by decide) (fun _ _ => rfl)
  obtain ⟨v1, v2, rfl, a1, a2⟩ := avs_tup' ha
  have e2 := avc_bool a2
  subst e2
  obtain ⟨s0, n0, c0, s1, n1, c1, e', h1, h2⟩ := two_N (ns := []) H rfl rfl a1
  exact ⟨s0, n0, c0, s1, n1, c1, by rw [he, e'], h1, h2⟩
theorem calls_N0 {P : Program} {f : FuncId} {args : List AV} {w : World} {vs : List Value} (hF : FunSpec P f args [] (fun _ => noA)) (hv : AVs φ00 h00 w args vs) : Calls P f vs.toArray w (RetN w ⟨[], []⟩) := by
  refine (hF.2 φ00 h00 w vs (fun _ _ h => by cases h) (hc00 w) hv.at.1 hv.at.2).mono fun e w' ⟨v, he, ho⟩ => ?_
  obtain ⟨φ', H, _, ha⟩ := ho [] rfl List.nodup_nil (fun _ h => by cases h)
  obtain ⟨s0, n0, c0, s1, n1, c1, e', h1, h2⟩ := nul_N ha H.fr
  exact ⟨s0, n0, c0, s1, n1, c1, by rw [he, e'], h1, h2⟩
theorem calls_NB0 {P : Program} {f : FuncId} {args : List AV} {w : World} {vs : List Value} {b : Bool} (hF : FunSpec P f args [] (fun _ => .tup [noA, .c (.bool b)])) (hv : AVs φ00 h00 w args vs) : Calls P f vs.toArray w (RetNB w ⟨[], []⟩ b) := by
  refine (hF.2 φ00 h00 w vs (fun _ _ h => by cases h) (hc00 w) hv.at.1 hv.at.2).mono fun e w' ⟨v, he, ho⟩ => ?_
  obtain ⟨φ', H, _, ha⟩ := ho [] rfl List.nodup_nil (fun _ h => by cases h)
  obtain ⟨v1, v2, rfl, a1, a2⟩ := avs_tup' ha
  have e2 := avc_bool a2
  subst e2
  obtain ⟨s0, n0, c0, s1, n1, c1, e', h1, h2⟩ := nul_N a1 H.fr
  exact ⟨s0, n0, c0, s1, n1, c1, by rw [he, e'], h1, h2⟩
end Go.Proofs.Ythdioaeekhkgcaa
