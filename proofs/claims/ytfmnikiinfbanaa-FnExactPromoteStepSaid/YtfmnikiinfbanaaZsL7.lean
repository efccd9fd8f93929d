/-
  The contracts of the functions that are told of a stage, as the laws' walks want them.
-/
import Derived.Test.YtfmnikiinfbanaaZsQC
import Derived.Test.YtfmnikiinfbanaaZsL6
import Derived.Test.YtfmnikiinfbanaaZsStage
namespace Go.Proofs.Ytfmnikiinfbanaa
set_option linter.unusedVariables false
set_option linter.unusedSimpArgs false
open Go.RowKit
theorem av_S {w : World} {v : Value} {s : St} (h : IsS w v s) : AVC φ00 h00 w (stA s) v := by
  obtain ⟨x, y, rfl, h1, h2⟩ := h
  exact agg_avs (vs := [x, y, .int .i64 s.at_]) (.cons (av_I h1) (.cons (av_I h2) (.cons (av_n _ _) .nil)))
def RetSn (w : World) (x : St) (m : Int) (e : Ending) (w' : World) : Prop := ∃ s0 n0 c0 s1 n1 c1 v2, e = .returned (.tuple #[.agg #[.slice s0 n0 c0, .slice s1 n1 c1, .int .i64 v2], .int .i64 m]) ∧ OwnS w.heap.size w'.heap.size w' (.agg #[.slice s0 n0 c0, .slice s1 n1 c1, .int .i64 v2]) x ∧ Below w.heap.size w w'
theorem avs_tupS {φ : Nat → Loc} {hp : Hp} {w : World} {a b : AV} {v : Value} (h : AVC φ hp w (.tup [a, b]) v) : ∃ x y, v = .tuple #[x, y] ∧ AVC φ hp w a x ∧ AVC φ hp w b y := by
  obtain ⟨vs, e, hl, hv⟩ := avc_tup h
  match vs, hl with
  | [x, y], _ => exact ⟨x, y, e, hv 0 (show 0 < 2 by decide), hv 1 (show 1 < 2 by decide)⟩
theorem blk_valS (l : Loc) : blk l.val = l.blk := by cases l <;> rfl
theorem avc_intS {φ : Nat → Loc} {hp : Hp} {w : World} {k : IntKind} {n : Int} {v : Value} (h : AVC φ hp w (.c (.int k n)) v) : v = .int k n := by
  cases h with
  | c h => cases h with
    | int => rfl
    | sl hv => simp [C.view] at hv
theorem two_S {x : St} {nn : Fl} {w w' : World} {φ' : Nat → Loc} {v : Value} {hp0 : Hp} (hh : nn.hd = true) (H : HC φ' (hpNew hp0 [0, 1] [.arr 2 .yes (.I x.won), .arr 2 nn (.I x.region)]) w.heap.size w w') (l0 : hpNew hp0 [0, 1] [Ent.arr 2 .yes (.I x.won), .arr 2 nn (.I x.region)] 0 = some (.arr 2 .yes (.I x.won))) (l1 : hpNew hp0 [0, 1] [Ent.arr 2 .yes (.I x.won), .arr 2 nn (.I x.region)] 1 = some (.arr 2 nn (.I x.region)))
    (ha : AVC φ' (hpNew hp0 [0, 1] [.arr 2 .yes (.I x.won), .arr 2 nn (.I x.region)]) w' (.agg [.sl 0, .sl 1, .c (.int .i64 x.at_)]) v) : ∃ s0 n0 c0 s1 n1 c1 v2, v = .agg #[.slice s0 n0 c0, .slice s1 n1 c1, .int .i64 v2] ∧ OwnS w.heap.size w'.heap.size w' (.agg #[.slice s0 n0 c0, .slice s1 n1 c1, .int .i64 v2]) x ∧ Below w.heap.size w w' := by
  have o0 := own_entJ (H.ent 0 _ l0) rfl fun b hb => H.lo 0 b ⟨_, l0, (by show 1 < 2;decide)⟩ hb
  have o1 := own_entJ (H.ent 1 _ l1) hh fun b hb => H.lo 1 b ⟨_, l1, (by show 1 < 2;decide)⟩ hb
  obtain ⟨xs, ex, hx⟩ := avs_agg ha
  match xs, hx with
  | [va, vb, vc], .cons a1 (.cons a2 (.cons a3 .nil)) =>
    have e1 : va = (φ' 0).val := slc_val a1 l0
    have e2 : vb = (φ' 1).val := slc_val a2 l1
    have e3 := avc_intS a3
    have hs : ∀ g, blk (φ' 0).val = some g → blk (φ' 1).val ≠ some g := fun g hg => by
      rw [blk_valS] at hg ⊢
      exact H.sep 0 1 g (by decide) ⟨_, l0, (by show 1 ≠ 2;decide)⟩ ⟨_, l1, (by show 1 ≠ 2;decide)⟩ hg
    obtain ⟨s0, n0, c0, q0⟩ := locv_form (φ' 0)
    obtain ⟨s1, n1, c1, q1⟩ := locv_form (φ' 1)
    rw [q0] at o0 e1 hs
    rw [q1] at o1 e2 hs
    subst e1;subst e2;subst e3
    exact ⟨s0, n0, c0, s1, n1, c1, x.at_, ex, ⟨_, _, rfl, o0, o1, hs⟩, H.fr⟩
theorem calls_Sn {P : Program} {f : FuncId} {args : List AV} {x : St} {m : Int} {nn : Fl} {w : World} {vs : List Value} (hF : FunSpec P f args [.arr 2 .yes (.I x.won), .arr 2 nn (.I x.region)] (fun ns => .tup [.agg [.sl (ns.getD 0 0), .sl (ns.getD 1 0), .c (.int .i64 x.at_)], .c (.int .i64 m)])) (hh : nn.hd = true) (hv : AVs φ00 h00 w args vs) : Calls P f vs.toArray w (RetSn w x m) := by
  refine (hF.2 φ00 h00 w vs (fun _ _ h => by cases h) (hc00 w) hv.at.1 hv.at.2).mono fun e w' ⟨v, he, ho⟩ => ?_
  obtain ⟨φ', H, _, ha⟩ := ho [0, 1] rfl (by decide) (fun _ _ => rfl)
  obtain ⟨v1, v2, rfl, a1, a2⟩ := avs_tupS ha
  have e2 := avc_intS a2
  subst e2
  obtain ⟨s0, n0, c0, s1, n1, c1, u2, e', h1, h2⟩ := two_S hh H rfl rfl a1
  exact ⟨s0, n0, c0, s1, n1, c1, u2, by rw [he, e'], h1, h2⟩
theorem calls_Sn0 {P : Program} {f : FuncId} {args : List AV} {w : World} {vs : List Value} {m : Int} (hF : FunSpec P f args [] (fun _ => .tup [.agg [.c .nul, .c .nul, .c (.int .i64 0)], .c (.int .i64 m)])) (hv : AVs φ00 h00 w args vs) : Calls P f vs.toArray w (RetSn w ⟨[], [], 0⟩ m) := by
  refine (hF.2 φ00 h00 w vs (fun _ _ h => by cases h) (hc00 w) hv.at.1 hv.at.2).mono fun e w' ⟨v, he, ho⟩ => ?_
  obtain ⟨φ', H, _, ha⟩ := ho [] rfl List.nodup_nil (fun _ h => by cases h)
  obtain ⟨v1, v2, rfl, a1, a2⟩ := avs_tupS ha
  have e2 := avc_intS a2
  subst e2
  obtain ⟨xs, ex, hx⟩ := avs_agg a1
  match xs, hx with
  | [va, vb, vc], .cons b1 (.cons b2 (.cons b3 .nil)) =>
    have e1 := avc_nul b1
    have e2 := avc_nul b2
    have e3 := avc_intS b3
    subst e1;subst e2;subst e3
    exact ⟨none, 0, 0, none, 0, 0, 0, by rw [he, ex], ⟨_, _, rfl, ownV_nil _ _ _ _, ownV_nil _ _ _ _, fun g h => by cases h⟩, H.fr⟩
open Classical in
noncomputable def stpS (g : Pa) (s : St) : St := if OnS g s then (stepS g s).1 else ⟨[], [], 0⟩
open Classical in
noncomputable def stpK (g : Pa) (s : St) : Int := if OnS g s then (stepS g s).2 else 0
theorem stpS_sz (g : Pa) (s : St) : szS (stpS g s) ≤ 1048576 := by
  unfold stpS
  split
  · rename_i h
    have h1 := step_ok h.1.1 (h.2.1.ok h.1) h.2.2
    have h2 := h.1.2
    unfold szS
    rw [h1.lw, h1.lr]
    omega
  · exact Nat.zero_le _
theorem promoteStep_i (v u : Value) (g : Pa) (s : St) (w : World) (hP : IsP w v g) (hS : IsS w u s) : Calls Try.prog 39 #[v, u] w (RetSn w (stpS g s) (stpK g s)) := by
  by_cases h : OnS g s
  · rw [stpS, if_pos h, stpK, if_pos h];exact calls_Sn (vs := [v, u]) (promoteP_if g s h) rfl (.cons (av_P hP) (.cons (av_S hS) .nil))
  · rw [stpS, if_neg h, stpK, if_neg h];exact calls_Sn0 (vs := [v, u]) (promoteP_ino g s h) (.cons (av_P hP) (.cons (av_S hS) .nil))
theorem promoteStep_s (v u : Value) (g : Pa) (s : St) (w : World) (hP : IsP w v g) (hS : IsS w u s) : Calls Try.prog 38 #[v, u] w (RetSn w (stpS g s) (stpK g s)) := by
  by_cases h : OnS g s
  · rw [stpS, if_pos h, stpK, if_pos h];exact calls_Sn (vs := [v, u]) (promoteP_sf g s h) rfl (.cons (av_P hP) (.cons (av_S hS) .nil))
  · rw [stpS, if_neg h, stpK, if_neg h];exact calls_Sn0 (vs := [v, u]) (promoteP_sno g s h) (.cons (av_P hP) (.cons (av_S hS) .nil))
end Go.Proofs.Ytfmnikiinfbanaa
