/-
  A contract in the old words whose function hands back a new list, as a contract in the new ones.
-/
import Derived.Test.YtfkiloibifigfaaZLsCb
import Derived.Test.YtfkiloibifigfaaZLsFc
namespace Go.Proofs.Ytfkiloibifigfaa
set_option linter.unusedVariables false
set_option linter.unusedSimpArgs false
open Go.RowKit
theorem spec_ofI {P : Program} {f : FuncId} {args : List AV} {fn : Func} (hf : P.funcs[f]? = some fn) (hb : fn.body.isNone = false) (hname : (fn.name == "runtime.NumGoroutine") = false) {xs : List Int}
    (h : ∀ φ hp w (vs : List Value), AVs φ hp w args vs → Calls P f vs.toArray w (RetI' w xs)) : FunSpec P f args [.arr 2 .may (.I xs)] (fun ns => .sl (ns.getD 0 0)) := by
  unfold FunSpec
  refine ⟨⟨fn, hf, hb, hname⟩, fun φ0 hp0 w vs hX H hl hv => (h φ0 hp0 w vs (.of hl hv)).mono fun e w' ⟨s, n, c, he, ho, hbw⟩ => ⟨_, he, ?_⟩⟩
  intro ν hl hn hf
  match ν, hl with
  | [ν], _ =>
    have hν : hp0 ν = none := hf ν (by simp)
    rcases ho with ⟨e1, e2⟩ | ⟨b, cap, cur, e1, e2, e3, e4, e5, e6, e7, e8⟩
    · have hz : xs.length = 0 := by have := congrArg List.length e2; simpa using this
      obtain ⟨p1, p2⟩ := H.put hν (fz := []) (fun x hx => by cases hx) (loc := .nil) (e := .arr 2 .may (.I xs)) hbw hbw.size (fun g' hg' => by cases hg') (fun b' hb' _ => hbw.block b' hb') (fun _ => ⟨_, rfl, rfl, .inl ⟨rfl, hz, rfl⟩⟩)
      refine ⟨_, p1, p2, ?_⟩
      rw [e1]
      refine (congrArg (AVC _ _ w' (.sl ν)) ?_).mp (AVC.sl (ν := ν) (e := .arr 2 .may (.I xs)) (upd_same _ _ _) rfl)
      rw [upd_same]; rfl
    · rw [List.length_map] at e1 e5 e8
      obtain ⟨p1, p2⟩ := H.put hν (fz := []) (fun x hx => by cases hx) (loc := .at b 0 xs.length cap 1) (e := .arr 2 .may (.I xs)) hbw hbw.size (fun g' hg' => .inl (by injection hg' with hg'; omega)) (fun b' hb' _ => hbw.block b' hb') (fun _ => by
        refine ⟨_, rfl, rfl, .inr ⟨b, 0, cap, cur, rfl, e4, e5, by unfold maxLen at e6; omega, (by show 0 + cap * 1 ≤ _; omega), fun _ => ⟨rfl, (by show cap * 1 = _; omega)⟩, fun i hi j hj => ?_⟩⟩
        have hj0 : j = 0 := by have : j < 1 := hj; omega
        subst hj0
        have hi' : i < xs.length := hi
        have hc : cur[i]? = some (.int .i64 (gi xs i)) := by
          have h8 := congrArg (fun l => l[i]?) e8
          simp only [List.getElem?_take, List.getElem?_map, hi', if_true, Array.getElem?_toList] at h8
          rw [h8, gi, List.getD_eq_getElem?_getD, List.getElem?_eq_getElem hi']
          rfl
        exact ⟨_, by rw [show 0 + (i * 1 + 0) = i by omega]; exact hc, .int _ _⟩)
      refine ⟨_, p1, p2, ?_⟩
      rw [e1]
      refine (congrArg (AVC _ _ w' (.sl ν)) ?_).mp (AVC.sl (ν := ν) (e := .arr 2 .may (.I xs)) (upd_same _ _ _) rfl)
      rw [upd_same]; rfl
end Go.Proofs.Ytfkiloibifigfaa
