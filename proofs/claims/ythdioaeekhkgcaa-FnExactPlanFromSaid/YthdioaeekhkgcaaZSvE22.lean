/-
  The contract of l7Of that says whose the picks are.
-/
import Derived.Test.YthdioaeekhkgcaaZSvE21
namespace Go.Proofs.Ythdioaeekhkgcaa
set_option linter.unusedVariables false
set_option linter.unusedSimpArgs false
open Go.RowKit
theorem rd_ownB {O : Nat → Prop} {T : TypeId} {lo hi : Nat} {w : World} {v : Value} {us : List Value} (d : Value) (h : OwnV T lo hi w v us) (hO : ∀ b, blk v = some b → lo ≤ b → ¬ O b) {c : C} {V : View} (hv : c.view = some V) (hl : V.len = us.length) (hwd : V.wd = 1) (hn : c.isNN = false)
    (hr : ∀ i, i < us.length → Rd O w (V.at' i 0) (us.getD i d)) : Rd O w c v := by
  have hlt := h.lt
  obtain ⟨sa, cp, rfl, hc⟩ := h.form d
  rw [← hl] at hc hr hlt hO ⊢
  refine .sl (vs := fun i _ => us.getD i d) hv (fun e => by rw [hn] at e; cases e) hc.cap hc.max hc.nil (fun ad e hpos => ?_) (fun ad e i hi j hj => ?_) (fun i hi j hj => ?_)
  · obtain ⟨b, o, e', hb, _⟩ := hc.get hpos
    rw [e] at e'; injection e' with e'; subst e'
    subst e
    exact ⟨rfl, hO _ rfl (hlt b rfl).1, hb⟩
  · have : j = 0 := by omega
    subst this
    rw [hwd, Nat.mul_one, Nat.add_zero]
    exact hc.cell ad e i hi
  · have : j = 0 := by omega
    subst this
    exact hr i hi
theorem rd_ownBI {O : Nat → Prop} {lo hi : Nat} {w : World} {v : Value} {xs : List Int} (h : OwnI lo hi w v xs) (hO : ∀ b, blk v = some b → lo ≤ b → ¬ O b) : Rd O w (.I xs) v :=
  rd_ownB (.int .i64 0) h hO rfl (by simp) rfl rfl fun i hi => by rw [getD_ints]; exact .int _ _
theorem ofOwn (g : Pa) (hg : PaOk g) : OfOwn g := by
  have hn1 : 0 < (gmOf g).pick.length := by
    show 0 < (tab g.prio.length _).length
    rw [tab_len]
    have := hg.ar.pos; have := hg.len; omega
  unfold OfOwn FunSpec
  refine ⟨⟨_, Try.func77, rfl, rfl⟩, fun φ0 hp0 w vs hX H hl hv => ?_⟩
  obtain ⟨v, rfl, ha⟩ := avs1 (AVs.of hl hv)
  refine (l7Of_s v g w (is_P ha) hg).mono fun e w' ⟨vo, vp, vn, vq, vk, us, he, hv', h1, h2, h3, h4, h5, h6, hbw⟩ => ⟨_, he, ?_⟩
  intro ν hl hn hf
  match ν, hl with
  | [ν], _ =>
    have hν : hp0 ν = none := hf ν (by simp)
    rcases h5 with ⟨_, e5⟩ | ⟨b, cap, cur, e1, e2, e3, e4, e5, e6, e7, e8⟩
    · have := congrArg List.length e5
      simp at this
      simp [this] at hn1
    rw [List.length_map] at e1 e5 e8
    have hbk : blk vk = some b := by rw [e1]; rfl
    obtain ⟨p1, p2⟩ := H.put hν (fz := []) (fun x hx => by cases hx) (loc := .at b 0 (gmOf g).pick.length cap 1) (e := .arr 2 .yes (.I (gmOf g).pick)) hbw hbw.size (fun g' hg' => .inl (by injection hg' with hg'; omega)) (fun b' hb' _ => hbw.block b' hb') (fun _ => by
      refine ⟨_, rfl, rfl, .inr ⟨b, 0, cap, cur, rfl, e4, e5, by unfold maxLen at e6; omega, (by show 0 + cap * 1 ≤ _; omega), fun _ => ⟨rfl, (by show cap * 1 = _; omega)⟩, fun i hi j hj => ?_⟩⟩
      have hj0 : j = 0 := by have : j < 1 := hj; omega
      subst hj0
      have hi' : i < (gmOf g).pick.length := hi
      have hc : cur[i]? = some (.int .i64 (gi (gmOf g).pick i)) := by
        have h8 := congrArg (fun l => l[i]?) e8
        simp only [List.getElem?_take, List.getElem?_map, hi', if_true, Array.getElem?_toList] at h8
        rw [h8, gi, List.getD_eq_getElem?_getD, List.getElem?_eq_getElem hi']
        rfl
      exact ⟨_, by rw [show 0 + (i * 1 + 0) = i by omega]; exact hc, .int _ _⟩)
    refine ⟨_, p1, p2, ?_⟩
    have ha' := ha.evo p2
    subst hv'
    obtain ⟨xs, ex, hx⟩ := avs_agg ha'
    have e3 : xs = [vo, vn, vp] := by simpa using (congrArg Array.toList (Value.agg.inj ex)).symm
    subst e3
    have own : ∀ b', w.heap.size ≤ b' → b' ≠ b → ¬ Own (upd φ0 ν (.at b 0 (gmOf g).pick.length cap 1)) (upd (hpUp hp0 (deads [])) ν (some (.arr 2 .yes (.I (gmOf g).pick)))) b' := fun b' hb' hne ⟨x, hlx, hbx⟩ => by
      by_cases ex : x = ν
      · subst ex
        rw [upd_same] at hbx
        injection hbx with hbx
        exact hne hbx.symm
      · rw [upd_ne ex] at hbx
        obtain ⟨e', he', hk'⟩ := hlx
        rw [upd_ne ex] at he'
        have := H.own_lt ⟨x, ⟨e', he', hk'⟩, hbx⟩
        omega
    match hx with
    | .cons a1 (.cons a2 (.cons a3 .nil)) =>
      refine agg_avs (vs := [vo, vp, vn, vq, vk]) (.cons a1 (.cons a3 (.cons a2 (.cons (.c ?_) (.cons ?_ .nil)))))
      · refine rd_ownB (.slice none 0 0) h4.2.1 (fun b' hb' hlo => own b' hlo fun e => ?_) rfl h4.1.symm rfl rfl fun i hi => rd_ownBI (h4.2.2.1 i (by rw [← h4.1]; exact hi)) fun b' hb' hlo => own b' hlo fun e => ?_
        · subst e
          rcases h4.2.1 with ⟨q1, _⟩ | ⟨b2, cap2, cur2, q1, q2, q3, q4, _⟩
          · rw [q1] at hb'; cases hb'
          · rw [q1] at hb'
            have hbb : b2 = b' := by injection hb'
            subst hbb
            rw [q4] at e4
            injection e4 with e4
            injection e4 with _ e4
            exact absurd e4 (by decide)
        · subst e
          refine h6 b' hbk (List.mem_filterMap.2 ⟨_, ?_, hb'⟩)
          rw [List.getD_eq_getElem?_getD, List.getElem?_eq_getElem hi]
          exact List.getElem_mem hi
      · rw [e1]
        refine (congrArg (AVC _ _ w' (.sl ν)) ?_).mp (AVC.sl (ν := ν) (e := .arr 2 .yes (.I (gmOf g).pick)) (upd_same _ _ _) rfl)
        rw [upd_same]; rfl
end Go.Proofs.Ythdioaeekhkgcaa
