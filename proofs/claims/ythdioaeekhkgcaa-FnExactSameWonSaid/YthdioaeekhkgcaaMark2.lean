/-
  The exact laws' marks, 2: lists of lists, arenas, games.
-/
import Derived.Test.YthdioaeekhkgcaaMark
namespace Go.Proofs.Ythdioaeekhkgcaa
set_option linter.unusedVariables false
set_option linter.unusedSimpArgs false
open Go.RowKit
attribute [local go_sem ↓] Go.wp_at_zero Go.wp_at_succ

theorem own_ne {e e' : TypeId} {lo hi lo' hi' : Nat} {w : World} {v u : Value} {vs us : List Value} (h : OwnV e lo hi w v vs) (h' : OwnV e' lo' hi' w u us) (hne : e ≠ e') : ∀ g, blk v = some g → blk u ≠ some g := by
  intro g hg hu
  rcases h with ⟨rfl, _⟩ | ⟨g1, c1, cur1, rfl, _, _, hh, _⟩
  · simp [blk, Value.ownBlock] at hg
  rcases h' with ⟨rfl, _⟩ | ⟨g2, c2, cur2, rfl, _, _, hh2, _⟩
  · simp [blk, Value.ownBlock] at hu
  simp [blk, Value.ownBlock] at hg hu
  subst hg hu
  rw [hh] at hh2
  simp at hh2
  exact hne hh2.2
theorem nodup_ne {vs : List Value} (h : (vs.filterMap blk).Nodup) {i j : Nat} (hi : i < vs.length) (hj : j < vs.length) (hij : i ≠ j) (d : Value) : ∀ g, blk (vs.getD i d) = some g → blk (vs.getD j d) ≠ some g := by
  induction vs generalizing i j with
  | nil => simp at hi
  | cons v vs ih =>
    intro g h1 h2
    have hn : (vs.filterMap blk).Nodup := by
      rw [List.filterMap_cons] at h
      cases hb : blk v with
      | none => rw [hb] at h; exact h
      | some x => rw [hb] at h; exact (List.nodup_cons.1 h).2
    have hmem : ∀ k, k < vs.length → blk (vs.getD k d) = some g → g ∈ vs.filterMap blk := fun k hk hb => List.mem_filterMap.2 ⟨vs.getD k d, by rw [List.getD_eq_getElem?_getD, List.getElem?_eq_getElem hk]; exact List.getElem_mem hk, hb⟩
    have hv : blk v = some g → ¬ g ∈ vs.filterMap blk := fun hb => by rw [List.filterMap_cons, hb] at h; exact (List.nodup_cons.1 h).1
    cases i with
    | zero =>
      cases j with
      | zero => exact hij rfl
      | succ j => exact hv h1 (hmem j (by simpa using hj) (by simpa using h2))
    | succ i =>
      cases j with
      | zero => exact hv h2 (hmem i (by simpa using hi) (by simpa using h1))
      | succ j => exact ih hn (by simpa using hi) (by simpa using hj) (by omega) g (by simpa using h1) (by simpa using h2)

def rtab (n : Nat) (f : Nat → List Int) : List (List Int) := (List.range n).map f
theorem rtab_len (n : Nat) (f : Nat → List Int) : (rtab n f).length = n := by simp [rtab]
theorem gr_rtab {n k : Nat} (f : Nat → List Int) (h : k < n) : gr (rtab n f) k = f k := by simp [gr, rtab, List.getD, h]
theorem eq_rtab {xs : List (List Int)} {n : Nat} {f : Nat → List Int} (hl : xs.length = n) (h : ∀ k, k < n → gr xs k = f k) : xs = rtab n f :=
  ext_gr (by rw [hl, rtab_len]) fun k hk => by rw [h k (by omega), gr_rtab f (by omega)]
theorem rtab_congr {n : Nat} {f g : Nat → List Int} (h : ∀ k, k < n → f k = g k) : rtab n f = rtab n g := eq_rtab (rtab_len _ _) fun k hk => by rw [gr_rtab f hk, h k hk]
theorem rtab_self (xs : List (List Int)) : rtab xs.length (gr xs) = xs := (eq_rtab rfl fun _ _ => rfl).symm
/-- The rows' numbers from k on. -/
def mkII (xss : List (List Int)) (k : Int) : List (List Int) := rtab xss.length fun i => mkI (gr xss i).length (k + psum xss i)
def leafII (xss : List (List Int)) : Nat := psum xss xss.length
theorem psum_le_all (xss : List (List Int)) {j : Nat} (h : j ≤ xss.length) : psum xss j ≤ leafII xss := psum_mono xss h
theorem OwnR.len {lo hi : Nat} {w : World} {sa : Option Addr} {n c : Nat} {xss : List (List Int)} {vs : List Value} (h : OwnR lo hi w (.slice sa n c) xss vs) : xss.length = n := by
  obtain ⟨_, _, _, e, h1, _⟩ := h.is
  injection e with _ e2 _
  omega
theorem OwnR.row {lo hi : Nat} {w : World} {sa : Option Addr} {n c : Nat} {xss : List (List Int)} {vs : List Value} (h : OwnR lo hi w (.slice sa n c) xss vs) {j : Nat} (hj : j < n) :
    ∃ g s' n' c', sa = some ⟨g, 0, none⟩ ∧ w.cell? ⟨g, j, none⟩ = some (.slice s' n' c') ∧ vs.getD j (.slice none 0 0) = .slice s' n' c' ∧ OwnI lo hi w (.slice s' n' c') (gr xss j) ∧ n' = (gr xss j).length := by
  have hl := h.len
  obtain ⟨g, cap, e, _, _, _, h3, _⟩ := h.2.1.at (k := j) (.slice none 0 0) (by rw [h.1]; omega)
  injection e with e1 _ _
  have hr := h.2.2.1 j (by omega)
  obtain ⟨s', n', c', e', hI⟩ := hr.is
  have hc := h3 j (by rw [h.1]; omega)
  rw [e'] at hc hr
  exact ⟨g, s', n', c', e1, hc, e', hr, hI.1.symm⟩

set_option maxHeartbeats 800000 in
theorem markII_any {lo hi : Nat} {w : World} {sa : Option Addr} {n c : Nat} {xss : List (List Int)} {vs : List Value} (h : OwnR lo hi w (.slice sa n c) xss vs) (k : Int) (h0 : 0 ≤ k) (h1 : k ≤ 2305843009213693952) (hn : n ≤ 1048576) (hs : leafII xss ≤ 1048576) :
    Calls Try.prog 153 #[.slice sa n c, .int .i64 k] w fun e w' => e = .returned (.int .i64 (k + leafII xss)) ∧ OwnR lo hi w' (.slice sa n c) (mkII xss k) vs ∧ Touch (fun g => g ∈ vs.filterMap blk) w w' := by
  have hl := h.len
  have HS := Lib.hid hs
  have HL := Lib.hid hl
  have hps := fun j (hj : j ≤ n) => psum_le_all xss (j := j) (by omega)
  have HP := Lib.hid hps
  clear hps hs hl
  go_enter Try.func153, Try.ntmps153
  go_wp2
  go_loopw [1, 5] (fun q i wr => ∃ j : Nat, j ≤ n ∧ i = .int .i64 j ∧ q = .int .i64 (k + psum xss j) ∧ OwnR lo hi wr (.slice sa n c) (rtab n fun i => if i < j then mkI (gr xss i).length (k + psum xss i) else gr xss i) vs ∧ Touch (fun g => g ∈ vs.filterMap blk) w wr) (fun _ i _ => n - (intOf i).toNat)
  case atStart =>
    refine ⟨0, by omega, rfl, by simp [psum], ?_, Touch.refl _ _⟩
    rw [rtab_congr (g := gr xss) (fun j hj => if_neg (by omega)), ← HL.out, rtab_self]
    rw [← HL.out] at h
    exact h
  case round =>
    obtain ⟨j, hj, rfl, rfl, ho, hO⟩ := hrel
    by_cases hlt : j < n
    · obtain ⟨g, s', n', c', rfl, hc, ev, hr, en⟩ := ho.row hlt
      rw [gr_rtab _ hlt, if_neg (by omega)] at hr en
      have hp := HP.out j hj
      have hs' : leafII xss ≤ 1048576 := HS.out
      have hp2 := HP.out (j + 1) hlt
      have HE := Lib.hid (show psum xss (j + 1) = psum xss j + n' by simp only [psum]; rw [en])
      have EN := Lib.hid en
      have EV := Lib.hid ev
      have hn' : n' ≤ 1048576 := by have := HE.out; omega
      clear en ev hs'
      generalize hq : psum xss j = q at *
      have HQ := Lib.hid hq
      clear hq
      have hk0 : (0 : Int) ≤ k + q := by omega
      have hk1 : k + (q : Int) ≤ 4611686018427387904 := by have : leafII xss ≤ 1048576 := HS.out; omega
      go_wp2_with (go_at_call 39; refine (markI_any hr _ hk0 hk1 hn').mono ?_; rintro e w2 ⟨rfl, hr2, hg2⟩)
      go_roundw
      case rel =>
        refine ⟨j + 1, by omega, by go_num, by rw [HE.out]; congr 1; omega, ?_, hO.trans ((touch_grown hg2).mono fun g' hg' => ?_)⟩
        rotate_left
        · exact List.mem_filterMap.2 ⟨vs.getD j (.slice none 0 0), by rw [List.getD_eq_getElem?_getD, List.getElem?_eq_getElem (by have := ho.1; rw [rtab_len] at this; omega)]; exact List.getElem_mem _, by rw [EV.out]; exact hg'⟩
        refine ⟨by rw [rtab_len]; have := ho.1; rwa [rtab_len] at this, ho.2.1.grown hg2 (fun g' hg' => own_ne ho.2.1 hr (by decide) g' hg'), ?_, ho.2.2.2⟩
        intro i hi
        rw [rtab_len] at hi
        rw [gr_rtab _ hi]
        by_cases e : i = j
        · subst e
          rw [if_pos (by omega), EV.out, ← EN.out]
          rwa [show (mkI n' (k + (psum xss i : Int))) = mkI n' (k + (q : Int)) by rw [HQ.out]]
        · have := ho.2.2.1 i (by rw [rtab_len]; exact hi)
          rw [gr_rtab _ hi] at this
          rw [show (if i < j + 1 then mkI (gr xss i).length (k + psum xss i) else gr xss i) = if i < j then mkI (gr xss i).length (k + psum xss i) else gr xss i by
            by_cases e2 : i < j
            · rw [if_pos e2, if_pos (by omega)]
            · rw [if_neg e2, if_neg (by omega)]]
          refine this.grown hg2 fun g' hg' => ?_
          rw [← EV.out]
          have hvl : vs.length = n := by have := ho.1; rwa [rtab_len] at this
          exact nodup_ne ho.2.2.2 (by omega) (by omega) e _ g' hg'
      case measure => simp [intOf]; omega
    · go_wp2
      go_ret
      have e : j = n := by omega
      subst e
      refine ⟨ret_int (by unfold leafII; rw [HL.out]), ?_, hO⟩
      rw [rtab_congr (g := fun i => mkI (gr xss i).length (k + psum xss i)) (fun i hi => if_pos hi)] at ho
      unfold mkII
      rw [HL.out]
      exact ho

set_option maxHeartbeats 800000 in
theorem heldII_any {w : World} {sa : Option Addr} {n c : Nat} (xss : List (List Int)) (k : Int) (h : IsII w (.slice sa n c) (mkII xss k)) (h0 : 0 ≤ k) (h1 : k ≤ 2305843009213693952) (hn : n ≤ 1048576) (hs : leafII xss ≤ 1048576) :
    Calls Try.prog 154 #[.slice sa n c, .int .i64 k] w fun e w' => e = .returned (.int .i64 (k + leafII xss)) ∧ w = w' := by
  have hR := h.rws
  have hl : xss.length = n := by have := hR.len; unfold mkII at this; rwa [rtab_len] at this
  have HS := Lib.hid hs
  have HL := Lib.hid hl
  have hps := fun j (hj : j ≤ n) => psum_le_all xss (j := j) (by omega)
  have HP := Lib.hid hps
  clear hps hs hl h
  go_enter Try.func154, Try.ntmps154
  go_wp2
  go_loop [1, 5] (fun q i => ∃ j : Nat, j ≤ n ∧ i = .int .i64 j ∧ q = .int .i64 (k + psum xss j)) (fun _ i => n - (intOf i).toNat)
  case atStart => exact ⟨0, by omega, rfl, by simp [psum]⟩
  case round =>
    obtain ⟨j, hj, rfl, rfl⟩ := hrel
    by_cases hlt : j < n
    · obtain ⟨b, o, rfl, hbl, A, L, C, hc⟩ := hR.get hlt
      obtain ⟨hck, hI⟩ := hc j hlt
      unfold mkII at hI
      rw [gr_rtab _ (by rw [HL.out]; exact hlt)] at hI
      have en := hI.1
      rw [mkI_len] at en
      rw [en] at hI
      clear hc
      have hp := HP.out j hj
      have hs' : leafII xss ≤ 1048576 := HS.out
      have hp2 := HP.out (j + 1) hlt
      have HE := Lib.hid (show psum xss (j + 1) = psum xss j + L j by simp only [psum]; rw [en])
      have hn' : L j ≤ 1048576 := by have := HE.out; omega
      clear en hs'
      generalize hq : psum xss j = q at *
      have HQ := Lib.hid hq
      clear hq
      have hk0 : (0 : Int) ≤ k + q := by omega
      have hk1 : k + (q : Int) ≤ 4611686018427387904 := by have : leafII xss ≤ 1048576 := HS.out; omega
      go_wp2_with (go_at_call 99; refine (heldI_any _ hI.is hk0 hk1 hn').mono ?_; rintro e w2 ⟨rfl, rfl⟩)
      all_goals first
        | (exfalso; omega)
        | (go_round
           case rel => exact ⟨j + 1, by omega, by go_num, by rw [HE.out]; congr 1; omega⟩
           case measure => simp [intOf]; omega)
    · go_wp2
      go_ret
      have e : j = n := by omega
      subst e
      exact ⟨ret_int (by unfold leafII; rw [HL.out]), rfl⟩
/-! ### Arenas, games -/
def leafA (a : Ar) : Nat := a.own.length + leafII a.nxt
def leafP (g : Pa) : Nat := leafA g.ar + g.prio.length
def mkA (a : Ar) (k : Int) : Ar := ⟨mkI a.own.length k, mkII a.nxt (k + a.own.length)⟩
def mkP (g : Pa) (k : Int) : Pa := ⟨mkA g.ar k, mkI g.prio.length (k + leafA g.ar)⟩
theorem OwnR.touch {lo hi : Nat} {w w' : World} {v : Value} {xss : List (List Int)} {vs : List Value} {B : Nat → Prop} (h : OwnR lo hi w v xss vs) (hg : Touch B w w') (h0 : ∀ g, blk v = some g → ¬ B g) (h1 : ∀ g, g ∈ vs.filterMap blk → ¬ B g) : OwnR lo hi w' v xss vs :=
  ⟨h.1, h.2.1.touch hg h0, fun k hk => (h.2.2.1 k hk).touch hg fun g hb => h1 g (List.mem_filterMap.2 ⟨vs.getD k (.slice none 0 0), by rw [List.getD_eq_getElem?_getD, List.getElem?_eq_getElem (by rw [h.1]; exact hk)]; exact List.getElem_mem _, hb⟩), h.2.2.2⟩
theorem OwnR.outer {lo hi : Nat} {w : World} {v : Value} {xss : List (List Int)} {vs : List Value} (h : OwnR lo hi w v xss vs) : ∀ g, blk v = some g → ¬ g ∈ vs.filterMap blk := by
  intro g hg hm
  obtain ⟨u, hu, e⟩ := List.mem_filterMap.1 hm
  obtain ⟨k, hk, e2⟩ := List.getElem_of_mem hu
  have hr := h.2.2.1 k (by rw [← h.1]; exact hk)
  rw [List.getD_eq_getElem?_getD, List.getElem?_eq_getElem hk] at hr
  simp only [Option.getD_some, e2] at hr
  exact own_ne h.2.1 hr (by decide) g hg e

set_option maxHeartbeats 800000 in
theorem markA_any {lo hi : Nat} {w : World} {s1 : Option Addr} {n1 c1 : Nat} {s2 : Option Addr} {n2 c2 : Nat} {a : Ar} {vs : List Value} (h1 : OwnI lo hi w (.slice s1 n1 c1) a.own) (h2 : OwnR lo hi w (.slice s2 n2 c2) a.nxt vs) (hd : ((.slice s1 n1 c1 :: vs).filterMap blk).Nodup)
    (k : Int) (h0 : 0 ≤ k) (hk : k ≤ 1152921504606846976) (hn1 : n1 ≤ 1048576) (hn2 : n2 ≤ 1048576) (hs : leafII a.nxt ≤ 1048576) (hhi : hi ≤ w.heap.size) :
    Calls Try.prog 97 #[.agg #[.slice s1 n1 c1, .slice s2 n2 c2], .int .i64 k] w fun e w' => e = .returned (.int .i64 (k + leafA a)) ∧ OwnI lo hi w' (.slice s1 n1 c1) (mkA a k).own ∧ OwnR lo hi w' (.slice s2 n2 c2) (mkA a k).nxt vs ∧ Touch (fun g => g ∈ (.slice s1 n1 c1 :: vs).filterMap blk) w w' := by
  have hl1 := Lib.hid h1.len
  have hne : ∀ g, blk (.slice s1 n1 c1) = some g → ¬ g ∈ vs.filterMap blk := fun g hg hm => by rw [List.filterMap_cons, hg] at hd; exact (List.nodup_cons.1 hd).1 hm
  have HNE := Lib.hid hne
  clear hne
  have hO0 := own_ne h1 h2.2.1 (by decide)
  have HO0 := Lib.hid hO0
  clear hO0
  go_enter Try.func97, Try.ntmps97
  go_wp2_with fail
  refine (markI_any (OwnV.alloc h1 _) k h0 (by omega) hn1).mono ?_
  rintro e w2 ⟨rfl, hm1, hg1⟩
  have q0 : w2.cell? ⟨w.heap.size, 0, none⟩ = some (.slice s1 n1 c1) := cell_t (B := fun g => blk (.slice s1 n1 c1) = some g) (by simp) (touch_grown hg1) (fun hb => by have := (h1.blks _ hb).2; omega)
  have q1 : w2.cell? ⟨w.heap.size, 1, none⟩ = some (.slice s2 n2 c2) := cell_t (B := fun g => blk (.slice s1 n1 c1) = some g) (by simp) (touch_grown hg1) (fun hb => by have := (h1.blks _ hb).2; omega)
  have h2' : OwnR lo hi w2 (.slice s2 n2 c2) a.nxt vs := (h2.below (below_alloc _ _)).touch (touch_grown hg1) (fun g hg hb => HO0.out g hb hg) (fun g hg hb => HNE.out g hb hg)
  have hk2 : k + (n1 : Int) ≤ 2305843009213693952 := by omega
  have hk3 : 0 ≤ k + (n1 : Int) := by omega
  go_wp2_with (go_at_call 153; refine (markII_any h2' _ hk3 hk2 hn2 hs).mono ?_; rintro e w3 ⟨rfl, hm2, hg2⟩)
  go_ret
  refine ⟨ret_int (by unfold leafA; rw [hl1.out]; omega), ?_, ?_, ?_⟩
  · unfold mkA; rw [hl1.out]
    exact hm1.touch hg2 (fun g hg => HNE.out g hg)
  · unfold mkA; rw [hl1.out]; exact hm2
  · refine (touch_below (below_alloc _ _)).trans (((touch_grown hg1).mono fun g hg => ?_).trans (hg2.mono fun g hg => ?_))
    · rw [List.filterMap_cons, hg]; exact List.mem_cons_self
    · rw [List.filterMap_cons]; cases blk (Value.slice s1 n1 c1) with
      | none => exact hg
      | some x => exact List.mem_cons_of_mem _ hg

theorem mem_cons_blk {g : Nat} {v : Value} {vs : List Value} (h : blk v = some g) : g ∈ (v :: vs).filterMap blk := by rw [List.filterMap_cons, h]; exact List.mem_cons_self
theorem mem_tail_blk {g : Nat} {v : Value} {vs : List Value} (h : g ∈ vs.filterMap blk) : g ∈ (v :: vs).filterMap blk := by
  rw [List.filterMap_cons]; cases blk v with
  | none => exact h
  | some x => exact List.mem_cons_of_mem _ h
theorem nodup_head {v : Value} {vs : List Value} (h : ((v :: vs).filterMap blk).Nodup) : (∀ g, blk v = some g → ¬ g ∈ vs.filterMap blk) ∧ (vs.filterMap blk).Nodup := by
  rw [List.filterMap_cons] at h
  cases hb : blk v with
  | none => rw [hb] at h; exact ⟨fun g hg => (by cases hg), h⟩
  | some x => rw [hb] at h; exact ⟨fun g hg => (by injection hg with hg; rw [← hg]; exact (List.nodup_cons.1 h).1), (List.nodup_cons.1 h).2⟩

set_option maxHeartbeats 800000 in
theorem heldA_any {w : World} {s1 : Option Addr} {n1 c1 : Nat} {s2 : Option Addr} {n2 c2 : Nat} (a : Ar) (k : Int) (h : IsA w (.agg #[.slice s1 n1 c1, .slice s2 n2 c2]) (mkA a k)) (h0 : 0 ≤ k) (hk : k ≤ 1152921504606846976) (hn1 : n1 ≤ 1048576) (hn2 : n2 ≤ 1048576) (hs : leafII a.nxt ≤ 1048576) :
    Calls Try.prog 98 #[.agg #[.slice s1 n1 c1, .slice s2 n2 c2], .int .i64 k] w (Bi w (k + leafA a)) := by
  obtain ⟨_, _, e, h1, h2⟩ := h
  simp only [Value.agg.injEq, Array.mk.injEq, List.cons.injEq, and_true] at e
  obtain ⟨rfl, rfl⟩ := e
  have hl1 := h1.ints.1
  simp only [mkA, mkI_len] at h1 h2 hl1
  have HL := Lib.hid hl1
  rw [hl1] at h1 h2
  clear hl1
  have hk2 : k + (n1 : Int) ≤ 2305843009213693952 := by omega
  have hk3 : 0 ≤ k + (n1 : Int) := by omega
  go_enter Try.func98, Try.ntmps98
  go_wp2_with (first
    | (go_at_call 99; refine (heldI_any _ (h1.alloc _) h0 (by omega) hn1).mono ?_; rintro e w2 ⟨rfl, rfl⟩)
    | (go_at_call 154; refine (heldII_any _ _ (h2.alloc _) hk3 hk2 hn2 hs).mono ?_; rintro e w2 ⟨rfl, rfl⟩))
  all_goals first
    | (exfalso; omega)
    | (go_ret
       exact ⟨ret_int (by unfold leafA; rw [HL.out]; omega), below_alloc _ _⟩)

set_option maxHeartbeats 800000 in
theorem markP_any {lo hi : Nat} {w : World} {s1 : Option Addr} {n1 c1 : Nat} {s2 : Option Addr} {n2 c2 : Nat} {s3 : Option Addr} {n3 c3 : Nat} {g : Pa} (h : OwnP lo hi w (.agg #[.slice s1 n1 c1, .slice s2 n2 c2, .slice s3 n3 c3]) g)
    (k : Int) (h0 : 0 ≤ k) (hk : k ≤ 576460752303423488) (hs : szP g ≤ 1048576) (hhi : hi ≤ w.heap.size) :
    Calls Try.prog 30 #[.agg #[.slice s1 n1 c1, .slice s2 n2 c2, .slice s3 n3 c3], .int .i64 k] w fun e w' => e = .returned (.int .i64 (k + leafP g)) ∧ OwnP lo hi w' (.agg #[.slice s1 n1 c1, .slice s2 n2 c2, .slice s3 n3 c3]) (mkP g k) ∧ Outside lo hi w w' := by
  obtain ⟨_, _, _, vs, e, h1, h2, h3, hd⟩ := h
  simp only [Value.agg.injEq, Array.mk.injEq, List.cons.injEq, and_true] at e
  obtain ⟨rfl, rfl, rfl⟩ := e
  have hd' := (List.Perm.filterMap blk (List.Perm.swap (.slice s3 n3 c3) (.slice s1 n1 c1) vs)).nodup_iff.1 hd
  obtain ⟨hd1, hd2⟩ := nodup_head hd'
  have HD := Lib.hid hd1
  have HD0 := Lib.hid hd
  have hl1 := h1.len
  have hl2 := h2.len
  have hl3 := h3.len
  have hs1 : n1 ≤ 1048576 ∧ n2 ≤ 1048576 ∧ n3 ≤ 1048576 ∧ leafII g.ar.nxt ≤ 1048576 ∧ leafA g.ar ≤ 2097152 := by
    unfold szP szA szII at hs; unfold leafA leafII; omega
  have HL := Lib.hid hl3
  have hb1 : ∀ x, blk (.slice s1 n1 c1) = some x → x < hi := fun x hx => (h1.blks x hx).2
  have hb3 : ∀ x, blk (.slice s3 n3 c3) = some x → x < hi := fun x hx => (h3.blks x hx).2
  have hbs : ∀ x, x ∈ vs.filterMap blk → x < hi := fun x hx => (h2.blks x hx).2
  have hB : ∀ x, x ∈ (.slice s1 n1 c1 :: vs).filterMap blk → lo ≤ x ∧ x < hi := by
    intro x hx
    rw [List.filterMap_cons] at hx
    cases hq : blk (Value.slice s1 n1 c1) with
    | none => rw [hq] at hx; exact h2.blks x hx
    | some y =>
      rw [hq] at hx
      rcases List.mem_cons.1 hx with e | hx
      · rw [e]; exact h1.blks y hq
      · exact h2.blks x hx
  have HB := Lib.hid hB
  have HB3 := Lib.hid (h3.blks)
  have hO0 := own_ne h3 h2.2.1 (by decide)
  have HO0 := Lib.hid hO0
  have HHI := Lib.hid hhi
  clear hd hd' hd1 hl1 hl2 hl3 hb1 hb3 hbs hB hO0 hs
  obtain ⟨e1, e2, e3, e4, e5⟩ := hs1
  go_enter Try.func30, Try.ntmps30
  go_wp2_with fail
  refine (markA_any (OwnV.alloc h1 _) (OwnR.below h2 (below_alloc _ _)) hd2 k h0 (by omega) e1 e2 e4 (by simp; omega)).mono ?_
  rintro e w2 ⟨rfl, hm1, hm2, hg1⟩
  have hsz := hg1.size
  simp only [World.size_alloc] at hsz
  have q0 : w2.cell? ⟨w.heap.size, 0, none⟩ = some (.slice s1 n1 c1) := cell_t (by simp) hg1 (fun hb => by have := (HB.out _ hb).2; omega)
  have q1 : w2.cell? ⟨w.heap.size, 1, none⟩ = some (.slice s2 n2 c2) := cell_t (by simp) hg1 (fun hb => by have := (HB.out _ hb).2; omega)
  have q2 : w2.cell? ⟨w.heap.size, 2, none⟩ = some (.slice s3 n3 c3) := cell_t (by simp) hg1 (fun hb => by have := (HB.out _ hb).2; omega)
  have h3' : OwnI lo hi w2 (.slice s3 n3 c3) g.prio := (OwnI.alloc h3 _).touch hg1 (fun x hx hb => HD.out x hx hb)
  have hk2 : k + (leafA g.ar : Int) ≤ 4611686018427387904 := by omega
  have hk3 : 0 ≤ k + (leafA g.ar : Int) := by omega
  go_wp2_with (go_at_call 39; refine (markI_any h3' _ hk3 hk2 e3).mono ?_; rintro e w3 ⟨rfl, hm3, hg2⟩)
  go_ret
  have t2 : Touch (fun x => blk (.slice s3 n3 c3) = some x) w2 w3 := touch_grown hg2
  refine ⟨ret_int (by unfold leafP; rw [HL.out]; omega), ⟨_, _, _, vs, rfl, hm1.touch t2 (fun x hx hb => HD.out x hb (mem_cons_blk hx)), hm2.touch t2 (fun x hx hb => HO0.out x hb hx) (fun x hx hb => HD.out x hb (mem_tail_blk hx)), ?_, HD0.out⟩, ?_⟩
  · unfold mkP; rw [HL.out]; exact hm3
  · exact ((touch_below (B := fun _ => False) (below_alloc _ _)).outside (fun _ h => h.elim)).trans ((hg1.outside HB.out).trans (t2.outside fun x hx => HB3.out x hx))

set_option maxHeartbeats 800000 in
theorem heldP_any {w : World} {s1 : Option Addr} {n1 c1 : Nat} {s2 : Option Addr} {n2 c2 : Nat} {s3 : Option Addr} {n3 c3 : Nat} (g : Pa) (k : Int) (h : IsP w (.agg #[.slice s1 n1 c1, .slice s2 n2 c2, .slice s3 n3 c3]) (mkP g k)) (h0 : 0 ≤ k) (hk : k ≤ 576460752303423488) (hs : szP g ≤ 1048576) :
    Calls Try.prog 31 #[.agg #[.slice s1 n1 c1, .slice s2 n2 c2, .slice s3 n3 c3], .int .i64 k] w (Bi w (k + leafP g)) := by
  have hA := h.arena
  obtain ⟨_, _, _, e, h1, h2, h3⟩ := h
  simp only [Value.agg.injEq, Array.mk.injEq, List.cons.injEq, and_true] at e
  obtain ⟨rfl, rfl, rfl⟩ := e
  have hl1 := h1.ints.1
  have hl2 := h2.rws.len
  have hl3 := h3.ints.1
  simp only [mkP, mkA, mkI_len, mkII, rtab_len] at hl1 hl2 hl3
  have hs1 : n1 ≤ 1048576 ∧ n2 ≤ 1048576 ∧ n3 ≤ 1048576 ∧ leafII g.ar.nxt ≤ 1048576 ∧ leafA g.ar ≤ 2097152 := by
    unfold szP szA szII at hs; unfold leafA leafII; omega
  have h3' : IsI w (.slice s3 n3 c3) (mkI n3 (k + leafA g.ar)) := by have h3 := h3; unfold mkP at h3; rwa [hl3] at h3
  have HL := Lib.hid hl3
  obtain ⟨e1, e2, e3, e4, e5⟩ := hs1
  have hA' : IsA w (.agg #[.slice s1 n1 c1, .slice s2 n2 c2]) (mkA g.ar k) := hA
  clear hl1 hl2 hl3 hs hA h1 h2 h3
  have hk2 : k + (leafA g.ar : Int) ≤ 4611686018427387904 := by omega
  have hk3 : 0 ≤ k + (leafA g.ar : Int) := by omega
  go_enter Try.func31, Try.ntmps31
  go_wp2_with (first
    | (go_at_call 98; refine (heldA_any g.ar k (hA'.below (by repeat' (first | (with_reducible exact Below.refl _ _) | (with_reducible apply Below.alloc) | (with_reducible apply Below.drew) | (with_reducible apply below_drawn) | omega | (simp only [World.size_alloc, World.size_setCell, World.size_drew]; omega)))) h0 (by omega) e1 e2 e4).mono ?_; rintro e w2 ⟨rfl, hb2⟩; have hcf := bcell hb2; obtain ⟨hcell2, hfr2⟩ := hcf)
    | (go_at_call 99; refine (heldI_any _ ((h3'.alloc _).below hb2) hk3 hk2 e3).mono ?_; rintro e w3 ⟨rfl, rfl⟩))
  all_goals first
    | (exfalso; omega)
    | (go_ret
       exact ⟨ret_int (by unfold leafP; rw [HL.out]; omega), (by repeat' (first | (with_reducible exact Below.refl _ _) | (with_reducible assumption) | (with_reducible apply below_set) | (with_reducible apply Below.alloc) | (with_reducible apply Below.drew) | (with_reducible apply below_drawn) | (with_reducible refine Below.trans ?_ (Below.mono (by assumption) ?_)) | omega | (simp only [World.size_alloc, World.size_setCell, World.size_drew]; omega)))⟩)
end Go.Proofs.Ythdioaeekhkgcaa
