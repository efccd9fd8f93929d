/-
  Queries: the reference's guard.
-/
import Derived.Test.YtdbojkdfpkgfcaaE1
import Derived.Test.YtdbojkdfpkgfcaaE4
import Derived.Test.YtdbojkdfpkgfcaaGm2
namespace Go.Proofs.Ytdbojkdfpkgfcaa
set_option linter.unusedVariables false
set_option linter.unusedSimpArgs false
open Go.RowKit
attribute [local irreducible] FunSpec CallR Aw Le

theorem mem_prevRow {row : List Int} {v u : Nat} {x : Int} : ∀ {k : Nat}, x ∈ prevRow row v u k ↔ x = v ∧ ∃ i, i < k ∧ (gi row i).toNat = u := by
  intro k
  induction k with
  | zero => simp [prevRow]
  | succ k ih =>
    unfold prevRow
    rw [List.mem_append, ih]
    constructor
    · rintro (⟨h1, i, h2, h3⟩ | h)
      · exact ⟨h1, i, by omega, h3⟩
      · split at h
        · rename_i hu; simp at h; exact ⟨h, k, by omega, hu⟩
        · simp at h
    · rintro ⟨h1, i, h2, h3⟩
      rcases Nat.lt_or_ge i k with h | h
      · exact .inl ⟨h1, i, h, h3⟩
      · have : i = k := by omega
        subst this
        rw [if_pos h3]; exact .inr (by simp [h1])
theorem mem_prevTo {nxt : List (List Int)} {u : Nat} {x : Int} : ∀ {k : Nat}, x ∈ prevTo nxt u k ↔ ∃ v, v < k ∧ x = (v : Int) ∧ ∃ i, i < (gr nxt v).length ∧ (gi (gr nxt v) i).toNat = u := by
  intro k
  induction k with
  | zero => simp [prevTo]
  | succ k ih =>
    unfold prevTo
    rw [List.mem_append, ih, mem_prevRow]
    constructor
    · rintro (⟨v, h1, h2⟩ | ⟨h1, h2⟩)
      · exact ⟨v, by omega, h2⟩
      · exact ⟨k, by omega, h1, h2⟩
    · rintro ⟨v, h1, h2⟩
      rcases Nat.lt_or_ge v k with h | h
      · exact .inl ⟨v, h, h2⟩
      · have : v = k := by omega
        subst this; exact .inr h2
theorem gmOk_of {g : Pa} (hg : PaOk g) : GmOk (gmOf g) g.prio.length := by
  have h1 := hg.ar.le
  have h2 := hg.len
  have h3 := hg.ar.len
  have hv : ∀ v, v < g.prio.length → (gr g.ar.nxt v).length ≤ 16 ∧ ∀ i, i < (gr g.ar.nxt v).length → 0 ≤ gi (gr g.ar.nxt v) i ∧ gi (gr g.ar.nxt v) i < g.prio.length := fun v hv => by
    obtain ⟨_, _, _, a, b⟩ := hg.ar.vert v (by omega)
    exact ⟨a, fun i hi => by have := b.bnd i hi; omega⟩
  refine ⟨by omega, h2.symm, rfl, by show g.ar.nxt.length = _; omega, tabr_len _ _, tab_len _ _, fun v hv' => ⟨by have := (hv v hv').1; show (gr g.ar.nxt v).length ≤ _; omega, (hv v hv').2⟩, fun u hu => ?_⟩
  have e : gr (gmOf g).prev u = prevTo g.ar.nxt u g.prio.length := gr_tabr _ hu
  rw [e]
  refine ⟨?_, fun i hi => ?_⟩
  · have := prevTo_len (nxt := g.ar.nxt) (m := 16) u g.prio.length fun j hj => (hv j hj).1
    have : 16 * g.prio.length ≤ 16 * 256 := Nat.mul_le_mul_left _ (by omega)
    omega
  · obtain ⟨v, k1, k2, _⟩ := mem_prevTo.1 (gi_mem hi)
    omega
/-- A new slice reads as what lies in it. -/
theorem rd_own {O : Nat → Prop} {T : TypeId} {lo hi : Nat} {w : World} {v : Value} {us : List Value} (d : Value) (h : OwnV T lo hi w v us) (hO : ∀ b, lo ≤ b → ¬ O b) {c : C} {V : View} (hv : c.view = some V) (hl : V.len = us.length) (hwd : V.wd = 1) (hn : c.isNN = false)
    (hr : ∀ i, i < us.length → Rd O w (V.at' i 0) (us.getD i d)) : Rd O w c v := by
  have hlt := h.lt
  obtain ⟨sa, cp, rfl, hc⟩ := h.form d
  rw [← hl] at hc hr ⊢
  refine .sl (vs := fun i _ => us.getD i d) hv (fun e => by rw [hn] at e; cases e) hc.cap hc.max hc.nil (fun ad e hpos => ?_) (fun ad e i hi j hj => ?_) (fun i hi j hj => ?_)
  · obtain ⟨b, o, e', hb, _⟩ := hc.get hpos
    rw [e] at e'; injection e' with e'; subst e'
    subst e
    exact ⟨rfl, hO _ (hlt b rfl).1, hb⟩
  · have : j = 0 := by omega
    subst this
    rw [hwd, Nat.mul_one, Nat.add_zero]
    exact hc.cell ad e i hi
  · have : j = 0 := by omega
    subst this
    exact hr i hi
theorem rd_ownI {O : Nat → Prop} {lo hi : Nat} {w : World} {v : Value} {xs : List Int} (h : OwnI lo hi w v xs) (hO : ∀ b, lo ≤ b → ¬ O b) : Rd O w (.I xs) v :=
  rd_own (.int .i64 0) h hO rfl (by simp) rfl rfl fun i hi => by rw [getD_ints]; exact .int _ _
theorem l7Of_f (g : Pa) (hg : PaOk g) : FunSpec Try.prog 75 [paA g] [] (fun _ => gmA (gmOf g)) := by
  unfold FunSpec
  refine ⟨⟨_, Try.func75, rfl, rfl⟩, fun φ0 hp0 w vs hX H hl hv => ?_⟩
  obtain ⟨v, rfl, ha⟩ := avs1 (AVs.of hl hv)
  refine (l7Of_s v g w (is_P ha) hg).mono fun e w' ⟨vo, vp, vn, vq, vk, us, he, hv', h1, h2, h3, h4, h5, h6, hbw⟩ => ⟨_, he, ?_⟩
  intro ν hl hn hf
  have : ν = [] := List.eq_nil_of_length_eq_zero hl
  subst this
  have hE : Evo φ0 hp0 w φ0 (hpNew (hpUp hp0 []) [] []) w' := ⟨fun ν e he => ⟨e, he, .inr ⟨rfl, rfl⟩⟩, fun b hb ho => ⟨hbw.block b hb, ho⟩, hbw.size⟩
  refine ⟨φ0, ⟨hbw, hbw.size, H.fin, fun ν e he => ?_, H.sep, fun ν b hm hb' => H.lo ν b hm hb'⟩, hE, ?_⟩
  · exact (H.ent ν e he).evo hE fun hk b hb' => hbw.block b (H.lt ⟨e, he, hk⟩ hb')
  · have ha' := ha.evo hE
    subst hv'
    obtain ⟨xs, ex, hx⟩ := avs_agg ha'
    have e3 : xs = [vo, vn, vp] := by simpa using (congrArg Array.toList (Value.agg.inj ex)).symm
    subst e3
    match hx with
    | .cons a1 (.cons a2 (.cons a3 .nil)) =>
      have own : ∀ b, w.heap.size ≤ b → ¬ Own φ0 hp0 b := fun b hb ho => by have := H.own_lt ho; omega
      refine agg_avs (vs := [vo, vp, vn, vq, vk]) (.cons a1 (.cons a3 (.cons a2 (.cons (.c ?_) (.cons (.c ?_) .nil)))))
      · exact rd_own (.slice none 0 0) h4.2.1 own rfl h4.1.symm rfl rfl fun i hi => rd_ownI (h4.2.2.1 i (by rw [← h4.1]; exact hi)) own
      · exact rd_ownI h5 own
/-- Where an arena's edges are all there. -/
theorem edg_of {g : Pa} (v u : Int) (h0 : 0 ≤ v) (h1 : v < g.prio.length) : edg (gmOf g) v u = true := by
  have : gi (gmOf g).pick v.toNat = -1 := gi_tab _ (by omega)
  simp [edg, this]
theorem degTo_pos {g : Pa} {inn : List Bool} {v : Int} (h0 : 0 ≤ v) (h1 : v < g.prio.length) : ∀ k, degTo (gmOf g) inn v k = 0 ↔ ∀ i, i < k → gb inn (gi (gr g.ar.nxt v.toNat) i).toNat = false := by
  intro k
  induction k with
  | zero => exact ⟨fun _ i hi => by omega, fun _ => rfl⟩
  | succ k ih =>
    rw [degTo, edg_of v _ h0 h1, Bool.and_true]
    show degTo (gmOf g) inn v k + (if gb inn (gi (gr g.ar.nxt v.toNat) k).toNat = true then 1 else 0) = 0 ↔ _
    constructor
    · intro h i hi
      rcases Nat.lt_or_ge i k with h' | h'
      · exact ih.1 (by omega) i h'
      · have : i = k := by omega
        subst this
        cases hb : gb inn (gi (gr g.ar.nxt v.toNat) i).toNat with
        | false => rfl
        | true => rw [hb, if_pos rfl] at h; omega
    · intro h
      rw [ih.2 fun i hi => h i (by omega), h k (by omega)]
      rfl
theorem topTo_le {pr xs : List Int} {d : Int} : ∀ {k : Nat}, topTo pr xs k ≤ d ↔ -1 ≤ d ∧ ∀ i, i < k → gi pr (gi xs i).toNat ≤ d := by
  intro k
  induction k with
  | zero => exact ⟨fun h => ⟨h, fun i hi => by omega⟩, fun h => h.1⟩
  | succ k ih =>
    have : topTo pr xs (k + 1) = max (topTo pr xs k) (gi pr (gi xs k).toNat) := rfl
    rw [this]
    constructor
    · intro h
      obtain ⟨h1, h2⟩ := ih.1 (by omega)
      refine ⟨h1, fun i hi => ?_⟩
      rcases Nat.lt_or_ge i k with h' | h'
      · exact h2 i h'
      · have : i = k := by omega
        subst this; omega
    · rintro ⟨h1, h2⟩
      have := ih.2 ⟨h1, fun i hi => h2 i (by omega)⟩
      have := h2 k (by omega)
      omega
theorem deg_zero {g : Pa} (hg : PaOk g) {xs : List Int} {v : Int} (h0 : 0 ≤ v) (h1 : v < g.prio.length) : deg (gmOf g) (mks g.prio.length fun v => (v : Int) ∈ xs) v = 0 ↔ ∀ i, i < (gr g.ar.nxt v.toNat).length → ¬ gi (gr g.ar.nxt v.toNat) i ∈ xs := by
  have hx := (gmOk_of hg).nx v.toNat (by omega)
  have e : ∀ i, i < (gr g.ar.nxt v.toNat).length → gb (mks g.prio.length fun v => (v : Int) ∈ xs) (gi (gr g.ar.nxt v.toNat) i).toNat = tf (gi (gr g.ar.nxt v.toNat) i ∈ xs) := fun i hi => gb_mem (hx.2 i hi).1 (hx.2 i hi).2
  unfold deg
  refine (degTo_pos h0 h1 _).trans ⟨fun h i hi => ?_, fun h i hi => ?_⟩
  · have := h i hi; rw [e i hi] at this; exact tf_ne.1 this
  · rw [e i hi]; exact tf_false (h i hi)
theorem ask_iff {g : Pa} (hS : Small g) {xs : List Int} (hs : IsSet xs g.prio.length) {who d mine yours : Int} : AskIs g xs who d mine yours ↔ (0 ≤ who ∧ who ≤ 1) ∧ (0 ≤ d ∧ d ≤ 41) ∧ d.tmod 2 = who ∧ (0 ≤ mine ∧ mine ≤ 12) ∧ (0 ≤ yours ∧ yours ≤ 12) ∧
    ∀ j, j < xs.length → gi g.prio (gi xs j).toNat ≤ d ∧ deg (gmOf g) (mks g.prio.length fun v => (v : Int) ∈ xs) (gi xs j) ≠ 0 := by
  have hg := hS.1
  have hB := hs.bnd
  have hlen := hg.len
  have key : ∀ j, j < xs.length → (deg (gmOf g) (mks g.prio.length fun v => (v : Int) ∈ xs) (gi xs j) ≠ 0 ↔ ∃ i, i < (gr g.ar.nxt (gi xs j).toNat).length ∧ gi (gr g.ar.nxt (gi xs j).toNat) i ∈ xs) := fun j hj => by
    rw [Ne, deg_zero hg (hB j hj).1 (hB j hj).2]
    constructor
    · intro h
      exact Classical.byContradiction fun hn => h fun i hi hm => hn ⟨i, hi, hm⟩
    · rintro ⟨i, hi, hm⟩ h; exact h i hi hm
  unfold AskIs QueryIs GameIn
  rw [topTo_le, ← hlen]
  constructor
  · rintro ⟨_, ⟨_, h1⟩, h2, h3, h4, h5, ⟨_, h6⟩, h7, h8, h9, h10⟩
    exact ⟨by omega, by omega, h5, by omega, by omega, fun j hj => ⟨h6 j hj, (key j hj).2 (h1 j hj)⟩⟩
  · rintro ⟨h1, h2, h3, h4, h5, h6⟩
    exact ⟨hS, ⟨hs, fun j hj => (key j hj).1 (h6 j hj).2⟩, by omega, h2.1, h2.2, h3, ⟨by omega, fun j hj => (h6 j hj).1⟩, h4.1, h4.2, h5.1, h5.2⟩
set_option maxHeartbeats 4000000 in
theorem askOk_sf (g : Pa) (xs : List Int) (who d mine yours : Int) : FunSpec Try.prog 29 [paA g, .c (.I xs), .c (.int .i64 who), .c (.int .i64 d), .c (.int .i64 mine), .c (.int .i64 yours)] [] (fun _ => .c (.bool (tf (AskIs g xs who d mine yours)))) := by
  by_cases hS : Small g
  · by_cases hs : IsSet xs g.prio.length
    · have hg := hS.1
      have hle := hg.ar.le
      have hlen := hg.len
      have hl := isSet_len hs (by omega)
      have hB : Bnd xs g.prio.length := hs.bnd
      have hG := gmOk_of hg
      (refine f_intro tiOK Try.func29 rfl rfl (by kernel_rfl) fun hp0 ν hX hN => ?_; simp only [numT, Nat.reduceAdd])
      (repeat' (first | (with_reducible refine hK _ _ ?_; clear hK K) | (with_reducible refine k_cid ?_; first | (refine k_ctl rfl ?_) | (refine k_cfl rfl ?_)) | ((first | with_reducible refine a_opd rfl rfl fun K hK => ?_ | with_reducible refine d_opd rfl rfl fun K hKD => ?_ | with_reducible refine a_opn rfl rfl fun K hKN => ?_ | with_reducible refine d_opn rfl rfl fun K hKE => ?_ | with_reducible refine k_cond fun X Y hXX hYY => ?_ | with_reducible refine FN_new ?_); simp (disch := first | decide | (simp only [List.length_cons, List.length_nil, Nat.reduceAdd, Nat.reduceLT]; done) | omega) only [go_sem, ↓tmL_cons, ↓hpL_get hN, hpL_set hN, reduceIte, reduceCtorEq, Nat.reduceAdd, Nat.reduceLT, Nat.reduceLeDiff, Nat.reduceEqDiff, Nat.reduceSub]) | (with_reducible refine a_id ?_; first | (refine a_passl rfl rfl rfl rfl ?_) | (refine a_runl rfl rfl rfl ?_)) | (with_reducible refine hKN _ ?_; clear hKN K) | (with_reducible refine hKD _ _ _ ?_; clear hKD K) | (with_reducible refine d_id ?_; first | (refine d_passl rfl rfl rfl rfl ?_) | (refine d_runl rfl rfl rfl ?_) | (refine d_end hN (by apply Exists.intro; apply And.intro; (repeat' (first | apply FtI.nil | apply FI.nil | apply FI.cons | apply FtI.cons)); kernel_rfl) ?_)) | (with_reducible refine hKE _ _ ?_; clear hKE K) | ((first | (with_reducible refine a_id ?_; refine a_guard rfl rfl fun X Y hXX hYY => ?_) | (with_reducible refine d_id ?_; refine d_guard rfl rfl fun X Y hXX hYY => ?_)); simp (disch := first | decide | (simp only [List.length_cons, List.length_nil, Nat.reduceAdd, Nat.reduceLT]; done) | omega) only [go_sem, ↓tmL_cons, ↓hpL_get hN, hpL_set hN, reduceIte, reduceCtorEq, Nat.reduceAdd, Nat.reduceLT, Nat.reduceLeDiff, Nat.reduceEqDiff, Nat.reduceSub]) | (with_reducible refine k_seq ?_) | (with_reducible refine n_sq ?_) | (with_reducible refine a_nil ?_) | (with_reducible refine k_label ?_) | (with_reducible refine k_block ?_) | (with_reducible refine n_bk ?_) | (with_reducible refine k_exit ?_) | (with_reducible refine n_sqx ?_) | (with_reducible refine n_kx ?_) | (with_reducible refine n_bkx ?_) | (with_reducible refine n_bkn rfl ?_) | (with_reducible refine k_ret ?_) | (with_reducible refine n_sqr ?_) | (with_reducible refine n_kr ?_) | (with_reducible refine n_bkr ?_) | (with_reducible refine k_skip ?_) | (with_reducible refine n_k ?_) | (with_reducible refine n_end ?_) | (with_reducible refine hXX ?_; clear hXX X hYY Y) | (with_reducible refine hYY ?_; clear hXX X hYY Y) | (with_reducible refine And.intro (fun h => ?_) (fun h => ?_) <;> try (exfalso; omega)) | (with_reducible refine k_reg tiOK hN rfl ?_ ?_; kernel_rfl) | (with_reducible refine k_drawn tiOK hN rfl ?_ ?_ ?_ ?_; (kernel_rfl); (kernel_rfl); (kernel_rfl)) | (refine k_call (small_sf g) ?_ rfl (fun _ => rfl) ?_) | (refine k_call (setOk_f xs ?_) ?_ rfl (fun _ => rfl) ?_) | (refine k_call (l1In_f ?_ ?_ ?_) ?_ rfl (fun _ => rfl) ?_) | (refine k_calld (l7Of_f g hg) ?_ rfl rfl ?_) | (refine k_call (l7Part_f g.prio.length xs hB (by omega) (by omega)) ?_ rfl (fun _ => rfl) ?_) | (with_reducible exact Args_nil) | (with_reducible refine Args_cons ?_ ?_) | (with_reducible exact ag_c _) | (with_reducible refine ag_agg ?_) | (with_reducible exact ag_elA _) | (with_reducible exact ag_el _ _) | (exact ag_box hN rfl rfl) | (refine ag_fz hN rfl ?_; first | exact RdLe.refl _ | exact RdLe.unn _) | (with_reducible refine ag_fn ?_) | (with_reducible exact ag_unn _) | (exact ag_nul rfl rfl rfl) | (simp only [hpUp, List.map_nil]) | (with_reducible refine FN_nil ?_) | (with_reducible refine And.intro ?_ ?_) | (refine prop_id ?_; omega)))
      all_goals try ((refine ret_c (.inr rfl) (by first | rfl | (simp (disch := first | decide | (simp only [List.length_cons, List.length_nil, Nat.reduceAdd, Nat.reduceLT]; done) | omega) only [resV, resL, resA, boxA, go_sem, ↓tmL_cons, ↓hpL_get hN, hpL_set hN, reduceIte, reduceCtorEq, Nat.reduceAdd, Nat.reduceLT, Nat.reduceLeDiff, Nat.reduceEqDiff, Nat.reduceSub]; rfl)) ?_); refine congrArg C.bool (false_tf ?_); unfold AskIs QueryIs GameIn; grind)
      (refine k_loop (fun (k : Nat) => (tmL [(15, .c (.int .i64 k)), (14, .sl (ν 2)), (13, .ad (ν 1) 0), (6, .ad (ν 0) 0), (1, .c (.I xs)), (3, .c (.int .i64 d))], hpL hp0 ν [.box [.c (.I g.ar.own), .c (.R g.ar.nxt), .c (.I g.prio)], .box [.c (.I (gmOf g).own), .c (.I (gmOf g).prio), .c (.R (gmOf g).nxt), .c (.R (gmOf g).prev), .c (.I (gmOf g).pick)], .arr 4 .yes (.B (mks g.prio.length fun v => (v : Int) ∈ xs))])) (fun (k : Nat) => k ≤ xs.length ∧ ∀ j, j < k → gi g.prio (gi xs j).toNat ≤ d ∧ deg (gmOf g) (mks g.prio.length fun v => (v : Int) ∈ xs) (gi xs j) ≠ 0) (fun (k : Nat) => xs.length - k) ⟨0, ?_, le_L hX hN [] ?_ ?_⟩ ?_; (repeat' (first | (with_reducible exact LEs.nil _) | (with_reducible exact LTs.nil) | (with_reducible exact LVs.nil) | (with_reducible refine LEs.cons ?_ ?_) | (refine LTs.cons rfl ?_ ?_) | (with_reducible refine LVs.cons ?_ ?_) | (with_reducible exact lv_any _) | (with_reducible exact lv_c _) | (with_reducible exact le_dead _) | (exact lv_sl hN _ rfl rfl rfl) | (exact lv_ad hN _ rfl rfl rfl) | (refine lv_fz hN _ rfl rfl (Or.inr rfl) ?_; first | exact RdLe.refl _ | exact RdLe.unn _) | (refine le_box hN rfl ?_) | (refine le_arr hN rfl rfl ?_) | (with_reducible rfl) | (with_reducible exact lv_el _ _) | (with_reducible refine lv_agg ?_) | (with_reducible exact lv_k _) | (with_reducible refine lv_fn ?_) | (exact lv_nul hN _ rfl rfl) | (exact le_new hN rfl rfl rfl rfl) | (with_reducible refine lv_eq ?_) | (with_reducible refine congrArg C.B ?_) | (with_reducible refine congrArg C.I ?_) | (with_reducible refine congrArg C.R ?_) | (with_reducible refine congrArg (C.int _) ?_) | (with_reducible refine congrArg C.bool ?_))); (any_goals (first | (with_reducible rfl) | (refine prop_id ?_; omega))))
      · exact ⟨Nat.zero_le _, fun j hj => by omega⟩
      intro k hk
      obtain ⟨hk, hI⟩ := hk
      have hb := hB k
      have hm : (mks g.prio.length fun v => (v : Int) ∈ xs).length = g.prio.length := mks_len _ _
      (repeat' (first | (with_reducible refine hK _ _ ?_; clear hK K) | (with_reducible refine k_cid ?_; first | (refine k_ctl rfl ?_) | (refine k_cfl rfl ?_)) | ((first | with_reducible refine a_opd rfl rfl fun K hK => ?_ | with_reducible refine d_opd rfl rfl fun K hKD => ?_ | with_reducible refine a_opn rfl rfl fun K hKN => ?_ | with_reducible refine d_opn rfl rfl fun K hKE => ?_ | with_reducible refine k_cond fun X Y hXX hYY => ?_ | with_reducible refine FN_new ?_); simp (disch := first | decide | (simp only [List.length_cons, List.length_nil, Nat.reduceAdd, Nat.reduceLT]; done) | omega) only [go_sem, ↓tmL_cons, ↓hpL_get hN, hpL_set hN, reduceIte, reduceCtorEq, Nat.reduceAdd, Nat.reduceLT, Nat.reduceLeDiff, Nat.reduceEqDiff, Nat.reduceSub]) | (with_reducible refine a_id ?_; first | (refine a_passl rfl rfl rfl rfl ?_) | (refine a_runl rfl rfl rfl ?_)) | (with_reducible refine hKN _ ?_; clear hKN K) | (with_reducible refine hKD _ _ _ ?_; clear hKD K) | (with_reducible refine d_id ?_; first | (refine d_passl rfl rfl rfl rfl ?_) | (refine d_runl rfl rfl rfl ?_) | (refine d_end hN (by apply Exists.intro; apply And.intro; (repeat' (first | apply FtI.nil | apply FI.nil | apply FI.cons | apply FtI.cons)); kernel_rfl) ?_)) | (with_reducible refine hKE _ _ ?_; clear hKE K) | ((first | (with_reducible refine a_id ?_; refine a_guard rfl rfl fun X Y hXX hYY => ?_) | (with_reducible refine d_id ?_; refine d_guard rfl rfl fun X Y hXX hYY => ?_)); simp (disch := first | decide | (simp only [List.length_cons, List.length_nil, Nat.reduceAdd, Nat.reduceLT]; done) | omega) only [go_sem, ↓tmL_cons, ↓hpL_get hN, hpL_set hN, reduceIte, reduceCtorEq, Nat.reduceAdd, Nat.reduceLT, Nat.reduceLeDiff, Nat.reduceEqDiff, Nat.reduceSub]) | (with_reducible refine k_seq ?_) | (with_reducible refine n_sq ?_) | (with_reducible refine a_nil ?_) | (with_reducible refine k_label ?_) | (with_reducible refine k_block ?_) | (with_reducible refine n_bk ?_) | (with_reducible refine k_exit ?_) | (with_reducible refine n_sqx ?_) | (with_reducible refine n_kx ?_) | (with_reducible refine n_bkx ?_) | (with_reducible refine n_bkn rfl ?_) | (with_reducible refine k_ret ?_) | (with_reducible refine n_sqr ?_) | (with_reducible refine n_kr ?_) | (with_reducible refine n_bkr ?_) | (with_reducible refine k_skip ?_) | (with_reducible refine n_k ?_) | (with_reducible refine n_end ?_) | (with_reducible refine hXX ?_; clear hXX X hYY Y) | (with_reducible refine hYY ?_; clear hXX X hYY Y) | (with_reducible refine And.intro (fun h => ?_) (fun h => ?_) <;> try (exfalso; omega)) | (with_reducible refine k_reg tiOK hN rfl ?_ ?_; kernel_rfl) | (with_reducible refine k_drawn tiOK hN rfl ?_ ?_ ?_ ?_; (kernel_rfl); (kernel_rfl); (kernel_rfl)) | (refine k_call (l7Degree_s (gmOf g) g.prio.length hG (mks g.prio.length fun v => (v : Int) ∈ xs) hm (gi xs k) (by omega) (by omega)) ?_ rfl (fun _ => rfl) ?_) | (with_reducible exact Args_nil) | (with_reducible refine Args_cons ?_ ?_) | (with_reducible exact ag_c _) | (with_reducible refine ag_agg ?_) | (with_reducible exact ag_elA _) | (with_reducible exact ag_el _ _) | (exact ag_box hN rfl rfl) | (refine ag_fz hN rfl ?_; first | exact RdLe.refl _ | exact RdLe.unn _) | (with_reducible refine ag_fn ?_) | (with_reducible exact ag_unn _) | (exact ag_nul rfl rfl rfl) | (simp only [hpUp, List.map_nil]) | (with_reducible refine FN_nil ?_) | (with_reducible refine And.intro ?_ ?_) | (refine prop_id ?_; omega)))
      all_goals first | ((refine ret_c (.inr rfl) (by first | rfl | (simp (disch := first | decide | (simp only [List.length_cons, List.length_nil, Nat.reduceAdd, Nat.reduceLT]; done) | omega) only [resV, resL, resA, boxA, go_sem, ↓tmL_cons, ↓hpL_get hN, hpL_set hN, reduceIte, reduceCtorEq, Nat.reduceAdd, Nat.reduceLT, Nat.reduceLeDiff, Nat.reduceEqDiff, Nat.reduceSub]; rfl)) ?_); refine congrArg C.bool ?_) | (refine ⟨k + 1, ⟨?_, ?_⟩, le_L hX hN [] ?_ ?_⟩; (repeat' (first | (with_reducible exact LEs.nil _) | (with_reducible exact LTs.nil) | (with_reducible exact LVs.nil) | (with_reducible refine LEs.cons ?_ ?_) | (refine LTs.cons rfl ?_ ?_) | (with_reducible refine LVs.cons ?_ ?_) | (with_reducible exact lv_any _) | (with_reducible exact lv_c _) | (with_reducible exact le_dead _) | (exact lv_sl hN _ rfl rfl rfl) | (exact lv_ad hN _ rfl rfl rfl) | (refine lv_fz hN _ rfl rfl (Or.inr rfl) ?_; first | exact RdLe.refl _ | exact RdLe.unn _) | (refine le_box hN rfl ?_) | (refine le_arr hN rfl rfl ?_) | (with_reducible rfl) | (with_reducible exact lv_el _ _) | (with_reducible refine lv_agg ?_) | (with_reducible exact lv_k _) | (with_reducible refine lv_fn ?_) | (exact lv_nul hN _ rfl rfl) | (exact le_new hN rfl rfl rfl rfl) | (with_reducible refine lv_eq ?_) | (with_reducible refine congrArg C.B ?_) | (with_reducible refine congrArg C.I ?_) | (with_reducible refine congrArg C.R ?_) | (with_reducible refine congrArg (C.int _) ?_) | (with_reducible refine congrArg C.bool ?_))); (any_goals (first | (with_reducible rfl) | (refine prop_id ?_; omega))))
      · exact false_tf fun h' => by have := (((ask_iff hS hs).1 h').2.2.2.2.2 k (by omega)).1; omega
      · exact false_tf fun h' => by have := (((ask_iff hS hs).1 h').2.2.2.2.2 k (by omega)).2; omega
      · refine ⟨by omega, fun j hj => ?_⟩
        rcases Nat.lt_or_ge j k with h' | h'
        · exact hI j h'
        · have e : j = k := by omega
          subst e
          exact ⟨by omega, fun e => by rw [e] at h; simp at h⟩
      · refine true_tf ((ask_iff hS hs).2 ⟨by assumption, by assumption, ?_, by assumption, by assumption, fun j hj => hI j (by omega)⟩)
        have : (d.tmod 2 != who) = false := by assumption
        simpa using this
    · (refine f_intro tiOK Try.func29 rfl rfl (by kernel_rfl) fun hp0 ν hX hN => ?_; simp only [numT, Nat.reduceAdd])
      (repeat' (first | (with_reducible refine hK _ _ ?_; clear hK K) | (with_reducible refine k_cid ?_; first | (refine k_ctl rfl ?_) | (refine k_cfl rfl ?_)) | ((first | with_reducible refine a_opd rfl rfl fun K hK => ?_ | with_reducible refine d_opd rfl rfl fun K hKD => ?_ | with_reducible refine a_opn rfl rfl fun K hKN => ?_ | with_reducible refine d_opn rfl rfl fun K hKE => ?_ | with_reducible refine k_cond fun X Y hXX hYY => ?_ | with_reducible refine FN_new ?_); simp (disch := first | decide | (simp only [List.length_cons, List.length_nil, Nat.reduceAdd, Nat.reduceLT]; done) | omega) only [go_sem, ↓tmL_cons, ↓hpL_get hN, hpL_set hN, reduceIte, reduceCtorEq, Nat.reduceAdd, Nat.reduceLT, Nat.reduceLeDiff, Nat.reduceEqDiff, Nat.reduceSub]) | (with_reducible refine a_id ?_; first | (refine a_passl rfl rfl rfl rfl ?_) | (refine a_runl rfl rfl rfl ?_)) | (with_reducible refine hKN _ ?_; clear hKN K) | (with_reducible refine hKD _ _ _ ?_; clear hKD K) | (with_reducible refine d_id ?_; first | (refine d_passl rfl rfl rfl rfl ?_) | (refine d_runl rfl rfl rfl ?_) | (refine d_end hN (by apply Exists.intro; apply And.intro; (repeat' (first | apply FtI.nil | apply FI.nil | apply FI.cons | apply FtI.cons)); kernel_rfl) ?_)) | (with_reducible refine hKE _ _ ?_; clear hKE K) | ((first | (with_reducible refine a_id ?_; refine a_guard rfl rfl fun X Y hXX hYY => ?_) | (with_reducible refine d_id ?_; refine d_guard rfl rfl fun X Y hXX hYY => ?_)); simp (disch := first | decide | (simp only [List.length_cons, List.length_nil, Nat.reduceAdd, Nat.reduceLT]; done) | omega) only [go_sem, ↓tmL_cons, ↓hpL_get hN, hpL_set hN, reduceIte, reduceCtorEq, Nat.reduceAdd, Nat.reduceLT, Nat.reduceLeDiff, Nat.reduceEqDiff, Nat.reduceSub]) | (with_reducible refine k_seq ?_) | (with_reducible refine n_sq ?_) | (with_reducible refine a_nil ?_) | (with_reducible refine k_label ?_) | (with_reducible refine k_block ?_) | (with_reducible refine n_bk ?_) | (with_reducible refine k_exit ?_) | (with_reducible refine n_sqx ?_) | (with_reducible refine n_kx ?_) | (with_reducible refine n_bkx ?_) | (with_reducible refine n_bkn rfl ?_) | (with_reducible refine k_ret ?_) | (with_reducible refine n_sqr ?_) | (with_reducible refine n_kr ?_) | (with_reducible refine n_bkr ?_) | (with_reducible refine k_skip ?_) | (with_reducible refine n_k ?_) | (with_reducible refine n_end ?_) | (with_reducible refine hXX ?_; clear hXX X hYY Y) | (with_reducible refine hYY ?_; clear hXX X hYY Y) | (with_reducible refine And.intro (fun h => ?_) (fun h => ?_) <;> try (exfalso; omega)) | (with_reducible refine k_reg tiOK hN rfl ?_ ?_; kernel_rfl) | (with_reducible refine k_drawn tiOK hN rfl ?_ ?_ ?_ ?_; (kernel_rfl); (kernel_rfl); (kernel_rfl)) | (refine k_call (small_sf g) ?_ rfl (fun _ => rfl) ?_) | (refine k_call (setOk_f xs ?_) ?_ rfl (fun _ => rfl) ?_) | (refine k_call (l1In_f ?_ ?_ ?_) ?_ rfl (fun _ => rfl) ?_) | (with_reducible exact Args_nil) | (with_reducible refine Args_cons ?_ ?_) | (with_reducible exact ag_c _) | (with_reducible refine ag_agg ?_) | (with_reducible exact ag_elA _) | (with_reducible exact ag_el _ _) | (exact ag_box hN rfl rfl) | (refine ag_fz hN rfl ?_; first | exact RdLe.refl _ | exact RdLe.unn _) | (with_reducible refine ag_fn ?_) | (with_reducible exact ag_unn _) | (exact ag_nul rfl rfl rfl) | (simp only [hpUp, List.map_nil]) | (with_reducible refine FN_nil ?_) | (with_reducible refine And.intro ?_ ?_) | (refine prop_id ?_; omega)))
      all_goals try ((refine ret_c (.inr rfl) (by first | rfl | (simp (disch := first | decide | (simp only [List.length_cons, List.length_nil, Nat.reduceAdd, Nat.reduceLT]; done) | omega) only [resV, resL, resA, boxA, go_sem, ↓tmL_cons, ↓hpL_get hN, hpL_set hN, reduceIte, reduceCtorEq, Nat.reduceAdd, Nat.reduceLT, Nat.reduceLeDiff, Nat.reduceEqDiff, Nat.reduceSub]; rfl)) ?_); refine congrArg C.bool (false_tf fun h' => hs (by rw [hS.1.len]; exact h'.2.1.1)))
      all_goals exact absurd (by assumption : (0 ≤ (g.prio.length : Int) ∧ (g.prio.length : Int) ≤ 256) ∧ IsSet xs g.prio.length).2 hs
  · (refine f_intro tiOK Try.func29 rfl rfl (by kernel_rfl) fun hp0 ν hX hN => ?_; simp only [numT, Nat.reduceAdd])
    (repeat' (first | (with_reducible refine hK _ _ ?_; clear hK K) | (with_reducible refine k_cid ?_; first | (refine k_ctl rfl ?_) | (refine k_cfl rfl ?_)) | ((first | with_reducible refine a_opd rfl rfl fun K hK => ?_ | with_reducible refine d_opd rfl rfl fun K hKD => ?_ | with_reducible refine a_opn rfl rfl fun K hKN => ?_ | with_reducible refine d_opn rfl rfl fun K hKE => ?_ | with_reducible refine k_cond fun X Y hXX hYY => ?_ | with_reducible refine FN_new ?_); simp (disch := first | decide | (simp only [List.length_cons, List.length_nil, Nat.reduceAdd, Nat.reduceLT]; done) | omega) only [go_sem, ↓tmL_cons, ↓hpL_get hN, hpL_set hN, reduceIte, reduceCtorEq, Nat.reduceAdd, Nat.reduceLT, Nat.reduceLeDiff, Nat.reduceEqDiff, Nat.reduceSub]) | (with_reducible refine a_id ?_; first | (refine a_passl rfl rfl rfl rfl ?_) | (refine a_runl rfl rfl rfl ?_)) | (with_reducible refine hKN _ ?_; clear hKN K) | (with_reducible refine hKD _ _ _ ?_; clear hKD K) | (with_reducible refine d_id ?_; first | (refine d_passl rfl rfl rfl rfl ?_) | (refine d_runl rfl rfl rfl ?_) | (refine d_end hN (by apply Exists.intro; apply And.intro; (repeat' (first | apply FtI.nil | apply FI.nil | apply FI.cons | apply FtI.cons)); kernel_rfl) ?_)) | (with_reducible refine hKE _ _ ?_; clear hKE K) | ((first | (with_reducible refine a_id ?_; refine a_guard rfl rfl fun X Y hXX hYY => ?_) | (with_reducible refine d_id ?_; refine d_guard rfl rfl fun X Y hXX hYY => ?_)); simp (disch := first | decide | (simp only [List.length_cons, List.length_nil, Nat.reduceAdd, Nat.reduceLT]; done) | omega) only [go_sem, ↓tmL_cons, ↓hpL_get hN, hpL_set hN, reduceIte, reduceCtorEq, Nat.reduceAdd, Nat.reduceLT, Nat.reduceLeDiff, Nat.reduceEqDiff, Nat.reduceSub]) | (with_reducible refine k_seq ?_) | (with_reducible refine n_sq ?_) | (with_reducible refine a_nil ?_) | (with_reducible refine k_label ?_) | (with_reducible refine k_block ?_) | (with_reducible refine n_bk ?_) | (with_reducible refine k_exit ?_) | (with_reducible refine n_sqx ?_) | (with_reducible refine n_kx ?_) | (with_reducible refine n_bkx ?_) | (with_reducible refine n_bkn rfl ?_) | (with_reducible refine k_ret ?_) | (with_reducible refine n_sqr ?_) | (with_reducible refine n_kr ?_) | (with_reducible refine n_bkr ?_) | (with_reducible refine k_skip ?_) | (with_reducible refine n_k ?_) | (with_reducible refine n_end ?_) | (with_reducible refine hXX ?_; clear hXX X hYY Y) | (with_reducible refine hYY ?_; clear hXX X hYY Y) | (with_reducible refine And.intro (fun h => ?_) (fun h => ?_) <;> try (exfalso; omega)) | (with_reducible refine k_reg tiOK hN rfl ?_ ?_; kernel_rfl) | (with_reducible refine k_drawn tiOK hN rfl ?_ ?_ ?_ ?_; (kernel_rfl); (kernel_rfl); (kernel_rfl)) | (refine k_call (small_sf g) ?_ rfl (fun _ => rfl) ?_) | (refine k_call (setOk_f xs ?_) ?_ rfl (fun _ => rfl) ?_) | (refine k_call (l1In_f ?_ ?_ ?_) ?_ rfl (fun _ => rfl) ?_) | (with_reducible exact Args_nil) | (with_reducible refine Args_cons ?_ ?_) | (with_reducible exact ag_c _) | (with_reducible refine ag_agg ?_) | (with_reducible exact ag_elA _) | (with_reducible exact ag_el _ _) | (exact ag_box hN rfl rfl) | (refine ag_fz hN rfl ?_; first | exact RdLe.refl _ | exact RdLe.unn _) | (with_reducible refine ag_fn ?_) | (with_reducible exact ag_unn _) | (exact ag_nul rfl rfl rfl) | (simp only [hpUp, List.map_nil]) | (with_reducible refine FN_nil ?_) | (with_reducible refine And.intro ?_ ?_) | (refine prop_id ?_; omega)))
    all_goals try ((refine ret_c (.inr rfl) (by first | rfl | (simp (disch := first | decide | (simp only [List.length_cons, List.length_nil, Nat.reduceAdd, Nat.reduceLT]; done) | omega) only [resV, resL, resA, boxA, go_sem, ↓tmL_cons, ↓hpL_get hN, hpL_set hN, reduceIte, reduceCtorEq, Nat.reduceAdd, Nat.reduceLT, Nat.reduceLeDiff, Nat.reduceEqDiff, Nat.reduceSub]; rfl)) ?_); refine congrArg C.bool (false_tf fun h' => hS h'.1))
    all_goals exact absurd (by assumption) hS
end Go.Proofs.Ytdbojkdfpkgfcaa
