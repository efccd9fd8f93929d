/-
  Regions in any order, code and functions, walked by abstract values.
-/
import Derived.Test.YthdioaeekhkgcaaFa
import Derived.Great.BuildSlice
namespace Go.Proofs.Ythdioaeekhkgcaa
set_option linter.unusedVariables false
set_option linter.unusedSimpArgs false
open Go.RowKit

section
variable {P : Program} {ti : TI} {φ : Nat → Loc} {hp : Hp} {lo : Nat} {w0 w : World}
theorem run_cut {T e : TypeId} {te : TInfo} {i : TypeInfo} {z : Value} {d : TypeDesc} (hu : P.underlying T = some (.slice e)) (hok : TOk P e te i z d) {sa : Option Addr} {n cp : Nat} {lo hi : Option AV} {vlo vhi : Option Value} {l h : Int}
    (hlo : optI 0 lo = some l) (hhi : optI n hi = some h) (h1 : ∀ a, lo = some a → ∃ v, vlo = some v ∧ AVC φ hp w a v) (h1' : lo = none → vlo = none) (h2 : ∀ a, hi = some a → ∃ v, vhi = some v ∧ AVC φ hp w a v) (h2' : hi = none → vhi = none)
    (hb : 0 ≤ l ∧ l ≤ h ∧ h ≤ n) (hcp : n ≤ cp) :
    (Instr.sliceAt T (.slice sa n cp) vlo vhi none).run P w = .ok (.slice (if cp = l.toNat then sa else sa.map (·.add (l.toNat * te.size))) (h.toNat - l.toNat) (cp - l.toNat)) w := by
  obtain ⟨b1, b2, b3⟩ := hb
  have hn : (h.toNat : Int) = h := Int.toNat_of_nonneg (by omega)
  have key : (Instr.sliceBounds true n cp vlo vhi none).run P w = .ok (l.toNat, h.toNat, cp) w := by
    have ehi : ∃ kh, (vhi = some (.int kh h)) ∨ (vhi = none ∧ h = n) := by
      cases hi with
      | none => simp only [optI, Option.some.injEq] at hhi; exact ⟨.i64, .inr ⟨h2' rfl, hhi.symm⟩⟩
      | some a =>
        obtain ⟨v, e, hv⟩ := h2 a rfl
        cases a <;> try (simp [optI] at hhi; done)
        rename_i c
        cases c <;> simp [optI] at hhi
        subst hhi
        obtain rfl := avc_int hv
        exact ⟨_, .inl e⟩
    have elo : ∃ kl, (vlo = some (.int kl l)) ∨ (vlo = none ∧ l = 0) := by
      cases lo with
      | none => simp only [optI, Option.some.injEq] at hlo; exact ⟨.i64, .inr ⟨h1' rfl, hlo.symm⟩⟩
      | some a =>
        obtain ⟨v, e, hv⟩ := h1 a rfl
        cases a <;> try (simp [optI] at hlo; done)
        rename_i c
        cases c <;> simp [optI] at hlo
        subst hlo
        obtain rfl := avc_int hv
        exact ⟨_, .inl e⟩
    obtain ⟨kh, rfl | ⟨rfl, eh⟩⟩ := ehi <;> obtain ⟨kl, rfl | ⟨rfl, el⟩⟩ := elo
    · simp [Instr.sliceBounds, run_sliceBound w kh h cp _ (by omega) (by omega), run_sliceBound w kl l h.toNat _ (by omega) (by omega)]
    · subst el; simp [Instr.sliceBounds, run_sliceBound w kh h cp _ (by omega) (by omega)]
    · subst eh; simp [Instr.sliceBounds, run_sliceBound w kl l n _ (by omega) (by omega)]
    · subst el eh; simp [Instr.sliceBounds]
  simp [Instr.sliceAt, run_underlying hu, Instr.slice, key, sizeOf, typeInfo, hok.info, hok.size]
theorem toNat_le {l : Int} {n : Nat} (h0 : 0 ≤ l) (h : l ≤ (n : Int)) : l.toNat ≤ n := by omega
theorem sliceW_sound (hT : TIok P ti) (H : HC φ hp lo w0 w) {T : TypeId} {a : AV} {u : Value} {l h : Option AV} {vl vh : Option Value} {E : Eff} (hE : sliceW ti hp T a l h = some E) (hc : E.cond) (ha : AVC φ hp w a u)
    (h1 : ∀ a, l = some a → ∃ v, vl = some v ∧ AVC φ hp w a v) (h1' : l = none → vl = none) (h2 : ∀ a, h = some a → ∃ v, vh = some v ∧ AVC φ hp w a v) (h2' : h = none → vh = none) : Okv P φ hp lo w0 w E (Instr.sliceAt T u vl vh none) := by
  unfold sliceW at hE
  split at hE
  · rename_i t ht
    obtain ⟨_, _, _, hok0⟩ := hT T t ht
    split at hE
    · rename_i e hsh
      have hd := hok0.sh
      rw [hsh] at hd
      simp only [ShOK] at hd
      have hu := hok0.und
      rw [hd] at hu
      split at hE
      · rename_i te hte
        obtain ⟨i, z, d, hok⟩ := hT e te hte
        split at hE
        · rename_i c
          split at hE
          · rename_i V hv
            split at hE
            · rename_i x y hx hy
              split at hE
              · rename_i hwd
                split at hE
                · rename_i c' hsub
                  have hc' : 0 ≤ x ∧ x ≤ y ∧ y ≤ V.len := by injection hE with hE; subst hE; exact hc
                  have hr := avc_c ha
                  obtain ⟨V', p1, p2, p3, p4, p5⟩ := subC_view hv (l := x.toNat) (h := y.toNat) (by omega) (by omega) hsub
                  cases hr with
                  | int => cases hv
                  | bool => cases hv
                  | nul => cases hv
                  | @sl _ V0 sa cp vs hv' hn hcc hm h0 hs cell rec =>
                    rw [hv] at hv'; injection hv' with hv'; subst hv'
                    refine okv_retC H hE (run_cut hu hok hx hy h1 h1' h2 h2' hc' hcc) ?_
                    refine .c ?_
                    rw [← p3]
                    have hpos : 0 < V'.len → ¬ cp = x.toNat := by intro hp0; omega
                    refine .sl (vs := fun i j => vs (x.toNat + i) j) p1 (fun e => by rw [p2] at e; cases e) (by omega) (by omega) (fun e => ?_) (fun ad e hl => ?_) (fun ad e i hi j hj => ?_) (fun i hi j hj => ?_)
                    · have : sa = none := by
                        split at e
                        · exact e
                        · cases sa with
                          | none => rfl
                          | some _ => cases e
                      have := h0 this
                      omega
                    · rw [if_neg (hpos hl)] at e
                      cases sa with
                      | none => cases e
                      | some a0 =>
                        obtain ⟨s1, s2, s3⟩ := hs a0 rfl (by omega)
                        obtain ⟨b0, o0, sp⟩ := a0
                        simp only at s1; subst s1
                        simp only [Option.map_some, add_at, Option.some.injEq] at e
                        subst e
                        exact ⟨rfl, s2, s3⟩
                    · rw [if_neg (hpos (by omega))] at e
                      cases sa with
                      | none => cases e
                      | some a0 =>
                        obtain ⟨s1, s2, s3⟩ := hs a0 rfl (by omega)
                        obtain ⟨b0, o0, sp⟩ := a0
                        simp only at s1; subst s1
                        simp only [Option.map_some, add_at, Option.some.injEq] at e
                        subst e
                        have := cell _ rfl (x.toNat + i) (by omega) j (by omega)
                        simp only at this ⊢
                        rw [← this, ← hwd, p4, Nat.add_mul, Nat.add_assoc, Nat.add_assoc]
                    · rw [p5 i j (by omega)]; exact rec _ (by omega) _ (by omega)
                · cases hE
              · cases hE
            · cases hE
          · cases hE
        · rename_i ν0
          split at hE
          · rename_i T' nn c he
            split at hE
            · rename_i V hv
              split at hE
              · rename_i x y hx hy
                split at hE
                · rename_i hwd
                  split at hE
                  · rename_i c' hsub
                    injection hE with hE; subst hE
                    have hc' : 0 ≤ x ∧ x ≤ y ∧ y ≤ V.len := hc
                    obtain rfl := avc_sl ha he
                    obtain ⟨V', p1, p2, p3, p4, p5⟩ := subC_view hv (l := x.toNat) (h := y.toNat) (by omega) (by omega) hsub
                    obtain ⟨_, hV0, hcnn, hent⟩ := H.ent ν0 _ he
                    rw [hv] at hV0; injection hV0 with hV0; subst hV0
                    have hlive : Mine hp ν0 := ⟨_, he, by simp [Ent.kind]⟩
                    have hfz : ∀ x, x ∈ [ν0] → ∃ e, hp x = some e ∧ e.kind = 1 := fun x hx => by simp at hx; subst hx; exact ⟨_, he, rfl⟩
                    rcases hent with ⟨q0, q1, q2⟩ | ⟨g, o, cq, cur, q0, q1, q2, q3, q4, qh, q5⟩
                    · have hval : (φ ν0).val = .slice none V.len 0 := by rw [q0, q1]; rfl
                      refine ⟨_, w, by rw [hval]; exact run_cut hu hok hx hy h1 h1' h2 h2' hc' (by omega), ?_⟩
                      intro ν hl hn hf
                      match ν, hl with
                      | [ν], _ =>
                        have hν := hf ν (by simp)
                        obtain ⟨g1, g2⟩ := H.put hν (fz := [ν0]) hfz (loc := .nil) (e := .arr T' ⟨nn.nn, nn.hd && x == 0⟩ c') H.fr (Nat.le_refl _) (fun g hg => by cases hg) (fun b hb hne => rfl) (fun E => ⟨V', p1, p2, .inl ⟨rfl, by omega, q2⟩⟩)
                        refine ⟨_, g1, g2, ?_⟩
                        have := AVC.sl (φ := upd φ ν .nil) (w := w) (upd_same (hpUp hp (deads [ν0])) ν (some (Ent.arr T' ⟨nn.nn, nn.hd && x == 0⟩ c'))) rfl
                        rw [upd_same] at this
                        have e1 : x.toNat = 0 := by omega
                        have e2 : y.toNat = 0 := by omega
                        rw [e1, e2]
                        exact this
                    · have hval : (φ ν0).val = .slice (some ⟨g, o, none⟩) V.len cq := by rw [q0]; rfl
                      refine ⟨_, w, by rw [hval]; exact run_cut hu hok hx hy h1 h1' h2 h2' hc' q2, ?_⟩
                      intro ν hl hn hf
                      match ν, hl with
                      | [ν], _ =>
                        have hν := hf ν (by simp)
                        have hmul : x.toNat * V.wd + (cq - x.toNat) * V.wd = cq * V.wd := by rw [← Nat.add_mul]; congr 1; omega
                        obtain ⟨g1, g2⟩ := H.put hν (fz := [ν0]) hfz (loc := .at g (if cq = x.toNat then o else o + x.toNat * te.size) (y.toNat - x.toNat) (cq - x.toNat) V.wd) (e := .arr T' ⟨nn.nn, nn.hd && x == 0⟩ c') H.fr (Nat.le_refl _) (fun g' hg' => .inr ⟨ν0, by simp, hlive, by rw [q0]; exact hg'⟩) (fun b hb hne => rfl) (fun E => by
                          refine ⟨V', p1, p2, .inr ⟨g, _, _, cur, by rw [p3, p4], q1, by omega, by omega, ?_, (fun e => ?_), fun i hi j hj => ?_⟩⟩
                          · rw [p4]
                            by_cases hcq : cq = x.toNat
                            · rw [if_pos hcq, hcq, Nat.sub_self, Nat.zero_mul]; omega
                            · rw [if_neg hcq, ← hwd]; omega
                          · simp only [Bool.and_eq_true, beq_iff_eq] at e
                            obtain ⟨e1, e2⟩ := qh e.1
                            rw [e.2, p4]
                            simp only [Int.toNat_zero, Nat.zero_mul, Nat.add_zero, Nat.sub_zero, ite_self]
                            exact ⟨e1, e2⟩
                          · rw [p3] at hi
                            rw [p4] at hj ⊢
                            obtain ⟨v, t1, t2⟩ := q5 (x.toNat + i) (by omega) j hj
                            refine ⟨v, ?_, by rw [p5 i j hi]; exact t2.mono E.bl E.sz⟩
                            rw [show (if cq = x.toNat then o else o + x.toNat * te.size) = o + x.toNat * te.size from if_neg (by omega)]
                            rw [← t1, ← hwd, Nat.add_mul, Nat.add_assoc, Nat.add_assoc])
                        refine ⟨_, g1, g2, ?_⟩
                        have := AVC.sl (φ := upd φ ν (.at g (if cq = x.toNat then o else o + x.toNat * te.size) (y.toNat - x.toNat) (cq - x.toNat) V.wd)) (w := w) (upd_same (hpUp hp (deads [ν0])) ν (some (Ent.arr T' ⟨nn.nn, nn.hd && x == 0⟩ c'))) rfl
                        rw [upd_same] at this
                        have e1 : (if cq = x.toNat then (some ⟨g, o, none⟩ : Option Addr) else (some ⟨g, o, none⟩ : Option Addr).map (·.add (x.toNat * te.size))) = some ⟨g, if cq = x.toNat then o else o + x.toNat * te.size, none⟩ := by
                          by_cases hcq : cq = x.toNat
                          · rw [if_pos hcq, if_pos hcq]
                          · rw [if_neg hcq, if_neg hcq]; simp [add_at]
                        rw [e1]
                        exact this
                  · cases hE
                · cases hE
              · cases hE
            · cases hE
          · cases hE
        · cases hE
      · cases hE
    · cases hE
  · cases hE
end
end Go.Proofs.Ythdioaeekhkgcaa
namespace Go.Proofs.Ythdioaeekhkgcaa
set_option linter.unusedVariables false
set_option linter.unusedSimpArgs false
open Go.RowKit

theorem zeroC_view {n : Nat} {z : List C} {em c' : C} {Ve : View} (hv : em.view = some Ve) (h : zeroC n z em = some c') :
    ∃ V', c'.view = some V' ∧ c'.isNN = false ∧ V'.len = n ∧ V'.wd = Ve.wd ∧ ∀ i j, i < n → j < Ve.wd → ∀ (O : Nat → Prop) w v, Rd O w (z.getD j .nul) v → Rd O w (V'.at' i j) v := by
  unfold zeroC at h
  split at h
  · simp only [C.view, Option.some.injEq] at hv h; subst hv h
    refine ⟨_, rfl, rfl, by simp, rfl, fun i j hi hj O w v hr => ?_⟩
    have : j = 0 := by simp only at hj; omega
    subst this; simp only [gi, getD_rep hi]; exact hr
  · simp only [C.view, Option.some.injEq] at hv h; subst hv h
    refine ⟨_, rfl, rfl, by simp, rfl, fun i j hi hj O w v hr => ?_⟩
    have : j = 0 := by simp only at hj; omega
    subst this; simp only [gb, getD_rep hi]; exact hr
  · simp only [C.view, Option.some.injEq] at hv h; subst hv h
    refine ⟨_, rfl, rfl, by simp, rfl, fun i j hi hj O w v hr => ?_⟩
    have : j = 0 := by simp only at hj; omega
    subst this; simp only [gr, getD_rep hi]; exact row_rd (c := .nul) rfl hr
  · rename_i wd es
    split at h
    · rename_i hl
      simp only [C.view] at hv
      split at hv
      · rename_i hwd
        simp only [Option.some.injEq] at hv h; subst hv h
        exact ⟨⟨(List.replicate n z).length, wd, fun i j => ((List.replicate n z).getD i []).getD j .nul⟩, by simp [C.view, hwd], rfl, by simp, rfl, fun i j hi hj O w v hr => by simp only [getD_rep hi]; exact hr⟩
      · cases hv
    · cases h
  · cases h
theorem pureCs_spec {l : List AV} {z : List C} (h : pureCs l = some z) : z.length = l.length ∧ ∀ j, j < l.length → l.getD j .any = .c (z.getD j .nul) := by
  induction l generalizing z with
  | nil => simp only [pureCs, Option.some.injEq] at h; subst h; exact ⟨rfl, fun j hj => by simp at hj⟩
  | cons a l ih =>
    cases a <;> try (simp only [pureCs, reduceCtorEq] at h; done)
    rename_i c
    simp only [pureCs] at h
    split at h
    · rename_i cs hcs
      simp only [Option.some.injEq] at h; subst h
      obtain ⟨h1, h2⟩ := ih hcs
      exact ⟨by simp [h1], fun j hj => by
        cases j with
        | zero => rfl
        | succ j => simpa using h2 j (by simp at hj; omega)⟩
    · cases h
section
variable {P : Program} {ti : TI} {φ : Nat → Loc} {hp : Hp} {lo : Nat} {w0 w : World}
theorem makeW_sound (hT : TIok P ti) (H : HC φ hp lo w0 w) {T : TypeId} {a b : AV} {u v : Value} {E : Eff} (h : makeW ti T a b = some E) (hc : E.cond) (ha : AVC φ hp w a u) (hb : AVC φ hp w b v) : Okv P φ hp lo w0 w E (Instr.makeSlice T u v) := by
  unfold makeW at h
  split at h
  · rename_i t k n k' n' ht
    obtain ⟨_, _, _, hok0⟩ := hT T t ht
    obtain rfl := avc_int ha
    obtain rfl := avc_int hb
    split at h
    · rename_i e hsh
      have hd := hok0.sh
      rw [hsh] at hd
      simp only [ShOK] at hd
      have hu := hok0.und
      rw [hd] at hu
      split at h
      · rename_i te hte
        obtain ⟨i, z, d, hok⟩ := hT e te hte
        split at h
        · rename_i em zc hem hz
          obtain ⟨emn, Ve, hve, hve0, hvew⟩ := hok.em em hem
          split at h
          · rename_i c' hzc
            injection h with h; subst h
            obtain ⟨c1, c2, c3⟩ := hc
            have c1 : 0 ≤ n := c1
            have c2 : n ≤ 1048576 := c2
            have c3 : n' = n := c3
            subst c3
            obtain ⟨V', p1, p2, p3, p4, p5⟩ := zeroC_view hve hzc
            obtain ⟨z1, z2⟩ := pureCs_spec hz
            have hby := hok.bytes
            have hmul : (i.bytes : Int) * n' ≤ 1024 * 1048576 := Int.mul_le_mul (by omega) c2 c1 (by omega)
            have hr := run_make (P := P) w T e i z hu hok.info hok.zero k k' n' n' c1 (Int.le_refl _) (by omega) (by omega)
            have hwd' : V'.wd = te.size := by rw [p4, hvew]
            refine ⟨_, _, hr, out_new H (fz := []) (fun x hx => by cases hx) (same_self w) (.at w.heap.size 0 V'.len n'.toNat V'.wd) rfl (fun ν hν E => ent_new p1 p2 _ rfl (by omega) (by omega) ?_ fun a ha b hb => ?_) (fun ν => ?_)⟩
            · rw [size_madeCells, hok.size, hwd']
            · rw [p3] at ha
              have hb' : b < te.size := by omega
              have hq := inrow ha hb'
              have hzl : z.cells.size = te.size := by rw [hok.zlen, hok.zlen2]
              refine ⟨z.cells.getD b undef, ?_, ?_⟩
              · rw [hwd', hok.size]
                simp only [madeCells, Array.getElem?_map, Array.getElem?_range, hq, ↓reduceIte, Option.map_some, hzl, (divmod (i := a) hb').2]
                simp [Array.getD_eq_getD_getElem?, show b < z.cells.size by omega]
              · have hzv := hok.zval b (by rw [hok.zlen2]; exact hb') (upd φ ν (.at w.heap.size 0 V'.len n'.toNat V'.wd)) (upd (hpUp hp (deads [])) ν (some (.arr e .yes c'))) (w.alloc (.cells (madeCells z.cells (n'.toNat * i.size)) e))
                rw [z2 b (by rw [hok.zlen2]; exact hb')] at hzv
                exact p5 a b ha (by omega) _ _ _ (avc_c hzv)
            · have := AVC.sl (φ := upd φ ν (.at w.heap.size 0 V'.len n'.toNat V'.wd)) (w := w.alloc (.cells (madeCells z.cells (n'.toNat * i.size)) e)) (upd_same (hpUp hp (deads [])) ν (some (Ent.arr e .yes c'))) rfl
              rw [upd_same, show (Loc.at w.heap.size 0 V'.len n'.toNat V'.wd).val = .slice (some ⟨w.heap.size, 0, none⟩) n'.toNat n'.toNat by rw [p3]; rfl] at this
              exact this
          · cases h
        · cases h
      · cases h
    · cases h
  · cases h
theorem fill_seq {size : Nat} : ∀ (qs : List (Nat × Value)) (s : Nat) (cs : Array Value), (∀ j, j < qs.length → (qs.getD j (0, undef)).1 = s + j ∧ (qs.getD j (0, undef)).2.cells.size = size) → (s + qs.length) * size ≤ cs.size →
    ∃ cs', Instr.fill (fun i => some (i * size, size)) cs qs = some cs' ∧ cs'.size = cs.size ∧ (∀ k, k < s * size → cs'.getD k undef = cs.getD k undef) ∧ ∀ j, j < qs.length → ∀ q, q < size → cs'.getD ((s + j) * size + q) undef = (qs.getD j (0, undef)).2.cells.getD q undef := by
  intro qs
  induction qs with
  | nil => intro s cs _ _; exact ⟨cs, rfl, rfl, fun _ _ => rfl, fun j hj => by simp at hj⟩
  | cons p qs ih =>
    intro s cs h hl
    obtain ⟨i, v⟩ := p
    obtain ⟨e1, e2⟩ := h 0 (by simp)
    simp only [List.getD_cons_zero, Nat.add_zero] at e1 e2
    subst e1
    have hm : (i + (qs.length + 1)) * size = i * size + size + qs.length * size := by rw [Nat.add_mul, Nat.add_mul, Nat.one_mul]; omega
    simp only [List.length_cons] at hl
    have hlay := lay_spec (i * size) v.cells.toList 0 cs (by simp; omega)
    obtain ⟨cs', g1, g2, g3, g4⟩ := ih (i + 1) (lay cs (i * size) (v.cells.toList.zipIdx 0)) (fun j hj => by have := h (j + 1) (by simp; omega); simp only [List.getD_cons_succ] at this; exact ⟨by omega, this.2⟩) (by rw [hlay.1, Nat.add_mul, Nat.add_mul, Nat.one_mul]; omega)
    refine ⟨cs', ?_, by rw [g2, hlay.1], fun k hk => ?_, fun j hj q hq => ?_⟩
    · simp only [Instr.fill]
      rw [if_neg (by simp; omega), ← g1]
      congr 1
      rw [← Array.foldl_toList]
      simp only [lay]
      congr 1
      simp
    · rw [g3 k (by rw [Nat.add_mul]; omega), hlay.2 k, if_neg (by omega)]
    · cases j with
      | zero =>
        simp only [Nat.add_zero, List.getD_cons_zero]
        rw [g3 _ (by rw [Nat.add_mul, Nat.one_mul]; omega), hlay.2, if_pos (by simp; omega), show i * size + q - (i * size + 0) = q by omega, ← agetD]
      | succ j =>
        have := g4 j (by simp at hj; omega) q hq
        rw [show i + (j + 1) = i + 1 + j by omega, this]
        simp
theorem bldC_spec {l : List AV} {c c' : C} {fz : List Nat} {V : View} (hv : c.view = some V) (hn : c.isNN = false) (h : bldC hp c l = some (c', fz)) :
    (∀ x, x ∈ fz → ∃ T nn d, hp x = some (.arr T nn d)) ∧ ∃ V', c'.view = some V' ∧ c'.isNN = false ∧ V'.len = V.len + l.length ∧ V'.wd = V.wd ∧ (∀ i j, i < V.len → V'.at' i j = V.at' i j) ∧
      ∀ k, k < l.length → ∃ cs, (l.getD k .any).cells = some cs ∧ cs.length = V.wd ∧ ∀ j, j < V.wd → ∃ c0 f0, toC hp (cs.getD j .any) = some (c0, f0) ∧ (∀ x, x ∈ f0 → x ∈ fz) ∧ ∀ (O : Nat → Prop) w v, Rd O w c0 v → Rd O w (V'.at' (V.len + k) j) v := by
  induction l generalizing c fz V with
  | nil =>
    simp only [bldC, Option.some.injEq, Prod.mk.injEq] at h
    obtain ⟨rfl, rfl⟩ := h
    exact ⟨fun x hx => (by cases hx), V, hv, hn, by simp, rfl, fun _ _ _ => rfl, fun k hk => by simp at hk⟩
  | cons a l ih =>
    simp only [bldC] at h
    split at h
    · rename_i cs hcs
      split at h
      · rename_i ds f1 hds
        split at h
        · rename_i c1 happ
          split at h
          · rename_i c2 f2 hb
            simp only [Option.some.injEq, Prod.mk.injEq] at h
            obtain ⟨rfl, rfl⟩ := h
            obtain ⟨V1, a1, a2, a3, a4, a5, a6, a7⟩ := appC_view hv hn happ
            obtain ⟨hdom, V', b1, b2, b3, b4, b5, b6⟩ := ih a1 a2 hb
            obtain ⟨d1, d2⟩ := toCs_spec hds
            refine ⟨fun x hx => ?_, V', b1, b2, by rw [b3, a3]; simp; omega, by rw [b4, a4], fun i j hi => by rw [b5 i j (by omega), a6 i j hi], fun k hk => ?_⟩
            · rcases List.mem_append.1 hx with hx | hx
              · exact toCs_dom hds x hx
              · exact hdom x hx
            · cases k with
              | zero =>
                refine ⟨cs, by simpa using hcs, by omega, fun j hj => ?_⟩
                obtain ⟨f, t1, t2⟩ := d2 j (by omega)
                refine ⟨_, f, t1, fun x hx => List.mem_append_left _ (t2 x hx), fun O w v hr => ?_⟩
                rw [Nat.add_zero, b5 _ _ (by omega)]
                exact a7 j hj O w v hr
              | succ k =>
                obtain ⟨cs', e1, e2, e3⟩ := b6 k (by simp at hk; omega)
                refine ⟨cs', by simpa using e1, by omega, fun j hj => ?_⟩
                obtain ⟨c0, f0, t1, t2, t3⟩ := e3 j (by omega)
                refine ⟨c0, f0, t1, fun x hx => List.mem_append_right _ (t2 x hx), fun O w v hr => ?_⟩
                rw [show V.len + (k + 1) = V1.len + k by omega]
                exact t3 O w v hr
          · cases h
        · cases h
      · cases h
    · cases h
theorem buildSliceW_sound (hT : TIok P ti) (H : HC φ hp lo w0 w) {T : TypeId} {n : Nat} {ps : List (Nat × AV)} {qs : Array (Nat × Value)} {E : Eff} (h : buildSliceW ti hp T n ps = some E) (hl : qs.toList.length = ps.length)
    (hq : ∀ j, j < ps.length → (qs.toList.getD j (0, undef)).1 = (ps.getD j (0, .any)).1 ∧ AVC φ hp w (ps.getD j (0, .any)).2 (qs.toList.getD j (0, undef)).2) : Okv P φ hp lo w0 w E (Instr.buildSlice T n qs) := by
  unfold buildSliceW at h
  split at h
  · rename_i t ht
    obtain ⟨_, _, _, hok0⟩ := hT T t ht
    split at h
    · rename_i e hsh
      have hd := hok0.sh
      rw [hsh] at hd
      simp only [ShOK] at hd
      have hu := hok0.und
      rw [hd] at hu
      split at h
      · rename_i te hte
        obtain ⟨i, z, d, hok⟩ := hT e te hte
        split at h
        · rename_i em hem
          obtain ⟨emn, Ve, hve, hve0, hvew⟩ := hok.em em hem
          split at h
          · rename_i hcond
            obtain ⟨hidx, hn, hts⟩ := hcond
            split at h
            · rename_i c fz hb
              injection h with h; subst h
              obtain ⟨hdom, V', p1, p2, p3, p4, p5, p6⟩ := bldC_spec hve emn hb
              have hlen : ps.length = n := by have := congrArg List.length hidx; simpa using this
              have hwd' : V'.wd = te.size := by rw [p4, hvew]
              have hwdp := C.view_wd p1
              rw [hve0, Nat.zero_add, List.length_map, hlen] at p3
              have hpart : ∀ k, k < n → (qs.toList.getD k (0, undef)).1 = k ∧ ∃ cs, ((ps.getD k (0, .any)).2).cells = some cs ∧ cs.length = te.size ∧ ∀ j, j < te.size → ∃ c0 f0, toC hp (cs.getD j .any) = some (c0, f0) ∧ (∀ x, x ∈ f0 → x ∈ fz) ∧ ∀ (O : Nat → Prop) w v, Rd O w c0 v → Rd O w (V'.at' k j) v := by
                intro k hk
                have hk' : k < ps.length := by omega
                refine ⟨?_, ?_⟩
                · rw [(hq k hk').1, getD_get hk']
                  have : (ps.map (·.1))[k]? = (List.range n)[k]? := by rw [hidx]
                  simp [hk', hk] at this
                  exact this
                · obtain ⟨cs, e1, e2, e3⟩ := p6 k (by simpa using hk')
                  have e0 : (ps.map (·.2)).getD k .any = (ps.getD k (0, .any)).2 := by simp [List.getD_eq_getElem?_getD, hk']
                  rw [e0] at e1
                  refine ⟨cs, e1, by omega, fun j hj => ?_⟩
                  obtain ⟨c0, f0, t1, t2, t3⟩ := e3 j (by omega)
                  exact ⟨c0, f0, t1, t2, fun O w v hr => by have := t3 O w v hr; rwa [hve0, Nat.zero_add] at this⟩
              have hcells : ∀ k, k < n → (qs.toList.getD k (0, undef)).2.cells.size = te.size := by
                intro k hk
                obtain ⟨_, cs, e1, e2, _⟩ := hpart k hk
                have := (avc_cells (hq k (by omega)).2 e1).1
                omega
              obtain ⟨cur, g1, g2, g3, g4⟩ := fill_seq (size := te.size) qs.toList 0 ((Array.range (n * te.size)).map (z.cells[· % z.cells.size]!)) (fun j hj => ⟨by rw [(hpart j (by omega)).1, Nat.zero_add], hcells j (by omega)⟩) (by simp [hl, hlen])
              have hsz : cur.size = n * te.size := by rw [g2]; simp
              have hbig : ¬ n * te.size > 2 ^ 24 := by
                have := Nat.mul_le_mul hn hts
                omega
              have hrun : (Instr.buildSlice T n qs).run P w = .ok (.slice (some ⟨w.heap.size, 0, none⟩) n n) (w.alloc (.cells cur e)) := by
                by_cases h0 : n * te.size = 0
                · have hn0 : n = 0 := by rcases Nat.mul_eq_zero.1 h0 with h | h <;> omega
                  subst hn0
                  have hqs : qs = #[] := by
                    have : qs.toList = [] := List.eq_nil_of_length_eq_zero (by omega)
                    simpa using this
                  subst hqs
                  have hcur : cur = #[] := by
                    have : cur.size = 0 := by rw [hsz]; omega
                    exact Array.eq_empty_of_size_eq_zero this
                  subst hcur
                  simp [Instr.buildSlice, run_underlying hu, sizeOf, typeInfo, hok.info, Instr.fill, newRow, newObj, Sem.run]
                  rw [show ∀ f : Nat → Value, Array.map f (Array.range 0) = #[] from fun f => Array.eq_empty_of_size_eq_zero (by simp)]
                · exact run_buildSlice w T e n qs cur i z hu hok.info hok.zero (by rw [hok.size]; exact hbig) (by rw [hok.size]; exact h0) (by rw [hok.size]; exact g1)
              refine ⟨_, _, hrun, ?_⟩
              have hfz : ∀ x, x ∈ fz → ∃ e, hp x = some e ∧ e.kind = 1 := fun x hx => by obtain ⟨_, _, _, e⟩ := hdom x hx; exact ⟨_, e, rfl⟩
              refine out_new H (fz := fz) hfz (same_self w) (.at w.heap.size 0 V'.len n V'.wd) rfl (fun ν hν E => ent_new p1 p2 _ rfl (by omega) (by omega) (by rw [hwd', hsz]) fun a ha b hb => ?_) (fun ν => ?_)
              · rw [p3] at ha
                have hb' : b < te.size := by omega
                have hq' := inrow ha hb'
                rw [show a * V'.wd + b = a * te.size + b by rw [hwd']]
                obtain ⟨_, cs, e1, e2, e3⟩ := hpart a ha
                obtain ⟨c0, f0, t1, t2, t3⟩ := e3 b hb'
                obtain ⟨c1, c2, c3⟩ := avc_cells (hq a (by omega)).2 e1
                have hval := g4 a (by omega) b hb'
                rw [Nat.zero_add] at hval
                have hin : a * te.size + b < cur.size := by omega
                refine ⟨cur.getD (a * te.size + b) undef, by simp [Array.getD_eq_getD_getElem?, hin], ?_⟩
                rw [hval]
                refine t3 _ _ _ ?_
                have hνf : ¬ ν ∈ fz := fun hx => by obtain ⟨e, he, _⟩ := hfz ν hx; rw [hν] at he; cases he
                refine toC_rd H t1 (c2 b (by omega)) (fun b0 hb0 hh => ?_) E.sz
                refine given_up H (fz := fz) E (fun x hx => by rw [upd_ne (fun e => hνf (by subst e; exact hx)), hpUp_deads, if_pos hx]) (fun x hx hlx b hb => by rw [Below.heap_alloc _ _ _ (H.lt hlx hb)]) (fun b1 ⟨y, hy1, hy2⟩ hb1 => ?_) b0 hb0 (hh.imp id fun ⟨y, y1, y2⟩ => ⟨y, t2 y y1, y2⟩)
                by_cases ey : y = ν
                · subst ey; rw [upd_same] at hy2; simp only [Loc.blk, Option.some.injEq] at hy2; omega
                · unfold Live at hy1; rw [upd_ne ey] at hy1 hy2; have := live_deads.1 hy1; exact ⟨y, this.2, hy2, this.1⟩
              · have := AVC.sl (φ := upd φ ν (.at w.heap.size 0 V'.len n V'.wd)) (w := w.alloc (.cells cur e)) (upd_same (hpUp hp (deads fz)) ν (some (Ent.arr e .yes c))) rfl
                rw [upd_same, show (Loc.at w.heap.size 0 V'.len n V'.wd).val = .slice (some ⟨w.heap.size, 0, none⟩) n n by rw [p3]; rfl] at this
                exact this
            · cases h
          · cases h
        · cases h
      · cases h
    · cases h
  · cases h
end
end Go.Proofs.Ythdioaeekhkgcaa
namespace Go.Proofs.Ythdioaeekhkgcaa
set_option linter.unusedVariables false
set_option linter.unusedSimpArgs false
open Go.RowKit

section
variable {P : Program} {ti : TI} {φ : Nat → Loc} {hp : Hp} {lo : Nat} {w0 w : World}
def OpOk (P : Program) (φ : Nat → Loc) (hp : Hp) (lo : Nat) (w0 w : World) (E : Eff) (s : Sem Next) : Prop :=
  ∃ r v w', s.run P w = .ok r w' ∧ (r = .value v ∨ (r = .skip ∧ v = undef)) ∧ Out φ hp lo w0 w E.up E.nw E.val v w'
theorem opok_v {E : Eff} {s : Sem Value} (h : Okv P φ hp lo w0 w E s) : OpOk P φ hp lo w0 w E (do pure (.value (← s))) := by
  obtain ⟨v, w', h1, h2⟩ := h
  exact ⟨_, v, w', by simp [h1], .inl rfl, h2⟩
theorem avc_const (v : Value) : AVC φ hp w (constAV v) v := by
  unfold constAV
  split
  · exact .c (.int _ _)
  · exact .c (.bool _)
  · exact .c .nul
  · exact .k _
theorem mapL_getD {l : List Operand} {ev : Operand → AV} {ρ : Operand → Value} (hev : ∀ x, AVC φ hp w (ev x) (ρ x)) : (l.map ρ).length = (l.map ev).length ∧ ∀ i, i < (l.map ev).length → AVC φ hp w ((l.map ev).getD i .any) ((l.map ρ).getD i undef) := by
  refine ⟨by simp, fun i hi => ?_⟩
  have hi' : i < l.length := by simpa using hi
  simp only [List.getD_eq_getElem?_getD, List.getElem?_map, List.getElem?_eq_getElem hi', Option.map_some, Option.getD_some]
  exact hev _
theorem opW_sound (hT : TIok P ti) (H : HC φ hp lo w0 w) {o : Oper} {ev : Operand → AV} {ρ : Operand → Value} {E : Eff} (hev : ∀ x, AVC φ hp w (ev x) (ρ x)) (h : opW ti ev hp o.op = some E) (hc : E.cond) : OpOk P φ hp lo w0 w E (execOp ρ o) := by
  unfold execOp
  cases hop : o.op <;> rw [hop] at h <;> simp only [opW, reduceCtorEq] at h <;> simp only
  case move x => injection h with h; subst h; exact ⟨_, _, w, rfl, .inl rfl, out_ret H (hev x)⟩
  case assign x => injection h with h; subst h; exact ⟨_, _, w, rfl, .inl rfl, out_ret H (hev x)⟩
  case pick c a b =>
    split at h
    · rename_i t ht
      injection h with h; subst h
      have hb := hev c
      rw [ht] at hb
      have := avc_bool hb
      refine ⟨.value (if t then ρ a else ρ b), _, w, by rw [this]; simp [asBool], .inl rfl, out_ret H ?_⟩
      cases t
      · exact hev b
      · exact hev a
    · cases h
  case alloc T =>
    split at h
    · rename_i t ht
      injection h with h; subst h
      exact opok_v (allocW_sound hT H ht)
    · cases h
  case box T x =>
    split at h
    · rename_i l hl
      injection h with h; subst h
      exact opok_v (boxW_sound H hl (hev x))
    · cases h
  case build T parts =>
    refine opok_v (buildW_sound hT H h (by simp) fun j hj => ?_)
    have hj' : j < parts.toList.length := by simpa using hj
    simp only [Array.toList_map, List.getD_eq_getElem?_getD, List.getElem?_map, List.getElem?_eq_getElem hj', Option.map_some, Option.getD_some]
    exact ⟨trivial, hev _⟩
  case buildSlice T n parts =>
    refine opok_v (buildSliceW_sound hT H h (by simp) fun j hj => ?_)
    have hj' : j < parts.toList.length := by simpa using hj
    simp only [Array.toList_map, List.getD_eq_getElem?_getD, List.getElem?_map, List.getElem?_eq_getElem hj', Option.map_some, Option.getD_some]
    exact ⟨trivial, hev _⟩
  case load T x => exact opok_v (loadW_sound hT H h hc (hev x))
  case store T x y =>
    obtain ⟨w', h1, h2⟩ := storeW_sound hT H h hc (hev x) (hev y)
    exact ⟨.skip, undef, w', by simp [h1], .inr ⟨rfl, rfl⟩, h2⟩
  case nilCheck x =>
    obtain ⟨h1, b, hb⟩ := nilW_sound H h (hev x)
    exact ⟨.value (ρ x), _, w, by rw [hb]; rfl, .inl rfl, h1⟩
  case binOp op T x y T' => exact opok_v (binW_sound hT H x y h hc (hev x) (hev y))
  case unOp op T x => exact opok_v (unW_sound H h (hev x))
  case convert src dst x =>
    split at h
    · rename_i t ht
      obtain ⟨_, _, d, hok⟩ := hT src t ht
      exact opok_v (convW_sound hT H ⟨d, hok.und⟩ h (hev x))
    · cases h
  case makeFunc fn first cap =>
    split at h
    · rename_i h0
      injection h with h; subst h
      have e : first = #[] := Array.eq_empty_of_size_eq_zero h0
      subst e
      obtain ⟨cap⟩ := cap
      obtain ⟨m1, m2⟩ := mapL_getD (l := cap) hev
      refine ⟨_, .func fn #[] (cap.map ρ).toArray, w, by simp [Instr.makeFunc], .inl rfl, out_ret H (.fn m1 m2)⟩
    · cases h
  case makeSlice T l c => exact opok_v (makeW_sound hT H h hc (hev l) (hev c))
  case slice T x lo hi mx =>
    split at h
    · refine opok_v (sliceW_sound hT H h hc (hev x) (fun a ha => ?_) (fun ha => ?_) (fun a ha => ?_) (fun ha => ?_))
      · cases lo with
        | none => cases ha
        | some y => injection ha with ha; subst ha; exact ⟨_, rfl, hev y⟩
      · cases lo with
        | none => rfl
        | some y => cases ha
      · cases hi with
        | none => cases ha
        | some y => injection ha with ha; subst ha; exact ⟨_, rfl, hev y⟩
      · cases hi with
        | none => rfl
        | some y => cases ha
    · cases h
  case fieldAddr T x f => exact opok_v (fieldAddrW_sound hT H h (hev x))
  case field T x f => exact opok_v (fieldW_sound hT H h (hev x))
  case indexAddr T x ix => exact opok_v (indexW_sound hT H h hc (hev x) (hev ix))
  case extract x i =>
    split at h
    · rename_i l hl
      split at h
      · rename_i a ha
        injection h with h; subst h
        have hx := hev x
        rw [hl] at hx
        obtain ⟨vs, e, h1, h2⟩ := avc_tup hx
        have hi : i < l.length := by
          rcases Nat.lt_or_ge i l.length with h | h
          · exact h
          · rw [List.getElem?_eq_none h] at ha; cases ha
        have := h2 i hi
        rw [getD_some ha, getD_get (by omega)] at this
        have hg : vs[i]? = some vs[i] := List.getElem?_eq_getElem (by omega)
        exact ⟨_, _, w, by rw [e]; simp [Instr.extract, hg], .inl rfl, out_ret H this⟩
      · cases h
    · cases h
  case call c =>
    obtain ⟨cal, args, ats⟩ := c
    obtain ⟨args⟩ := args
    obtain ⟨ats⟩ := ats
    simp only at h
    split at h
    · rename_i hcal
      split at h
      · rename_i x T
        split at h
        · rename_i t ht
          obtain ⟨_, _, d, hok⟩ := hT T t ht
          split at h
          · rename_i e hsh
            have hd := hok.sh
            rw [hsh] at hd
            simp only [ShOK] at hd
            have hu := hok.und
            rw [hd] at hu
            obtain ⟨v, w', q1, q2⟩ := lenW_sound (ty := o.type) H hu h (hev x)
            exact ⟨.value v, v, w', by simp [resolve, invoke, builtin, q1], .inl rfl, q2⟩
          · cases h
        · cases h
      · cases h
    · rename_i hcal
      split at h
      · rename_i x y T T'
        split at h
        · rename_i e; subst e
          obtain ⟨v, w', q1, q2⟩ := appendW_sound (ty := o.type) hT H h hc (hev x) (hev y)
          exact ⟨.value v, v, w', by simp [resolve, invoke, builtin, q1], .inl rfl, q2⟩
        · cases h
      · cases h
    · obtain ⟨m1, m2⟩ := mapL_getD (l := args) hev
      obtain ⟨v, w', q1, q2⟩ := maxW_sound (P := P) (ats := ats.toArray) (ty := o.type) H h m1 m2
      exact ⟨.value v, v, w', by simp [resolve, invoke, builtin, q1], .inl rfl, q2⟩
    · obtain ⟨m1, m2⟩ := mapL_getD (l := args) hev
      obtain ⟨v, w', q1, q2⟩ := minW_sound (P := P) (ats := ats.toArray) (ty := o.type) H h m1 m2
      exact ⟨.value v, v, w', by simp [resolve, invoke, builtin, q1], .inl rfl, q2⟩
    · cases h
end
end Go.Proofs.Ythdioaeekhkgcaa
namespace Go.Proofs.Ythdioaeekhkgcaa
set_option linter.unusedVariables false
set_option linter.unusedSimpArgs false
open Go.RowKit

def Op.still : Op → Bool
  | .move _ | .assign _ | .pick _ _ _ | .extract _ _ | .build _ _ | .field _ _ _ | .unOp _ _ _ | .convert _ _ _ | .makeFunc _ _ _ | .binOp _ _ _ _ _ | .alloc _ | .box _ _ | .makeSlice _ _ _ => true
  | _ => false
/-- The names that an operation looks at. -/
def rdN (o : Op) (ev : Operand → AV) : List Nat := if Op.still o then [] else namesL (o.operands.toList.map ev)

theorem names_cells {a : AV} {l : List AV} (h : a.cells = some l) : namesL l = a.names := by
  cases a with
  | agg l' => simp only [AV.cells] at h; split at h
              · injection h with h; subst h; rfl
              · cases h
  | any => simp [AV.cells, AV.one] at h
  | tup l => simp [AV.cells, AV.one] at h
  | k u => simp only [AV.cells] at h; split at h
           · injection h with h; subst h; rfl
           · cases h
  | _ => simp only [AV.cells, AV.one, ↓reduceIte, Option.some.injEq] at h; subst h; simp [namesL]
theorem namesL_mem {l : List AV} {a : AV} {ν : Nat} (h : a ∈ l) (hν : ν ∈ a.names) : ν ∈ namesL l := by
  induction l with
  | nil => cases h
  | cons b l ih =>
    rw [namesL]
    rcases List.mem_cons.1 h with rfl | h
    · exact List.mem_append_left _ hν
    · exact List.mem_append_right _ (ih h)
section
variable {ti : TI} {hp hp' : Hp}
theorem toC_local {a : AV} (h : ∀ ν, ν ∈ a.names → hp ν = hp' ν) : toC hp a = toC hp' a := by
  cases a <;> try rfl
  rename_i ν
  simp only [toC, h ν (by simp [AV.names])]
theorem toCs_local {l : List AV} (h : ∀ ν, ν ∈ namesL l → hp ν = hp' ν) : toCs hp l = toCs hp' l := by
  induction l with
  | nil => rfl
  | cons a l ih =>
    simp only [namesL, List.mem_append] at h
    rw [toCs, toCs, toC_local fun ν hν => h ν (.inl hν), ih fun ν hν => h ν (.inr hν)]
theorem slC_local {a : AV} (h : ∀ ν, ν ∈ a.names → hp ν = hp' ν) : slC hp a = slC hp' a := by
  cases a <;> try rfl
  rename_i ν
  simp only [slC, h ν (by simp [AV.names])]
theorem loadW_local {T : TypeId} {a : AV} (h : ∀ ν, ν ∈ a.names → hp ν = hp' ν) : loadW ti hp T a = loadW ti hp' T a := by
  cases a with
  | ad ν o => simp only [loadW, h ν (by simp [AV.names])]
  | ea ν i j => simp only [loadW, h ν (by simp [AV.names])]
  | _ => rfl
theorem nilW_local {a : AV} (h : ∀ ν, ν ∈ a.names → hp ν = hp' ν) : nilW hp a = nilW hp' a := by
  cases a with
  | ad ν o => simp only [nilW, h ν (by simp [AV.names])]
  | ea ν i j => simp only [nilW, h ν (by simp [AV.names])]
  | _ => rfl
theorem fieldAddrW_local {T : TypeId} {a : AV} {f : Nat} (h : ∀ ν, ν ∈ a.names → hp ν = hp' ν) : fieldAddrW ti hp T a f = fieldAddrW ti hp' T a f := by
  cases a with
  | ad ν o => simp only [fieldAddrW, h ν (by simp [AV.names])]
  | ea ν i j => simp only [fieldAddrW, h ν (by simp [AV.names])]
  | _ => rfl
theorem indexW_local {T : TypeId} {a b : AV} (h : ∀ ν, ν ∈ a.names → hp ν = hp' ν) : indexW ti hp T a b = indexW ti hp' T a b := by
  cases a with
  | sl ν => simp only [indexW, h ν (by simp [AV.names])]
  | _ => rfl
theorem sliceW_local {T : TypeId} {a : AV} {l r : Option AV} (h : ∀ ν, ν ∈ a.names → hp ν = hp' ν) : sliceW ti hp T a l r = sliceW ti hp' T a l r := by
  cases a with
  | sl ν => simp only [sliceW, h ν (by simp [AV.names])]
  | _ => rfl
theorem lenW_local {a : AV} (h : ∀ ν, ν ∈ a.names → hp ν = hp' ν) : lenW hp a = lenW hp' a := by
  unfold lenW; rw [slC_local h]
theorem appendW_local {T : TypeId} {a b : AV} (h : ∀ ν, ν ∈ a.names → hp ν = hp' ν) (h2 : ∀ ν, ν ∈ b.names → hp ν = hp' ν) : appendW ti hp T a b = appendW ti hp' T a b := by
  unfold appendW
  rw [slC_local h2]
  cases a with
  | sl ν => simp only [h ν (by simp [AV.names])]
  | c c => cases c <;> rfl
  | _ => rfl
theorem storeW_local {T : TypeId} {a b : AV} (h : ∀ ν, ν ∈ a.names → hp ν = hp' ν) (h2 : ∀ ν, ν ∈ b.names → hp ν = hp' ν) : storeW ti hp T a b = storeW ti hp' T a b := by
  unfold storeW
  cases hc : b.cells with
  | none => cases ti T <;> rfl
  | some cs =>
    cases ti T with
    | none => rfl
    | some t =>
      have e : toCs hp cs = toCs hp' cs := toCs_local fun ν hν => h2 ν (by rwa [names_cells hc] at hν)
      simp only [e]
      cases a with
      | ad ν o => simp only [h ν (by simp [AV.names])]
      | ea ν i j => simp only [h ν (by simp [AV.names])]
      | _ => rfl
theorem bldC_local {l : List AV} (h : ∀ ν, ν ∈ namesL l → hp ν = hp' ν) (c : C) : bldC hp c l = bldC hp' c l := by
  induction l generalizing c with
  | nil => rfl
  | cons a l ih =>
    simp only [namesL, List.mem_append] at h
    rw [bldC, bldC]
    cases hc : a.cells with
    | none => rfl
    | some cs =>
      have e : toCs hp cs = toCs hp' cs := toCs_local fun ν hν => h ν (.inl (by rwa [names_cells hc] at hν))
      simp only [e]
      split
      · split
        · rw [ih fun ν hν => h ν (.inr hν)]
        · rfl
      · rfl
theorem opW_local {o : Op} {ev ev' : Operand → AV} (he : ∀ x, x ∈ o.operands.toList → ev x = ev' x) (h : ∀ ν, ν ∈ rdN o ev → hp ν = hp' ν) : opW ti ev hp o = opW ti ev' hp' o := by
  have hn : Op.still o = false → ∀ x, x ∈ o.operands.toList → ∀ ν, ν ∈ (ev' x).names → hp ν = hp' ν := by
    intro hs x hx ν hν
    refine h ν ?_
    unfold rdN
    rw [hs]
    exact namesL_mem (List.mem_map.2 ⟨x, hx, rfl⟩) (by rw [he x hx]; exact hν)
  cases o <;> simp only [opW]
  case move x => rw [he x (by simp [Op.operands])]
  case assign x => rw [he x (by simp [Op.operands])]
  case pick c a b => rw [he c (by simp [Op.operands]), he a (by simp [Op.operands]), he b (by simp [Op.operands])]
  case box T x => rw [he x (by simp [Op.operands])]
  case build T parts =>
    have : (parts.toList.map fun p => (p.1, ev p.2)) = parts.toList.map fun p => (p.1, ev' p.2) := List.map_congr_left fun p hp => by
      rw [he p.2 (by simp only [Op.operands]; exact List.mem_map.2 ⟨p, hp, rfl⟩)]
    rw [this]
  case buildSlice T n parts =>
    have e1 : (parts.toList.map fun p => (p.1, ev p.2)) = parts.toList.map fun p => (p.1, ev' p.2) := List.map_congr_left fun p hp => by
      rw [he p.2 (by simp only [Op.operands]; exact List.mem_map.2 ⟨p, hp, rfl⟩)]
    rw [e1]
    unfold buildSliceW
    have e2 : ∀ c, bldC hp c ((parts.toList.map fun p => (p.1, ev' p.2)).map (·.2)) = bldC hp' c ((parts.toList.map fun p => (p.1, ev' p.2)).map (·.2)) := fun c => bldC_local (fun ν hν => h ν (by
      simp only [rdN, Op.still, Bool.false_eq_true, ↓reduceIte, Op.operands]
      rw [← e1] at hν
      simp only [List.map_map] at hν ⊢
      exact hν)) c
    simp only [e2]
  case load T x =>
    rw [he x (by simp [Op.operands])]
    exact loadW_local fun ν hν => hn rfl x (by simp [Op.operands]) ν hν
  case store T x y =>
    rw [he x (by simp [Op.operands]), he y (by simp [Op.operands])]
    exact storeW_local (fun ν hν => hn rfl x (by simp [Op.operands]) ν hν) (fun ν hν => hn rfl y (by simp [Op.operands]) ν hν)
  case nilCheck x =>
    rw [he x (by simp [Op.operands])]
    exact nilW_local fun ν hν => hn rfl x (by simp [Op.operands]) ν hν
  case binOp op T x y T' =>
    rw [he x (by simp [Op.operands]), he y (by simp [Op.operands])]
    rfl
  case unOp op T x => rw [he x (by simp [Op.operands])]
  case convert s d x => rw [he x (by simp [Op.operands])]
  case makeFunc fn first cap =>
    have : cap.toList.map ev = cap.toList.map ev' := List.map_congr_left fun x hx => he x (by simp only [Op.operands, Array.toList_append, List.mem_append]; exact .inr hx)
    rw [this]
  case makeSlice T l c => rw [he l (by simp [Op.operands]), he c (by simp [Op.operands])]
  case slice T x lo hi mx =>
    have e1 : lo.map ev = lo.map ev' := by cases lo with
      | none => rfl
      | some y => simp only [Option.map_some]; rw [he y (by simp [Op.operands])]
    have e2 : hi.map ev = hi.map ev' := by cases hi with
      | none => rfl
      | some y => simp only [Option.map_some]; rw [he y (by simp [Op.operands])]
    rw [e1, e2, he x (by simp [Op.operands])]
    cases mx with
    | none => exact sliceW_local fun ν hν => hn rfl x (by simp [Op.operands]) ν hν
    | some _ => rfl
  case fieldAddr T x f =>
    rw [he x (by simp [Op.operands])]
    exact fieldAddrW_local fun ν hν => hn rfl x (by simp [Op.operands]) ν hν
  case field T x f => rw [he x (by simp [Op.operands])]
  case indexAddr T x ix =>
    rw [he x (by simp [Op.operands]), he ix (by simp [Op.operands])]
    exact indexW_local fun ν hν => hn rfl x (by simp [Op.operands]) ν hν
  case extract x i => rw [he x (by simp [Op.operands])]
  case call c =>
    obtain ⟨cal, args, ats⟩ := c
    obtain ⟨args⟩ := args
    have ha : ∀ x, x ∈ args → ev x = ev' x := fun x hx => he x (by simp only [Op.operands, Call.operands, Array.toList_append, List.mem_append]; exact .inr hx)
    have hna : ∀ x, x ∈ args → ∀ ν, ν ∈ (ev' x).names → hp ν = hp' ν := fun x hx => hn rfl x (by simp only [Op.operands, Call.operands, Array.toList_append, List.mem_append]; exact .inr hx)
    have hm : args.map ev = args.map ev' := List.map_congr_left ha
    cases cal with
    | value f => rfl
    | invoke r m => rfl
    | builtin b =>
      cases b <;> try rfl
      case append =>
        simp only
        generalize ats.toList = l
        match args, ha, hna, l with
        | [x, y], ha, hna, [T, T'] =>
          simp only
          rw [ha x (by simp), ha y (by simp), appendW_local (hna x (by simp)) (hna y (by simp))]
        | [_, _], _, _, [] => rfl
        | [_, _], _, _, [_] => rfl
        | [_, _], _, _, _ :: _ :: _ :: _ => rfl
        | [], _, _, _ => rfl
        | [_], _, _, _ => rfl
        | _ :: _ :: _ :: _, _, _, _ => rfl
      case len =>
        simp only
        generalize ats.toList = l
        match args, ha, hna, l with
        | [x], ha, hna, [T] =>
          simp only
          rw [ha x (by simp), lenW_local (hna x (by simp))]
        | [_], _, _, [] => rfl
        | [_], _, _, _ :: _ :: _ => rfl
        | [], _, _, _ => rfl
        | _ :: _ :: _, _, _, _ => rfl
      case max => simp only; rw [hm]
      case min => simp only; rw [hm]
end
end Go.Proofs.Ythdioaeekhkgcaa
namespace Go.Proofs.Ythdioaeekhkgcaa
set_option linter.unusedVariables false
set_option linter.unusedSimpArgs false
open Go.RowKit

/-- A callee's contract, at these arguments, in a memory that has these names. -/
def CallR (P : Program) (f : FuncId) (avs : List AV) (hp : Hp) (E : Eff) : Prop :=
  (∃ fn, P.funcs[f]? = some fn ∧ fn.body.isNone = false ∧ (fn.name == "runtime.NumGoroutine") = false) ∧
  ∀ φ hp1 lo w0 w (vs : List Value), (∀ ν, ν ∈ namesL avs → hp1 ν = hp ν) → HC φ hp1 lo w0 w → vs.length = avs.length → (∀ i, i < avs.length → AVC φ hp1 w (avs.getD i .any) (vs.getD i undef)) →
    Calls P f vs.toArray w fun e w' => ∃ v, e = .returned v ∧ Out φ hp1 lo w0 w E.up E.nw E.val v w'
def callOf (ev : Operand → AV) : Op → Option (FuncId × List AV)
  | .call c => match c.callee with
    | .value x => match ev x with
      | .fn (.func f) caps => some (f, c.args.toList.map ev ++ caps)
      | _ => none
    | _ => none
  | _ => none
def OpR (P : Program) (ti : TI) (o : Op) (ev : Operand → AV) (hp : Hp) (E : Eff) : Prop :=
  match callOf ev o with
  | some (f, avs) => CallR P f avs hp E
  | none => opW ti ev hp o = some E ∧ E.cond
/-- The frame's slots stand for these values, memory for these names. -/
def Conc (lo : Nat) (w0 : World) (φ0 : Nat → Loc) (hp0 : Hp) (N : Nat) (tm : Nat → AV) (hp : Hp) (a : Act) (w : World) : Prop :=
  ∃ φ, HC φ hp lo w0 w ∧ Evo φ0 hp0 w0 φ hp w ∧ (∀ t, AVC φ hp w (tm t) (a.tmps.getD t undef)) ∧ a.defers = [] ∧ a.tmps.size = N

theorem mem_namesL {l : List AV} {ν : Nat} (h : ν ∈ namesL l) : ∃ a, a ∈ l ∧ ν ∈ a.names := by
  induction l with
  | nil => simp [namesL] at h
  | cons a l ih =>
    rw [namesL, List.mem_append] at h
    rcases h with h | h
    · exact ⟨a, by simp, h⟩
    · obtain ⟨b, h1, h2⟩ := ih h; exact ⟨b, List.mem_cons_of_mem _ h1, h2⟩
theorem callOf_eq {ev : Operand → AV} {o : Op} {f : FuncId} {avs : List AV} (h : callOf ev o = some (f, avs)) : ∃ x caps args ats, o = .call { callee := .value x, args := args, argTypes := ats } ∧ ev x = .fn (.func f) caps ∧ avs = args.toList.map ev ++ caps := by
  cases o <;> simp only [callOf, reduceCtorEq] at h
  rename_i c
  obtain ⟨cal, avs, ats⟩ := c
  simp only at h
  split at h
  · rename_i x
    split at h
    · rename_i f' caps hx
      injection h with h
      injection h with h1 h2
      subst h1
      exact ⟨_, _, _, _, rfl, hx, h2.symm⟩
    · cases h
  · cases h
theorem callOf_congr {ev ev' : Operand → AV} {o : Op} (he : ∀ x, x ∈ o.operands.toList → ev x = ev' x) : callOf ev o = callOf ev' o := by
  cases o <;> try rfl
  rename_i c
  obtain ⟨cal, avs, ats⟩ := c
  cases cal <;> try rfl
  rename_i x
  simp only [callOf]
  rw [he x (by simp [Op.operands, Call.operands])]
  have : avs.toList.map ev = avs.toList.map ev' := List.map_congr_left fun y hy => he y (by simp only [Op.operands, Call.operands, Array.toList_append, List.mem_append]; exact .inr hy)
  rw [this]
theorem OpR_local {P : Program} {ti : TI} {o : Op} {ev ev' : Operand → AV} {hp hp' : Hp} {E : Eff} (he : ∀ x, x ∈ o.operands.toList → ev x = ev' x) (h : ∀ ν, ν ∈ rdN o ev → hp ν = hp' ν) (hR : OpR P ti o ev hp E) : OpR P ti o ev' hp' E := by
  unfold OpR at hR ⊢
  rw [← callOf_congr he]
  cases hc : callOf ev o with
  | none => rw [hc] at hR; simp only at hR ⊢; rw [← opW_local he h]; exact hR
  | some p =>
    obtain ⟨f, avs⟩ := p
    rw [hc] at hR
    simp only at hR ⊢
    obtain ⟨x, caps, args, ats, rfl, hx, rfl⟩ := callOf_eq hc
    refine ⟨hR.1, fun φ hp1 lo w0 w vs h1 => hR.2 φ hp1 lo w0 w vs fun ν hν => ?_⟩
    rw [h1 ν hν]
    obtain ⟨a, ha1, ha2⟩ := mem_namesL hν
    have key : ∀ y, y ∈ (Op.call { callee := .value x, args := args, argTypes := ats }).operands.toList → ν ∈ (ev y).names → hp' ν = hp ν := fun y hy hn => (h ν (by
      simp only [rdN, Op.still, Bool.false_eq_true, ↓reduceIte]
      exact namesL_mem (a := ev y) (List.mem_map.2 ⟨y, hy, rfl⟩) hn)).symm
    rcases List.mem_append.1 ha1 with ha1 | ha1
    · obtain ⟨y, hy1, hy2⟩ := List.mem_map.1 ha1
      exact key y (by simp only [Op.operands, Call.operands, Array.toList_append, List.mem_append]; exact .inr hy1) (by rw [hy2]; exact ha2)
    · exact key x (by simp [Op.operands, Call.operands]) (by rw [hx, AV.names]; exact namesL_mem ha1 ha2)

theorem ev_avc {φ : Nat → Loc} {hp : Hp} {w : World} {tm : Nat → AV} {a : Act} (h : ∀ t, AVC φ hp w (tm t) (a.tmps.getD t undef)) (x : Operand) : AVC φ hp w (evT tm x) (a.eval x) := by
  cases x with
  | tmp t => exact h t
  | const v => exact avc_const v
  | global g => exact .k _
  | func f => exact .fn (l := []) (vs := []) rfl fun i hi => by simp at hi
theorem avc_fn {φ : Nat → Loc} {hp : Hp} {w : World} {f : Fn} {l : List AV} {v : Value} (h : AVC φ hp w (.fn f l) v) : ∃ vs : List Value, v = .func f #[] vs.toArray ∧ vs.length = l.length ∧ ∀ i, i < l.length → AVC φ hp w (l.getD i .any) (vs.getD i undef) := by
  cases h with
  | fn hl h => exact ⟨_, rfl, hl, h⟩
theorem put_avc {φ : Nat → Loc} {hp : Hp} {w : World} {tm : Nat → AV} {a : Act} {dst : Option Nat} {av : AV} {v : Value} {N : Nat} (h : ∀ t, AVC φ hp w (tm t) (a.tmps.getD t undef)) (hN : a.tmps.size = N) (hd : ∀ d, dst = some d → d < N) (hv : AVC φ hp w av v) :
    (∀ t, AVC φ hp w (updO tm dst av t) ((a.put dst v).tmps.getD t undef)) ∧ (a.put dst v).defers = a.defers ∧ (a.put dst v).tmps.size = N := by
  cases dst with
  | none => exact ⟨h, rfl, hN⟩
  | some d =>
    have hdN := hd d rfl
    refine ⟨fun t => ?_, rfl, by simp [Act.put, hN]⟩
    simp only [updO, Act.put]
    by_cases e : t = d
    · subst e
      rw [upd_same]
      simp [Array.getD_eq_getD_getElem?, hN, hdN]
      exact hv
    · rw [upd_ne e]
      have := h t
      rw [Array.getD_eq_getD_getElem?] at this ⊢
      rw [Array.getElem?_setIfInBounds_ne (Ne.symm e)]
      exact this
theorem upon_ok {P : Program} {o : Oper} {a : Act} {next : Act → World → Prop} {Q : Exit → Act → World → Prop} {r : Next} {v : Value} {w' : World} (h : r = .value v ∨ (r = .skip ∧ v = undef)) (hn : next (a.put o.dst v) w') : o.upon P a next Q (.ok r w') := by
  rcases h with rfl | ⟨rfl, rfl⟩ <;> exact hn
/-- One operation. -/
theorem op_step {P : Program} {ti : TI} (hT : TIok P ti) {o : Oper} {lo N : Nat} {w0 w : World} {φ0 : Nat → Loc} {hp0 : Hp} {tm : Nat → AV} {hp : Hp} {a : Act} {E : Eff} {Q : Exit → Act → World → Prop} (hR : OpR P ti o.op (evT tm) hp E) (hC : Conc lo w0 φ0 hp0 N tm hp a w) (hd : ∀ d, o.dst = some d → d < N)
    {ν : List Nat} (h1 : ν.length = E.nw.length) (h2 : ν.Nodup) (h3 : ∀ x, x ∈ ν → hp x = none) : o.wp P a w (Conc lo w0 φ0 hp0 N (updO tm o.dst (E.val ν)) (hpNew (hpUp hp E.up) ν E.nw)) Q := by
  obtain ⟨φ, H, EV0, ht, hdf, hN⟩ := hC
  have fin : ∀ v w', Out φ hp lo w0 w E.up E.nw E.val v w' → Conc lo w0 φ0 hp0 N (updO tm o.dst (E.val ν)) (hpNew (hpUp hp E.up) ν E.nw) (a.put o.dst v) w' := by
    intro v w' hO
    obtain ⟨φ', H', EV, hv⟩ := hO ν h1 h2 h3
    obtain ⟨p1, p2, p3⟩ := put_avc (fun t => (ht t).evo EV) hN hd hv
    exact ⟨φ', H', EV0.trans EV, p1, p2.trans hdf, p3⟩
  unfold OpR at hR
  cases hc : callOf (evT tm) o.op with
  | none =>
    rw [hc] at hR
    obtain ⟨r, v, w', q1, q2, q3⟩ := opW_sound hT H (o := o) (ρ := a.eval) (ev_avc ht) hR.1 hR.2
    unfold Oper.wp
    rw [q1]
    exact upon_ok q2 (fin v w' q3)
  | some p =>
    obtain ⟨f, avs⟩ := p
    rw [hc] at hR
    simp only at hR
    obtain ⟨x, caps, args, ats, hop, hx, rfl⟩ := callOf_eq hc
    obtain ⟨⟨fn, f1, f2, f3⟩, hcall⟩ := hR
    obtain ⟨m1, m2⟩ := mapL_getD (l := args.toList) (ev_avc ht)
    have hfn := ev_avc ht x
    rw [hx] at hfn
    obtain ⟨cs, hv, c1, c2⟩ := avc_fn hfn
    have hC := hcall φ hp lo w0 w (args.toList.map a.eval ++ cs) (fun _ _ => rfl) H (by simp [c1]) fun i hi => by
      simp only [List.length_append, List.length_map] at hi
      by_cases h : i < args.toList.length
      · rw [List.getD_eq_getElem?_getD, List.getElem?_append_left (by simpa using h), ← List.getD_eq_getElem?_getD, List.getD_eq_getElem?_getD (l := args.toList.map a.eval ++ cs), List.getElem?_append_left (by simpa using h), ← List.getD_eq_getElem?_getD]
        exact m2 i (by simpa using h)
      · rw [List.getD_eq_getElem?_getD, List.getElem?_append_right (by simpa using h), ← List.getD_eq_getElem?_getD, List.getD_eq_getElem?_getD (l := args.toList.map a.eval ++ cs), List.getElem?_append_right (by simpa using h), ← List.getD_eq_getElem?_getD]
        simp only [List.length_map]
        exact c2 _ (by omega)
    unfold Oper.wp
    have f3' : ¬ fn.name = "runtime.NumGoroutine" := by simpa using f3
    have hrun : (execOp a.eval o).run P w = .ok (.enter f (args.toList.map a.eval ++ cs).toArray) w := by
      unfold execOp
      rw [hop]
      obtain ⟨b, hb⟩ : ∃ b, fn.body = some b := by cases hb : fn.body with | none => rw [hb] at f2; cases f2 | some b => exact ⟨b, rfl⟩
      simp [resolve, hv, Deferred.ofValue, invoke, callFunc, f1, hb, f3', program, Sem.run]
    rw [hrun]
    exact hC.mono fun e w' ⟨v, he, hO⟩ => by subst he; exact fin v w' hO

/-! ### Steps, recorded -/
structure Foot where
  rd : List Nat
  wr : List Nat
  nw : List Nat
inductive TStep where
  | skip
  | run (E : Eff) (ν : List Nat)
def Wants (ops : Array Oper) (tm : Nat → AV) (o : Oper) (b : Bool) : Prop :=
  match o.guard with
  | none => b = true
  | some (j, want) => ∃ d, (ops[j]?).bind (·.dst) = some d ∧ ((∃ t, tm d = .c (.bool t) ∧ b = (t == want)) ∨ (tm d = .k undef ∧ b = false))
structure TE where
  i : Nat
  o : Oper
  st : TStep
  ft : Foot
def footOf (tm : Nat → AV) (o : Oper) : TStep → Foot
  | .skip => ⟨[], [], []⟩
  | .run E ν => ⟨rdN o.op (evT tm), E.up.map (·.1), ν⟩
def aftT (tm : Nat → AV) (e : TE) : Nat → AV :=
  match e.st with
  | .skip => updO tm e.o.dst (.k undef)
  | .run E ν => updO tm e.o.dst (E.val ν)
def aftH (hp : Hp) (e : TE) : Hp :=
  match e.st with
  | .skip => hp
  | .run E ν => hpNew (hpUp hp E.up) ν E.nw
def Val (P : Program) (ti : TI) (ops : Array Oper) (tm : Nat → AV) (hp : Hp) (e : TE) : Prop :=
  e.ft = footOf tm e.o e.st ∧
  match e.st with
  | .skip => Wants ops tm e.o false
  | .run E ν => Wants ops tm e.o true ∧ OpR P ti e.o.op (evT tm) hp E ∧ ν.length = E.nw.length ∧ ν.Nodup ∧ ∀ x, x ∈ ν → hp x = none
def TrV (P : Program) (ti : TI) (ops : Array Oper) : List TE → (Nat → AV) → Hp → Prop
  | [], _, _ => True
  | e :: l, tm, hp => Val P ti ops tm hp e ∧ TrV P ti ops l (aftT tm e) (aftH hp e)
def endT : List TE → (Nat → AV) → Nat → AV
  | [], tm => tm
  | e :: l, tm => endT l (aftT tm e)
def endH : List TE → Hp → Hp
  | [], hp => hp
  | e :: l, hp => endH l (aftH hp e)
def Disj (l m : List Nat) : Prop := ∀ x, x ∈ l → ∀ y, y ∈ m → x ≠ y
def Indep (f g : Foot) : Prop := Disj (f.wr ++ f.nw) (g.rd ++ g.wr) ∧ Disj (g.wr ++ g.nw) (f.rd ++ f.wr)

theorem hpUp_out {hp : Hp} {l : List (Nat × Ent)} {ν : Nat} (h : ¬ ν ∈ l.map (·.1)) : hpUp hp l ν = hp ν := by
  induction l generalizing hp with
  | nil => rfl
  | cons p l ih =>
    simp only [List.map_cons, List.mem_cons, not_or] at h
    show hpUp (upd hp p.1 (some p.2)) l ν = _
    rw [ih h.2, upd_ne h.1]
theorem hpNew_zip (hp : Hp) : ∀ (ν : List Nat) (nw : List Ent), hpNew hp ν nw = hpUp hp (ν.zip nw) := by
  intro ν
  induction ν generalizing hp with
  | nil => intro nw; cases nw <;> rfl
  | cons x ν ih =>
    intro nw
    cases nw with
    | nil => rfl
    | cons e nw => exact ih _ _
theorem hpUp_upd {hp : Hp} {l : List (Nat × Ent)} {ν : Nat} {e : Option Ent} (h : ¬ ν ∈ l.map (·.1)) : hpUp (upd hp ν e) l = upd (hpUp hp l) ν e := by
  induction l generalizing hp with
  | nil => rfl
  | cons p l ih =>
    simp only [List.map_cons, List.mem_cons, not_or] at h
    show hpUp (upd (upd hp ν e) p.1 (some p.2)) l = upd (hpUp (upd hp p.1 (some p.2)) l) ν e
    rw [upd_comm _ _ _ h.1, ih h.2]
theorem hpUp_comm {hp : Hp} {l m : List (Nat × Ent)} (h : ∀ x, x ∈ l.map (·.1) → ¬ x ∈ m.map (·.1)) : hpUp (hpUp hp l) m = hpUp (hpUp hp m) l := by
  induction l generalizing hp with
  | nil => rfl
  | cons p l ih =>
    have h1 := h p.1 (by simp)
    show hpUp (hpUp (upd hp p.1 (some p.2)) l) m = hpUp (upd (hpUp hp m) p.1 (some p.2)) l
    rw [ih fun x hx => h x (by simp only [List.map_cons, List.mem_cons]; exact .inr hx), hpUp_upd h1]
theorem hpUp_two (hp : Hp) (l m : List (Nat × Ent)) : hpUp (hpUp hp l) m = hpUp hp (l ++ m) := (hpUp_app hp l m).symm
/-- All that a step says anew. -/
def ups (e : TE) : List (Nat × Ent) :=
  match e.st with
  | .skip => []
  | .run E ν => E.up ++ ν.zip E.nw
theorem aftH_ups (hp : Hp) (e : TE) : aftH hp e = hpUp hp (ups e) := by
  unfold aftH ups
  cases e.st with
  | skip => rfl
  | run E ν => simp only; rw [hpNew_zip, hpUp_two]
theorem ups_foot {tm : Nat → AV} {e : TE} (h : e.ft = footOf tm e.o e.st) {x : Nat} (hx : x ∈ (ups e).map (·.1)) : x ∈ e.ft.wr ++ e.ft.nw := by
  unfold ups at hx
  cases hs : e.st with
  | skip => rw [hs] at hx; simp at hx
  | run E ν =>
    rw [hs] at hx h
    rw [h]
    simp only [List.map_append, List.mem_append, footOf] at hx ⊢
    rcases hx with hx | hx
    · exact .inl hx
    · obtain ⟨p, hp, e⟩ := List.mem_map.1 hx
      rw [← e]
      exact .inr (List.of_mem_zip hp).1
theorem evT_updO {tm : Nat → AV} {dst : Option Nat} {v : AV} {x : Operand} (h : ∀ d, dst = some d → x ≠ .tmp d) : evT (updO tm dst v) x = evT tm x := by
  cases dst with
  | none => rfl
  | some d =>
    cases x with
    | tmp t => exact upd_ne fun e => h d rfl (by rw [e])
    | _ => rfl
theorem updO_comm {tm : Nat → AV} {d d' : Option Nat} {v v' : AV} (h : ∀ x, d = some x → d' ≠ some x) : updO (updO tm d v) d' v' = updO (updO tm d' v') d v := by
  cases d with
  | none => rfl
  | some x =>
    cases d' with
    | none => rfl
    | some y => exact upd_comm _ _ _ fun e => h x rfl (by rw [e])
theorem aftT_dst (tm : Nat → AV) (e : TE) : ∃ v, ∀ tm', aftT tm' e = updO tm' e.o.dst v := by
  unfold aftT
  cases e.st with
  | skip => exact ⟨.k undef, fun _ => rfl⟩
  | run E ν => exact ⟨E.val ν, fun _ => rfl⟩
section
variable {P : Program} {ti : TI} {ops : Array Oper}
theorem looks_ops {o : Oper} {t : Nat} (h : Operand.tmp t ∈ o.op.operands.toList) : t ∈ o.looksAt ops := by
  unfold Oper.looksAt
  exact List.mem_append_left _ (List.mem_filterMap.2 ⟨_, h, rfl⟩)
theorem looks_guard {o : Oper} {j : Nat} {want : Bool} {d : Nat} (h : o.guard = some (j, want)) (hd : (ops[j]?).bind (·.dst) = some d) : d ∈ o.looksAt ops := by
  unfold Oper.looksAt
  rw [h]
  simp [hd]
theorem Wants_same {tm : Nat → AV} {o : Oper} {b : Bool} {dst : Option Nat} {v : AV} (h : ∀ d, dst = some d → ¬ d ∈ o.looksAt ops) : Wants ops (updO tm dst v) o b ↔ Wants ops tm o b := by
  unfold Wants
  cases hg : o.guard with
  | none => exact Iff.rfl
  | some p =>
    obtain ⟨j, want⟩ := p
    have : ∀ d, (ops[j]?).bind (·.dst) = some d → updO tm dst v d = tm d := by
      intro d hd
      cases dst with
      | none => rfl
      | some d' => exact upd_ne fun e => h d' rfl (by rw [← e]; exact looks_guard hg hd)
    simp only
    constructor
    · rintro ⟨d, h1, h2⟩; exact ⟨d, h1, by rw [← this d h1]; exact h2⟩
    · rintro ⟨d, h1, h2⟩; exact ⟨d, h1, by rw [this d h1]; exact h2⟩
/-- A step is avs good where another step, apart from it, was not made yet, or was made already. -/
theorem Val_move {tm : Nat → AV} {hp hp' : Hp} {e : TE} {dst : Option Nat} {v : AV} (hap : ∀ d, dst = some d → ¬ d ∈ e.o.looksAt ops) (hrd : ∀ ν, ν ∈ e.ft.rd → hp ν = hp' ν) (hnw : ∀ x, x ∈ e.ft.nw → hp x = none → hp' x = none)
    (h : Val P ti ops tm hp e) : Val P ti ops (updO tm dst v) hp' e := by
  have hev : ∀ x, x ∈ e.o.op.operands.toList → evT tm x = evT (updO tm dst v) x := fun x hx => (evT_updO fun d hd hxd => hap d hd (looks_ops (by rw [← hxd]; exact hx))).symm
  obtain ⟨h1, h2⟩ := h
  have hft : footOf (updO tm dst v) e.o e.st = footOf tm e.o e.st := by
    unfold footOf
    cases e.st with
    | skip => rfl
    | run E ν =>
      simp only [Foot.mk.injEq, and_true]
      unfold rdN
      split
      · rfl
      · congr 1; exact List.map_congr_left fun x hx => (hev x hx).symm
  refine ⟨h1.trans hft.symm, ?_⟩
  cases hs : e.st with
  | skip => rw [hs] at h2; exact (Wants_same hap).2 h2
  | run E ν =>
    rw [hs] at h2 h1
    simp only at h2 ⊢
    obtain ⟨g1, g2, g3, g4, g5⟩ := h2
    have hrd' : ∀ x, x ∈ rdN e.o.op (evT tm) → hp x = hp' x := fun x hx => hrd x (by rw [h1]; exact hx)
    exact ⟨(Wants_same hap).2 g1, OpR_local hev hrd' g2, g3, g4, fun x hx => hnw x (by rw [h1]; exact hx) (g5 x hx)⟩
theorem Val_back {tm : Nat → AV} {hp hp' : Hp} {e : TE} {dst : Option Nat} {v : AV} (hap : ∀ d, dst = some d → ¬ d ∈ e.o.looksAt ops) (hrd : ∀ ν, ν ∈ e.ft.rd → hp ν = hp' ν) (hnw : ∀ x, x ∈ e.ft.nw → hp x = none → hp' x = none)
    (h : Val P ti ops (updO tm dst v) hp e) : Val P ti ops tm hp' e := by
  have hev : ∀ x, x ∈ e.o.op.operands.toList → evT (updO tm dst v) x = evT tm x := fun x hx => evT_updO fun d hd hxd => hap d hd (looks_ops (by rw [← hxd]; exact hx))
  obtain ⟨h1, h2⟩ := h
  have hft : footOf (updO tm dst v) e.o e.st = footOf tm e.o e.st := by
    unfold footOf
    cases e.st with
    | skip => rfl
    | run E ν =>
      simp only [Foot.mk.injEq, and_true]
      unfold rdN
      split
      · rfl
      · congr 1; exact List.map_congr_left fun x hx => hev x hx
  refine ⟨h1.trans hft, ?_⟩
  cases hs : e.st with
  | skip => rw [hs] at h2; exact (Wants_same hap).1 h2
  | run E ν =>
    rw [hs] at h2 h1
    simp only at h2 ⊢
    obtain ⟨g1, g2, g3, g4, g5⟩ := h2
    have hrd' : ∀ x, x ∈ rdN e.o.op (evT (updO tm dst v)) → hp x = hp' x := fun x hx => hrd x (by rw [h1]; exact hx)
    exact ⟨(Wants_same hap).1 g1, OpR_local hev hrd' g2, g3, g4, fun x hx => hnw x (by rw [h1]; exact hx) (g5 x hx)⟩
def Ind (ops : Array Oper) (a e : TE) : Prop := a.o.apart ops e.o = true ∧ Indep a.ft e.ft
theorem domup_ {hp : Hp} {l : List (Nat × Ent)} {x : Nat} (h : hpUp hp l x = none) : hp x = none ∧ ¬ x ∈ l.map (·.1) := by
  induction l generalizing hp with
  | nil => exact ⟨h, by simp⟩
  | cons p l ih =>
    obtain ⟨h1, h2⟩ := ih (hp := upd hp p.1 (some p.2)) h
    have hne : x ≠ p.1 := fun e => by rw [e, upd_same] at h1; cases h1
    rw [upd_ne hne] at h1
    exact ⟨h1, by simp only [List.map_cons, List.mem_cons, not_or]; exact ⟨hne, h2⟩⟩
theorem ups_nw {e : TE} {E : Eff} {ν : List Nat} (h : e.st = .run E ν) (hl : ν.length = E.nw.length) {x : Nat} (hx : x ∈ ν) : x ∈ (ups e).map (·.1) := by
  unfold ups
  rw [h]
  simp only [List.map_append, List.mem_append]
  refine .inr ?_
  rw [List.map_fst_zip (by omega)]
  exact hx
/-- Two steps that are apart change places. -/
theorem swap {tm : Nat → AV} {hp : Hp} {a e : TE} (hI : Ind ops a e) (h1 : Val P ti ops tm hp a) (h2 : Val P ti ops (aftT tm a) (aftH hp a) e) :
    Val P ti ops tm hp e ∧ Val P ti ops (aftT tm e) (aftH hp e) a ∧ aftT (aftT tm e) a = aftT (aftT tm a) e ∧ aftH (aftH hp e) a = aftH (aftH hp a) e := by
  obtain ⟨hap, hd1, hd2⟩ := hI
  obtain ⟨s1, s2, s3⟩ := Oper.apart_spec hap
  obtain ⟨va, hva⟩ := aftT_dst tm a
  obtain ⟨ve, hve⟩ := aftT_dst tm e
  have hfa := h1.1
  have hfe : e.ft = footOf (aftT tm a) e.o e.st := h2.1
  have ua : ∀ x, x ∈ (ups a).map (·.1) → x ∈ a.ft.wr ++ a.ft.nw := fun x hx => ups_foot hfa hx
  have ue : ∀ x, x ∈ (ups e).map (·.1) → x ∈ e.ft.wr ++ e.ft.nw := fun x hx => ups_foot hfe hx
  have k1 : Val P ti ops tm hp e := by
    rw [hva] at h2
    refine Val_back s1 (fun ν hν => ?_) (fun x hx hn => ?_) h2
    · rw [aftH_ups, hpUp_out]; intro hx; exact hd1 ν (ua ν hx) ν (List.mem_append_left _ hν) rfl
    · rw [aftH_ups] at hn; exact (domup_ hn).1
  have fresh : ∀ x, x ∈ e.ft.nw → ¬ x ∈ (ups a).map (·.1) := by
    intro x hx
    have hst := h2.2
    cases hs : e.st with
    | skip => rw [hfe, hs] at hx; simp [footOf] at hx
    | run E ν =>
      rw [hs] at hst
      simp only at hst
      obtain ⟨_, _, _, _, g5⟩ := hst
      rw [hfe, hs] at hx
      have := g5 x hx
      rw [aftH_ups] at this
      exact (domup_ this).2
  have disj : ∀ x, x ∈ (ups a).map (·.1) → ¬ x ∈ (ups e).map (·.1) := by
    intro x h3 h4
    rcases List.mem_append.1 (ue x h4) with h5 | h5
    · exact hd1 x (ua x h3) x (List.mem_append_right _ h5) rfl
    · exact fresh x h5 h3
  have k2 : Val P ti ops (aftT tm e) (aftH hp e) a := by
    rw [hve]
    refine Val_move s3 (fun ν hν => ?_) (fun x hx hn => ?_) h1
    · rw [aftH_ups, hpUp_out]; intro hx; exact hd2 ν (ue ν hx) ν (List.mem_append_left _ hν) rfl
    · rw [aftH_ups, hpUp_out]
      · exact hn
      · intro hxe
        have hst := h1.2
        cases hs : a.st with
        | skip => rw [hfa, hs] at hx; simp [footOf] at hx
        | run E ν =>
          rw [hs] at hst
          simp only at hst
          rw [hfa, hs] at hx
          exact disj x (ups_nw hs hst.2.2.1 hx) hxe
  refine ⟨k1, k2, ?_, ?_⟩
  · rw [hve tm, hva tm, hva, hve, updO_comm fun x h => ?_]
    intro h'; exact s2 x h' h
  · rw [aftH_ups, aftH_ups, aftH_ups, aftH_ups]
    exact (hpUp_comm disj).symm
/-- A step that is apart from all that stand ahead of it may be made first. -/
theorem pick {e : TE} {β : List TE} : ∀ (α : List TE) (tm : Nat → AV) (hp : Hp), (∀ a, a ∈ α → Ind ops a e) → TrV P ti ops (α ++ e :: β) tm hp →
    Val P ti ops tm hp e ∧ TrV P ti ops (α ++ β) (aftT tm e) (aftH hp e) ∧ endT (α ++ β) (aftT tm e) = endT (α ++ e :: β) tm ∧ endH (α ++ β) (aftH hp e) = endH (α ++ e :: β) hp := by
  intro α
  induction α with
  | nil => intro tm hp _ h; exact ⟨h.1, h.2, rfl, rfl⟩
  | cons a α ih =>
    intro tm hp hI h
    obtain ⟨h1, h2⟩ := h
    obtain ⟨g1, g2, g3, g4⟩ := ih _ _ (fun b hb => hI b (List.mem_cons_of_mem _ hb)) h2
    obtain ⟨k1, k2, k3, k4⟩ := swap (hI a (by simp)) h1 g1
    refine ⟨k1, ⟨k2, ?_⟩, ?_, ?_⟩
    · rw [k3, k4]; exact g2
    · show endT (α ++ β) (aftT (aftT tm e) a) = _; rw [k3]; exact g3
    · show endH (α ++ β) (aftH (aftH hp e) a) = _; rw [k4]; exact g4
end
end Go.Proofs.Ythdioaeekhkgcaa
namespace Go.Proofs.Ythdioaeekhkgcaa
set_option linter.unusedVariables false
set_option linter.unusedSimpArgs false
open Go.RowKit

/-- One operation of a region, walked. -/
def awOp (P : Program) (ti : TI) (o : Op) (ev : Operand → AV) (hp : Hp) (k : Eff → Prop) : Prop :=
  match callOf ev o with
  | some (f, avs) => ∃ E, CallR P f avs hp E ∧ k E
  | none => match opW ti ev hp o with
    | some E => E.cond ∧ k E
    | none => False
def awOps (P : Program) (ti : TI) (ops : Array Oper) : List Oper → (List Foot → (Nat → AV) → Hp → Prop) → List Foot → (Nat → AV) → Hp → Prop
  | [], K, acc, tm, hp => K acc tm hp
  | o :: l, K, acc, tm, hp =>
    match o.guard with
    | none => awOp P ti o.op (evT tm) hp fun E => FA E.nw (hpUp hp E.up) [] fun hp' ν => awOps P ti ops l K (acc ++ [⟨rdN o.op (evT tm), E.up.map (·.1), ν⟩]) (updO tm o.dst (E.val ν)) hp'
    | some (j, want) => match (ops[j]?).bind (·.dst) with
      | none => False
      | some d => match tm d with
        | .c (.bool t) => (t = want → awOp P ti o.op (evT tm) hp fun E => FA E.nw (hpUp hp E.up) [] fun hp' ν => awOps P ti ops l K (acc ++ [⟨rdN o.op (evT tm), E.up.map (·.1), ν⟩]) (updO tm o.dst (E.val ν)) hp') ∧
            (t ≠ want → awOps P ti ops l K (acc ++ [⟨[], [], []⟩]) (updO tm o.dst (.k undef)) hp)
        | .k v => v = undef ∧ awOps P ti ops l K (acc ++ [⟨[], [], []⟩]) (updO tm o.dst (.k undef)) hp
        | _ => False

theorem FA_inst : ∀ (es : List Ent) (hp : Hp) (acc : List Nat) (k : Hp → List Nat → Prop), FA es hp acc k → ∃ ν : List Nat, ν.length = es.length ∧ ν.Nodup ∧ (∀ x, x ∈ ν → hp x = none) ∧ k (hpNew hp ν es) (acc ++ ν) := by
  intro es
  induction es with
  | nil =>
    intro hp acc k h
    exact ⟨[], rfl, List.nodup_nil, (fun x hx => by cases hx), (by rw [List.append_nil]; exact h)⟩
  | cons e es ih =>
    intro hp acc k h
    obtain ⟨x, hx, h⟩ := h
    obtain ⟨ν, h1, h2, h3, h4⟩ := ih _ _ _ h
    have hn : ∀ y, y ∈ ν → y ≠ x ∧ hp y = none := fun y hy => by
      have := h3 y hy
      by_cases e' : y = x
      · subst e'; rw [upd_same] at this; cases this
      · rw [upd_ne e'] at this; exact ⟨e', this⟩
    refine ⟨x :: ν, by simp [h1], List.nodup_cons.2 ⟨fun hm => (hn x hm).1 rfl, h2⟩, fun y hy => ?_, ?_⟩
    · rcases List.mem_cons.1 hy with rfl | hy
      · exact hx
      · exact (hn y hy).2
    · rw [List.append_assoc] at h4
      exact h4
def Fin' (hp : Hp) : Prop := ∃ b, ∀ ν, b ≤ ν → hp ν = none
theorem fin_ups {hp : Hp} (h : Fin' hp) (l : List (Nat × Ent)) : Fin' (hpUp hp l) := by
  induction l generalizing hp with
  | nil => exact h
  | cons p l ih => exact ih (fin_up h p.1 p.2)
theorem fresh_names {hp : Hp} (h : Fin' hp) (n : Nat) : ∃ ν : List Nat, ν.length = n ∧ ν.Nodup ∧ ∀ x, x ∈ ν → hp x = none := by
  obtain ⟨b, hb⟩ := h
  exact ⟨List.range' b n, by simp, List.nodup_range', fun x hx => hb x (by simp [List.mem_range'] at hx; omega)⟩
section
variable {P : Program} {ti : TI} {ops : Array Oper}
/-- The walk, recorded. -/
theorem trace {K : List Foot → (Nat → AV) → Hp → Prop} : ∀ (l : List Oper) (s : Nat) (acc : List Foot) (tm : Nat → AV) (hp : Hp), Fin' hp → awOps P ti ops l K acc tm hp →
    ∃ R : List TE, R.map (·.o) = l ∧ R.map (·.i) = List.range' s l.length ∧ TrV P ti ops R tm hp ∧ K (acc ++ R.map (·.ft)) (endT R tm) (endH R hp) := by
  intro l
  induction l with
  | nil => intro s acc tm hp _ h; exact ⟨[], rfl, rfl, trivial, by rw [List.map_nil, List.append_nil]; exact h⟩
  | cons o l ih =>
    intro s acc tm hp hf h
    have run : ∀ (_ : Wants ops tm o true), (awOp P ti o.op (evT tm) hp fun E => FA E.nw (hpUp hp E.up) [] fun hp' ν => awOps P ti ops l K (acc ++ [⟨rdN o.op (evT tm), E.up.map (·.1), ν⟩]) (updO tm o.dst (E.val ν)) hp') →
        ∃ R : List TE, R.map (·.o) = o :: l ∧ R.map (·.i) = List.range' s (l.length + 1) ∧ TrV P ti ops R tm hp ∧ K (acc ++ R.map (·.ft)) (endT R tm) (endH R hp) := by
      intro hw h
      obtain ⟨E, hR, hk⟩ : ∃ E, OpR P ti o.op (evT tm) hp E ∧ FA E.nw (hpUp hp E.up) [] fun hp' ν => awOps P ti ops l K (acc ++ [⟨rdN o.op (evT tm), E.up.map (·.1), ν⟩]) (updO tm o.dst (E.val ν)) hp' := by
        unfold awOp at h
        unfold OpR
        cases hc : callOf (evT tm) o.op with
        | some p => rw [hc] at h; exact h
        | none =>
          rw [hc] at h
          simp only at h
          cases hE : opW ti (evT tm) hp o.op with
          | some E => rw [hE] at h; exact ⟨E, ⟨rfl, h.1⟩, h.2⟩
          | none => rw [hE] at h; exact h.elim
      obtain ⟨ν, n1, n2, n3, hnext⟩ := FA_inst _ _ _ _ hk
      have n3' : ∀ x, x ∈ ν → hp x = none := fun x hx => (domup_ (n3 x hx)).1
      rw [List.nil_append] at hnext
      obtain ⟨R, r1, r2, r3, r4⟩ := ih (s + 1) _ _ _ (by rw [hpNew_zip]; exact fin_ups (fin_ups hf _) _) hnext
      refine ⟨⟨s, o, .run E ν, ⟨rdN o.op (evT tm), E.up.map (·.1), ν⟩⟩ :: R, by simp [r1], by simp [r2, List.range'_succ], ⟨⟨rfl, hw, hR, n1, n2, n3'⟩, r3⟩, ?_⟩
      rw [List.map_cons, List.append_cons]
      exact r4
    simp only [awOps] at h
    split at h
    · rename_i hg; exact run (by unfold Wants; rw [hg]) h
    · rename_i j want hg
      split at h
      · exact h.elim
      · rename_i d hd
        split at h
        · rename_i t ht
          by_cases e : t = want
          · exact run (by unfold Wants; rw [hg]; exact ⟨d, hd, .inl ⟨t, ht, by subst e; simp⟩⟩) (h.1 e)
          · obtain ⟨R, r1, r2, r3, r4⟩ := ih (s + 1) _ _ _ hf (h.2 e)
            refine ⟨⟨s, o, .skip, ⟨[], [], []⟩⟩ :: R, by simp [r1], by simp [r2, List.range'_succ], ⟨⟨rfl, ?_⟩, r3⟩, ?_⟩
            · show Wants ops tm o false
              unfold Wants; rw [hg]
              exact ⟨d, hd, .inl ⟨t, ht, by cases t <;> cases want <;> simp_all⟩⟩
            · rw [List.map_cons, List.append_cons]
              exact r4
        · rename_i v ht
          obtain ⟨hv, h⟩ := h
          subst hv
          obtain ⟨R, r1, r2, r3, r4⟩ := ih (s + 1) _ _ _ hf h
          refine ⟨⟨s, o, .skip, ⟨[], [], []⟩⟩ :: R, by simp [r1], by simp [r2, List.range'_succ], ⟨⟨rfl, ?_⟩, r3⟩, ?_⟩
          · show Wants ops tm o false
            unfold Wants; rw [hg]
            exact ⟨d, hd, .inr ⟨ht, rfl⟩⟩
          · rw [List.map_cons, List.append_cons]
            exact r4
        · exact h.elim

theorem wanted_of {tm : Nat → AV} {hp : Hp} {φ : Nat → Loc} {w : World} {a : Act} {o : Oper} {b : Bool} (ht : ∀ t, AVC φ hp w (tm t) (a.tmps.getD t undef)) (h : Wants ops tm o b) : Region.wanted o (yielded ops a.tmps) = b := by
  unfold Wants at h
  unfold Region.wanted
  cases hg : o.guard with
  | none => rw [hg] at h; simp only at h ⊢; exact h.symm
  | some p =>
    obtain ⟨j, want⟩ := p
    rw [hg] at h
    obtain ⟨d, h1, ⟨t, h2, h3⟩ | ⟨h2, h3⟩⟩ := h
    rotate_left
    · have hd := ht d
      rw [h2] at hd
      have hu : a.tmps.getD d undef = undef := by
        revert hd
        generalize a.tmps.getD d undef = x
        intro hd
        cases hd; rfl
      have hy : yielded ops a.tmps j = none := by
        unfold yielded
        rw [h1]
        rw [Array.getD_eq_getD_getElem?] at hu
        cases hx : a.tmps[d]? with
        | none => simp [hx]
        | some u => rw [hx] at hu; simp at hu; subst hu; simp [hx, undef]
      simp only
      rw [hy, h3]
      cases want <;> rfl
    simp only
    have hd := ht d
    rw [h2] at hd
    have := avc_bool hd
    have hq : a.tmps[d]? = some (.bool t) := by
      rw [Array.getD_eq_getD_getElem?] at this
      cases hx : a.tmps[d]? with
      | none => rw [hx] at this; simp [undef] at this
      | some u => rw [hx] at this; simp at this; rw [this]
    have hy : yielded ops a.tmps j = some t := by
      unfold yielded
      rw [h1]
      simp [hq]
    rw [hy, h3]
    cases t <;> cases want <;> rfl
/-- One recorded step, carried out. -/
theorem step_sound (hT : TIok P ti) {lo N : Nat} {w0 w : World} {φ0 : Nat → Loc} {hp0 : Hp} {tm : Nat → AV} {hp : Hp} {a : Act} {e : TE} {Q : Exit → Act → World → Prop} {K : Act → World → Prop} (hV : Val P ti ops tm hp e) (hC : Conc lo w0 φ0 hp0 N tm hp a w) (hd : ∀ d, e.o.dst = some d → d < N)
    (hK : ∀ a' w', Conc lo w0 φ0 hp0 N (aftT tm e) (aftH hp e) a' w' → K a' w') : if Region.wanted e.o (yielded ops a.tmps) then e.o.wp P a w K Q ∨ (e.o.asks P a w ∧ LetsOut Q) else K (a.put e.o.dst undef) w := by
  obtain ⟨h1, h2⟩ := hV
  obtain ⟨φ, H, EV0, ht, hdf, hN⟩ := hC
  unfold aftT aftH at hK
  cases hs : e.st with
  | skip =>
    rw [hs] at h2 hK
    rw [wanted_of ht h2]
    simp only [Bool.false_eq_true, if_false]
    refine hK _ _ ?_
    obtain ⟨p1, p2, p3⟩ := put_avc (av := .k undef) (v := undef) ht hN hd (.k _)
    exact ⟨φ, H, EV0, p1, p2.trans hdf, p3⟩
  | run E ν =>
    rw [hs] at h2 hK
    obtain ⟨g1, g2, g3, g4, g5⟩ := h2
    rw [wanted_of ht g1, if_pos rfl]
    exact .inl (Oper.wp_mono hK (op_step hT g2 ⟨φ, H, EV0, ht, hdf, hN⟩ hd g3 g4 g5))
/-- In the text's order. -/
theorem list_sound (hT : TIok P ti) {lo N : Nat} {w0 : World} {φ0 : Nat → Loc} {hp0 : Hp} {Q : Exit → Act → World → Prop} : ∀ (R : List TE) (tm : Nat → AV) (hp : Hp) (a : Act) (w : World), TrV P ti ops R tm hp → (∀ e, e ∈ R → ∀ d, e.o.dst = some d → d < N) → Conc lo w0 φ0 hp0 N tm hp a w →
    (∀ a' w', Conc lo w0 φ0 hp0 N (endT R tm) (endH R hp) a' w' → Q .normal a' w') → wpList P ops Q (R.map (·.o)) a w := by
  intro R
  induction R with
  | nil => intro tm hp a w _ _ hC hQ; exact hQ _ _ hC
  | cons e R ih =>
    intro tm hp a w hV hd hC hQ
    obtain ⟨h1, h2⟩ := hV
    have := step_sound (Q := Q) (K := wpList P ops Q (R.map (·.o))) hT h1 hC (hd e (by simp)) fun a' w' hC' => ih _ _ _ _ h2 (fun e' he' => hd e' (List.mem_cons_of_mem _ he')) hC' hQ
    simp only [List.map_cons, wpList]
    exact this

/-! ### Any order -/
def edge (ops : Array Oper) (j i : Nat) : Bool :=
  match ops[i]? with
  | some o => o.after.any fun e => Region.binds .any e && e.on == j
  | none => false
/-- The edges go back, and steps without an edge are apart. -/
def stOK (ops : Array Oper) : Bool := (List.range ops.size).all fun i =>
  match ops[i]? with
  | some o => (o.after.all fun e => !Region.binds .any e || decide (e.on < i)) && (List.range i).all fun j => edge ops j i || match ops[j]? with
    | some oj => Oper.apart ops oj o
    | none => false
  | none => false
def unord (ops : Array Oper) : List (Nat × Nat) := (List.range ops.size).flatMap fun i => (List.range i).filterMap fun j => if edge ops j i then none else some (j, i)
def ftOK (ps : List (Nat × Nat)) (acc : List Foot) : Prop := ∀ p, p ∈ ps → Indep (acc.getD p.1 ⟨[], [], []⟩) (acc.getD p.2 ⟨[], [], []⟩)
structure Lst (ops : Array Oper) (R : List TE) (listed : Array Bool) : Prop where
  size : listed.size = ops.size
  ord : (R.map (·.i)).Pairwise (· < ·)
  mem : ∀ i, i < ops.size → (listed.getD i true = false ↔ i ∈ R.map (·.i))
  op : ∀ e, e ∈ R → ops[e.i]? = some e.o
theorem ready_mem {listed : Array Bool} {i : Nat} (h : i ∈ Region.ready .any ops listed) : i < ops.size ∧ listed.getD i true = false ∧ ∀ o, ops[i]? = some o → ∀ e, e ∈ o.after.toList → Region.binds .any e = true → listed.getD e.on false = true := by
  unfold Region.ready at h
  obtain ⟨h1, h2⟩ := List.mem_filter.1 h
  simp only [List.mem_range] at h1
  simp only [Bool.and_eq_true, Bool.not_eq_true'] at h2
  refine ⟨h1, h2.1, fun o ho e he hb => ?_⟩
  have h3 := h2.2
  rw [ho] at h3
  simp only [Option.map_some, Option.getD_some] at h3
  rw [← Array.all_toList] at h3
  have := List.all_eq_true.1 h3 e he
  simpa [hb] using this
theorem ready_of {listed : Array Bool} {i : Nat} {o : Oper} (h1 : i < ops.size) (h2 : listed.getD i true = false) (ho : ops[i]? = some o) (h : ∀ e, e ∈ o.after.toList → Region.binds .any e = true → listed.getD e.on false = true) : i ∈ Region.ready .any ops listed := by
  unfold Region.ready
  refine List.mem_filter.2 ⟨List.mem_range.2 h1, ?_⟩
  simp only [Bool.and_eq_true, Bool.not_eq_true']
  refine ⟨h2, ?_⟩
  rw [ho]
  simp only [Option.map_some, Option.getD_some]
  rw [← Array.all_toList]
  refine List.all_eq_true.2 fun e he => ?_
  cases hb : Region.binds .any e with
  | false => rfl
  | true => simp [h e he hb]
theorem any_sound (hT : TIok P ti) (hst : stOK ops = true) {lo N : Nat} {w0 : World} {φ0 : Nat → Loc} {hp0 : Hp} {Q : Exit → Act → World → Prop} : ∀ (n : Nat) (R : List TE) (listed : Array Bool) (tm : Nat → AV) (hp : Hp) (a : Act) (w : World), R.length = n → Lst ops R listed → TrV P ti ops R tm hp →
    (∀ α β e, R = α ++ e :: β → ∀ x, x ∈ α → edge ops x.i e.i = true ∨ Ind ops x e) → (∀ e, e ∈ R → ∀ d, e.o.dst = some d → d < N) → Conc lo w0 φ0 hp0 N tm hp a w →
    (∀ a' w', Conc lo w0 φ0 hp0 N (endT R tm) (endH R hp) a' w' → Q .normal a' w') → wpAny P .any ops Q n listed a w := by
  intro n
  induction n with
  | zero =>
    intro R listed tm hp a w hn hL hV hI hd hC hQ
    have : R = [] := List.eq_nil_of_length_eq_zero hn
    subst this
    refine ⟨?_, hQ _ _ hC⟩
    refine List.eq_nil_iff_forall_not_mem.2 fun i hi => ?_
    obtain ⟨h1, h2, _⟩ := ready_mem hi
    have := (hL.mem i h1).1 h2
    simp at this
  | succ n ih =>
    intro R listed tm hp a w hn hL hV hI hd hC hQ
    refine ⟨fun hr => ?_, fun i hi => ?_⟩
    · exfalso
      match R, hn with
      | e :: R, _ =>
        have hop := hL.op e (by simp)
        have hlt : e.i < ops.size := (Array.getElem?_eq_some_iff.1 hop).1
        have hun := (hL.mem e.i hlt).2 (by simp)
        have hready : e.i ∈ Region.ready .any ops listed := by
          refine ready_of hlt hun hop fun ed hed hb => ?_
          have hs := List.all_eq_true.1 hst e.i (List.mem_range.2 hlt)
          rw [hop] at hs
          simp only [Bool.and_eq_true] at hs
          have h1 := hs.1
          rw [← Array.all_toList] at h1
          have h2 := List.all_eq_true.1 h1 ed hed
          simp [hb] at h2
          have h3 : ed.on < ops.size := by omega
          cases hq : listed.getD ed.on true with
          | true =>
            have : ed.on < listed.size := by rw [hL.size]; exact h3
            simp [Array.getD_eq_getD_getElem?, this] at hq ⊢
            exact hq
          | false =>
            exfalso
            have hm := (hL.mem ed.on h3).1 hq
            have hp := hL.ord
            rw [List.map_cons, List.pairwise_cons] at hp
            rw [List.map_cons] at hm
            rcases List.mem_cons.1 hm with h | h
            · omega
            · have := hp.1 _ h; omega
        rw [hr] at hready
        cases hready
    · obtain ⟨h1, h2, h3⟩ := ready_mem hi
      have hm := (hL.mem i h1).1 h2
      obtain ⟨e, he, hei⟩ := List.mem_map.1 hm
      subst hei
      obtain ⟨α, β, rfl⟩ := List.append_of_mem he
      have hop := hL.op e (by simp)
      have hne : ∀ x, x ∈ α ++ β → x.i ≠ e.i := by
        intro x hx
        have hp := hL.ord
        rw [List.map_append, List.map_cons, List.pairwise_append, List.pairwise_cons] at hp
        rcases List.mem_append.1 hx with h | h
        · have := hp.2.2 x.i (List.mem_map.2 ⟨x, h, rfl⟩) e.i (by simp); omega
        · have := hp.2.1.1 x.i (List.mem_map.2 ⟨x, h, rfl⟩); omega
      have hInd : ∀ x, x ∈ α → Ind ops x e := by
        intro x hx
        rcases hI α β e rfl x hx with h | h
        · exfalso
          unfold edge at h
          rw [hop] at h
          simp only at h
          rw [← Array.any_toList] at h
          obtain ⟨ed, hed, hb⟩ := List.any_eq_true.1 h
          simp only [Bool.and_eq_true, beq_iff_eq] at hb
          have h4 := h3 e.o hop ed hed hb.1
          rw [hb.2] at h4
          have hxo := hL.op x (by simp [hx])
          have hxl : x.i < ops.size := (Array.getElem?_eq_some_iff.1 hxo).1
          have h5 := (hL.mem x.i hxl).2 (List.mem_map.2 ⟨x, by simp [hx], rfl⟩)
          have h6 : x.i < listed.size := by rw [hL.size]; exact hxl
          simp [Array.getD_eq_getD_getElem?, h6] at h4 h5
          rw [h4] at h5; cases h5
        · exact h
      obtain ⟨k1, k2, k3, k4⟩ := pick α tm hp hInd hV
      unfold wpOp
      rw [hop]
      refine step_sound hT k1 hC (hd e (by simp)) fun a' w' hC' => ?_
      refine ih (α ++ β) _ _ _ a' w' (by simp at hn ⊢; omega) ⟨by simp [hL.size], ?_, fun i hi => ?_, fun x hx => hL.op x ?_⟩ k2 (fun α' β' x hx y hy => ?_) (fun x hx => hd x ?_) hC' (by rw [k3, k4]; exact hQ)
      · refine hL.ord.sublist ?_
        rw [List.map_append, List.map_append, List.map_cons]
        exact List.Sublist.append (List.Sublist.refl _) (List.sublist_cons_self _ _)
      · have hb := hL.mem i hi
        have hli : i < listed.size := by rw [hL.size]; exact hi
        by_cases e1 : i = e.i
        · subst e1
          constructor
          · intro h; simp [Array.getD_eq_getD_getElem?, hli] at h
          · intro h
            obtain ⟨x, hx, hxi⟩ := List.mem_map.1 h
            exact absurd hxi (hne x hx)
        · have e2 : (listed.setIfInBounds e.i true).getD i true = listed.getD i true := by
            rw [Array.getD_eq_getD_getElem?, Array.getD_eq_getD_getElem?, Array.getElem?_setIfInBounds_ne (fun h => e1 h.symm)]
          rw [e2, hb]
          simp only [List.map_append, List.map_cons, List.mem_append, List.mem_cons]
          constructor
          · rintro (h | h | h)
            · exact .inl h
            · exact absurd h e1
            · exact .inr h
          · rintro (h | h)
            · exact .inl h
            · exact .inr (.inr h)
      · rcases List.mem_append.1 hx with h | h
        · exact List.mem_append_left _ h
        · exact List.mem_append_right _ (List.mem_cons_of_mem _ h)
      · -- the pairs of what is left are pairs of the whole
        have hsplit : ∃ α2 β2, α ++ e :: β = α2 ++ x :: β2 ∧ y ∈ α2 := by
          rcases List.append_eq_append_iff.1 hx with ⟨m, m1, m2⟩ | ⟨m, m1, m2⟩
          · -- α' = α ++ m
            exact ⟨α ++ e :: m, β', by rw [m2]; simp, by
              rw [m1] at hy
              rcases List.mem_append.1 hy with h | h
              · exact List.mem_append_left _ h
              · exact List.mem_append_right _ (List.mem_cons_of_mem _ h)⟩
          · cases m with
            | nil =>
              simp only [List.nil_append] at m2
              simp only [List.append_nil] at m1
              exact ⟨α ++ [e], β', by rw [← m2]; simp, by rw [m1]; exact List.mem_append_left _ hy⟩
            | cons z m =>
              simp only [List.cons_append, List.cons.injEq] at m2
              obtain ⟨rfl, m2⟩ := m2
              exact ⟨α', m ++ e :: β, by rw [m1]; simp, hy⟩
        obtain ⟨α2, β2, q1, q2⟩ := hsplit
        exact hI α2 β2 x q1 y q2
      · rcases List.mem_append.1 hx with h | h
        · exact List.mem_append_left _ h
        · exact List.mem_append_right _ (List.mem_cons_of_mem _ h)
end
end Go.Proofs.Ythdioaeekhkgcaa
namespace Go.Proofs.Ythdioaeekhkgcaa
set_option linter.unusedVariables false
set_option linter.unusedSimpArgs false
open Go.RowKit

abbrev Post := Exit → (Nat → AV) → Hp → Prop
/-- From every frame and memory that these stand for, the code leaves ones that the post's stand for. -/
def Aw (P : Program) (N : Nat) (hp0 : Hp) (c : Code) (Q : Post) (tm : Nat → AV) (hp : Hp) : Prop :=
  ∀ lo w0 φ0 a w, Conc lo w0 φ0 hp0 N tm hp a w → c.wp P (fun e a' w' => ∃ tm' hp', Conc lo w0 φ0 hp0 N tm' hp' a' w' ∧ Q e tm' hp') a w
def Then (K : (Nat → AV) → Hp → Prop) (Q : Post) : Post
  | .normal, tm, hp => K tm hp
  | e, tm, hp => Q e tm hp
def InBlk (id : Nat) (Q : Post) : Post
  | .exit id', tm, hp => if id' = id then Q .normal tm hp else Q (.exit id') tm hp
  | e, tm, hp => Q e tm hp
def Le (hp0 : Hp) (tm : Nat → AV) (hp : Hp) (tm' : Nat → AV) (hp' : Hp) : Prop := ∀ lo w0 φ0 N a w, Conc lo w0 φ0 hp0 N tm hp a w → Conc lo w0 φ0 hp0 N tm' hp' a w
theorem Le.refl (hp0 : Hp) (tm : Nat → AV) (hp : Hp) : Le hp0 tm hp tm hp := fun _ _ _ _ _ _ h => h
theorem Le.trans {hp0 : Hp} {a b c : Nat → AV} {x y z : Hp} (h : Le hp0 a x b y) (k : Le hp0 b y c z) : Le hp0 a x c z := fun _ _ _ _ _ _ hc => k _ _ _ _ _ _ (h _ _ _ _ _ _ hc)
def dstOK (N : Nat) (ops : Array Oper) : Bool := ops.all fun o => match o.dst with
  | some d => decide (d < N)
  | none => true

section
variable {P : Program} {ti : TI} {N : Nat} {hp0 : Hp} {Q : Post} {tm : Nat → AV} {hp : Hp}
theorem Aw.weak {c : Code} {tm' : Nat → AV} {hp' : Hp} (h : Le hp0 tm hp tm' hp') (k : Aw P N hp0 c Q tm' hp') : Aw P N hp0 c Q tm hp :=
  fun lo w0 φ0 a w hC => k lo w0 φ0 a w (h _ _ _ _ _ _ hC)
theorem Aw.mono {c : Code} {Q' : Post} (h : Aw P N hp0 c Q tm hp) (hq : ∀ e tm hp, Q e tm hp → Q' e tm hp) : Aw P N hp0 c Q' tm hp :=
  fun lo w0 φ0 a w hC => wp_mono (h lo w0 φ0 a w hC) fun e a w ⟨tm', hp', h1, h2⟩ => ⟨tm', hp', h1, hq _ _ _ h2⟩
theorem aw_skip (h : Q .normal tm hp) : Aw P N hp0 .skip Q tm hp := fun _ _ _ _ _ hC => wp_skip ⟨_, _, hC, h⟩
theorem aw_label {l : Nat} (h : Q .normal tm hp) : Aw P N hp0 (.label l) Q tm hp := fun _ _ _ _ _ hC => wp_label ⟨_, _, hC, h⟩
theorem aw_exit {id : Nat} (h : Q (.exit id) tm hp) : Aw P N hp0 (.exit id) Q tm hp := fun _ _ _ _ _ hC => wp_exit ⟨_, _, hC, h⟩
theorem aw_ret (h : Q .ret tm hp) : Aw P N hp0 .ret Q tm hp := fun _ _ _ _ _ hC => wp_ret ⟨_, _, hC, h⟩
theorem aw_seq {x y : Code} (h : ∀ K : (Nat → AV) → Hp → Prop, (∀ tm hp, Aw P N hp0 y Q tm hp → K tm hp) → Aw P N hp0 x (Then K Q) tm hp) : Aw P N hp0 (.seq x y) Q tm hp := by
  intro lo w0 φ0 a w hC
  refine wp_seq (wp_mono (h _ (fun _ _ h => h) lo w0 φ0 a w hC) fun e a' w' ⟨tm', hp', h1, h2⟩ => ?_)
  cases e with
  | normal => exact h2 lo w0 φ0 a' w' h1
  | _ => exact ⟨tm', hp', h1, h2⟩
theorem aw_cond {c : Operand} {x y : Code} {b : Bool} (hc : evT tm c = .c (.bool b)) (h1 : b = true → Aw P N hp0 x Q tm hp) (h2 : b = false → Aw P N hp0 y Q tm hp) : Aw P N hp0 (.cond c x y) Q tm hp := by
  intro lo w0 φ0 a w hC
  obtain ⟨φ, H, EV0, ht, hd⟩ := hC
  have := ev_avc ht c
  rw [hc] at this
  refine wp_cond (avc_bool this) ?_
  cases b
  · exact h2 rfl lo w0 φ0 a w ⟨φ, H, EV0, ht, hd⟩
  · exact h1 rfl lo w0 φ0 a w ⟨φ, H, EV0, ht, hd⟩
theorem aw_block {id : Nat} {c : Code} (h : Aw P N hp0 c (InBlk id Q) tm hp) : Aw P N hp0 (.block id c) Q tm hp := by
  intro lo w0 φ0 a w hC
  refine wp_block (wp_mono (h lo w0 φ0 a w hC) fun e a' w' ⟨tm', hp', h1, h2⟩ => ?_)
  cases e with
  | exit id' =>
    simp only [Exit.inBlock]
    simp only [InBlk] at h2
    by_cases e : id' = id
    · rw [if_pos e] at h2 ⊢; exact ⟨tm', hp', h1, h2⟩
    · rw [if_neg e] at h2 ⊢; exact ⟨tm', hp', h1, h2⟩
  | _ => exact ⟨tm', hp', h1, h2⟩
theorem least {p : Nat → Prop} (h : ∃ n, p n) : ∃ n, p n ∧ ∀ m, m < n → ¬ p m := by
  obtain ⟨n, hn⟩ := h
  induction n using Nat.strongRecOn with
  | _ n ih =>
    by_cases hm : ∃ m, m < n ∧ p m
    · obtain ⟨m, h1, h2⟩ := hm; exact ih m h1 h2
    · exact ⟨n, hn, fun m h1 h2 => hm ⟨m, h1, h2⟩⟩
noncomputable def lstOf (p : Nat → Prop) : Nat := @dite Nat (∃ n, p n) (Classical.propDecidable _) (fun h => Classical.choose (least h)) (fun _ => 0)
theorem lstOf_spec {p : Nat → Prop} (h : ∃ n, p n) : p (lstOf p) ∧ ∀ m, m < lstOf p → ¬ p m := by
  have e : lstOf p = Classical.choose (least h) := by unfold lstOf; exact dif_pos h
  rw [e]
  exact Classical.choose_spec (least h)
/-- A loop: states st x, x from X, with a measure. -/
theorem aw_loop {X : Type} (st : X → (Nat → AV) × Hp) (Inv : X → Prop) (μ : X → Nat) {c : Code} (h0 : ∃ x, Inv x ∧ Le hp0 tm hp (st x).1 (st x).2)
    (hr : ∀ x, Inv x → Aw P N hp0 c (Then (fun tm2 hp2 => ∃ y, Inv y ∧ μ y < μ x ∧ Le hp0 tm2 hp2 (st y).1 (st y).2) Q) (st x).1 (st x).2) : Aw P N hp0 (.loop c) Q tm hp := by
  intro lo w0 φ0 a w hC
  let p : Act → World → Nat → Prop := fun a w n => ∃ x, Inv x ∧ Conc lo w0 φ0 hp0 N (st x).1 (st x).2 a w ∧ μ x = n
  let m : Act → World → Nat := fun a w => lstOf (p a w)
  have hm : ∀ a w, (∃ n, p a w n) → p a w (m a w) ∧ ∀ k, k < m a w → ¬ p a w k := fun a w h => lstOf_spec h
  refine wp_loop (fun a w => ∃ n, p a w n) m ?_ fun a w hI => ?_
  · obtain ⟨x, h1, h2⟩ := h0
    exact ⟨_, x, h1, h2 _ _ _ _ _ _ hC, rfl⟩
  · obtain ⟨⟨x, h1, h2, h3⟩, h4⟩ := hm a w hI
    refine wp_mono (hr x h1 lo w0 φ0 a w h2) fun e a' w' ⟨tm', hp', h5, h6⟩ => ?_
    cases e with
    | normal =>
      obtain ⟨y, g1, g2, g3⟩ := h6
      have hp' : p a' w' (μ y) := ⟨y, g1, g3 _ _ _ _ _ _ h5, rfl⟩
      refine ⟨⟨_, hp'⟩, ?_⟩
      have := (hm a' w' ⟨_, hp'⟩).2
      rcases Nat.lt_or_ge (m a' w') (m a w) with h | h
      · exact h
      · exact absurd hp' (this (μ y) (by omega))
    | _ => exact ⟨tm', hp', h5, h6⟩
/-- A region in the text's order. -/
theorem aw_region {id : Nat} {ops : List Oper} {draw : Bool} (hT : TIok P ti) (hd : draw = false) (hN : dstOK N ops.toArray = true) (h : awOps P ti ops.toArray ops (fun _ tm hp => Q .normal tm hp) [] tm hp) : Aw P N hp0 (.region id ops.toArray draw) Q tm hp := by
  subst hd
  intro lo w0 φ0 a w hC
  obtain ⟨φ, H, EV0, ht, hdf, hsz⟩ := hC
  obtain ⟨R, r1, r2, r3, r4⟩ := trace (ops := ops.toArray) ops 0 [] tm hp H.fin h
  have hdst : ∀ e, e ∈ R → ∀ d, e.o.dst = some d → d < N := by
    intro e he d hd
    have hm : e.o ∈ ops := by rw [← r1]; exact List.mem_map.2 ⟨e, he, rfl⟩
    unfold dstOK at hN
    rw [← Array.all_toList] at hN
    have := List.all_eq_true.1 hN e.o hm
    rw [hd] at this
    simpa using this
  have := list_sound (ops := ops.toArray) (Q := fun e a' w' => ∃ tm' hp', Conc lo w0 φ0 hp0 N tm' hp' a' w' ∧ Q e tm' hp') hT R tm hp a w r3 hdst ⟨φ, H, EV0, ht, hdf, hsz⟩ fun a' w' hC' => ⟨_, _, hC', r4⟩
  rw [r1] at this
  exact wp_region_lit this
theorem getD_map_ft {R : List TE} {i : Nat} {e : TE} (h : R[i]? = some e) : (R.map (·.ft)).getD i ⟨[], [], []⟩ = e.ft := by
  simp [List.getD_eq_getElem?_getD, h]
/-- A region that draws its order. -/
theorem aw_draw {id : Nat} {ops : List Oper} {draw : Bool} (hT : TIok P ti) (hm : P.follows .mixedOrders = true) (hd : draw = true) (hN : dstOK N ops.toArray = true) (hst : stOK ops.toArray = true) (ps : List (Nat × Nat)) (hps : unord ops.toArray = ps)
    (h : awOps P ti ops.toArray ops (fun acc tm hp => ftOK ps acc ∧ Q .normal tm hp) [] tm hp) : Aw P N hp0 (.region id ops.toArray draw) Q tm hp := by
  subst hd hps
  intro lo w0 φ0 a w hC
  obtain ⟨φ, H, EV0, ht, hdf, hsz⟩ := hC
  obtain ⟨R, r1, r2, r3, r4, r5⟩ := trace (ops := ops.toArray) ops 0 [] tm hp H.fin h
  rw [List.nil_append] at r4
  have hdst : ∀ e, e ∈ R → ∀ d, e.o.dst = some d → d < N := by
    intro e he d hd
    have hm : e.o ∈ ops := by rw [← r1]; exact List.mem_map.2 ⟨e, he, rfl⟩
    unfold dstOK at hN
    rw [← Array.all_toList] at hN
    have := List.all_eq_true.1 hN e.o hm
    rw [hd] at this
    simpa using this
  have hlen : R.length = ops.length := by have := congrArg List.length r1; simpa using this
  have hidx : ∀ (k : Nat) (e : TE), R[k]? = some e → e.i = k ∧ ops[k]? = some e.o := by
    intro k e hk
    have hkl : k < R.length := (List.getElem?_eq_some_iff.1 hk).1
    have h1 := congrArg (fun l => l[k]?) r2
    have h2 := congrArg (fun l => l[k]?) r1
    simp only [List.getElem?_map, hk, Option.map_some] at h1 h2
    rw [List.getElem?_range' (by omega)] at h1
    simp at h1
    exact ⟨h1, h2.symm⟩
  have hC' : Conc lo w0 φ0 hp0 N tm hp a { w with drawn := w.drawn + 1 } := by
    obtain ⟨H', E⟩ := H.same (w' := { w with drawn := w.drawn + 1 }) rfl rfl rfl rfl
    exact ⟨φ, H', EV0.trans E, fun t => (ht t).evo E, hdf, hsz⟩
  refine wp_region_any hm ?_
  refine any_sound (ops := ops.toArray) hT hst (lo := lo) (w0 := w0) (φ0 := φ0) (hp0 := hp0) (N := N) ops.toArray.size R _ tm hp a _ (by simp [hlen]) ⟨by simp, ?_, fun i hi => ?_, fun e he => ?_⟩ r3 (fun α β e hR x hx => ?_) hdst hC' (fun a' w' hC2 => ⟨_, _, hC2, r5⟩)
  · rw [r2]; exact List.pairwise_lt_range' ..
  · simp only [List.size_toArray] at hi
    constructor
    · intro _; rw [r2]; simp [List.mem_range'_1]; omega
    · intro _; simp [Array.getD_eq_getD_getElem?, hi]
  · obtain ⟨k, hk, e1⟩ := List.getElem_of_mem he
    obtain ⟨h1, h2⟩ := hidx k e (by rw [List.getElem?_eq_getElem hk, e1])
    rw [h1]; simpa using h2
  · obtain ⟨j, hj, e1⟩ := List.getElem_of_mem hx
    have hxj : R[j]? = some x := by rw [hR, List.getElem?_append_left hj, List.getElem?_eq_getElem hj, e1]
    have hek : R[α.length]? = some e := by rw [hR]; simp
    obtain ⟨i1, o1⟩ := hidx j x hxj
    obtain ⟨i2, o2⟩ := hidx α.length e hek
    have hel : α.length < ops.length := (List.getElem?_eq_some_iff.1 o2).1
    cases hedge : edge ops.toArray x.i e.i with
    | true => exact .inl rfl
    | false =>
      refine .inr ⟨?_, ?_⟩
      · have hs := List.all_eq_true.1 hst e.i (List.mem_range.2 (by simp; omega))
        have ho : ops.toArray[e.i]? = some e.o := by rw [i2]; simpa using o2
        have hox : ops.toArray[x.i]? = some x.o := by rw [i1]; simpa using o1
        rw [ho] at hs
        simp only [Bool.and_eq_true] at hs
        have := List.all_eq_true.1 hs.2 x.i (List.mem_range.2 (by omega))
        rw [hedge, hox] at this
        simpa using this
      · have := r4 (x.i, e.i) (List.mem_flatMap.2 ⟨e.i, List.mem_range.2 (by simp; omega), List.mem_filterMap.2 ⟨x.i, List.mem_range.2 (by omega), by simp [hedge]⟩⟩)
        simp only at this
        rw [i1, i2, getD_map_ft hxj, getD_map_ft hek] at this
        exact this
end
end Go.Proofs.Ythdioaeekhkgcaa
namespace Go.Proofs.Ythdioaeekhkgcaa
set_option linter.unusedVariables false
set_option linter.unusedSimpArgs false
open Go.RowKit

def Ext (hp0 : Hp) : Prop := ∀ ν e, hp0 ν = some e → e.kind = 3
/-- A function's contract: called with these arguments it returns this, with lists of its own. -/
def FunSpec (P : Program) (f : FuncId) (args : List AV) (nw : List Ent) (val : List Nat → AV) : Prop :=
  (∃ fn, P.funcs[f]? = some fn ∧ fn.body.isNone = false ∧ (fn.name == "runtime.NumGoroutine") = false) ∧
  ∀ φ0 hp0 w (vs : List Value), Ext hp0 → HC φ0 hp0 w.heap.size w w → vs.length = args.length → (∀ i, i < args.length → AVC φ0 hp0 w (args.getD i .any) (vs.getD i undef)) →
    Calls P f vs.toArray w fun e w' => ∃ v, e = .returned v ∧ Out φ0 hp0 w.heap.size w w [] nw val v w'
def argT (args : List AV) : Nat → AV := fun t => args.getD t .any
def boxA (ti : TI) (T : TypeId) (l : List AV) (off : Nat) : Option AV :=
  match ti T with
  | some t => if t.sh.isStruct then (if off + t.size ≤ l.length then some (.agg ((l.drop off).take t.size)) else none) else l[off]?
  | none => none
def resA (ti : TI) (tm : Nat → AV) (hp : Hp) : ResultVar → Option AV
  | .tmp t => some (tm t)
  | .cell t T => match tm t with
    | .ad ν off => match hp ν with
      | some (.box l) => boxA ti T l off
      | _ => none
    | _ => none
def resL (ti : TI) (tm : Nat → AV) (hp : Hp) : List ResultVar → Option (List AV)
  | [] => some []
  | r :: l => match resA ti tm hp r, resL ti tm hp l with
    | some a, some as' => some (a :: as')
    | _, _ => none
def resV (ti : TI) (tm : Nat → AV) (hp : Hp) (l : List ResultVar) : Option AV :=
  match resL ti tm hp l with
  | some [a] => some a
  | some l => some (.tup l)
  | none => none
def RetX (hp0 : Hp) (r : AV) (hp : Hp) (nw : List Ent) (val : List Nat → AV) : Prop :=
  ∀ w0 φ0 φ w v, Ext hp0 → HC φ0 hp0 w0.heap.size w0 w0 → HC φ hp w0.heap.size w0 w → Evo φ0 hp0 w0 φ hp w → AVC φ hp w r v → Out φ0 hp0 w0.heap.size w0 w0 [] nw val v w
def RetQ (ti : TI) (fn : Func) (hp0 : Hp) (nw : List Ent) (val : List Nat → AV) : Post := fun e tm hp => (e = .normal ∨ e = .ret) ∧ ∃ r, resV ti tm hp fn.results.toList = some r ∧ RetX hp0 r hp nw val

section
variable {P : Program} {ti : TI}
theorem load_box (hT : TIok P ti) {φ : Nat → Loc} {hp : Hp} {lo : Nat} {w0 w : World} (H : HC φ hp lo w0 w) {T : TypeId} {ν off : Nat} {l : List AV} {a : AV} {u : Value} (he : hp ν = some (.box l)) (h : boxA ti T l off = some a) (hu : AVC φ hp w (.ad ν off) u) :
    ∃ v, (Instr.loadAt T u).run P w = .ok v w ∧ AVC φ hp w a v := by
  obtain ⟨g, n, cp, wd, hl, rfl⟩ := avc_ad hu he
  obtain ⟨cur, T', h1, h2, h3⟩ := box_cells H he hl
  have hcell : ∀ j, j < l.length → w.cell? ⟨g, j, none⟩ = some (cur.toList.getD j undef) := fun j hj => cell_of h1 (by
    rw [← Array.getElem?_toList, getD_get (by simp; omega)]; simp)
  unfold boxA at h
  split at h
  · rename_i t ht
    obtain ⟨i, z, d, hok⟩ := hT T t ht
    split at h
    · rename_i hs
      split at h
      · rename_i hsz
        injection h with h; subst h
        have hlen : ((cur.toList.drop off).take t.size).length = t.size := by simp; omega
        refine ⟨_, run_loadN hok hs _ hlen fun j hj => ?_, .agg (by rw [hlen]; simp; omega) fun j hj => ?_⟩
        · rw [hlen] at hj; rw [getD_take_drop hj]; exact hcell (off + j) (by omega)
        · have hj' : j < t.size := Nat.lt_of_lt_of_le hj (List.length_take_le _ _)
          rw [getD_take_drop hj', getD_take_drop hj', ← agetD cur]; exact h3 (off + j) (by omega)
      · cases h
    · rename_i hs
      have hoff : off < l.length := by
        rcases Nat.lt_or_ge off l.length with h' | h'
        · exact h'
        · rw [List.getElem?_eq_none h'] at h; cases h
      refine ⟨_, run_load1 (by rw [run_agg hok]; simp [hs]) (hcell off hoff), ?_⟩
      have := h3 off hoff
      rw [getD_some h, agetD] at this
      exact this
  · cases h
def resG (tmps : Array Value) : ResultVar → Sem Value
  | .tmp t => pure (tmps.getD t undef)
  | .cell a t => do loadVar t (← asAddr (tmps.getD a undef))
theorem resA_sound (hT : TIok P ti) {φ : Nat → Loc} {hp : Hp} {lo : Nat} {w0 w : World} (H : HC φ hp lo w0 w) {tm : Nat → AV} {tmps : Array Value} (ht : ∀ t, AVC φ hp w (tm t) (tmps.getD t undef)) {r : ResultVar} {a : AV} (h : resA ti tm hp r = some a) :
    ∃ v, (resG tmps r).run P w = .ok v w ∧ AVC φ hp w a v := by
  cases r with
  | tmp t => simp only [resA, Option.some.injEq] at h; subst h; exact ⟨_, rfl, ht t⟩
  | cell t T =>
    simp only [resA] at h
    split at h
    · rename_i ν off hν
      split at h
      · rename_i l he
        have hx := ht t
        rw [hν] at hx
        obtain ⟨v, q1, q2⟩ := load_box hT H he h hx
        obtain ⟨g, n, cp, wd, hl, e⟩ := avc_ad hx he
        refine ⟨v, ?_, q2⟩
        rw [e] at q1
        simp only [resG]
        rw [e]
        simpa [asAddr, Instr.loadAt, Instr.sureAddr] using q1
      · cases h
    · cases h
theorem resL_sound (hT : TIok P ti) {φ : Nat → Loc} {hp : Hp} {lo : Nat} {w0 w : World} (H : HC φ hp lo w0 w) {tm : Nat → AV} {tmps : Array Value} (ht : ∀ t, AVC φ hp w (tm t) (tmps.getD t undef)) : ∀ {l : List ResultVar} {L : List AV}, resL ti tm hp l = some L →
    ∃ vs : List Value, (l.mapM (resG tmps)).run P w = .ok vs w ∧ vs.length = L.length ∧ ∀ i, i < L.length → AVC φ hp w (L.getD i .any) (vs.getD i undef) := by
  intro l
  induction l with
  | nil => intro L h; simp only [resL, Option.some.injEq] at h; subst h; exact ⟨[], by simp, rfl, fun i hi => by simp at hi⟩
  | cons r l ih =>
    intro L h
    simp only [resL] at h
    split at h
    · rename_i a as' ha hl
      simp only [Option.some.injEq] at h; subst h
      obtain ⟨v, q1, q2⟩ := resA_sound hT H ht ha
      obtain ⟨vs, q3, q4, q5⟩ := ih hl
      refine ⟨v :: vs, ?_, by simp [q4], fun i hi => ?_⟩
      · rw [List.mapM_cons, Sem.run_bind, q1]
        simp only [Result.andThen_ok, Sem.run_bind, q3, Sem.run_pure]
      · cases i with
        | zero => exact q2
        | succ i => simpa using q5 i (by simpa using hi)
    · cases h
theorem results_sound (hT : TIok P ti) {φ : Nat → Loc} {hp : Hp} {lo : Nat} {w0 w : World} (H : HC φ hp lo w0 w) {tm : Nat → AV} {tmps : Array Value} (ht : ∀ t, AVC φ hp w (tm t) (tmps.getD t undef)) {fn : Func} {r : AV} (h : resV ti tm hp fn.results.toList = some r) :
    ∃ v, (results fn tmps).run P w = .ok v w ∧ AVC φ hp w r v := by
  unfold resV at h
  obtain ⟨L, hL⟩ : ∃ L, resL ti tm hp fn.results.toList = some L := by
    cases hq : resL ti tm hp fn.results.toList with
    | none => rw [hq] at h; cases h
    | some L => exact ⟨L, rfl⟩
  obtain ⟨vs, q1, q2, q3⟩ := resL_sound (P := P) hT H ht hL
  have hrun : (results fn tmps).run P w = .ok (if h : vs.toArray.size = 1 then vs.toArray[0] else .tuple vs.toArray) w := by
    have e : results fn tmps = (do let vs ← fn.results.mapM (resG tmps); pure (if h : vs.size = 1 then vs[0] else .tuple vs)) := by
      unfold results
      have : (fun x : ResultVar => match x with
        | .tmp t => (pure (tmps.getD t undef) : Sem Value)
        | .cell a t => do loadVar t (← asAddr (tmps.getD a undef))) = resG tmps := by funext x; cases x <;> rfl
      rw [← this]
      rfl
    rw [e, Array.mapM_eq_mapM_toList]
    simp [q1]
  rw [hL] at h
  match L, vs, q2, q3, h, hrun with
  | [a], [v], _, q3, h, hrun =>
    simp only [Option.some.injEq] at h; subst h
    exact ⟨v, by simpa using hrun, q3 0 (by simp)⟩
  | [], [], _, q3, h, hrun =>
    simp only [Option.some.injEq] at h; subst h
    exact ⟨_, by simpa using hrun, .tup (vs := []) rfl (fun i hi => by simp at hi)⟩
  | a :: b :: L, v :: u :: vs, q2, q3, h, hrun =>
    simp only [Option.some.injEq] at h; subst h
    exact ⟨_, by simpa using hrun, .tup (vs := v :: u :: vs) q2 q3⟩
end
end Go.Proofs.Ythdioaeekhkgcaa
namespace Go.Proofs.Ythdioaeekhkgcaa
set_option linter.unusedVariables false
set_option linter.unusedSimpArgs false
open Go.RowKit

section
variable {P : Program} {ti : TI}
theorem fun_intro (hT : TIok P ti) {f : FuncId} {fn : Func} {c : Code} {args : List AV} {nw : List Ent} {val : List Nat → AV} (hf : P.funcs[f]? = some fn) (hb : fn.body = some c) (hname : (fn.name == "runtime.NumGoroutine") = false) (hN : args.length ≤ fn.ntmps)
    (h : ∀ hp0, Ext hp0 → Aw P fn.ntmps hp0 c (RetQ ti fn hp0 nw val) (argT args) hp0) : FunSpec P f args nw val := by
  refine ⟨⟨fn, hf, by rw [hb]; rfl, hname⟩, fun φ0 hp0 w vs hE H hl hv => ?_⟩
  refine calls_of_wp hf hb ?_
  have hC : Conc w.heap.size w φ0 hp0 fn.ntmps (argT args) hp0 { tmps := vs.toArray ++ Array.replicate (fn.ntmps - vs.toArray.size) undef, defers := [] } w := by
    refine ⟨φ0, H, Evo.refl _ _ _, fun t => ?_, rfl, by simp; omega⟩
    unfold argT
    by_cases ht : t < args.length
    · have := hv t ht
      have e : (vs.toArray ++ Array.replicate (fn.ntmps - vs.toArray.size) undef).getD t undef = vs.getD t undef := by
        have ht' : t < vs.length := by omega
        rw [Array.getD_eq_getD_getElem?, Array.getElem?_append, if_pos (by simpa using ht'), List.getD_eq_getElem?_getD]
        simp
      rw [e]; exact this
    · rw [List.getD_eq_getElem?_getD, List.getElem?_eq_none (by omega)]
      exact .any _
  refine wp_mono (h hp0 hE _ _ _ _ _ hC) fun e a' w' ⟨tm, hp, hC', hR, r, h1, h2⟩ => ?_
  obtain ⟨φ, H', EV, ht, hd, _⟩ := hC'
  obtain ⟨v, q1, q2⟩ := results_sound hT H' ht h1
  have := h2 w φ0 φ w' v hE H H' EV q2
  rcases hR with rfl | rfl
  · exact ⟨hd, v, q1, v, rfl, this⟩
  · exact ⟨hd, v, q1, v, rfl, this⟩

/-! ### Forgetting -/
def RdLe (c c' : C) : Prop := ∀ (O : Nat → Prop) w v, Rd O w c v → Rd O w c' v
theorem RdLe.refl (c : C) : RdLe c c := fun _ _ _ h => h
theorem RdLe.unn (c : C) : RdLe (.nn c) c := fun _ _ _ h => h.unn
theorem RdLe.nul {c : C} {V : View} (hv : c.view = some V) (h0 : V.len = 0) (hn : c.isNN = false) : RdLe .nul c := by
  intro O w v h
  cases h with
  | nul =>
    have := Rd.sl (O := O) (w := w) (c := c) (V := V) (sa := none) (cp := 0) (vs := fun _ _ => undef) hv (fun e => by rw [hn] at e; cases e) (by omega) (by omega) (fun _ => ⟨h0, rfl⟩) (fun ad e => by cases e) (fun ad e => by cases e) (fun i hi => by omega)
    rw [h0] at this; exact this
  | sl h => cases h
inductive LeV (hp hp' : Hp) (ρ : Nat → Nat) : AV → AV → Prop where
  | any (a : AV) : LeV hp hp' ρ a .any
  | rd {c c' : C} (h : RdLe c c') : LeV hp hp' ρ (.c c) (.c c')
  | k (v : Value) : LeV hp hp' ρ (.k v) (.k v)
  | sl {ν : Nat} {e : Ent} (h : hp' ν = some e) (hk : e.kind ≠ 3 ∧ e.kind ≠ 0) : LeV hp hp' ρ (.sl (ρ ν)) (.sl ν)
  | ad {ν off : Nat} {e : Ent} (h : hp' ν = some e) (hk : e.kind ≠ 3 ∧ e.kind ≠ 1) : LeV hp hp' ρ (.ad (ρ ν) off) (.ad ν off)
  | el (wd : Nat) (f : Nat → C) : LeV hp hp' ρ (.el wd f) (.el wd f)
  | fz {ν : Nat} {T : TypeId} {nn : Fl} {c c' : C} (h : hp ν = some (.arr T nn c)) (h' : ∀ y, ρ y = ν → hp' y = none ∨ hp' y = some .dead) (hr : RdLe (if nn.nn then .nn c else c) c') : LeV hp hp' ρ (.sl ν) (.c c')
  | fzb {ν : Nat} {l : List AV} {f : Nat → C} (h : hp ν = some (.box l)) (hc : ∀ i, i < l.length → ∃ c, l.getD i .any = .c c ∧ RdLe c (f i)) (h' : ∀ y, ρ y = ν → hp' y = none ∨ hp' y = some .dead) : LeV hp hp' ρ (.ad ν 0) (.el l.length f)
  | nul {ν : Nat} {T : TypeId} {nn : Fl} {c : C} (h : hp (ρ ν) = none) (h' : hp' ν = some (.arr T nn c)) : LeV hp hp' ρ (.c .nul) (.sl ν)
  | agg {l l' : List AV} (hl : l'.length = l.length) (h : ∀ i, i < l.length → LeV hp hp' ρ (l.getD i .any) (l'.getD i .any)) : LeV hp hp' ρ (.agg l) (.agg l')
  | fn {f : Fn} {l l' : List AV} (hl : l'.length = l.length) (h : ∀ i, i < l.length → LeV hp hp' ρ (l.getD i .any) (l'.getD i .any)) : LeV hp hp' ρ (.fn f l) (.fn f l')
def LeE (hp hp' : Hp) (ρ : Nat → Nat) (ν : Nat) : Ent → Prop
  | .dead => True
  | .ext => hp (ρ ν) = some .ext
  | .box l' => ∃ l, hp (ρ ν) = some (.box l) ∧ l'.length = l.length ∧ ∀ i, i < l.length → LeV hp hp' ρ (l.getD i .any) (l'.getD i .any)
  | .arr T nn' c' => (∃ nn c, hp (ρ ν) = some (.arr T nn c) ∧ ((nn'.nn = true → nn.nn = true) ∧ (nn'.hd = true → nn.hd = true)) ∧ c' = c) ∨ (hp (ρ ν) = none ∧ nn'.nn = false ∧ c'.isNN = false ∧ ∃ V, c'.view = some V ∧ V.len = 0)
noncomputable def mapL (φ : Nat → Loc) (hp : Hp) (ρ : Nat → Nat) : Nat → Loc := fun ν => match hp (ρ ν) with
  | none => .nil
  | some _ => φ (ρ ν)
theorem le_live {hp hp' : Hp} {ρ : Nat → Nat} {φ : Nat → Loc} (hE : ∀ ν e', hp' ν = some e' → LeE hp hp' ρ ν e') {ν b : Nat} (hl : Live hp' ν) (hb : (mapL φ hp ρ ν).blk = some b) : Live hp (ρ ν) ∧ (φ (ρ ν)).blk = some b ∧ (Mine hp' ν → Mine hp (ρ ν)) := by
  obtain ⟨e', h1, h2⟩ := hl
  have h3 := hE ν e' h1
  unfold mapL at hb
  cases hq : hp (ρ ν) with
  | none => rw [hq] at hb; cases hb
  | some e =>
    rw [hq] at hb
    cases e' with
    | dead => simp [Ent.kind] at h2
    | ext =>
      simp only [LeE] at h3
      rw [hq] at h3; injection h3 with h3; subst h3
      exact ⟨⟨_, hq, by simp [Ent.kind]⟩, hb, fun ⟨e2, g1, g2⟩ => by rw [h1] at g1; injection g1 with g1; subst g1; simp [Ent.kind] at g2⟩
    | box l' =>
      obtain ⟨l, g1, _⟩ := h3
      rw [hq] at g1; injection g1 with g1; subst g1
      exact ⟨⟨_, hq, by simp [Ent.kind]⟩, hb, fun _ => ⟨_, hq, by simp [Ent.kind]⟩⟩
    | arr T nn' c' =>
      rcases h3 with ⟨nn, c, g1, _⟩ | ⟨g1, _⟩
      · rw [hq] at g1; injection g1 with g1; subst g1
        exact ⟨⟨_, hq, by simp [Ent.kind]⟩, hb, fun _ => ⟨_, hq, by simp [Ent.kind]⟩⟩
      · rw [hq] at g1; cases g1
theorem le_avc {φ : Nat → Loc} {hp hp' : Hp} {ρ : Nat → Nat} {lo : Nat} {w0 w : World} (H : HC φ hp lo w0 w) (hE : ∀ ν e', hp' ν = some e' → LeE hp hp' ρ ν e') {a a' : AV} {v : Value} (h : LeV hp hp' ρ a a') (hv : AVC φ hp w a v) : AVC (mapL φ hp ρ) hp' w a' v := by
  have own : ∀ b, Own (mapL φ hp ρ) hp' b → Own φ hp b := fun b ⟨ν, h1, h2⟩ => let ⟨g1, g2, _⟩ := le_live hE h1 h2; ⟨ρ ν, g1, g2⟩
  have mono : ∀ {c v}, Rd (Own φ hp) w c v → Rd (Own (mapL φ hp ρ) hp') w c v := fun h => h.mono (fun b _ hb => ⟨rfl, fun h => hb (own b h)⟩) (Nat.le_refl _)
  have hmap : ∀ ν e, hp (ρ ν) = some e → mapL φ hp ρ ν = φ (ρ ν) := fun ν e he => by unfold mapL; rw [he]
  induction h generalizing v with
  | any => exact .any v
  | rd h => cases hv with | c hr => exact .c (h _ _ _ (mono hr))
  | k => cases hv; exact .k _
  | @sl ν e h hk =>
    cases hv with
    | @sl _ e0 h0 hk0 =>
      have h3 := hE ν e h
      rw [← hmap ν e0 h0]
      cases e with
      | dead => exact .sld h rfl _ (Loc.val_one _)
      | ext => simp [Ent.kind] at hk
      | box l => simp [Ent.kind] at hk
      | arr T nn c => exact .sl h rfl
    | @sld _ e0 h0 hk0 v hone =>
      have h3 := hE ν e h
      cases e with
      | dead => exact .sld h rfl _ hone
      | ext => simp [Ent.kind] at hk
      | box l => simp [Ent.kind] at hk
      | arr T nn c =>
        rcases h3 with ⟨nn', c', g1, _⟩ | ⟨g1, _⟩
        · rw [h0] at g1; injection g1 with g1; subst g1; simp [Ent.kind] at hk0
        · rw [h0] at g1; cases g1
  | @ad ν off e h hk =>
    cases hv with
    | @ad _ _ g n cp wd e0 h0 hk0 hl =>
      cases e with
      | dead => exact .add h rfl _ rfl
      | ext => simp [Ent.kind] at hk
      | box l => exact .ad h rfl (by rw [hmap ν e0 h0]; exact hl)
      | arr T nn c => simp [Ent.kind] at hk
    | @add _ _ e0 h0 hk0 v hone =>
      have h3 := hE ν e h
      cases e with
      | dead => exact .add h rfl _ hone
      | ext => simp [Ent.kind] at hk
      | arr T nn c => simp [Ent.kind] at hk
      | box l =>
        obtain ⟨l0, g1, _⟩ := h3
        rw [h0] at g1; injection g1 with g1; subst g1; simp [Ent.kind] at hk0
  | el wd f =>
    cases hv with
    | el hc hr hO hb => exact .el hc (fun j hj => mono (hr j hj)) (fun h => hO (own _ h)) hb
  | @fz ν T nn c c' h h' hr =>
    have e := avc_sl hv h
    subst e
    refine .c (hr _ _ _ (rd_of_ent (H.ent ν _ h) (fun b hb hh => ⟨rfl, fun ho => ?_⟩) (Nat.le_refl _)))
    rcases hh with hh | hh
    · exact hh (own b ho)
    · obtain ⟨y, y1, y2⟩ := ho
      obtain ⟨g1, g2, _⟩ := le_live hE y1 y2
      have hne : ν ≠ ρ y := by
        intro e
        obtain ⟨e', z1, z2⟩ := y1
        rcases h' y e.symm with h' | h'
        · rw [h'] at z1; cases z1
        · rw [h'] at z1; injection z1 with z1; subst z1; exact z2 rfl
      exact H.sep ν (ρ y) b hne ⟨_, h, by simp [Ent.kind]⟩ g1 hh g2
  | @fzb ν l f h hc h' =>
    obtain ⟨g, n, cp, wd, hl, rfl⟩ := avc_ad hv h
    obtain ⟨cur, T', h1, h2, h3⟩ := box_cells H h hl
    refine .el (vs := fun i => cur.getD i undef) (fun j hj => ?_) (fun j hj => ?_) (fun ho => ?_) (Array.getElem?_eq_some_iff.1 h1).1
    · refine cell_of h1 ?_
      rw [Nat.zero_add, Array.getD_eq_getD_getElem?]
      simp [show j < cur.size by omega]
    · obtain ⟨c, q1, q2⟩ := hc j hj
      have := h3 j hj
      rw [q1] at this
      exact q2 _ _ _ (mono (avc_c this))
    · obtain ⟨y, y1, y2⟩ := ho
      obtain ⟨g1, g2, _⟩ := le_live hE y1 y2
      have hne : ν ≠ ρ y := by
        intro e
        obtain ⟨e', z1, z2⟩ := y1
        rcases h' y e.symm with h' | h'
        · rw [h'] at z1; cases z1
        · rw [h'] at z1; injection z1 with z1; subst z1; exact z2 rfl
      exact H.sep ν (ρ y) g hne ⟨_, h, by simp [Ent.kind]⟩ g1 (by rw [hl]; rfl) g2
  | @nul ν T nn c h h' =>
    have e := avc_nul hv
    subst e
    have : (mapL φ hp ρ ν).val = .slice none 0 0 := by unfold mapL; rw [h]; rfl
    rw [← this]
    exact .sl h' rfl
  | agg hl _ ih =>
    obtain ⟨vs, rfl, h1, h2⟩ := avc_agg hv
    exact .agg (by omega) fun i hi => ih i (by omega) (h2 i (by omega))
  | fn hl _ ih =>
    cases hv with
    | fn h1 h2 => exact .fn (by omega) fun i hi => ih i (by omega) (h2 i (by omega))
/-- A smaller frame, a smaller memory. -/
theorem le_intro {hp0 : Hp} {tm tm' : Nat → AV} {hp hp' : Hp} (ρ : Nat → Nat) (hρ : ∀ x y, ρ x = ρ y → x = y) (h0 : ∀ ν e, hp0 ν = some e → hp' ν = some e ∧ hp ν = some e ∧ ρ ν = ν) (hfin : Fin' hp → Fin' hp') (hE : ∀ ν e', hp' ν = some e' → LeE hp hp' ρ ν e') (hV : ∀ t, LeV hp hp' ρ (tm t) (tm' t)) : Le hp0 tm hp tm' hp' := by
  intro lo w0 φ0 N a w hC
  obtain ⟨φ, H, EV, ht, hd⟩ := hC
  have own : ∀ b, Own (mapL φ hp ρ) hp' b → Own φ hp b := fun b ⟨ν, h1, h2⟩ => let ⟨g1, g2, _⟩ := le_live hE h1 h2; ⟨ρ ν, g1, g2⟩
  have hmap : ∀ ν e, hp (ρ ν) = some e → mapL φ hp ρ ν = φ (ρ ν) := fun ν e he => by unfold mapL; rw [he]
  refine ⟨mapL φ hp ρ, ⟨H.fr, H.l0, hfin H.fin, fun ν e he => ?_, fun ν ν' b hne h1 h2 h3 h4 => ?_, fun ν b h1 h2 => ?_⟩, ⟨fun ν e he => ?_, fun b hb ho => ?_, EV.sz⟩, fun t => le_avc H hE (hV t) (ht t), hd⟩
  · have h3 := hE ν e he
    cases e with
    | dead => trivial
    | ext =>
      simp only [LeE] at h3
      rw [hmap ν _ h3]
      exact H.ent (ρ ν) _ h3
    | box l' =>
      obtain ⟨l, g1, g2, g3⟩ := h3
      rw [hmap ν _ g1]
      obtain ⟨g, n, cp, wd, cur, T, k1, k2, k3, k4⟩ := H.ent (ρ ν) _ g1
      exact ⟨g, n, cp, wd, cur, T, k1, k2, by omega, fun i hi => le_avc H hE (g3 i (by omega)) (k4 i (by omega))⟩
    | arr T nn' c' =>
      rcases h3 with ⟨nn, c, g1, g2, rfl⟩ | ⟨g1, g2, g3, V, g4, g5⟩
      · rw [hmap ν _ g1]
        obtain ⟨V, hv, hnn, ⟨k1, k2, k3⟩ | ⟨g, o, cp, cur, k1, k2, k3, k4, k5, kh, k6⟩⟩ := H.ent (ρ ν) _ g1
        · exact ⟨V, hv, hnn, .inl ⟨k1, k2, by cases hq : nn'.nn with | false => rfl | true => rw [g2.1 hq] at k3; cases k3⟩⟩
        · refine ⟨V, hv, hnn, .inr ⟨g, o, cp, cur, k1, k2, k3, k4, k5, (fun e => kh (g2.2 e)), fun i hi j hj => ?_⟩⟩
          obtain ⟨v, m1, m2⟩ := k6 i hi j hj
          exact ⟨v, m1, m2.mono (fun b _ hb => ⟨rfl, fun h => hb (own b h)⟩) (Nat.le_refl _)⟩
      · exact ⟨V, g4, g3, .inl ⟨by unfold mapL; rw [g1], g5, g2⟩⟩
  · obtain ⟨g1, g2, _⟩ := le_live hE h1 h3
    obtain ⟨g3, g4, _⟩ := le_live hE h2 h4
    exact H.sep (ρ ν) (ρ ν') b (fun e => hne (hρ _ _ e)) g1 g3 g2 g4
  · obtain ⟨_, g2, g3⟩ := le_live hE h1.live h2
    exact H.lo (ρ ν) b (g3 h1) g2
  · obtain ⟨g1, g2, gr⟩ := h0 ν e he
    obtain ⟨e', k1, k2⟩ := EV.nm ν e he
    rw [g2] at k1; injection k1 with k1; subst k1
    refine ⟨e, g1, ?_⟩
    rcases k2 with ⟨k2, k3⟩ | ⟨k2, k3⟩
    · exact .inl ⟨k2, k3⟩
    · exact .inr ⟨rfl, by rw [hmap ν _ (by rw [gr]; exact g2), gr]; exact k3⟩
  · obtain ⟨k1, k2⟩ := EV.bl b hb ho
    exact ⟨k1, fun h => k2 (own b h)⟩

/-! ### Returning -/
theorem hpNew_out {hp : Hp} : ∀ {ν : List Nat} {nw : List Ent} {y : Nat}, ¬ y ∈ ν → hpNew hp ν nw y = hp y := by
  intro ν
  induction ν generalizing hp with
  | nil => intro nw y _; cases nw <;> rfl
  | cons x ν ih =>
    intro nw y h
    cases nw with
    | nil => rfl
    | cons e nw =>
      simp only [List.mem_cons, not_or] at h
      show hpNew (upd hp x (some e)) ν nw y = _
      rw [ih h.2, upd_ne h.1]
theorem hpNew_in {hp : Hp} : ∀ {ν : List Nat} {nw : List Ent} {i : Nat}, ν.length = nw.length → ν.Nodup → i < ν.length → hpNew hp ν nw (ν.getD i 0) = some (nw.getD i .dead) := by
  intro ν
  induction ν generalizing hp with
  | nil => intro nw i _ _ h; simp at h
  | cons x ν ih =>
    intro nw i hl hn hi
    cases nw with
    | nil => simp at hl
    | cons e nw =>
      obtain ⟨h1, h2⟩ := List.nodup_cons.1 hn
      show hpNew (upd hp x (some e)) ν nw _ = _
      cases i with
      | zero =>
        simp only [List.getD_cons_zero]
        rw [hpNew_out h1, upd_same]
      | succ i =>
        simp only [List.getD_cons_succ]
        exact ih (by simpa using hl) h2 (by simpa using hi)
theorem mem_getD {ν : List Nat} {y : Nat} (h : y ∈ ν) : ν.idxOf y < ν.length ∧ ν.getD (ν.idxOf y) 0 = y := by
  have h1 := List.idxOf_lt_length_iff.2 h
  exact ⟨h1, by rw [getD_get h1]; exact List.getElem_idxOf h1⟩
theorem idx_getD {ν : List Nat} (hn : ν.Nodup) {i : Nat} (hi : i < ν.length) : ν.idxOf (ν.getD i 0) = i := by
  have hm : ν.getD i 0 ∈ ν := by rw [getD_get hi]; exact List.getElem_mem hi
  obtain ⟨h1, h2⟩ := mem_getD hm
  rw [getD_get h1] at h2
  exact (List.getElem_inj (h₀ := h1) (h₁ := hi) hn).1 (h2.trans (getD_get hi))
/-- The same value, some names being called otherwise, the others given up. -/
inductive SubV (hp : Hp) (ns ν : List Nat) : AV → AV → Prop where
  | any (a : AV) : SubV hp ns ν a .any
  | rd {c c' : C} (h : RdLe c c') : SubV hp ns ν (.c c) (.c c')
  | k (v : Value) : SubV hp ns ν (.k v) (.k v)
  | sl (i : Nat) (hi : i < ns.length) : SubV hp ns ν (.sl (ns.getD i 0)) (.sl (ν.getD i 0))
  | fz {x : Nat} {T : TypeId} {nn : Fl} {c c' : C} (h : hp x = some (.arr T nn c)) (h' : ¬ x ∈ ns) (hr : RdLe (if nn.nn then .nn c else c) c') : SubV hp ns ν (.sl x) (.c c')
  | agg {l l' : List AV} (hl : l'.length = l.length) (h : ∀ i, i < l.length → SubV hp ns ν (l.getD i .any) (l'.getD i .any)) : SubV hp ns ν (.agg l) (.agg l')
  | tup {l l' : List AV} (hl : l'.length = l.length) (h : ∀ i, i < l.length → SubV hp ns ν (l.getD i .any) (l'.getD i .any)) : SubV hp ns ν (.tup l) (.tup l')
theorem ret_of {hp0 : Hp} {r : AV} {hp : Hp} {nw : List Ent} {val : List Nat → AV} (ns : List Nat) (hns : ns.Nodup) (hlen : ns.length = nw.length)
    (he : ∀ i, i < ns.length → ∃ T nn nn' c, hp (ns.getD i 0) = some (.arr T nn c) ∧ nw.getD i .dead = .arr T nn' c ∧ ((nn'.nn = true → nn.nn = true) ∧ (nn'.hd = true → nn.hd = true))) (hv : ∀ ν : List Nat, ν.length = ns.length → SubV hp ns ν r (val ν)) : RetX hp0 r hp nw val := by
  intro w0 φ0 φ w v hX H0 H EV hr ν hl hn hf
  show ∃ φ', HC φ' (hpNew hp0 ν nw) w0.heap.size w0 w ∧ Evo φ0 hp0 w0 φ' (hpNew hp0 ν nw) w ∧ AVC φ' (hpNew hp0 ν nw) w (val ν) v
  have key : ∀ y, y ∈ ν → ∃ i, i < ns.length ∧ ν.idxOf y = i ∧ ν.getD i 0 = y := fun y hy => by
    obtain ⟨h1, h2⟩ := mem_getD hy
    exact ⟨_, by omega, rfl, h2⟩
  let φ' : Nat → Loc := fun y => if y ∈ ν then φ (ns.getD (ν.idxOf y) 0) else φ0 y
  have f1 : ∀ i, i < ns.length → φ' (ν.getD i 0) = φ (ns.getD i 0) := fun i hi => by
    have hm : ν.getD i 0 ∈ ν := by rw [getD_get (by omega)]; exact List.getElem_mem (by omega)
    show (if _ then _ else _) = _
    rw [if_pos hm, idx_getD hn (by omega)]
  have f2 : ∀ y, ¬ y ∈ ν → φ' y = φ0 y := fun y hy => if_neg hy
  have g1 : ∀ i, i < ns.length → hpNew hp0 ν nw (ν.getD i 0) = some (nw.getD i .dead) := fun i hi => hpNew_in (by omega) hn (by omega)
  have g2 : ∀ y, ¬ y ∈ ν → hpNew hp0 ν nw y = hp0 y := fun y hy => hpNew_out hy
  have old : ∀ y e, hp0 y = some e → ¬ y ∈ ν := fun y e hy hm => by rw [hf y hm] at hy; cases hy
  have keep : ∀ y e, hp0 y = some e → ∃ e', hp y = some e' ∧ e'.kind = 3 ∧ φ y = φ0 y := by
    intro y e hy
    have h3 := hX y e hy
    obtain ⟨e', k1, ⟨_, k2⟩ | ⟨k2, k3⟩⟩ := EV.nm y e hy
    · exact absurd h3 k2
    · exact ⟨e', k1, by omega, k3⟩
  have src : ∀ y b, Live (hpNew hp0 ν nw) y → (φ' y).blk = some b → ∃ x, Live hp x ∧ (φ x).blk = some b ∧ ((∃ i, i < ns.length ∧ y = ν.getD i 0 ∧ x = ns.getD i 0) ∨ (¬ y ∈ ν ∧ x = y ∧ ∃ e', hp y = some e' ∧ e'.kind = 3)) := by
    intro y b h1 h2
    by_cases hy : y ∈ ν
    · obtain ⟨i, hi, _, hq⟩ := key y hy
      subst hq
      rw [f1 i hi] at h2
      obtain ⟨T, nn, nn', c, k1, k2, _⟩ := he i hi
      exact ⟨_, ⟨_, k1, by simp [Ent.kind]⟩, h2, .inl ⟨i, hi, rfl, rfl⟩⟩
    · rw [f2 y hy] at h2
      obtain ⟨e, k1, k2⟩ := h1
      rw [g2 y hy] at k1
      obtain ⟨e', m1, m2, m3⟩ := keep y e k1
      exact ⟨y, ⟨e', m1, by omega⟩, by rw [m3]; exact h2, .inr ⟨hy, rfl, e', m1, m2⟩⟩
  have own : ∀ b, Own φ' (hpNew hp0 ν nw) b → Own φ hp b := fun b ⟨y, h1, h2⟩ => let ⟨x, k1, k2, _⟩ := src y b h1 h2; ⟨x, k1, k2⟩
  have mono : ∀ {c v}, Rd (Own φ hp) w c v → Rd (Own φ' (hpNew hp0 ν nw)) w c v := fun h => h.mono (fun b _ hb => ⟨rfl, fun h => hb (own b h)⟩) (Nat.le_refl _)
  have inj : ∀ i j, i < ns.length → j < ns.length → i ≠ j → ns.getD i 0 ≠ ns.getD j 0 := fun i j hi hj hne e => by
    rw [getD_get hi, getD_get hj] at e
    exact hne ((List.getElem_inj (h₀ := hi) (h₁ := hj) hns).1 e)
  refine ⟨φ', ⟨H.fr, H.l0, ?_, fun y e hy => ?_, fun y y' b hne h1 h2 h3 h4 => ?_, fun y b h1 h2 => ?_⟩, ⟨fun y e hy => ?_, fun b hb ho => ?_, EV.sz⟩, ?_⟩
  · rw [hpNew_zip]; exact fin_ups H0.fin _
  · by_cases hm : y ∈ ν
    · obtain ⟨i, hi, _, hq⟩ := key y hm
      subst hq
      rw [g1 i hi] at hy
      injection hy with hy
      obtain ⟨T, nn, nn', c, k1, k2, k3⟩ := he i hi
      rw [k2] at hy; subst hy
      rw [f1 i hi]
      obtain ⟨V, hv, hnn, ⟨m1, m2, m3⟩ | ⟨g, o, cp, cur, m1, m2, m3, m4, m5, mh, m6⟩⟩ := H.ent _ _ k1
      · exact ⟨V, hv, hnn, .inl ⟨m1, m2, by cases hq : nn'.nn with | false => rfl | true => rw [k3.1 hq] at m3; cases m3⟩⟩
      · refine ⟨V, hv, hnn, .inr ⟨g, o, cp, cur, m1, m2, m3, m4, m5, (fun e => mh (k3.2 e)), fun i hi j hj => ?_⟩⟩
        obtain ⟨v, q1, q2⟩ := m6 i hi j hj
        exact ⟨v, q1, mono q2⟩
    · rw [g2 y hm] at hy
      rw [f2 y hm]
      have h3 := hX y e hy
      cases e with
      | ext => exact fun b hb => Nat.lt_of_lt_of_le (H0.ent y _ hy b hb) EV.sz
      | _ => simp [Ent.kind] at h3
  · obtain ⟨x, k1, k2, k3⟩ := src y b h1 h3
    obtain ⟨x', m1, m2, m3⟩ := src y' b h2 h4
    refine H.sep x x' b ?_ k1 m1 k2 m2
    rcases k3 with ⟨i, hi, e1, e2⟩ | ⟨e0, e1, e', e2, e3⟩ <;> rcases m3 with ⟨j, hj, e4, e5⟩ | ⟨e6, e4, e'', e5, e7⟩
    · subst e1 e2 e4 e5
      exact inj i j hi hj fun e => hne (by rw [e])
    · subst e2 e4
      intro e
      obtain ⟨T, nn, nn', c, q1, _⟩ := he i hi
      rw [e, e5] at q1; injection q1 with q1; subst q1; simp [Ent.kind] at e7
    · subst e1 e5
      intro e
      obtain ⟨T, nn, nn', c, q1, _⟩ := he j hj
      rw [← e, e2] at q1; injection q1 with q1; subst q1; simp [Ent.kind] at e3
    · subst e1 e4; exact hne
  · by_cases hm : y ∈ ν
    · obtain ⟨i, hi, _, hq⟩ := key y hm
      subst hq
      rw [f1 i hi] at h2
      obtain ⟨T, nn, nn', c, k1, _⟩ := he i hi
      exact H.lo _ b ⟨_, k1, by simp [Ent.kind]⟩ h2
    · obtain ⟨e, k1, k2⟩ := h1
      rw [g2 y hm] at k1
      have := hX y e k1
      omega
  · have hm := old y e hy
    exact ⟨e, by rw [g2 y hm]; exact hy, .inr ⟨rfl, f2 y hm⟩⟩
  · obtain ⟨k1, k2⟩ := EV.bl b hb ho
    exact ⟨k1, fun h => k2 (own b h)⟩
  · have hs := hv ν (by omega)
    clear hv
    revert hr
    generalize val ν = a' at hs
    intro hr
    induction hs generalizing v with
    | any => exact .any v
    | rd h => cases hr with | c hr => exact .c (h _ _ _ (mono hr))
    | k => cases hr; exact .k _
    | sl i hi =>
      obtain ⟨T, nn, nn', c, k1, k2, _⟩ := he i hi
      have e := avc_sl hr k1
      subst e
      rw [← f1 i hi]
      exact .sl (g1 i hi) (by rw [k2]; rfl)
    | @fz x T nn c c' h h' hrd =>
      have e := avc_sl hr h
      subst e
      refine .c (hrd _ _ _ (rd_of_ent (H.ent x _ h) (fun b hb hh => ⟨rfl, fun ho => ?_⟩) (Nat.le_refl _)))
      rcases hh with hh | hh
      · exact hh (own b ho)
      · obtain ⟨y, y1, y2⟩ := ho
        obtain ⟨x', m1, m2, m3⟩ := src y b y1 y2
        refine H.sep x x' b ?_ ⟨_, h, by simp [Ent.kind]⟩ m1 hh m2
        rcases m3 with ⟨j, hj, _, e5⟩ | ⟨_, e4, e'', e5, e7⟩
        · subst e5; intro e; exact h' (by rw [e, getD_get hj]; exact List.getElem_mem hj)
        · subst e4; intro e; rw [← e, h] at e5; injection e5 with e5; subst e5; simp [Ent.kind] at e7
    | agg hl _ ih =>
      obtain ⟨vs, rfl, h1, h2⟩ := avc_agg hr
      exact .agg (by omega) fun i hi => ih i (by omega) _ (h2 i (by omega))
    | tup hl _ ih =>
      obtain ⟨vs, rfl, h1, h2⟩ := avc_tup hr
      exact .tup (by omega) fun i hi => ih i (by omega) _ (h2 i (by omega))
end
end Go.Proofs.Ythdioaeekhkgcaa
