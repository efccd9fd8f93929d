/-
  Measures of a game: the odds from a priority on, what is asked for; the small functions of both sides.
-/
import Derived.Test.YtfkiloibifigfaaZLsMeas2
import Derived.Test.YtfkiloibifigfaaZLsM2
import Derived.Test.YtfkiloibifigfaaZLsM3
import Derived.Test.YtfkiloibifigfaaZLsG2
namespace Go.Proofs.Ytfkiloibifigfaa
set_option linter.unusedVariables false
set_option linter.unusedSimpArgs false
open Go.RowKit
def cntF (p : Int) : List Int → Nat
  | [] => 0
  | o :: os => if p ≤ o then cntF p os + 1 else 0
theorem cntF_le (p : Int) : ∀ os, cntF p os ≤ os.length
  | [] => Nat.le_refl _
  | o :: os => by
    unfold cntF
    split
    · exact Nat.succ_le_succ (cntF_le p os)
    · exact Nat.zero_le _
theorem cntF_iff {p : Int} : ∀ {os : List Int}, os.Pairwise (fun a b => b < a) → ∀ i, i < os.length → (p ≤ gi os i ↔ i < cntF p os)
  | [], _, i, h => absurd h (Nat.not_lt_zero _)
  | o :: os, hp, i, h => by
    rw [List.pairwise_cons] at hp
    unfold cntF
    rcases i with _ | i
    · show p ≤ o ↔ _
      split
      · rename_i e; exact ⟨fun _ => Nat.succ_pos _, fun _ => e⟩
      · rename_i e; exact ⟨fun h => absurd h e, fun h => absurd h (Nat.not_lt_zero _)⟩
    · have hi : i < os.length := by simpa using h
      show p ≤ gi os i ↔ _
      have ih := cntF_iff (p := p) hp.2 i hi
      split
      · rw [ih]; omega
      · rename_i e
        have := hp.1 _ (gi_mem hi)
        exact ⟨fun h => absurd h (by omega), fun h => absurd h (Nat.not_lt_zero _)⟩
theorem oddsL_dec (g : Pa) : (oddsL g).Pairwise (fun a b => b < a) := by rw [← oddsDn_all]; exact oddsDn_dec g 20
noncomputable def odC (g : Pa) (p : Int) : Nat := cntF p (oddsL g)
theorem odC_le (g : Pa) (p : Int) : odC g p ≤ (oddsL g).length := cntF_le _ _
theorem odC_iff (g : Pa) (p : Int) {i : Nat} (h : i < (oddsL g).length) : p ≤ gi (oddsL g) i ↔ i < odC g p := cntF_iff (oddsL_dec g) i h
theorem many_nn (g : Pa) (p : Int) : 0 ≤ many g p := Int.natCast_nonneg _
theorem many_le (g : Pa) (p : Int) : many g p ≤ g.prio.length := by have := manyTo_le g.prio p g.prio.length; unfold many; omega
theorem odds_pos (g : Pa) {i : Nat} (h : i < (oddsL g).length) : 0 < gi (oddsL g) i := by
  have := gi_mem h
  unfold oddsL at this
  rw [List.mem_reverse, mem_lst] at this
  obtain ⟨v, h1, ⟨h2, h3⟩, e⟩ := this
  unfold oddsL
  omega
theorem odC_all (g : Pa) {p : Int} (hp : p ≤ 1) : odC g p = (oddsL g).length := by
  have h := odC_le g p
  rcases Nat.lt_or_ge (odC g p) (oddsL g).length with h' | h'
  · have := (odC_iff g p h').1 (by have := odds_pos g h'; omega)
    omega
  · omega
noncomputable def gtOf (g : Pa) : MS.Gt := ⟨g.prio.length, (oddsL g).length, fun i => many g (gi (oddsL g) i), fun v => gr g.ar.nxt v, fun v => odC g (gi g.prio v), fun v => tf (gi g.prio v % 2 = 1), fun v => tf (gi g.ar.own v = 0)⟩
theorem gt_right {g : Pa} (hg : PaOk g) : (gtOf g).Right where
  mx0 := fun i => many_nn _ _
  ck := fun v _ => odC_le _ _
  pos := fun v hv => (hg.ar.vert v (by have := hg.len; exact this ▸ hv)).2.2.1
  nxt := fun v hv i hi => by
    have hv' : v < g.ar.own.length := by have := hg.len; exact this ▸ hv
    have := (hg.ar.vert v hv').2.2.2.2.bnd i hi
    show _ < g.prio.length
    have := hg.len
    show (gi (gr g.ar.nxt v) i).toNat < _
    omega
theorem gt_mx {g : Pa} (hs : Small g) : ∀ i, i < (gtOf g).K → (gtOf g).mx i < (13 : Nat) := fun i _ => by
  have h1 := many_le g (gi (oddsL g) i)
  have h2 := hs.2
  show many g _ < _
  omega
noncomputable def askL (g : Pa) (v : Nat) (m : List Int) : List Int := MS.ask (oddsL g).length (gtOf g).mx (odC g (gi g.prio v)) (tf (gi g.prio v % 2 = 1)) m
theorem msr_ok {g : Pa} {m : List Int} : MsrOk g m ↔ MS.Ok (gtOf g).K (gtOf g).mx m := Iff.rfl
theorem msr_len {g : Pa} {m : List Int} (h : MsrOk g m) : 0 < m.length ∧ m.length ≤ 42 := by
  have := oddsL_len g
  rcases h with rfl | h
  · exact ⟨by decide, by simp⟩
  · omega
theorem msr_dig {g : Pa} {m : List Int} (h : MsrOk g m) (i : Nat) : 0 ≤ gi m i ∧ gi m i ≤ g.prio.length + 1 := by
  refine ⟨MS.ok_nn (msr_ok.1 h) i, ?_⟩
  rcases h with rfl | ⟨h1, h2, h3⟩
  · rcases i with _ | i
    · show (1 : Int) ≤ _; omega
    · rw [MS.gi_out (by simp)]; omega
  · rcases i with _ | i
    · omega
    · rcases Nat.lt_or_ge i (oddsL g).length with h | h
      · have := h3 i h; have := many_le g (gi (oddsL g) i); omega
      · rw [MS.gi_out (by omega)]; omega
theorem ask_msr {g : Pa} (hg : PaOk g) {v : Nat} {m : List Int} (h : MsrOk g m) : MsrOk g (askL g v m) := MS.ask_ok (odC_le _ _) (fun _ => many_nn _ _) h
theorem odds_if (g : Pa) (hg : PaOk g) : FunSpec Try.prog 103 [paA g] [.arr 2 .may (.I (oddsL g))] (fun ns => .sl (ns.getD 0 0)) :=
  spec_ofI Try.func103 rfl rfl fun φ hp w vs h => by
    obtain ⟨a, rfl, h1⟩ := avs1 h
    exact odds_i a g w (is_P h1) hg
theorem odds_sf (g : Pa) : FunSpec Try.prog 58 [paA g] [.arr 2 .may (.I (oddsL g))] (fun ns => .sl (ns.getD 0 0)) :=
  spec_ofI Try.func58 rfl rfl fun φ hp w vs h => by
    obtain ⟨a, rfl, h1⟩ := avs1 h
    exact odds_s a g w (is_P h1)
theorem most_if (g : Pa) (hg : PaOk g) : FunSpec Try.prog 98 [paA g] [.arr 2 .may (.I (tab (oddsL g).length fun i => many g (gi (oddsL g) i)))] (fun ns => .sl (ns.getD 0 0)) :=
  spec_ofI Try.func98 rfl rfl fun φ hp w vs h => by
    obtain ⟨a, rfl, h1⟩ := avs1 h
    exact mostOf_i a g w (is_P h1) hg
theorem many_sf (g : Pa) (p : Int) : FunSpec Try.prog 95 [paA g, .c (.int .i64 p)] [] (fun _ => .c (.int .i64 (many g p))) :=
  spec_of Try.func95 rfl rfl (u := .int .i64 _) (fun O w => .int _ _) fun φ hp w vs h => by
    obtain ⟨a, b, rfl, h1, h2⟩ := avs2 h
    obtain rfl := avc_int h2
    exact (many_s a g p w (is_P h1)).mono fun e w' h => h
theorem isMeasure_if (g : Pa) (hg : PaOk g) (m : List Int) : FunSpec Try.prog 66 [paA g, .c (.I m)] [] (fun _ => .c (.bool (tf (MsrOk g m)))) :=
  spec_of Try.func66 rfl rfl (u := .bool _) (fun O w => .bool _) fun φ hp w vs h => by
    obtain ⟨a, b, rfl, h1, h2⟩ := avs2 h
    exact (isMeasure_i a b g m w (is_P h1) (is_I (avc_c h2)) hg).mono fun e w' h => h
theorem good_sf (g : Pa) (m : List Int) : FunSpec Try.prog 59 [paA g, .c (.I (oddsL g)), .c (.I m)] [] (fun _ => .c (.bool (tf (MsrOk g m)))) :=
  spec_of Try.func59 rfl rfl (u := .bool _) (fun O w => .bool _) fun φ hp w vs h => by
    obtain ⟨a, b, c, rfl, h1, h2, h3⟩ := avs3 h
    exact (good_s a b c g m w (is_P h1) (is_I (avc_c h2)) (is_I (avc_c h3))).mono fun e w' h => h
end Go.Proofs.Ytfkiloibifigfaa
