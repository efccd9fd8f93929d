/-
  predsOf.
-/
import Derived.Test.YthdioaeekhkgcaaGmB
namespace Go.Proofs.Ythdioaeekhkgcaa
set_option linter.unusedVariables false
set_option linter.unusedSimpArgs false
open Go.RowKit
attribute [local go_sem ↓] Go.wp_at_zero Go.wp_at_succ

section
variable {w : World} {ops : Array Oper} {o : Oper} {rest : List Oper} {a : Act} {Q : Exit → Act → World → Prop}
theorem mk_rowsl (hg : o.guard = none) (l c : Operand) (hop : o.op = Op.makeSlice 23 l c) (kl kc : IntKind) (L C : Int) (n : Nat) (hl : a.eval l = .int kl L) (hc : a.eval c = .int kc C) (hL : L = (n : Int)) (hC : C = (n : Int)) (hn : n ≤ 1048576)
    (hK : ∀ b w', b = w.heap.size → OwnR b w'.heap.size w' (.slice (some ⟨b, 0, none⟩) n n) (tabr n fun _ => []) (List.replicate n (.slice none 0 0)) → Below b w w' → b < w'.heap.size → wpList Try.prog ops Q rest (a.put o.dst (.slice (some ⟨b, 0, none⟩) n n)) w') :
    wpList Try.prog ops Q (o :: rest) a w := by
  have hw : Region.wanted o (yielded ops a.tmps) = true := by simp [Region.wanted, hg]
  unfold wpList
  rw [if_pos hw]
  exact .inl (wp_mk_rows l c hop kl kc L C n hl hc hL hC hn hK)
theorem app_rowl (hg : o.guard = none) (s x : Operand) (hop : o.op = .call { callee := .builtin .append, args := #[s, x], argTypes := #[22, 22] })
    {lo hi : Nat} {v : Value} {xs : List Int} (hs : a.eval s = v) (hown : OwnI lo hi w v xs) (y : Int) (bx c : Nat) (hx : a.eval x = .slice (some ⟨bx, 0, none⟩) 1 c) (hcell : w.cell? ⟨bx, 0, none⟩ = some (.int .i64 y))
    (hlen : xs.length ≤ 1048576) (hbase : lo ≤ w.heap.size)
    (hK : ∀ sa c' w', OwnI lo w'.heap.size w' (.slice sa (xs.length + 1) c') (xs ++ [y]) → w.grownBy w' (blk v) → (∀ g, blk (.slice sa (xs.length + 1) c') = some g → blk v = some g ∨ w.heap.size ≤ g) → wpList Try.prog ops Q rest (a.put o.dst (.slice sa (xs.length + 1) c')) w') :
    wpList Try.prog ops Q (o :: rest) a w := by
  have hw : Region.wanted o (yielded ops a.tmps) = true := by simp [Region.wanted, hg]
  unfold wpList
  rw [if_pos hw]
  refine .inl ?_
  obtain ⟨sa, c', w', hrun, h1, h2, h3⟩ := run_app_row o.type hown y bx c hcell hlen hbase
  unfold Oper.wp execOp
  simp only [hop, resolve, invoke, builtin, Sem.run_bind, Sem.run_pure, Result.andThen_ok, List.map_toArray, List.map_cons, List.map_nil, hs, hx, hrun]
  exact hK sa c' w' h1 h2 h3
end
def RetPr (w : World) (a : Ar) (e : Ending) (w' : World) : Prop := ∃ vq vs, e = .returned vq ∧ OwnR w.heap.size w'.heap.size w' vq (tabr a.own.length fun u => prevTo a.nxt u a.own.length) vs ∧ Below w.heap.size w w'
set_option maxRecDepth 100000 in
set_option maxHeartbeats 4000000 in
theorem predsOf_i (v : Value) (a : Ar) (w : World) (hA : IsA w v a) (ha : ArOk a) : Calls Try.prog 144 #[v] w (RetPr w a) := by
  obtain ⟨_, _, rfl, ⟨s1, n1, c1, rfl, h1⟩, ⟨s2, n2, c2, rfl, h2⟩⟩ := hA
  have hm1 := h1.max
  have hm2 := h2.max
  obtain rfl := h1.1
  have hn := ha.le
  have hln : n2 = a.own.length := by have := h2.len; have := ha.len; omega
  subst hln
  have HA := Lib.hid ha
  clear ha
  go_enter Try.func144, Try.ntmps144
  go_wp2_with (at_make; refine mk_rowsl rfl _ _ rfl _ _ _ _ a.own.length rfl rfl rfl rfl (by omega) ?_; intro gq w2 hgq ho hb2 hz2; have HB := Blk.below (blk_new w [.slice s1 a.own.length c1, .slice s2 a.own.length c2] 30) (by rw [← hgq]; exact hb2); have b0_0 := HB.cell 0 rfl; have b0_1 := HB.cell 1 rfl; clear HB)
  have hgq' : gq = w.heap.size + 1 := by rw [hgq]; simp
  have hbw : Below w.heap.size w w2 := (below_alloc _ _).trans (hb2.mono (by rw [hgq']; omega))
  clear hb2 hgq
  subst hgq'
  go_loopw [15] (fun i wr => ∃ (k : Nat) (vs : List Value), k ≤ a.own.length ∧ i = .int .i64 k ∧ OwnR (w.heap.size + 1) wr.heap.size wr (.slice (some ⟨w.heap.size + 1, 0, none⟩) a.own.length a.own.length) (tabr a.own.length fun u => prevTo a.nxt u k) vs ∧ Below (w.heap.size + 1) w2 wr) (fun i _ => a.own.length - (intOf i).toNat)
  case atStart => exact ⟨0, _, by omega, rfl, ho, Below.refl _ _⟩
  case round =>
    clear ho
    obtain ⟨k, vs, hk, rfl, hO, hb⟩ := hrel
    have c0_1 := cell_l b0_1 hb (by omega)
    have hbq : Below w.heap.size w wr := hbw.trans (hb.mono (by omega))
    by_cases hlt : k < a.own.length
    · obtain ⟨bb, ob, rfl, hbb, A, La, C, hcb⟩ := h2.get hlt
      obtain ⟨hcb1, hIr⟩ := hcb k hlt
      clear hcb
      have hck := cell_b hcb1 hbq
      obtain ⟨_, _, hr1, hr2, hr3⟩ := HA.out.vert k hlt
      have hLk := hIr.1
      obtain ⟨b5, o5, e5, hb5, _⟩ := hIr.get (k := 0) (by omega)
      rw [e5] at hck hcb1 hIr
      clear e5
      go_wp2
      go_loopw [22] (fun v wr => ∃ (i : Nat) (vs : List Value), i ≤ La k ∧ v = .int .i64 i ∧ OwnR (w.heap.size + 1) wr.heap.size wr (.slice (some ⟨w.heap.size + 1, 0, none⟩) a.own.length a.own.length) (tabr a.own.length fun u => prevTo a.nxt u k ++ prevRow (gr a.nxt k) k u i) vs ∧ Below (w.heap.size + 1) w2 wr) (fun v _ => La k - (intOf v).toNat)
      case atStart => exact ⟨0, vs, by omega, rfl, by rw [tabr_congr (g := fun u => prevTo a.nxt u k) (fun u _ => by simp [prevRow])]; exact hO, hb⟩
      case round =>
        clear hO hb hbq hck
        obtain ⟨i, vs, hi, rfl, hO, hb⟩ := hrel
        have hbq : Below w.heap.size w wr := hbw.trans (hb.mono (by omega))
        by_cases hil : i < La k
        · have hc5i := (hIr.below hbq).2.cell _ rfl i hil
          obtain ⟨hu0, hu1, _⟩ := hr3 i (by omega)
          have hu : (gi (gr a.nxt k) i).toNat < a.own.length := by omega
          have hux : (gi (gr a.nxt k) i).toNat < (tabr a.own.length fun u => prevTo a.nxt u k ++ prevRow (gr a.nxt k) k u i).length := by rw [tabr_len]; exact hu
          have hRow := hO.2.2.1 _ hux
          have hlen : (gr (tabr a.own.length fun u => prevTo a.nxt u k ++ prevRow (gr a.nxt k) k u i) (gi (gr a.nxt k) i).toNat).length ≤ 1048576 := by
            rw [gr_tabr _ hu, List.length_append]
            have p1 := prevTo_len (nxt := a.nxt) (m := 16) (gi (gr a.nxt k) i).toNat k (fun j hj => (HA.out.vert j (by omega)).2.2.2.1)
            have p2 := prevRow_len (gr a.nxt k) k (gi (gr a.nxt k) i).toNat i
            omega
          have HGR := Lib.hid hlen
          clear hlen
          have hcell : ∀ {w3 : World}, OwnV 22 (w.heap.size + 1) w3.heap.size w3 (.slice (some ⟨w.heap.size + 1, 0, none⟩) a.own.length a.own.length) vs → w3.cell? ⟨w.heap.size + 1, (gi (gr a.nxt k) i).toNat, none⟩ = some (vs.getD (gi (gr a.nxt k) i).toNat (.slice none 0 0)) ∧ w3.frozen? ⟨w.heap.size + 1, (gi (gr a.nxt k) i).toNat, none⟩ = false ∧ w.heap.size + 1 < w3.heap.size := fun h => Mk.cell2 h (by rw [hO.1]; exact hux)
          obtain ⟨x1, x2, x3⟩ := hcell hO.2.1
          have hsz : w.heap.size + 1 ≤ wr.heap.size := by omega
          have hne : blk (.slice (some ⟨w.heap.size + 1, 0, none⟩) a.own.length a.own.length) ≠ blk (vs.getD (gi (gr a.nxt k) i).toNat (.slice none 0 0)) := fun e => own_ne hO.2.1 hRow (by decide) (w.heap.size + 1) rfl (by rw [← e]; rfl)
          go_wp2_with (at_builtin; refine app_rowl rfl _ _ rfl rfl (OwnV.below hRow (by repeat' (first | (with_reducible exact Below.refl _ _) | (with_reducible assumption) | (with_reducible apply below_set) | (with_reducible apply Below.alloc) | (with_reducible apply Below.drew) | (with_reducible apply below_drawn) | (with_reducible refine Below.trans ?_ (Below.mono (by assumption) ?_)) | omega | (simp only [World.size_alloc, World.size_setCell, World.size_drew]; omega)))) (k : Int) _ _ rfl (by simp) HGR.out (by simp; omega) ?_; intro sa c' w5 h5 g5 f5; have hV5 := OwnV.top (OwnV.keep (OwnV.alloc hO.2.1 _) (w' := w5) fun g hg' => g5.block g (OwnV.lt (OwnV.alloc hO.2.1 _) g hg').2.2 (fun e => hne (hg'.trans e))); obtain ⟨y1, y2, y3⟩ := hcell hV5; clear hV5)
          go_roundw
          case rel =>
            have HP := OwnR.put (hO.below (below_alloc _ _)) hux h5 g5 f5
            rw [prev_step hu] at HP
            have hB5 : Below (w.heap.size + 1) w2 w5 := (hb.alloc (by omega) _).grown g5 (by simp; omega) (fun g hg => (OwnV.lt hRow g hg).1)
            exact ⟨i + 1, _, by omega, by go_num, HP.top, below_set hB5 (Nat.le_refl _) _⟩
          case measure => simp [intOf]; omega
        · have ei : i = La k := by omega
          go_wp2_with fail
          go_roundw
          case rel => exact ⟨k + 1, vs, by omega, by go_num, by rw [tabr_congr (g := fun u => prevTo a.nxt u k ++ prevRow (gr a.nxt k) k u i) (fun u _ => by rw [ei, ← hLk]; rfl)]; exact hO, hb⟩
          case measure => simp [intOf]; omega
    · have e : k = a.own.length := by omega
      subst e
      go_wp2_with fail
      go_ret
      exact ⟨_, vs, rfl, hO.mono (by omega) (Nat.le_refl _), hbq⟩
end Go.Proofs.Ythdioaeekhkgcaa
