/- The walks of the program's tiles: Range and Down. No conditions. -/
import Derived.Test.YtbldhokgbcljjaaCu4
namespace Go.Proofs.Ytbldhokgbcljjaa
open Go.RowKit
set_option linter.unusedVariables false
set_option linter.unusedSimpArgs false
set_option maxRecDepth 100000
theorem tUp_top : Fn Try.prog 37 [tval (0 : Int) (0 : Int) (0 : Int)] [] fun v _ => v = .tuple #[tval (0 : Int) (0 : Int) (0 : Int), iq (6 : Int)] := by
  have hid := tID_fn (0 : Int) (0 : Int) (0 : Int)
  rw [show placeE 0 0 0 = 0 from rfl] at hid
  obtain ⟨i, hi⟩ : ∃ i, idV 0 0 0 = i := ⟨_, rfl⟩
  rw [hi] at hid
  refine Fn.enter (N := 21) Try.func37 rfl (by kernel_rfl) rfl (fun w0 => ?_)

  refine awp_seq_region (fun Z hZ => ?_)
  refine sx_box rfl rfl rfl (fun g1 => ?_)
  refine sx_alloc tyZ52 rfl (fun g2 => ?_)
  refine sx_assign rfl rfl ?_
  refine sx_nil (hZ _ _ ?_)
  refine awp_forget [(1, _), (2, _)] (Kn.cons rfl (Kn.cons rfl (Kn.nil))) ?_

  refine awp_seq ?_
  refine awp_seq_region (fun Z hZ => ?_)
  refine sx_loadA 1 rfl rfl tyA52 tyS52 (by first | (simp only [List.length_cons, List.length_nil, Nat.reduceAdd, Nat.zero_add, Nat.add_zero]; first | done | rfl) | rfl) (by first | (simp only [List.take_succ_cons, List.take_zero, List.drop_succ_cons, List.drop_zero, List.cons_append, List.nil_append, List.append_nil, List.length_cons, List.length_nil, Nat.reduceAdd, Nat.zero_add, Nat.add_zero, Value.cells, wrV]; first | done | rfl) | rfl) rfl ?_
  refine sx_callP (hid) rfl rfl ?_
  refine sx_move rfl rfl ?_
  refine sx_extract rfl rfl rfl ?_
  refine sx_extract rfl rfl rfl ?_
  refine sx_assign rfl rfl ?_
  refine sx_assign rfl rfl ?_
  refine sx_nil (hZ _ _ ?_)
  refine awp_forget [(1, _), (2, _), (5, _)] (Kn.cons rfl (Kn.cons rfl (Kn.cons rfl (Kn.nil)))) ?_
  refine awp_seq_region (fun Z hZ => ?_)
  refine sx_move rfl rfl ?_
  refine sx_neq rfl rfl rfl ?_
  refine sx_nil (hZ _ _ ?_)
  refine awp_forget [(1, _), (2, _), (5, _), (12, _)] (Kn.cons rfl (Kn.cons rfl (Kn.cons rfl (Kn.cons rfl (Kn.nil))))) ?_
  refine awp_cond rfl (fun h1 => ?_) (fun h1 => ?_)
  · cases h1
  refine awp_skip ?_
  with_reducible refine nx_normal ?_
  refine awp_seq ?_
  refine awp_seq_region (fun Z hZ => ?_)
  refine sx_fieldAddr rfl tyF52_0 (by first | (simp only [Nat.reduceAdd, Nat.add_zero, Nat.zero_add]; first | done | rfl) | rfl) rfl ?_
  refine sx_load 1 rfl rfl tyA3 tyS3 rfl rfl ?_
  refine sx_eql rfl rfl rfl ?_
  refine sx_nil (hZ _ _ ?_)
  refine awp_forget [(1, _), (2, _), (17, _)] (Kn.cons rfl (Kn.cons rfl (Kn.cons rfl (Kn.nil)))) ?_
  refine awp_cond rfl (fun h2 => ?_) (fun h2 => ?_)
  · refine awp_seq_region (fun Z hZ => ?_)
    refine sx_build tyZ52 tyP52 rfl rfl (by first | (simp only [List.take_succ_cons, List.take_zero, List.drop_succ_cons, List.drop_zero, List.cons_append, List.nil_append, List.append_nil, List.length_cons, List.length_nil, Nat.reduceAdd, Nat.zero_add, Nat.add_zero, Value.cells, wrV, zrep_one, List.replicate_succ, List.replicate_zero, Nat.reduceMul, Nat.zero_mul]; first | done | rfl) | rfl) rfl ?_
    refine sx_store 0 rfl rfl rfl tyS52 (by first | (simp only [Value.cells]; first | done | rfl) | rfl) rfl rfl (by first | (simp only [List.length_cons, List.length_nil, Nat.reduceAdd, Nat.zero_add, Nat.add_zero]; first | done | rfl) | rfl) (by first | (simp only [List.take_succ_cons, List.take_zero, List.drop_succ_cons, List.drop_zero, List.cons_append, List.nil_append, List.append_nil, List.length_cons, List.length_nil, Nat.reduceAdd, Nat.zero_add, Nat.add_zero, Value.cells, wrV]; first | done | rfl) | rfl) (by first | (simp only [List.set_cons_succ, List.set_cons_zero]; first | done | rfl) | rfl) ?_
    refine sx_assign rfl rfl ?_
    refine sx_nil (hZ _ _ ?_)
    refine awp_forget [(2, _), (3, _)] (Kn.cons rfl (Kn.cons rfl (Kn.nil))) ?_
    refine awp_ret ?_
    repeat (with_reducible refine nx_then_ret ?_)
    exact nx_ret2 rfl (ResOk.cell 0 rfl rfl tyA52 tyS52 rfl) rfl rfl
  cases h2
theorem tRange_fn (z n a b : Nat) (hz : z + n ≤ 26) (ha : a < 2 ^ z) (hb : b < 2 ^ z) : Fn Try.prog 73 [tval (z : Nat) a b, iq (z + n : Nat)] [] fun v _ => v = .tuple #[uq (base4 (z + n) + hp z a b * 4 ^ n), uq (base4 (z + n) + hp z a b * 4 ^ n + 4 ^ n - 1), iq (0 : Int)] := by
  have hid := tID_fn (z : Nat) a b
  rw [(place_e0 (by omega) ha hb).1, id_0 (by omega) ha hb] at hid
  have hhl := hp_lt z a b ha hb
  have hlt := id_lt (show z ≤ 26 by omega) ha hb
  have hb1 := tbase_fn z (by omega)
  have hb2 := tbase_fn (z + n) (by omega)
  have hbn : base4 (z + n + 1) ≤ base4 27 := base4_mono (by omega)
  rw [base4_27, show base4 (z + n + 1) = base4 (z + n) + 4 ^ (z + n) from rfl, Nat.pow_add] at hbn
  have hml : hp z a b * 4 ^ n + 4 ^ n ≤ 4 ^ z * 4 ^ n := by
    rw [← Nat.succ_mul]
    exact Nat.mul_le_mul_right _ hhl
  have hq0 := pow4_pos n
  have hs1 := shl_at .u64 (hp z a b) (2 * n) rfl (by omega) (fun x hx => IntWalk.u64_in _ (by rw [four_two] at hx; omega))
  have hs2 := shl_at .u64 1 (2 * n) rfl (by omega) (fun x hx => IntWalk.u64_in _ (by rw [four_two, Nat.one_mul] at hx; omega))
  rw [four_two] at hs1 hs2
  rw [Nat.one_mul] at hs2
  obtain ⟨h, hh⟩ : ∃ x, hp z a b = x := ⟨_, rfl⟩
  rw [hh] at hid hhl hlt hml hs1 ⊢
  obtain ⟨m, hm⟩ : ∃ x, h * 4 ^ n = x := ⟨_, rfl⟩
  rw [hm] at hml hs1 ⊢
  obtain ⟨q, hq⟩ : ∃ x, 4 ^ n = x := ⟨_, rfl⟩
  rw [hq] at hq0 hs2 hml hbn ⊢
  obtain ⟨B, hB⟩ : ∃ x, base4 (z + n) = x := ⟨_, rfl⟩
  rw [hB] at hb2 hbn ⊢
  obtain ⟨C, hC⟩ : ∃ x, base4 z = x := ⟨_, rfl⟩
  rw [hC] at hb1 hid hlt
  refine Fn.enter (N := 50) Try.func73 rfl (by kernel_rfl) rfl (fun w0 => ?_)

  refine awp_seq_region (fun Z hZ => ?_)
  refine sx_box rfl rfl rfl (fun g1 => ?_)
  refine sx_assign rfl rfl ?_
  refine sx_assign rfl rfl ?_
  refine sx_assign rfl rfl ?_
  refine sx_nil (hZ _ _ ?_)
  refine awp_forget [(1, _), (2, _)] (Kn.cons rfl (Kn.cons rfl (Kn.nil))) ?_

  refine awp_seq_region (fun Z hZ => ?_)
  first | refine sx_loadA 0 rfl rfl tyA52 tyS52 (by first | (simp only [List.length_cons, List.length_nil, Nat.reduceAdd, Nat.zero_add, Nat.add_zero]; first | done | rfl) | rfl) (by first | (simp only [List.take_succ_cons, List.take_zero, List.drop_succ_cons, List.drop_zero, List.cons_append, List.nil_append, List.append_nil, List.length_cons, List.length_nil, Nat.reduceAdd, Nat.zero_add, Nat.add_zero, Value.cells, wrV]; first | done | rfl) | rfl) rfl ?_
  refine sx_callP (hid) rfl rfl ?_
  refine sx_move rfl rfl ?_
  refine sx_extract rfl rfl rfl ?_
  refine sx_extract rfl rfl rfl ?_
  refine sx_assign rfl rfl ?_
  refine sx_assign rfl rfl ?_
  refine sx_nil (hZ _ _ ?_)
  refine awp_forget [(1, _), (2, _), (7, _), (8, _)] (Kn.cons rfl (Kn.cons rfl (Kn.cons rfl (Kn.cons rfl (Kn.nil))))) ?_
  refine awp_seq (awp_block ?_)
  refine awp_seq_region (fun Z hZ => ?_)
  refine sx_move rfl rfl ?_
  refine sx_neq rfl rfl rfl ?_
  refine sx_assign rfl rfl ?_
  refine sx_nil (hZ _ _ ?_)
  refine awp_forget [(1, _), (2, _), (7, _), (8, _), (16, _)] (Kn.cons rfl (Kn.cons rfl (Kn.cons rfl (Kn.cons rfl (Kn.cons rfl (Kn.nil)))))) ?_
  refine awp_cond rfl (fun h1 => ?_) (fun h1 => ?_)
  · cases h1
  refine awp_seq_meet [(1, iq (z + n : Nat)), (2, ptr g1 0), (7, uq (C + h)), (20, .bool false)] [.own g1 52 (tcells (z : Nat) a b)] (fun Z hZ => ?_) ?_
  · refine sx_move rfl rfl ?_
    refine sx_fieldAddr rfl tyF52_0 (by first | (simp only [Nat.reduceAdd, Nat.add_zero, Nat.zero_add]; first | done | rfl) | rfl) rfl ?_
    first | refine sx_load 0 rfl rfl tyA3 tyS3 rfl rfl ?_
    refine sx_lss rfl rfl rfl ?_
    refine sx_move rfl rfl ?_
    refine sx_split 25 rfl (fun hb4 => ?_) (fun hb4 => ?_)
    · refine sx_off rfl rfl rfl rfl rfl ?_
      refine sx_off rfl rfl rfl rfl rfl ?_
      refine sx_pick rfl rfl rfl ?_
      refine sx_assign rfl rfl ?_
      refine sx_nil (hZ _ _ ?_ ?_)
      · exact Kn.cons rfl (Kn.cons rfl (Kn.cons rfl (Kn.cons (congrArg some (congrArg Value.bool (by first | rfl | (simp at *; done) | (simp at *; omega)))) Kn.nil)))
      · exact HLe.refl _
    · refine sx_on rfl rfl rfl ?_
      refine sx_move rfl rfl ?_
      refine sx_on rfl rfl rfl ?_
      refine sx_gtr rfl rfl rfl ?_
      refine sx_pick rfl rfl rfl ?_
      refine sx_assign rfl rfl ?_
      refine sx_nil (hZ _ _ ?_ ?_)
      · exact Kn.cons rfl (Kn.cons rfl (Kn.cons rfl (Kn.cons (congrArg some (congrArg Value.bool (by first | rfl | (simp at *; done) | (simp at *; omega)))) Kn.nil)))
      · exact HLe.refl _
  refine awp_cond rfl (fun h2 => ?_) (fun h2 => ?_)
  · cases h2
  refine awp_skip ?_
  repeat (with_reducible refine nx_block_normal ?_)
  with_reducible refine nx_normal ?_
  refine awp_seq_region (fun Z hZ => ?_)
  refine sx_move rfl rfl ?_
  refine sx_fieldAddr rfl tyF52_0 (by first | (simp only [Nat.reduceAdd, Nat.add_zero, Nat.zero_add]; first | done | rfl) | rfl) rfl ?_
  first | refine sx_load 0 rfl rfl tyA3 tyS3 rfl rfl ?_
  refine sx_sub rfl rfl ((n : Nat) : Int) (by rw [IntWalk.i64_in _ (by omega)]; omega) rfl ?_
  refine sx_mul rfl rfl ((2 * n : Nat) : Int) (by rw [IntWalk.i64_in _ (by omega)]; omega) rfl ?_
  refine sx_assign rfl rfl ?_
  refine sx_nil (hZ _ _ ?_)
  refine awp_forget [(1, _), (2, _), (7, _), (9, _)] (Kn.cons rfl (Kn.cons rfl (Kn.cons rfl (Kn.cons rfl (Kn.nil))))) ?_
  refine awq_seq_region mixed (by kernel_rfl) (fun Z hZ => ?_)
  refine sq_move rfl rfl ?_
  refine sq_callP (hb2) rfl rfl ?_
  refine sq_move rfl rfl ?_
  refine sq_fieldAddr rfl tyF52_0 (by first | (simp only [Nat.reduceAdd, Nat.add_zero, Nat.zero_add]; first | done | rfl) | rfl) rfl ?_
  first | refine sq_load 0 rfl rfl tyA3 tyS3 rfl rfl ?_
  refine sq_callP (hb1) rfl rfl ?_
  refine sq_sub rfl rfl ((h : Nat) : Int) (by rw [IntWalk.u64_in _ (by omega)]; omega) rfl ?_
  refine sq_move rfl rfl ?_
  refine sq_shl rfl rfl (by omega) ((m : Nat) : Int) hs1 rfl ?_
  refine sq_add rfl rfl ((B + m : Nat) : Int) (by rw [IntWalk.u64_in _ (by omega)]; omega) rfl ?_
  refine sq_assign rfl rfl ?_
  refine sq_nil (hZ _ _ ?_)
  refine awp_forget [(9, _), (10, _)] (Kn.cons rfl (Kn.cons rfl (Kn.nil))) ?_
  refine awq_seq_region mixed (by kernel_rfl) (fun Z hZ => ?_)
  refine sq_move rfl rfl ?_
  refine sq_move rfl rfl ?_
  refine sq_move rfl rfl ?_
  refine sq_shl rfl rfl (by omega) ((q : Nat) : Int) (by exact hs2) rfl ?_
  refine sq_add rfl rfl ((B + m + q : Nat) : Int) (by rw [IntWalk.u64_in _ (by omega)]; omega) rfl ?_
  refine sq_sub rfl rfl ((B + m + q - 1 : Nat) : Int) (by rw [IntWalk.u64_in _ (by omega)]; omega) rfl ?_
  refine sq_assign rfl rfl ?_
  refine sq_assign rfl rfl ?_
  refine sq_assign rfl rfl ?_
  refine sq_nil (hZ _ _ ?_)
  refine awp_forget [(4, _), (5, _), (6, _)] (Kn.cons rfl (Kn.cons rfl (Kn.cons rfl (Kn.nil)))) ?_
  refine awp_ret ?_
  exact nx_ret3 rfl rfl rfl rfl rfl
theorem tRange_top (a b : Nat) (ha : a < 2 ^ 26) (hb : b < 2 ^ 26) : Fn Try.prog 73 [tval (26 : Nat) a b, iq (27 : Nat)] [] fun v _ => v = .tuple #[uq 0, uq 0, iq (8 : Int)] := by
  have hid := tID_fn (26 : Nat) a b
  rw [(place_e0 (by omega) ha hb).1] at hid
  obtain ⟨h, hh⟩ : ∃ x, idV (26 : Nat) a b = x := ⟨_, rfl⟩
  rw [hh] at hid
  refine Fn.enter (N := 50) Try.func73 rfl (by kernel_rfl) rfl (fun w0 => ?_)

  refine awp_seq_region (fun Z hZ => ?_)
  refine sx_box rfl rfl rfl (fun g1 => ?_)
  refine sx_assign rfl rfl ?_
  refine sx_assign rfl rfl ?_
  refine sx_assign rfl rfl ?_
  refine sx_nil (hZ _ _ ?_)
  refine awp_forget [(1, _), (2, _)] (Kn.cons rfl (Kn.cons rfl (Kn.nil))) ?_

  refine awp_seq_region (fun Z hZ => ?_)
  first | refine sx_loadA 0 rfl rfl tyA52 tyS52 (by first | (simp only [List.length_cons, List.length_nil, Nat.reduceAdd, Nat.zero_add, Nat.add_zero]; first | done | rfl) | rfl) (by first | (simp only [List.take_succ_cons, List.take_zero, List.drop_succ_cons, List.drop_zero, List.cons_append, List.nil_append, List.append_nil, List.length_cons, List.length_nil, Nat.reduceAdd, Nat.zero_add, Nat.add_zero, Value.cells, wrV]; first | done | rfl) | rfl) rfl ?_
  refine sx_callP (hid) rfl rfl ?_
  refine sx_move rfl rfl ?_
  refine sx_extract rfl rfl rfl ?_
  refine sx_extract rfl rfl rfl ?_
  refine sx_assign rfl rfl ?_
  refine sx_assign rfl rfl ?_
  refine sx_nil (hZ _ _ ?_)
  refine awp_forget [(1, _), (2, _), (7, _), (8, _)] (Kn.cons rfl (Kn.cons rfl (Kn.cons rfl (Kn.cons rfl (Kn.nil))))) ?_
  refine awp_seq (awp_block ?_)
  refine awp_seq_region (fun Z hZ => ?_)
  refine sx_move rfl rfl ?_
  refine sx_neq rfl rfl rfl ?_
  refine sx_assign rfl rfl ?_
  refine sx_nil (hZ _ _ ?_)
  refine awp_forget [(1, _), (2, _), (7, _), (8, _), (16, _)] (Kn.cons rfl (Kn.cons rfl (Kn.cons rfl (Kn.cons rfl (Kn.cons rfl (Kn.nil)))))) ?_
  refine awp_cond rfl (fun h1 => ?_) (fun h1 => ?_)
  · cases h1
  refine awp_seq_meet [(20, .bool true)] [] (fun Z hZ => ?_) ?_
  · refine sx_move rfl rfl ?_
    refine sx_fieldAddr rfl tyF52_0 (by first | (simp only [Nat.reduceAdd, Nat.add_zero, Nat.zero_add]; first | done | rfl) | rfl) rfl ?_
    first | refine sx_load 0 rfl rfl tyA3 tyS3 rfl rfl ?_
    refine sx_lss rfl rfl rfl ?_
    refine sx_move rfl rfl ?_
    refine sx_split 25 rfl (fun hb4 => ?_) (fun hb4 => ?_)
    · refine sx_off rfl rfl rfl rfl rfl ?_
      refine sx_off rfl rfl rfl rfl rfl ?_
      refine sx_pick rfl rfl rfl ?_
      refine sx_assign rfl rfl ?_
      refine sx_nil (hZ _ _ ?_ ?_)
      · exact Kn.cons (congrArg some (congrArg Value.bool (by first | rfl | (simp at *; done) | (simp at *; omega)))) Kn.nil
      · exact HLe.sub (List.nil_sublist _)
    · refine sx_on rfl rfl rfl ?_
      refine sx_move rfl rfl ?_
      refine sx_on rfl rfl rfl ?_
      refine sx_gtr rfl rfl rfl ?_
      refine sx_pick rfl rfl rfl ?_
      refine sx_assign rfl rfl ?_
      refine sx_nil (hZ _ _ ?_ ?_)
      · exact Kn.cons (congrArg some (congrArg Value.bool (by first | rfl | (simp at *; done) | (simp at *; omega)))) Kn.nil
      · exact HLe.sub (List.nil_sublist _)
  refine awp_cond rfl (fun h2 => ?_) (fun h2 => ?_)
  · refine awp_seq_region (fun Z hZ => ?_)
    refine sx_assign rfl rfl ?_
    refine sx_assign rfl rfl ?_
    refine sx_assign rfl rfl ?_
    refine sx_nil (hZ _ _ ?_)
    refine awp_forget [(4, _), (5, _), (6, _)] (Kn.cons rfl (Kn.cons rfl (Kn.cons rfl (Kn.nil)))) ?_
    refine awp_ret ?_
    repeat (with_reducible (first | refine nx_then_ret ?_ | refine nx_block_ret ?_))
    exact nx_ret3 rfl rfl rfl rfl rfl
  cases h2
theorem elemTT : ElemOk Try.prog 55 52 3 24 := ElemOk.mk_ (z := .agg #[iq 0, iq 0, iq 0]) Try.underlying55 (by kernel_rfl) rfl (by omega)
/-- The tiles of places, in order. -/
def ptsL (z d n : Nat) : List (Nat × Nat) := (List.range n).map fun j => pt z (d + j)
theorem ptsL_succ (z d n : Nat) : ptsL z d (n + 1) = ptsL z d n ++ [pt z (d + n)] := by
  unfold ptsL
  rw [List.range_succ, List.map_append]
  rfl
theorem ptsL_len (z d n : Nat) : (ptsL z d n).length = n := by rw [ptsL, List.length_map, List.length_range]
theorem tDown_fn (z a b : Nat) (hz : z + 1 ≤ 26) (ha : a < 2 ^ z) (hb : b < 2 ^ z) : Fn Try.prog 38 [tval (z : Nat) a b] [] fun v H' => ∃ u, v = .tuple #[u, iq (0 : Int)] ∧ RowOk u 4 ∧ H' = rowE u 52 3 (tlc (z + 1) (ptsL (z + 1) (4 * hp z a b) 4)) := by
  have hr := tRange_fn z 1 a b hz ha hb
  have hhl := hp_lt z a b ha hb
  rw [Nat.pow_one] at hr
  obtain ⟨h, hh⟩ : ∃ x, hp z a b = x := ⟨_, rfl⟩
  rw [hh] at hr hhl ⊢
  have hbl := base4_lt hz (show 4 * h + 3 < 4 ^ (z + 1) by rw [Nat.pow_succ]; omega)
  have e1 : base4 (z + 1) + h * 4 = base4 (z + 1) + 4 * h := by omega
  have e2 : base4 (z + 1) + h * 4 + 4 - 1 = base4 (z + 1) + (4 * h + 3) := by omega
  rw [e2, e1] at hr
  refine Fn.enter (N := 48) Try.func38 rfl (by kernel_rfl) rfl (fun w0 => ?_)

  refine awp_seq_region (fun Z hZ => ?_)
  refine sx_box rfl rfl rfl (fun g1 => ?_)
  refine sx_assign rfl rfl ?_
  refine sx_assign rfl rfl ?_
  refine sx_nil (hZ _ _ ?_)
  refine awp_forget [(1, _)] (Kn.cons rfl (Kn.nil)) ?_

  refine awp_seq_region (fun Z hZ => ?_)
  first | refine sx_loadA 0 rfl rfl tyA52 tyS52 (by first | (simp only [List.length_cons, List.length_nil, Nat.reduceAdd, Nat.zero_add, Nat.add_zero]; first | done | rfl) | rfl) (by first | (simp only [List.take_succ_cons, List.take_zero, List.drop_succ_cons, List.drop_zero, List.cons_append, List.nil_append, List.append_nil, List.length_cons, List.length_nil, Nat.reduceAdd, Nat.zero_add, Nat.add_zero, Value.cells, wrV]; first | done | rfl) | rfl) rfl ?_
  refine sx_fieldAddr rfl tyF52_0 (by first | (simp only [Nat.reduceAdd, Nat.add_zero, Nat.zero_add]; first | done | rfl) | rfl) rfl ?_
  first | refine sx_load 0 rfl rfl tyA3 tyS3 rfl rfl ?_
  refine sx_add rfl rfl ((z + 1 : Nat) : Int) (by rw [IntWalk.i64_in _ (by omega)]; omega) rfl ?_
  refine sx_callP (hr) rfl rfl ?_
  refine sx_move rfl rfl ?_
  refine sx_extract rfl rfl rfl ?_
  refine sx_extract rfl rfl rfl ?_
  refine sx_extract rfl rfl rfl ?_
  refine sx_assign rfl rfl ?_
  refine sx_assign rfl rfl ?_
  refine sx_assign rfl rfl ?_
  refine sx_nil (hZ _ _ ?_)
  refine awp_forget [(1, _), (4, _), (5, _), (6, _)] (Kn.cons rfl (Kn.cons rfl (Kn.cons rfl (Kn.cons rfl (Kn.nil))))) ?_
  refine awp_seq ?_
  refine awp_seq_region (fun Z hZ => ?_)
  refine sx_move rfl rfl ?_
  refine sx_neq rfl rfl rfl ?_
  refine sx_nil (hZ _ _ ?_)
  refine awp_forget [(1, _), (4, _), (5, _), (6, _), (23, _)] (Kn.cons rfl (Kn.cons rfl (Kn.cons rfl (Kn.cons rfl (Kn.cons rfl (Kn.nil)))))) ?_
  refine awp_cond rfl (fun h1 => ?_) (fun h1 => ?_)
  · cases h1
  refine awp_skip ?_
  with_reducible refine nx_normal ?_
  refine awp_seq_region (fun Z hZ => ?_)
  refine sx_assign rfl rfl ?_
  refine sx_nil (hZ _ _ ?_)
  refine awp_forget [(4, _), (5, _), (9, _)] (Kn.cons rfl (Kn.cons rfl (Kn.cons rfl (Kn.nil)))) ?_
  refine awp_seq ?_
  refine awp_seq_region (fun Z hZ => ?_)
  refine sx_move rfl rfl ?_
  refine sx_assign rfl rfl ?_
  refine sx_nil (hZ _ _ ?_)
  refine awp_forget [(5, _), (9, _), (10, _)] (Kn.cons rfl (Kn.cons rfl (Kn.cons rfl (Kn.nil)))) ?_
  refine awp_block ?_
  refine awp_loop (ι := Value × Nat) (fun s => [(5, uq (base4 (z + 1) + (4 * h + 3))), (9, s.1), (10, uq (base4 (z + 1) + (4 * h + s.2)))]) (fun s => rowE s.1 52 3 (tlc (z + 1) (ptsL (z + 1) (4 * h) s.2))) (fun s => s.2 ≤ 4 ∧ RowOk s.1 s.2) (fun s => 4 - s.2) (.slice none 0 0, 0) ⟨Nat.zero_le _, RowOk.nil⟩ (Kn.cons rfl (Kn.cons rfl (Kn.cons rfl Kn.nil))) (HLe.sub (List.nil_sublist _)) ?_
  rintro ⟨u, j⟩ ⟨hj, hu⟩
  replace hj : j ≤ 4 := hj
  replace hu : RowOk u j := hu
  refine awp_forget [(5, uq (base4 (z + 1) + (4 * h + 3))), (9, u), (10, uq (base4 (z + 1) + (4 * h + j)))] (Kn.cons rfl (Kn.cons rfl (Kn.cons rfl Kn.nil))) ?_
  refine awp_heap (rowE u 52 3 (tlc (z + 1) (ptsL (z + 1) (4 * h) j))) (HLe.refl _) ?_
  refine awp_seq ?_
  refine awp_seq_region (fun Z hZ => ?_)
  refine sx_move rfl rfl ?_
  refine sx_move rfl rfl ?_
  refine sx_leq rfl rfl rfl ?_
  refine sx_nil (hZ _ _ ?_)
  refine awp_forget [(5, _), (9, _), (10, _), (35, _)] (Kn.cons rfl (Kn.cons rfl (Kn.cons rfl (Kn.cons rfl (Kn.nil))))) ?_
  refine awp_cond rfl (fun h9 => ?_) (fun h9 => ?_)
  · have hlt : j < 4 := by simp at h9; omega
    have hof := tOf_fn (z + 1) (4 * h + j) hz (by rw [Nat.pow_succ]; omega)
    obtain ⟨xy, hxy⟩ : ∃ x, pt (z + 1) (4 * h + j) = x := ⟨_, rfl⟩
    obtain ⟨x, y⟩ := xy
    rw [hxy] at hof
    obtain ⟨Au, cu, rfl, hAu⟩ := hu.form
    refine awp_skip ?_
    with_reducible refine nx_normal ?_
    refine awp_seq (awp_block ?_)

    refine awp_seq_region (fun Z hZ => ?_)
    refine sx_move rfl rfl ?_
    refine sx_callP (hof) rfl rfl ?_
    refine sx_move rfl rfl ?_
    refine sx_extract rfl rfl rfl ?_
    refine sx_extract rfl rfl rfl ?_
    refine sx_alloc tyZ52 rfl (fun g2 => ?_)
    first | refine sx_store 0 rfl rfl rfl tyS52 (by first | (simp only [Value.cells]; first | done | rfl) | rfl) rfl rfl (by first | (simp only [List.length_cons, List.length_nil, Nat.reduceAdd, Nat.zero_add, Nat.add_zero]; first | done | rfl) | rfl) (by first | (simp only [List.take_succ_cons, List.take_zero, List.drop_succ_cons, List.drop_zero, List.cons_append, List.nil_append, List.append_nil, List.length_cons, List.length_nil, Nat.reduceAdd, Nat.zero_add, Nat.add_zero, Value.cells, wrV]; first | done | rfl) | rfl) (by first | (simp only [List.set_cons_succ, List.set_cons_zero]; first | done | rfl) | rfl) ?_
    refine sx_assign rfl rfl ?_
    refine sx_nil (hZ _ _ ?_)
    refine awp_forget [(5, _), (9, _), (10, _), (11, _)] (Kn.cons rfl (Kn.cons rfl (Kn.cons rfl (Kn.cons rfl (Kn.nil))))) ?_
    refine awp_region (fun Z hZ => ?_)
    refine sx_move rfl rfl ?_
    first | refine sx_loadA 0 rfl rfl tyA52 tyS52 (by first | (simp only [List.length_cons, List.length_nil, Nat.reduceAdd, Nat.zero_add, Nat.add_zero]; first | done | rfl) | rfl) (by first | (simp only [List.take_succ_cons, List.take_zero, List.drop_succ_cons, List.drop_zero, List.cons_append, List.nil_append, List.append_nil, List.length_cons, List.length_nil, Nat.reduceAdd, Nat.zero_add, Nat.add_zero, Value.cells, wrV]; first | done | rfl) | rfl) rfl ?_
    refine sx_buildSlice Try.underlying55 tyS52 tyZ52 rfl rfl rfl rfl (by first | (simp only [List.take_succ_cons, List.take_zero, List.drop_succ_cons, List.drop_zero, List.cons_append, List.nil_append, List.append_nil, List.length_cons, List.length_nil, Nat.reduceAdd, Nat.zero_add, Nat.add_zero, Value.cells, wrV, zrep_one, List.replicate_succ, List.replicate_zero, Nat.reduceMul, Nat.zero_mul]; first | done | rfl) | rfl) rfl (fun g3 => ?_)
    refine sx_appendE (m := 1) (n := j) (xs := tlc (z + 1) (ptsL (z + 1) (4 * h) j)) [_, _] elemTT rfl hu (by rw [tlc_len, ptsL_len]) rfl (fun w hw => rd_own (i := 0) (xs := tcells (z + 1 : Nat) x y) rfl rfl hw) rfl (by show j + 1 ≤ 9223372036854775807; omega) (by omega) (HLe.refl _) rfl (fun v2 hv2 => ?_)
    refine sx_assign rfl rfl ?_
    refine sx_nil (hZ _ _ ?_)
    refine nx_forget [(5, _), (9, _), (10, _)] (Kn.cons rfl (Kn.cons rfl (Kn.cons rfl (Kn.nil)))) ?_
    repeat (with_reducible refine nx_block_normal ?_)
    with_reducible refine nx_normal ?_
    refine awp_region (fun Z hZ => ?_)
    refine sx_move rfl rfl ?_
    refine sx_add rfl rfl ((base4 (z + 1) + (4 * h + (j + 1)) : Nat) : Int) (by rw [IntWalk.u64_in _ (by omega)]; omega) rfl ?_
    refine sx_assign rfl rfl ?_
    refine sx_nil (hZ _ _ ?_)
    refine nx_forget [(5, _), (9, _), (10, _)] (Kn.cons rfl (Kn.cons rfl (Kn.cons rfl (Kn.nil)))) ?_
    refine nx_round (v2, j + 1) ⟨hlt, hv2⟩ (show 4 - (j + 1) < 4 - j by omega) (Kn.cons rfl (Kn.cons rfl (Kn.cons rfl Kn.nil))) ?_
    show HLe (rowE v2 _ 3 (tlc (z + 1) (ptsL (z + 1) (4 * h) (j + 1)))) _
    rw [ptsL_succ, tlc_app, hxy]
    exact HLe.drop 2 rfl
  · refine awp_exit ?_
    repeat (with_reducible refine nx_then_exit ?_)
    with_reducible refine nx_block_exit ?_
    with_reducible refine nx_normal ?_
    obtain rfl : j = 4 := by simp at h9; omega
    refine awp_seq_region (fun Z hZ => ?_)
    refine sx_move rfl rfl ?_
    refine sx_assign rfl rfl ?_
    refine sx_assign rfl rfl ?_
    refine sx_nil (hZ _ _ ?_)
    refine awp_forget [(2, _), (3, _)] (Kn.cons rfl (Kn.cons rfl (Kn.nil))) ?_
    refine awp_ret ?_
    exact nx_ret2h _ rfl rfl rfl (HLe.refl _) ⟨u, rfl, hu, rfl⟩
theorem tDown_top (a b : Nat) (ha : a < 2 ^ 26) (hb : b < 2 ^ 26) : Fn Try.prog 38 [tval (26 : Nat) a b] [] fun v H' => ∃ u, v = .tuple #[u, iq (6 : Int)] ∧ RowOk u 0 ∧ H' = rowE u 52 3 (tlc 26 []) := by
  have hid := tID_fn (26 : Nat) a b
  rw [(place_e0 (by omega) ha hb).1] at hid
  obtain ⟨h, hh⟩ : ∃ x, idV (26 : Nat) a b = x := ⟨_, rfl⟩
  rw [hh] at hid
  refine Fn.enter (N := 48) Try.func38 rfl (by kernel_rfl) rfl (fun w0 => ?_)

  refine awp_seq_region (fun Z hZ => ?_)
  refine sx_box rfl rfl rfl (fun g1 => ?_)
  refine sx_assign rfl rfl ?_
  refine sx_assign rfl rfl ?_
  refine sx_nil (hZ _ _ ?_)
  refine awp_forget [(1, _)] (Kn.cons rfl (Kn.nil)) ?_

  refine awp_seq_region (fun Z hZ => ?_)
  first | refine sx_loadA 0 rfl rfl tyA52 tyS52 (by first | (simp only [List.length_cons, List.length_nil, Nat.reduceAdd, Nat.zero_add, Nat.add_zero]; first | done | rfl) | rfl) (by first | (simp only [List.take_succ_cons, List.take_zero, List.drop_succ_cons, List.drop_zero, List.cons_append, List.nil_append, List.append_nil, List.length_cons, List.length_nil, Nat.reduceAdd, Nat.zero_add, Nat.add_zero, Value.cells, wrV]; first | done | rfl) | rfl) rfl ?_
  refine sx_fieldAddr rfl tyF52_0 (by first | (simp only [Nat.reduceAdd, Nat.add_zero, Nat.zero_add]; first | done | rfl) | rfl) rfl ?_
  first | refine sx_load 0 rfl rfl tyA3 tyS3 rfl rfl ?_
  refine sx_add rfl rfl ((27 : Nat) : Int) (by rw [IntWalk.i64_in _ (by omega)]; omega) rfl ?_
  refine sx_callP (tRange_top a b ha hb) rfl rfl ?_
  refine sx_move rfl rfl ?_
  refine sx_extract rfl rfl rfl ?_
  refine sx_extract rfl rfl rfl ?_
  refine sx_extract rfl rfl rfl ?_
  refine sx_assign rfl rfl ?_
  refine sx_assign rfl rfl ?_
  refine sx_assign rfl rfl ?_
  refine sx_nil (hZ _ _ ?_)
  refine awp_forget [(1, _), (4, _), (5, _), (6, _)] (Kn.cons rfl (Kn.cons rfl (Kn.cons rfl (Kn.cons rfl (Kn.nil))))) ?_
  refine awp_seq ?_
  refine awp_seq_region (fun Z hZ => ?_)
  refine sx_move rfl rfl ?_
  refine sx_neq rfl rfl rfl ?_
  refine sx_nil (hZ _ _ ?_)
  refine awp_forget [(1, _), (4, _), (5, _), (6, _), (23, _)] (Kn.cons rfl (Kn.cons rfl (Kn.cons rfl (Kn.cons rfl (Kn.cons rfl (Kn.nil)))))) ?_
  refine awp_cond rfl (fun h1 => ?_) (fun h1 => ?_)
  · refine awp_seq ?_
    refine awp_seq_region (fun Z hZ => ?_)
    first | refine sx_loadA 0 rfl rfl tyA52 tyS52 (by first | (simp only [List.length_cons, List.length_nil, Nat.reduceAdd, Nat.zero_add, Nat.add_zero]; first | done | rfl) | rfl) (by first | (simp only [List.take_succ_cons, List.take_zero, List.drop_succ_cons, List.drop_zero, List.cons_append, List.nil_append, List.append_nil, List.length_cons, List.length_nil, Nat.reduceAdd, Nat.zero_add, Nat.add_zero, Value.cells, wrV]; first | done | rfl) | rfl) rfl ?_
    refine sx_callP (hid) rfl rfl ?_
    refine sx_move rfl rfl ?_
    refine sx_extract rfl rfl rfl ?_
    refine sx_extract rfl rfl rfl ?_
    refine sx_assign rfl rfl ?_
    refine sx_assign rfl rfl ?_
    refine sx_nil (hZ _ _ ?_)
    refine awp_forget [(6, _), (8, _)] (Kn.cons rfl (Kn.cons rfl (Kn.nil))) ?_
    refine awp_seq_region (fun Z hZ => ?_)
    refine sx_move rfl rfl ?_
    refine sx_eql rfl rfl rfl ?_
    refine sx_nil (hZ _ _ ?_)
    refine awp_forget [(6, _), (30, _)] (Kn.cons rfl (Kn.cons rfl (Kn.nil))) ?_
    refine awp_cond rfl (fun h2 => ?_) (fun h2 => ?_)
    · refine awp_region (fun Z hZ => ?_)
      refine sx_assign rfl rfl ?_
      refine sx_nil (hZ _ _ ?_)
      refine nx_forget [(6, _)] (Kn.cons rfl (Kn.nil)) ?_
      with_reducible refine nx_normal ?_
      refine awp_seq_region (fun Z hZ => ?_)
      refine sx_move rfl rfl ?_
      refine sx_assign rfl rfl ?_
      refine sx_assign rfl rfl ?_
      refine sx_nil (hZ _ _ ?_)
      refine awp_forget [(2, _), (3, _)] (Kn.cons rfl (Kn.cons rfl (Kn.nil))) ?_
      refine awp_ret ?_
      repeat (with_reducible refine nx_then_ret ?_)
      exact nx_ret2h [] rfl rfl rfl (HLe.sub (List.nil_sublist _)) ⟨_, rfl, RowOk.nil, rfl⟩
    cases h2
  cases h1
theorem pts_tgt {z d : Nat} (hz : z + 1 ≤ 26) (hd : d < 4 ^ z) : Tgts (z + 1) (ptsL (z + 1) (4 * d) 4) (relM false (base4 z + d)) := by
  have hdl : ∀ j, j < 4 → 4 * d + j < 4 ^ (z + 1) := fun j hj => by rw [Nat.pow_succ]; omega
  refine ⟨hz, fun p hp => ?_, by rw [ptsL_len]; exact Nat.le_refl _, fun k => ⟨?_, ?_⟩⟩
  · obtain ⟨j, hj, rfl⟩ := List.mem_map.1 hp
    exact pt_lt _ _ (hdl j (List.mem_range.1 hj))
  · rintro ⟨p, hp, rfl⟩
    obtain ⟨j, hj, rfl⟩ := List.mem_map.1 hp
    have h := hdl j (List.mem_range.1 hj)
    have hj4 := List.mem_range.1 hj
    rw [hp_pt _ _ h]
    refine ⟨base4_lt hz h, by rw [zN_is hz h]; omega, ?_⟩
    rw [upK_is hz h]
    omega
  · rintro ⟨h1, h2, h3⟩
    obtain ⟨n, e, hn, he, rfl, h4, h5⟩ := zoom_ex1 h1 h2
    rw [h4] at h3
    have h6 := zN_is (show n ≤ 26 by omega) h5
    rw [h3, zN_is (by omega) hd] at h6
    subst h6
    refine ⟨pt (z + 1) e, List.mem_map.2 ⟨e % 4, List.mem_range.2 (by omega), ?_⟩, by rw [hp_pt _ _ he]⟩
    rw [show 4 * d + e % 4 = e by omega]
/-- The program's Down of a tile, either way. -/
theorem tDown_any (z a b : Nat) (hz : z ≤ 26) (ha : a < 2 ^ z) (hb : b < 2 ^ z) : ∃ (K : List (Nat × Nat)) (zz : Nat) (g : Int), Tgts zz K (relM false (base4 z + hp z a b)) ∧ (g = 0 ∨ (g = 6 ∧ K = [])) ∧
    Fn Try.prog 38 [tval (z : Nat) a b] [] fun v H' => ∃ u, v = .tuple #[u, iq g] ∧ RowOk u K.length ∧ H' = rowE u 52 3 (tlc zz K) := by
  by_cases h : z = 26
  · subst h
    exact ⟨[], 26, 6, tgt_top (hp_lt _ _ _ ha hb), .inr ⟨rfl, rfl⟩, tDown_top a b ha hb⟩
  · exact ⟨ptsL (z + 1) (4 * hp z a b) 4, z + 1, 0, pts_tgt (by omega) (hp_lt _ _ _ ha hb), .inl rfl, by rw [ptsL_len]; exact tDown_fn z a b (by omega) ha hb⟩
/-- The program's Up of a tile, either way. -/
theorem tUp_any (z a b : Nat) (hz : z ≤ 26) (ha : a < 2 ^ z) (hb : b < 2 ^ z) : ∃ (y c d : Nat) (g : Int), y ≤ 26 ∧ c < 2 ^ y ∧ d < 2 ^ y ∧ ((g = 0 ∧ 1 ≤ zN (base4 z + hp z a b) ∧ base4 y + hp y c d = upK (base4 z + hp z a b)) ∨ (g = 6 ∧ zN (base4 z + hp z a b) = 0)) ∧
    Fn Try.prog 37 [tval (z : Nat) a b] [] fun v _ => v = .tuple #[tval y c d, iq g] := by
  have hzn := zN_is hz (hp_lt z a b ha hb)
  rcases Nat.eq_zero_or_pos z with h | h
  · subst h
    obtain rfl : a = 0 := by simp at ha; omega
    obtain rfl : b = 0 := by simp at hb; omega
    exact ⟨0, 0, 0, 6, by omega, by decide, by decide, .inr ⟨rfl, hzn⟩, tUp_top⟩
  · obtain ⟨n, rfl⟩ : ∃ n, z = n + 1 := ⟨z - 1, by omega⟩
    have h1 := ha
    have h2 := hb
    rw [Nat.pow_succ] at h1 h2
    refine ⟨n, a / 2, b / 2, 0, by omega, by omega, by omega, .inl ⟨rfl, by omega, ?_⟩, tUp_fn n a b hz ha hb⟩
    rw [upK_is hz (hp_lt _ _ _ ha hb), hp_up n a b ha hb]
end Go.Proofs.Ytbldhokgbcljjaa
