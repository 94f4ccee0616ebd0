/- The walks of header's reference: whether a header may be, how sections lie, its bytes. No conditions. -/
import Derived.Test.YtkcbdidaahgfhaaHd2
import Derived.Test.YtkcbdidaahgfhaaLittle8
namespace Go.Proofs.Ytkcbdidaahgfhaa
open Go.RowKit
set_option linter.unusedVariables false
set_option linter.unusedSimpArgs false
theorem rcheck_fn (h : Hdr) : Fn Try.prog 32 [h.val] [] fun v _ => v = .int .i64 (checkV h) := by
  refine Fn.enter (N := 105) Try.func32 rfl (by kernel_rfl) rfl (fun w0 => ?_)
  refine awp_seq_region (fun Z hZ => ?_)
  refine sx_box rfl rfl rfl (fun g1 => ?_)
  refine sx_assign rfl rfl ?_
  refine sx_nil (hZ _ _ ?_)
  refine awp_forget [(1, _)] (Kn.cons rfl (Kn.nil)) ?_
  refine awp_seq ?_
  refine awp_seq_meet [(1, ptr g1 0), (26, .bool (!(secsV h)))] [.own g1 27 h.cells] (fun Z hZ => ?_) ?_
  · refine sx_fieldAddr rfl tyF27_0 (by first | (simp only [Nat.reduceAdd, Nat.add_zero, Nat.zero_add]; first | done | rfl) | rfl) rfl ?_
    first | refine sx_loadA 0 rfl rfl tyA25 tyS25 (by first | (simp only [List.length_cons, List.length_nil, Nat.reduceAdd, Nat.zero_add, Nat.add_zero]; first | done | rfl) | rfl) (by first | (simp only [List.take_succ_cons, List.take_zero, List.drop_succ_cons, List.drop_zero, List.cons_append, List.nil_append, List.append_nil, List.length_cons, List.length_nil, Nat.reduceAdd, Nat.zero_add, Nat.add_zero, Value.cells, wrV]; first | done | rfl) | rfl) rfl ?_
    refine sx_callP (rfits_fn _ _) rfl rfl ?_
    refine sx_not rfl rfl ?_
    refine sx_move rfl rfl ?_
    refine sx_split 9 rfl (fun hb4 => ?_) (fun hb4 => ?_)
    · refine sx_off rfl rfl rfl rfl rfl ?_
      refine sx_off rfl rfl rfl rfl rfl ?_
      refine sx_off rfl rfl rfl rfl rfl ?_
      refine sx_off rfl rfl rfl rfl rfl ?_
      refine sx_pick rfl rfl rfl ?_
      refine sx_move rfl rfl ?_
      refine sx_off rfl rfl rfl rfl rfl ?_
      refine sx_off rfl rfl rfl rfl rfl ?_
      refine sx_off rfl rfl rfl rfl rfl ?_
      refine sx_off rfl rfl rfl rfl rfl ?_
      refine sx_pick rfl rfl rfl ?_
      refine sx_move rfl rfl ?_
      refine sx_off rfl rfl rfl rfl rfl ?_
      refine sx_off rfl rfl rfl rfl rfl ?_
      refine sx_off rfl rfl rfl rfl rfl ?_
      refine sx_off rfl rfl rfl rfl rfl ?_
      refine sx_pick rfl rfl rfl ?_
      refine sx_nil (hZ _ _ ?_ ?_)
      · exact Kn.cons rfl (Kn.cons (congrArg some (congrArg Value.bool (by simp_all [secsV]))) Kn.nil)
      · exact HLe.refl _
    · refine sx_on rfl rfl rfl ?_
      refine sx_fieldAddr rfl tyF27_1 (by first | (simp only [Nat.reduceAdd, Nat.add_zero, Nat.zero_add]; first | done | rfl) | rfl) rfl ?_
      refine sx_on rfl rfl rfl ?_
      first | refine sx_loadA 0 rfl rfl tyA25 tyS25 (by first | (simp only [List.length_cons, List.length_nil, Nat.reduceAdd, Nat.zero_add, Nat.add_zero]; first | done | rfl) | rfl) (by first | (simp only [List.take_succ_cons, List.take_zero, List.drop_succ_cons, List.drop_zero, List.cons_append, List.nil_append, List.append_nil, List.length_cons, List.length_nil, Nat.reduceAdd, Nat.zero_add, Nat.add_zero, Value.cells, wrV]; first | done | rfl) | rfl) rfl ?_
      refine sx_on rfl rfl rfl ?_
      refine sx_callP (rfits_fn _ _) rfl rfl ?_
      refine sx_on rfl rfl rfl ?_
      refine sx_not rfl rfl ?_
      refine sx_pick rfl rfl rfl ?_
      refine sx_move rfl rfl ?_
      refine sx_split 15 rfl (fun hb10 => ?_) (fun hb10 => ?_)
      · refine sx_off rfl rfl rfl rfl rfl ?_
        refine sx_off rfl rfl rfl rfl rfl ?_
        refine sx_off rfl rfl rfl rfl rfl ?_
        refine sx_off rfl rfl rfl rfl rfl ?_
        refine sx_pick rfl rfl rfl ?_
        refine sx_move rfl rfl ?_
        refine sx_off rfl rfl rfl rfl rfl ?_
        refine sx_off rfl rfl rfl rfl rfl ?_
        refine sx_off rfl rfl rfl rfl rfl ?_
        refine sx_off rfl rfl rfl rfl rfl ?_
        refine sx_pick rfl rfl rfl ?_
        refine sx_nil (hZ _ _ ?_ ?_)
        · exact Kn.cons rfl (Kn.cons (congrArg some (congrArg Value.bool (by simp_all [secsV]))) Kn.nil)
        · exact HLe.refl _
      · refine sx_on rfl rfl rfl ?_
        refine sx_fieldAddr rfl tyF27_2 (by first | (simp only [Nat.reduceAdd, Nat.add_zero, Nat.zero_add]; first | done | rfl) | rfl) rfl ?_
        refine sx_on rfl rfl rfl ?_
        first | refine sx_loadA 0 rfl rfl tyA25 tyS25 (by first | (simp only [List.length_cons, List.length_nil, Nat.reduceAdd, Nat.zero_add, Nat.add_zero]; first | done | rfl) | rfl) (by first | (simp only [List.take_succ_cons, List.take_zero, List.drop_succ_cons, List.drop_zero, List.cons_append, List.nil_append, List.append_nil, List.length_cons, List.length_nil, Nat.reduceAdd, Nat.zero_add, Nat.add_zero, Value.cells, wrV]; first | done | rfl) | rfl) rfl ?_
        refine sx_on rfl rfl rfl ?_
        refine sx_callP (rfits_fn _ _) rfl rfl ?_
        refine sx_on rfl rfl rfl ?_
        refine sx_not rfl rfl ?_
        refine sx_pick rfl rfl rfl ?_
        refine sx_move rfl rfl ?_
        refine sx_split 21 rfl (fun hb16 => ?_) (fun hb16 => ?_)
        · refine sx_off rfl rfl rfl rfl rfl ?_
          refine sx_off rfl rfl rfl rfl rfl ?_
          refine sx_off rfl rfl rfl rfl rfl ?_
          refine sx_off rfl rfl rfl rfl rfl ?_
          refine sx_pick rfl rfl rfl ?_
          refine sx_nil (hZ _ _ ?_ ?_)
          · exact Kn.cons rfl (Kn.cons (congrArg some (congrArg Value.bool (by simp_all [secsV]))) Kn.nil)
          · exact HLe.refl _
        · refine sx_on rfl rfl rfl ?_
          refine sx_fieldAddr rfl tyF27_3 (by first | (simp only [Nat.reduceAdd, Nat.add_zero, Nat.zero_add]; first | done | rfl) | rfl) rfl ?_
          refine sx_on rfl rfl rfl ?_
          first | refine sx_loadA 0 rfl rfl tyA25 tyS25 (by first | (simp only [List.length_cons, List.length_nil, Nat.reduceAdd, Nat.zero_add, Nat.add_zero]; first | done | rfl) | rfl) (by first | (simp only [List.take_succ_cons, List.take_zero, List.drop_succ_cons, List.drop_zero, List.cons_append, List.nil_append, List.append_nil, List.length_cons, List.length_nil, Nat.reduceAdd, Nat.zero_add, Nat.add_zero, Value.cells, wrV]; first | done | rfl) | rfl) rfl ?_
          refine sx_on rfl rfl rfl ?_
          refine sx_callP (rfits_fn _ _) rfl rfl ?_
          refine sx_on rfl rfl rfl ?_
          refine sx_not rfl rfl ?_
          refine sx_pick rfl rfl rfl ?_
          refine sx_nil (hZ _ _ ?_ ?_)
          · exact Kn.cons rfl (Kn.cons (congrArg some (congrArg Value.bool (by simp_all [secsV]))) Kn.nil)
          · exact HLe.refl _
  first | refine awp_cond rfl (fun h26 => ?_) (fun h26 => ?_) | refine awp_seq (awp_cond rfl (fun h26 => ?_) (fun h26 => ?_))
  · refine awp_seq_region (fun Z hZ => ?_)
    refine sx_assign rfl rfl ?_
    refine sx_nil (hZ _ _ ?_)
    refine awp_forget [(2, _)] (Kn.cons rfl (Kn.nil)) ?_
    refine awp_ret ?_
    repeat (with_reducible (first | refine nx_then_ret ?_ | refine nx_block_ret ?_))
    exact nx_ret1 rfl rfl (by simp at h26; simp [checkV, h26])
  refine awp_skip ?_
  repeat (with_reducible refine nx_block_normal ?_)
  with_reducible refine nx_normal ?_
  have hs : secsV h = true := by simpa using h26

  refine awp_seq ?_
  refine awp_seq_meet [(1, ptr g1 0), (39, .bool (kindV h))] [.own g1 27 h.cells] (fun Z hZ => ?_) ?_
  · refine sx_fieldAddr rfl tyF27_8 (by first | (simp only [Nat.reduceAdd, Nat.add_zero, Nat.zero_add]; first | done | rfl) | rfl) rfl ?_
    first | refine sx_load 0 rfl rfl tyA5 tyS5 rfl rfl ?_
    first | refine sx_gtr rfl rfl rfl ?_ | refine sx_sgtr rfl rfl rfl ?_
    refine sx_move rfl rfl ?_
    refine sx_split 30 rfl (fun hb3 => ?_) (fun hb3 => ?_)
    · refine sx_off rfl rfl rfl rfl rfl ?_
      refine sx_off rfl rfl rfl rfl rfl ?_
      refine sx_off rfl rfl rfl rfl rfl ?_
      refine sx_pick rfl rfl rfl ?_
      refine sx_move rfl rfl ?_
      refine sx_off rfl rfl rfl rfl rfl ?_
      refine sx_off rfl rfl rfl rfl rfl ?_
      refine sx_off rfl rfl rfl rfl rfl ?_
      refine sx_pick rfl rfl rfl ?_
      refine sx_nil (hZ _ _ ?_ ?_)
      · exact Kn.cons rfl (Kn.cons (congrArg some (congrArg Value.bool (by rw [Bool.eq_iff_iff]; simp [kindV] at *; omega))) Kn.nil)
      · exact HLe.refl _
    · refine sx_on rfl rfl rfl ?_
      refine sx_fieldAddr rfl tyF27_9 (by first | (simp only [Nat.reduceAdd, Nat.add_zero, Nat.zero_add]; first | done | rfl) | rfl) rfl ?_
      refine sx_on rfl rfl rfl ?_
      first | refine sx_load 0 rfl rfl tyA5 tyS5 rfl rfl ?_
      refine sx_on rfl rfl rfl ?_
      first | refine sx_gtr rfl rfl rfl ?_ | refine sx_sgtr rfl rfl rfl ?_
      refine sx_pick rfl rfl rfl ?_
      refine sx_move rfl rfl ?_
      refine sx_split 35 rfl (fun hb8 => ?_) (fun hb8 => ?_)
      · refine sx_off rfl rfl rfl rfl rfl ?_
        refine sx_off rfl rfl rfl rfl rfl ?_
        refine sx_off rfl rfl rfl rfl rfl ?_
        refine sx_pick rfl rfl rfl ?_
        refine sx_nil (hZ _ _ ?_ ?_)
        · exact Kn.cons rfl (Kn.cons (congrArg some (congrArg Value.bool (by rw [Bool.eq_iff_iff]; simp [kindV] at *; omega))) Kn.nil)
        · exact HLe.refl _
      · refine sx_on rfl rfl rfl ?_
        refine sx_fieldAddr rfl tyF27_10 (by first | (simp only [Nat.reduceAdd, Nat.add_zero, Nat.zero_add]; first | done | rfl) | rfl) rfl ?_
        refine sx_on rfl rfl rfl ?_
        first | refine sx_load 0 rfl rfl tyA5 tyS5 rfl rfl ?_
        refine sx_on rfl rfl rfl ?_
        first | refine sx_gtr rfl rfl rfl ?_ | refine sx_sgtr rfl rfl rfl ?_
        refine sx_pick rfl rfl rfl ?_
        refine sx_nil (hZ _ _ ?_ ?_)
        · exact Kn.cons rfl (Kn.cons (congrArg some (congrArg Value.bool (by rw [Bool.eq_iff_iff]; simp [kindV] at *; omega))) Kn.nil)
        · exact HLe.refl _
  first | refine awp_cond rfl (fun h39 => ?_) (fun h39 => ?_) | refine awp_seq (awp_cond rfl (fun h39 => ?_) (fun h39 => ?_))
  · refine awp_seq_region (fun Z hZ => ?_)
    refine sx_assign rfl rfl ?_
    refine sx_nil (hZ _ _ ?_)
    refine awp_forget [(2, _)] (Kn.cons rfl (Kn.nil)) ?_
    refine awp_ret ?_
    repeat (with_reducible (first | refine nx_then_ret ?_ | refine nx_block_ret ?_))
    exact nx_ret1 rfl rfl (by simp [checkV, hs, h39])
  refine awp_skip ?_
  repeat (with_reducible refine nx_block_normal ?_)
  with_reducible refine nx_normal ?_

  refine awp_seq ?_
  refine awp_seq_meet [(1, ptr g1 0), (56, .bool (pairV 0 26 h.z0 h.z1 h.zo))] [.own g1 27 h.cells] (fun Z hZ => ?_) ?_
  · refine sx_fieldAddr rfl tyF27_11 (by first | (simp only [Nat.reduceAdd, Nat.add_zero, Nat.zero_add]; first | done | rfl) | rfl) rfl ?_
    first | refine sx_load 0 rfl rfl tyA3 tyS3 rfl rfl ?_
    refine sx_fieldAddr rfl tyF27_12 (by first | (simp only [Nat.reduceAdd, Nat.add_zero, Nat.zero_add]; first | done | rfl) | rfl) rfl ?_
    first | refine sx_load 0 rfl rfl tyA3 tyS3 rfl rfl ?_
    refine sx_callP (rbetween_fn _ _ _) rfl rfl ?_
    refine sx_not rfl rfl ?_
    refine sx_move rfl rfl ?_
    refine sx_split 46 rfl (fun hb6 => ?_) (fun hb6 => ?_)
    · refine sx_off rfl rfl rfl rfl rfl ?_
      refine sx_off rfl rfl rfl rfl rfl ?_
      refine sx_off rfl rfl rfl rfl rfl ?_
      refine sx_pick rfl rfl rfl ?_
      refine sx_move rfl rfl ?_
      refine sx_off rfl rfl rfl rfl rfl ?_
      refine sx_off rfl rfl rfl rfl rfl ?_
      refine sx_off rfl rfl rfl rfl rfl ?_
      refine sx_off rfl rfl rfl rfl rfl ?_
      refine sx_pick rfl rfl rfl ?_
      refine sx_nil (hZ _ _ ?_ ?_)
      · exact Kn.cons rfl (Kn.cons (congrArg some (congrArg Value.bool (by rw [Bool.eq_iff_iff]; simp [pairV, wi] at *; omega))) Kn.nil)
      · exact HLe.refl _
    · refine sx_on rfl rfl rfl ?_
      refine sx_fieldAddr rfl tyF27_12 (by first | (simp only [Nat.reduceAdd, Nat.add_zero, Nat.zero_add]; first | done | rfl) | rfl) rfl ?_
      refine sx_on rfl rfl rfl ?_
      first | refine sx_load 0 rfl rfl tyA3 tyS3 rfl rfl ?_
      refine sx_on rfl rfl rfl ?_
      first | refine sx_gtr rfl rfl rfl ?_ | refine sx_sgtr rfl rfl rfl ?_
      refine sx_pick rfl rfl rfl ?_
      refine sx_move rfl rfl ?_
      refine sx_split 51 rfl (fun hb11 => ?_) (fun hb11 => ?_)
      · refine sx_off rfl rfl rfl rfl rfl ?_
        refine sx_off rfl rfl rfl rfl rfl ?_
        refine sx_off rfl rfl rfl rfl rfl ?_
        refine sx_off rfl rfl rfl rfl rfl ?_
        refine sx_pick rfl rfl rfl ?_
        refine sx_nil (hZ _ _ ?_ ?_)
        · exact Kn.cons rfl (Kn.cons (congrArg some (congrArg Value.bool (by rw [Bool.eq_iff_iff]; simp [pairV, wi] at *; omega))) Kn.nil)
        · exact HLe.refl _
      · refine sx_on rfl rfl rfl ?_
        refine sx_fieldAddr rfl tyF27_17 (by first | (simp only [Nat.reduceAdd, Nat.add_zero, Nat.zero_add]; first | done | rfl) | rfl) rfl ?_
        refine sx_on rfl rfl rfl ?_
        first | refine sx_load 0 rfl rfl tyA3 tyS3 rfl rfl ?_
        refine sx_on rfl rfl rfl ?_
        refine sx_callP (rbetween_fn _ _ _) rfl rfl ?_
        refine sx_on rfl rfl rfl ?_
        refine sx_not rfl rfl ?_
        refine sx_pick rfl rfl rfl ?_
        refine sx_nil (hZ _ _ ?_ ?_)
        · exact Kn.cons rfl (Kn.cons (congrArg some (congrArg Value.bool (by rw [Bool.eq_iff_iff]; simp [pairV, wi] at *; omega))) Kn.nil)
        · exact HLe.refl _
  first | refine awp_cond rfl (fun h56 => ?_) (fun h56 => ?_) | refine awp_seq (awp_cond rfl (fun h56 => ?_) (fun h56 => ?_))
  · refine awp_seq_region (fun Z hZ => ?_)
    refine sx_assign rfl rfl ?_
    refine sx_nil (hZ _ _ ?_)
    refine awp_forget [(2, _)] (Kn.cons rfl (Kn.nil)) ?_
    refine awp_ret ?_
    repeat (with_reducible (first | refine nx_then_ret ?_ | refine nx_block_ret ?_))
    exact nx_ret1 rfl rfl (by simp [checkV, hs, h39, h56])
  refine awp_skip ?_
  repeat (with_reducible refine nx_block_normal ?_)
  with_reducible refine nx_normal ?_

  refine awp_seq_region (fun Z hZ => ?_)
  refine sx_assign rfl rfl ?_
  refine sx_assign rfl rfl ?_
  refine sx_nil (hZ _ _ ?_)
  refine awp_forget [(1, _), (3, _), (4, _)] (Kn.cons rfl (Kn.cons rfl (Kn.cons rfl (Kn.nil)))) ?_
  refine awp_seq ?_
  refine awp_seq_meet [(1, ptr g1 0), (104, .bool (or (pairV (-1800000000) 1800000000 h.lo0 h.lo1 h.lon) (pairV (-900000000) 900000000 h.la0 h.la1 h.lat)))] [.own g1 27 h.cells] (fun Z hZ => ?_) ?_
  · refine sx_fieldAddr rfl tyF27_13 (by first | (simp only [Nat.reduceAdd, Nat.add_zero, Nat.zero_add]; first | done | rfl) | rfl) rfl ?_
    first | refine sx_load 0 rfl rfl tyA3 tyS3 rfl rfl ?_
    refine sx_move rfl rfl ?_
    refine sx_neg rfl (-1800000000) rfl rfl ?_
    refine sx_fieldAddr rfl tyF27_15 (by first | (simp only [Nat.reduceAdd, Nat.add_zero, Nat.zero_add]; first | done | rfl) | rfl) rfl ?_
    first | refine sx_load 0 rfl rfl tyA3 tyS3 rfl rfl ?_
    refine sx_callP (rbetween_fn _ _ _) rfl rfl ?_
    refine sx_not rfl rfl ?_
    refine sx_move rfl rfl ?_
    refine sx_split 65 rfl (fun hb8 => ?_) (fun hb8 => ?_)
    · refine sx_off rfl rfl rfl rfl rfl ?_
      refine sx_off rfl rfl rfl rfl rfl ?_
      refine sx_off rfl rfl rfl rfl rfl ?_
      refine sx_off rfl rfl rfl rfl rfl ?_
      refine sx_pick rfl rfl rfl ?_
      refine sx_move rfl rfl ?_
      refine sx_off rfl rfl rfl rfl rfl ?_
      refine sx_off rfl rfl rfl rfl rfl ?_
      refine sx_off rfl rfl rfl rfl rfl ?_
      refine sx_off rfl rfl rfl rfl rfl ?_
      refine sx_off rfl rfl rfl rfl rfl ?_
      refine sx_off rfl rfl rfl rfl rfl ?_
      refine sx_off rfl rfl rfl rfl rfl ?_
      refine sx_off rfl rfl rfl rfl rfl ?_
      refine sx_pick rfl rfl rfl ?_
      refine sx_move rfl rfl ?_
      refine sx_off rfl rfl rfl rfl rfl ?_
      refine sx_off rfl rfl rfl rfl rfl ?_
      refine sx_off rfl rfl rfl rfl rfl ?_
      refine sx_off rfl rfl rfl rfl rfl ?_
      refine sx_pick rfl rfl rfl ?_
      refine sx_move rfl rfl ?_
      refine sx_off rfl rfl rfl rfl rfl ?_
      refine sx_off rfl rfl rfl rfl rfl ?_
      refine sx_off rfl rfl rfl rfl rfl ?_
      refine sx_off rfl rfl rfl rfl rfl ?_
      refine sx_off rfl rfl rfl rfl rfl ?_
      refine sx_off rfl rfl rfl rfl rfl ?_
      refine sx_off rfl rfl rfl rfl rfl ?_
      refine sx_pick rfl rfl rfl ?_
      refine sx_move rfl rfl ?_
      refine sx_off rfl rfl rfl rfl rfl ?_
      refine sx_off rfl rfl rfl rfl rfl ?_
      refine sx_off rfl rfl rfl rfl rfl ?_
      refine sx_off rfl rfl rfl rfl rfl ?_
      refine sx_off rfl rfl rfl rfl rfl ?_
      refine sx_off rfl rfl rfl rfl rfl ?_
      refine sx_off rfl rfl rfl rfl rfl ?_
      refine sx_pick rfl rfl rfl ?_
      refine sx_nil (hZ _ _ ?_ ?_)
      · exact Kn.cons rfl (Kn.cons (congrArg some (congrArg Value.bool (by clear hs h26 h39 h56; rw [Bool.eq_iff_iff]; simp [pairV, wi] at *; omega))) Kn.nil)
      · exact HLe.refl _
    · refine sx_on rfl rfl rfl ?_
      refine sx_fieldAddr rfl tyF27_15 (by first | (simp only [Nat.reduceAdd, Nat.add_zero, Nat.zero_add]; first | done | rfl) | rfl) rfl ?_
      refine sx_on rfl rfl rfl ?_
      first | refine sx_load 0 rfl rfl tyA3 tyS3 rfl rfl ?_
      refine sx_on rfl rfl rfl ?_
      refine sx_move rfl rfl ?_
      refine sx_on rfl rfl rfl ?_
      first | refine sx_gtr rfl rfl rfl ?_ | refine sx_sgtr rfl rfl rfl ?_
      refine sx_pick rfl rfl rfl ?_
      refine sx_move rfl rfl ?_
      refine sx_split 71 rfl (fun hb14 => ?_) (fun hb14 => ?_)
      · refine sx_off rfl rfl rfl rfl rfl ?_
        refine sx_off rfl rfl rfl rfl rfl ?_
        refine sx_off rfl rfl rfl rfl rfl ?_
        refine sx_off rfl rfl rfl rfl rfl ?_
        refine sx_off rfl rfl rfl rfl rfl ?_
        refine sx_off rfl rfl rfl rfl rfl ?_
        refine sx_off rfl rfl rfl rfl rfl ?_
        refine sx_off rfl rfl rfl rfl rfl ?_
        refine sx_pick rfl rfl rfl ?_
        refine sx_move rfl rfl ?_
        refine sx_off rfl rfl rfl rfl rfl ?_
        refine sx_off rfl rfl rfl rfl rfl ?_
        refine sx_off rfl rfl rfl rfl rfl ?_
        refine sx_off rfl rfl rfl rfl rfl ?_
        refine sx_pick rfl rfl rfl ?_
        refine sx_move rfl rfl ?_
        refine sx_off rfl rfl rfl rfl rfl ?_
        refine sx_off rfl rfl rfl rfl rfl ?_
        refine sx_off rfl rfl rfl rfl rfl ?_
        refine sx_off rfl rfl rfl rfl rfl ?_
        refine sx_off rfl rfl rfl rfl rfl ?_
        refine sx_off rfl rfl rfl rfl rfl ?_
        refine sx_off rfl rfl rfl rfl rfl ?_
        refine sx_pick rfl rfl rfl ?_
        refine sx_move rfl rfl ?_
        refine sx_off rfl rfl rfl rfl rfl ?_
        refine sx_off rfl rfl rfl rfl rfl ?_
        refine sx_off rfl rfl rfl rfl rfl ?_
        refine sx_off rfl rfl rfl rfl rfl ?_
        refine sx_off rfl rfl rfl rfl rfl ?_
        refine sx_off rfl rfl rfl rfl rfl ?_
        refine sx_off rfl rfl rfl rfl rfl ?_
        refine sx_pick rfl rfl rfl ?_
        refine sx_nil (hZ _ _ ?_ ?_)
        · exact Kn.cons rfl (Kn.cons (congrArg some (congrArg Value.bool (by clear hs h26 h39 h56; rw [Bool.eq_iff_iff]; simp [pairV, wi] at *; omega))) Kn.nil)
        · exact HLe.refl _
      · refine sx_on rfl rfl rfl ?_
        refine sx_fieldAddr rfl tyF27_14 (by first | (simp only [Nat.reduceAdd, Nat.add_zero, Nat.zero_add]; first | done | rfl) | rfl) rfl ?_
        refine sx_on rfl rfl rfl ?_
        first | refine sx_load 0 rfl rfl tyA3 tyS3 rfl rfl ?_
        refine sx_on rfl rfl rfl ?_
        refine sx_move rfl rfl ?_
        refine sx_on rfl rfl rfl ?_
        refine sx_neg rfl (-900000000) rfl rfl ?_
        refine sx_on rfl rfl rfl ?_
        refine sx_fieldAddr rfl tyF27_16 (by first | (simp only [Nat.reduceAdd, Nat.add_zero, Nat.zero_add]; first | done | rfl) | rfl) rfl ?_
        refine sx_on rfl rfl rfl ?_
        first | refine sx_load 0 rfl rfl tyA3 tyS3 rfl rfl ?_
        refine sx_on rfl rfl rfl ?_
        refine sx_callP (rbetween_fn _ _ _) rfl rfl ?_
        refine sx_on rfl rfl rfl ?_
        refine sx_not rfl rfl ?_
        refine sx_pick rfl rfl rfl ?_
        refine sx_move rfl rfl ?_
        refine sx_split 81 rfl (fun hb24 => ?_) (fun hb24 => ?_)
        · refine sx_off rfl rfl rfl rfl rfl ?_
          refine sx_off rfl rfl rfl rfl rfl ?_
          refine sx_off rfl rfl rfl rfl rfl ?_
          refine sx_off rfl rfl rfl rfl rfl ?_
          refine sx_pick rfl rfl rfl ?_
          refine sx_move rfl rfl ?_
          refine sx_off rfl rfl rfl rfl rfl ?_
          refine sx_off rfl rfl rfl rfl rfl ?_
          refine sx_off rfl rfl rfl rfl rfl ?_
          refine sx_off rfl rfl rfl rfl rfl ?_
          refine sx_off rfl rfl rfl rfl rfl ?_
          refine sx_off rfl rfl rfl rfl rfl ?_
          refine sx_off rfl rfl rfl rfl rfl ?_
          refine sx_pick rfl rfl rfl ?_
          refine sx_move rfl rfl ?_
          refine sx_off rfl rfl rfl rfl rfl ?_
          refine sx_off rfl rfl rfl rfl rfl ?_
          refine sx_off rfl rfl rfl rfl rfl ?_
          refine sx_off rfl rfl rfl rfl rfl ?_
          refine sx_off rfl rfl rfl rfl rfl ?_
          refine sx_off rfl rfl rfl rfl rfl ?_
          refine sx_off rfl rfl rfl rfl rfl ?_
          refine sx_pick rfl rfl rfl ?_
          refine sx_nil (hZ _ _ ?_ ?_)
          · exact Kn.cons rfl (Kn.cons (congrArg some (congrArg Value.bool (by clear hs h26 h39 h56; rw [Bool.eq_iff_iff]; simp [pairV, wi] at *; omega))) Kn.nil)
          · exact HLe.refl _
        · refine sx_on rfl rfl rfl ?_
          refine sx_fieldAddr rfl tyF27_16 (by first | (simp only [Nat.reduceAdd, Nat.add_zero, Nat.zero_add]; first | done | rfl) | rfl) rfl ?_
          refine sx_on rfl rfl rfl ?_
          first | refine sx_load 0 rfl rfl tyA3 tyS3 rfl rfl ?_
          refine sx_on rfl rfl rfl ?_
          refine sx_move rfl rfl ?_
          refine sx_on rfl rfl rfl ?_
          first | refine sx_gtr rfl rfl rfl ?_ | refine sx_sgtr rfl rfl rfl ?_
          refine sx_pick rfl rfl rfl ?_
          refine sx_move rfl rfl ?_
          refine sx_split 87 rfl (fun hb30 => ?_) (fun hb30 => ?_)
          · refine sx_off rfl rfl rfl rfl rfl ?_
            refine sx_off rfl rfl rfl rfl rfl ?_
            refine sx_off rfl rfl rfl rfl rfl ?_
            refine sx_off rfl rfl rfl rfl rfl ?_
            refine sx_off rfl rfl rfl rfl rfl ?_
            refine sx_off rfl rfl rfl rfl rfl ?_
            refine sx_off rfl rfl rfl rfl rfl ?_
            refine sx_pick rfl rfl rfl ?_
            refine sx_move rfl rfl ?_
            refine sx_off rfl rfl rfl rfl rfl ?_
            refine sx_off rfl rfl rfl rfl rfl ?_
            refine sx_off rfl rfl rfl rfl rfl ?_
            refine sx_off rfl rfl rfl rfl rfl ?_
            refine sx_off rfl rfl rfl rfl rfl ?_
            refine sx_off rfl rfl rfl rfl rfl ?_
            refine sx_off rfl rfl rfl rfl rfl ?_
            refine sx_pick rfl rfl rfl ?_
            refine sx_nil (hZ _ _ ?_ ?_)
            · exact Kn.cons rfl (Kn.cons (congrArg some (congrArg Value.bool (by clear hs h26 h39 h56; rw [Bool.eq_iff_iff]; simp [pairV, wi] at *; omega))) Kn.nil)
            · exact HLe.refl _
          · refine sx_on rfl rfl rfl ?_
            refine sx_fieldAddr rfl tyF27_18 (by first | (simp only [Nat.reduceAdd, Nat.add_zero, Nat.zero_add]; first | done | rfl) | rfl) rfl ?_
            refine sx_on rfl rfl rfl ?_
            first | refine sx_load 0 rfl rfl tyA3 tyS3 rfl rfl ?_
            refine sx_on rfl rfl rfl ?_
            refine sx_move rfl rfl ?_
            refine sx_on rfl rfl rfl ?_
            refine sx_neg rfl (-1800000000) rfl rfl ?_
            refine sx_on rfl rfl rfl ?_
            refine sx_move rfl rfl ?_
            refine sx_on rfl rfl rfl ?_
            refine sx_callP (rbetween_fn _ _ _) rfl rfl ?_
            refine sx_on rfl rfl rfl ?_
            refine sx_not rfl rfl ?_
            refine sx_pick rfl rfl rfl ?_
            refine sx_move rfl rfl ?_
            refine sx_split 96 rfl (fun hb39 => ?_) (fun hb39 => ?_)
            · refine sx_off rfl rfl rfl rfl rfl ?_
              refine sx_off rfl rfl rfl rfl rfl ?_
              refine sx_off rfl rfl rfl rfl rfl ?_
              refine sx_off rfl rfl rfl rfl rfl ?_
              refine sx_off rfl rfl rfl rfl rfl ?_
              refine sx_off rfl rfl rfl rfl rfl ?_
              refine sx_off rfl rfl rfl rfl rfl ?_
              refine sx_pick rfl rfl rfl ?_
              refine sx_nil (hZ _ _ ?_ ?_)
              · exact Kn.cons rfl (Kn.cons (congrArg some (congrArg Value.bool (by clear hs h26 h39 h56; rw [Bool.eq_iff_iff]; simp [pairV, wi] at *; omega))) Kn.nil)
              · exact HLe.refl _
            · refine sx_on rfl rfl rfl ?_
              refine sx_fieldAddr rfl tyF27_19 (by first | (simp only [Nat.reduceAdd, Nat.add_zero, Nat.zero_add]; first | done | rfl) | rfl) rfl ?_
              refine sx_on rfl rfl rfl ?_
              first | refine sx_load 0 rfl rfl tyA3 tyS3 rfl rfl ?_
              refine sx_on rfl rfl rfl ?_
              refine sx_move rfl rfl ?_
              refine sx_on rfl rfl rfl ?_
              refine sx_neg rfl (-900000000) rfl rfl ?_
              refine sx_on rfl rfl rfl ?_
              refine sx_move rfl rfl ?_
              refine sx_on rfl rfl rfl ?_
              refine sx_callP (rbetween_fn _ _ _) rfl rfl ?_
              refine sx_on rfl rfl rfl ?_
              refine sx_not rfl rfl ?_
              refine sx_pick rfl rfl rfl ?_
              refine sx_nil (hZ _ _ ?_ ?_)
              · exact Kn.cons rfl (Kn.cons (congrArg some (congrArg Value.bool (by clear hs h26 h39 h56; rw [Bool.eq_iff_iff]; simp [pairV, wi] at *; omega))) Kn.nil)
              · exact HLe.refl _
  first | refine awp_cond rfl (fun h104 => ?_) (fun h104 => ?_) | refine awp_seq (awp_cond rfl (fun h104 => ?_) (fun h104 => ?_))
  · refine awp_seq_region (fun Z hZ => ?_)
    refine sx_assign rfl rfl ?_
    refine sx_nil (hZ _ _ ?_)
    refine awp_forget [(2, _)] (Kn.cons rfl (Kn.nil)) ?_
    refine awp_ret ?_
    repeat (with_reducible (first | refine nx_then_ret ?_ | refine nx_block_ret ?_))
    refine nx_ret1 rfl rfl (congrArg (Value.int .i64) ?_)
    simp only [Bool.or_eq_true] at h104
    rcases h104 with h1 | h1 <;> simp [checkV, hs, h39, h56, h1]
  refine awp_skip ?_
  repeat (with_reducible refine nx_block_normal ?_)
  with_reducible refine nx_normal ?_
  refine awp_seq_region (fun Z hZ => ?_)
  refine sx_assign rfl rfl ?_
  refine sx_nil (hZ _ _ ?_)
  refine awp_forget [(2, _)] (Kn.cons rfl (Kn.nil)) ?_
  refine awp_ret ?_
  repeat (with_reducible (first | refine nx_then_ret ?_ | refine nx_block_ret ?_))
  simp only [Bool.or_eq_false_iff] at h104
  exact nx_ret1 rfl rfl (by simp [checkV, hs, h39, h56, h104])
theorem enter_rput : Enters Try.prog 51 := Enters.mk Try.func51 (by kernel_rfl) (by kernel_rfl)
theorem word_fn (n x : Nat) (hn : 1 ≤ n ∧ n ≤ 8) (hx : x < 18446744073709551616) : Fn Try.prog 34 [.int .i64 n, .int .u64 x] [] fun v _ => v = .string (str (leB n x)) := by
  have hL : putL [] n x = leB n x := by unfold putL; rw [if_pos (by omega)]; simp
  have hl : (putL [] n x).length = n := by rw [hL, leB_length]
  refine Fn.enter (N := 9) Try.func34 rfl (by kernel_rfl) rfl (fun w0 => ?_)
  refine awp_seq_region (fun Z hZ => ?_)
  refine sx_assign rfl rfl ?_
  refine sx_nil (hZ _ _ ?_)
  refine awp_forget [(0, _), (1, _)] (Kn.cons rfl (Kn.cons rfl (Kn.nil))) ?_
  refine awp_seq_region (fun Z hZ => ?_)
  refine sx_move rfl rfl ?_
  refine sx_move rfl rfl ?_
  refine sx_callR enter_rput rfl rfl (fun w hw => rput_any none 0 [] n x w (rd_nil rfl) (by simp) (by omega) hx) (fun v hv => ?_)
  obtain ⟨A, c, rfl, hA⟩ := hv.form
  refine sx_strB Try.underlying67 Try.underlying5 Try.underlying9 rfl (fun w hw => rd_rowE hv (by simp [bv]) (fun x hx => List.mem_append_left _ hx) hw) rfl ?_
  refine sx_assign rfl rfl ?_
  refine sx_nil (hZ _ _ ?_)
  refine awp_ret ?_
  repeat (with_reducible (first | refine nx_then_ret ?_ | refine nx_block_ret ?_))
  exact nx_ret1 rfl rfl (by rw [hL])
theorem enter_runs : Enters Try.prog 52 := Enters.mk Try.func52 (by kernel_rfl) (by kernel_rfl)
theorem runs_fn (v n : Int) (hx : -9223372036854775808 ≤ v ∧ v < 9223372036854775808) : Fn Try.prog 52 [.int .i64 v, .int .i64 n] [] fun u _ => u = .tuple #[.int .u64 (unsV v n), .int .i64 (unsE v n)] :=
  Fn.of_same enter_runs fun w => refUnsigned_any v n w hx
/-- Four bytes of a number with a sign. -/
def sgB (v : Int) : List UInt8 := leB 4 (unsV v 4).toNat
theorem unsV4 (v : Int) : 0 ≤ unsV v 4 ∧ unsV v 4 < 4294967296 := by
  unfold unsV
  split
  · have e : ((2 : Int) ^ (8 * (4 : Int)).toNat) = 4294967296 := by decide
    rw [e]
    omega
  · omega
theorem signed_fn (n : Int) (hx : -9223372036854775808 ≤ n ∧ n < 9223372036854775808) : Fn Try.prog 35 [.int .i64 n] [] fun v _ => v = .string (str (sgB n)) := by
  obtain ⟨m, hm⟩ : ∃ m : Nat, unsV n 4 = m := ⟨(unsV n 4).toNat, by have := unsV4 n; omega⟩
  have hm2 : m < 4294967296 := by have := unsV4 n; omega
  refine Fn.enter (N := 12) Try.func35 rfl (by kernel_rfl) rfl (fun w0 => ?_)
  refine awp_seq_region (fun Z hZ => ?_)
  refine sx_assign rfl rfl ?_
  refine sx_nil (hZ _ _ ?_)
  refine awp_forget [(0, _)] (Kn.cons rfl (Kn.nil)) ?_
  refine awp_seq_region (fun Z hZ => ?_)
  refine sx_move rfl rfl ?_
  refine sx_callP (runs_fn n 4 hx) rfl rfl ?_
  rw [hm]
  refine sx_move rfl rfl ?_
  refine sx_extract rfl rfl rfl ?_
  refine sx_extract rfl rfl rfl ?_
  refine sx_assign rfl rfl ?_
  refine sx_assign rfl rfl ?_
  refine sx_nil (hZ _ _ ?_)
  refine awp_forget [(3, _)] (Kn.cons rfl (Kn.nil)) ?_
  refine awp_seq_region (fun Z hZ => ?_)
  refine sx_move rfl rfl ?_
  refine sx_callP (word_fn 4 m (by omega) (by omega)) rfl rfl ?_
  refine sx_assign rfl rfl ?_
  refine sx_nil (hZ _ _ ?_)
  refine awp_forget [(2, _)] (Kn.cons rfl (Kn.nil)) ?_
  refine awp_ret ?_
  repeat (with_reducible (first | refine nx_then_ret ?_ | refine nx_block_ret ?_))
  exact nx_ret1 rfl rfl (by simp [sgB, hm])
end Go.Proofs.Ytkcbdidaahgfhaa
