/- LayoutSums. No conditions. -/
import Derived.Test.YtkcbdidaahgfhaaGly2
namespace Go.Proofs.Ytkcbdidaahgfhaa
open Go.RowKit
set_option linter.unusedVariables false
set_option linter.unusedSimpArgs false
theorem sec_rd {a b c d k : Nat} (h : k < 4) : rdV true 2 (sec8 127 a (127 + a) b (127 + a + b) c (127 + a + b + c) d) (k * 2) = some (.agg #[uq (atK a b c d k), uq (lnK a b c d k)]) := by obtain rfl | rfl | rfl | rfl := four h <;> rfl
set_option maxRecDepth 20000 in
theorem sums_fn (a b c d : Nat) (h4 : a < 18446744073709551616 ∧ b < 18446744073709551616 ∧ c < 18446744073709551616 ∧ d < 18446744073709551616) :
    Fn Try.prog 5 [.agg #[uq a, uq b, uq c, uq d]] [] fun v _ => v = .bool true := by
  obtain ⟨s0, t0, s1, t1, s2, t2, s3, t3, hC⟩ := secC_8 a b c d
  have hs1 := sections_fn a b c d h4
  rw [hC] at hs1
  obtain ⟨M, hM⟩ : ∃ M, secN a b c d = M := ⟨_, rfl⟩
  obtain ⟨E, hE⟩ : ∃ E, secE a b c d = E := ⟨_, rfl⟩
  rw [hM, hE] at hs1
  refine Fn.enter (N := 85) Try.func5 rfl (by kernel_rfl) rfl (fun w0 => ?_)

  refine awp_seq_region (fun Z hZ => ?_)
  refine sx_box rfl rfl rfl (fun g1 => ?_)
  refine sx_assign rfl rfl ?_
  refine sx_nil (hZ _ _ ?_)
  refine awp_forget [(1, _)] (Kn.cons rfl (Kn.nil)) ?_
  refine awp_seq_region (fun Z hZ => ?_)
  first | refine sx_loadA 0 rfl rfl tyA23 tyS23 (by first | (simp only [List.length_cons, List.length_nil, Nat.reduceAdd, Nat.zero_add, Nat.add_zero]; first | done | rfl) | rfl) (by first | (simp only [List.take_succ_cons, List.take_zero, List.drop_succ_cons, List.drop_zero, List.cons_append, List.nil_append, List.append_nil, List.length_cons, List.length_nil, Nat.reduceAdd, Nat.zero_add, Nat.add_zero, Value.cells, wrV]; first | done | rfl) | rfl) rfl ?_
  refine sx_callP hs1 rfl rfl ?_
  refine sx_move rfl rfl ?_
  refine sx_extract rfl rfl rfl ?_
  refine sx_extract rfl rfl rfl ?_
  refine sx_extract rfl rfl rfl ?_
  refine sx_alloc tyZ30 rfl (fun g2 => ?_)
  first | refine sx_store 0 rfl rfl rfl tyS30 (by first | (simp only [Value.cells]; first | done | rfl) | rfl) rfl rfl (by first | (simp only [List.length_cons, List.length_nil, Nat.reduceAdd, Nat.zero_add, Nat.add_zero]; first | done | rfl) | rfl) (by first | (simp only [List.take_succ_cons, List.take_zero, List.drop_succ_cons, List.drop_zero, List.cons_append, List.nil_append, List.append_nil, List.length_cons, List.length_nil, Nat.reduceAdd, Nat.zero_add, Nat.add_zero, Value.cells, wrV]; first | done | rfl) | rfl) (by first | (simp only [List.set_cons_succ, List.set_cons_zero]; first | done | rfl) | rfl) ?_ | refine sx_store 1 rfl rfl rfl tyS30 (by first | (simp only [Value.cells]; first | done | rfl) | rfl) rfl rfl (by first | (simp only [List.length_cons, List.length_nil, Nat.reduceAdd, Nat.zero_add, Nat.add_zero]; first | done | rfl) | rfl) (by first | (simp only [List.take_succ_cons, List.take_zero, List.drop_succ_cons, List.drop_zero, List.cons_append, List.nil_append, List.append_nil, List.length_cons, List.length_nil, Nat.reduceAdd, Nat.zero_add, Nat.add_zero, Value.cells, wrV]; first | done | rfl) | rfl) (by first | (simp only [List.set_cons_succ, List.set_cons_zero]; first | done | rfl) | rfl) ?_
  refine sx_assign rfl rfl ?_
  refine sx_assign rfl rfl ?_
  refine sx_nil (hZ _ _ ?_)
  refine awp_forget [(1, _), (3, _), (4, _), (5, _)] (Kn.cons rfl (Kn.cons rfl (Kn.cons rfl (Kn.cons rfl (Kn.nil))))) ?_
  refine awp_seq_region (fun Z hZ => ?_)
  refine sx_assign rfl rfl ?_
  refine sx_nil (hZ _ _ ?_)
  refine awp_forget [(1, _), (3, _), (4, _), (5, _), (6, _)] (Kn.cons rfl (Kn.cons rfl (Kn.cons rfl (Kn.cons rfl (Kn.cons rfl (Kn.nil)))))) ?_
  refine awp_seq_region (fun Z hZ => ?_)
  refine sx_assign rfl rfl ?_
  refine sx_nil (hZ _ _ ?_)
  refine awp_forget [(1, _), (3, _), (4, _), (5, _), (6, _), (7, _)] (Kn.cons rfl (Kn.cons rfl (Kn.cons rfl (Kn.cons rfl (Kn.cons rfl (Kn.cons rfl (Kn.nil))))))) ?_
  refine awp_seq ?_
  refine awp_seq_region (fun Z hZ => ?_)
  refine sx_assign rfl rfl ?_
  refine sx_nil (hZ _ _ ?_)
  refine awp_forget [(1, _), (3, _), (4, _), (5, _), (6, _), (7, _), (8, _)] (Kn.cons rfl (Kn.cons rfl (Kn.cons rfl (Kn.cons rfl (Kn.cons rfl (Kn.cons rfl (Kn.cons rfl (Kn.nil)))))))) ?_
  refine awp_block ?_
  refine awp_loop (ι := Nat × Bool × Nat) (fun i => [(1, ptr g1 0), (3, ptr g2 0), (4, uq M), (5, iq E), (6, .bool i.2.1), (7, uq i.2.2), (8, iq (i.1 : Nat))]) (fun _ => [.own g2 30 (sec8 s0 t0 s1 t1 s2 t2 s3 t3), .own g1 23 [uq a, uq b, uq c, uq d]])
    (fun i => i.1 ≤ 4 ∧ (i.2.1 = true → i.2.2 = atK a b c d i.1 ∧ atK a b c d i.1 ≤ 127 + i.1 * 1099511627776) ∧ (i.2.1 = false → secOk a b c d = false)) (fun i => 4 - i.1) (0, true, 127) ⟨by simp, fun _ => ⟨rfl, by simp [atK]⟩, fun h => by cases h⟩ (Kn.cons rfl (Kn.cons rfl (Kn.cons rfl (Kn.cons rfl (Kn.cons rfl (Kn.cons rfl (Kn.cons rfl Kn.nil))))))) (HLe.refl _) ?_
  rintro ⟨k, sm, S⟩ ⟨hk, hy, hnn⟩
  simp only at hk hy hnn

  refine awp_seq ?_
  refine awp_seq_region (fun Z hZ => ?_)
  refine sx_move rfl rfl ?_
  first | refine sx_lss rfl rfl rfl ?_ | refine sx_slss rfl rfl rfl ?_
  refine sx_nil (hZ _ _ ?_)
  refine awp_forget [(1, _), (3, _), (4, _), (5, _), (6, _), (7, _), (8, _), (18, _)] (Kn.cons rfl (Kn.cons rfl (Kn.cons rfl (Kn.cons rfl (Kn.cons rfl (Kn.cons rfl (Kn.cons rfl (Kn.cons rfl (Kn.nil))))))))) ?_
  first | refine awp_cond rfl (fun h => ?_) (fun h => ?_) | refine awp_seq (awp_cond rfl (fun h => ?_) (fun h => ?_))
  · have hlt : k < 4 := by simp at h; omega
    have hnx := at_next a b c d hlt
    have hll := ln_le a b c d hlt
    have hrd := ln_rd a b c d hlt
    refine awp_skip ?_
    repeat (with_reducible refine nx_block_normal ?_)
    with_reducible refine nx_normal ?_
    refine awp_seq (awp_block ?_)
    refine awp_seq_meet [(1, ptr g1 0), (3, ptr g2 0), (4, uq M), (5, iq E), (6, .bool (sm && decide (lnK a b c d k ≤ 1099511627776))), (7, uq S), (8, iq (k : Nat))] [.own g2 30 (sec8 s0 t0 s1 t1 s2 t2 s3 t3), .own g1 23 [uq a, uq b, uq c, uq d]] (fun Z hZ => ?_) ?_
    · refine sx_move rfl rfl ?_
      refine sx_move rfl rfl ?_
      refine sx_split 22 rfl (fun hb1 => ?_) (fun hb1 => ?_)
      · refine sx_on rfl rfl rfl ?_
        refine sx_move rfl rfl ?_
        refine sx_on rfl rfl rfl ?_
        refine sx_indexAddrA k Try.underlying23 tyS22 rfl rfl (by omega) (by simp) rfl ?_
        refine sx_on rfl rfl rfl ?_
        refine sx_load 1 rfl rfl tyA22 tyS22 hrd rfl ?_
        refine sx_on rfl rfl rfl ?_
        first | refine sx_leq rfl rfl rfl ?_ | refine sx_sleq rfl rfl rfl ?_
        refine sx_pick rfl rfl rfl ?_
        refine sx_assign rfl rfl ?_
        refine sx_nil (hZ _ _ ?_ ?_)
        · exact Kn.cons rfl (Kn.cons rfl (Kn.cons rfl (Kn.cons rfl (Kn.cons (congrArg some (congrArg Value.bool (by simp only at hb1; rw [hb1, Bool.eq_iff_iff]; simp; try omega))) (Kn.cons rfl (Kn.cons rfl Kn.nil))))))
        · exact HLe.refl _
      · refine sx_off rfl rfl rfl rfl rfl ?_
        refine sx_off rfl rfl rfl rfl rfl ?_
        refine sx_off rfl rfl rfl rfl rfl ?_
        refine sx_off rfl rfl rfl rfl rfl ?_
        refine sx_pick rfl rfl rfl ?_
        refine sx_assign rfl rfl ?_
        refine sx_nil (hZ _ _ ?_ ?_)
        · exact Kn.cons rfl (Kn.cons rfl (Kn.cons rfl (Kn.cons rfl (Kn.cons (congrArg some (congrArg Value.bool (by simp only at hb1; rw [hb1, Bool.eq_iff_iff]; simp; try omega))) (Kn.cons rfl (Kn.cons rfl Kn.nil))))))
        · exact HLe.refl _
    refine awp_seq_region (fun Z hZ => ?_)
    refine sx_move rfl rfl ?_
    refine sx_nil (hZ _ _ ?_)
    refine awp_forget [(1, _), (3, _), (4, _), (5, _), (6, _), (7, _), (8, _), (28, _)] (Kn.cons rfl (Kn.cons rfl (Kn.cons rfl (Kn.cons rfl (Kn.cons rfl (Kn.cons rfl (Kn.cons rfl (Kn.cons rfl (Kn.nil))))))))) ?_
    refine awp_meet (ι := Nat) (fun S' => [(1, ptr g1 0), (3, ptr g2 0), (4, uq M), (5, iq E), (6, .bool (sm && decide (lnK a b c d k ≤ 1099511627776))), (7, uq S'), (8, iq (k : Nat))]) (fun _ => [.own g2 30 (sec8 s0 t0 s1 t1 s2 t2 s3 t3), .own g1 23 [uq a, uq b, uq c, uq d]]) (fun S' => (sm && decide (lnK a b c d k ≤ 1099511627776)) = true → S' = atK a b c d (k + 1)) ?_ ?_
    · first | refine awp_cond rfl (fun hf => ?_) (fun hf => ?_) | refine awp_seq (awp_cond rfl (fun hf => ?_) (fun hf => ?_))
      · have hf2 := hf
        simp only [Bool.and_eq_true, decide_eq_true_eq] at hf2
        obtain ⟨y1, y2⟩ := hy hf2.1

        refine awp_region (fun Z hZ => ?_)
        refine sx_move rfl rfl ?_
        refine sx_move rfl rfl ?_
        refine sx_indexAddrA k Try.underlying23 tyS22 rfl rfl (by omega) (by simp) rfl ?_
        refine sx_load 1 rfl rfl tyA22 tyS22 hrd rfl ?_
        refine sx_add rfl rfl ((atK a b c d (k + 1) : Nat) : Int) (by rw [IntWalk.u64_in _ (by omega)]; omega) rfl ?_
        refine sx_assign rfl rfl ?_
        refine sx_nil (hZ _ _ ?_)
        refine nx_forget [(1, _), (3, _), (4, _), (5, _), (6, _), (7, _), (8, _)] (Kn.cons rfl (Kn.cons rfl (Kn.cons rfl (Kn.cons rfl (Kn.cons rfl (Kn.cons rfl (Kn.cons rfl (Kn.nil)))))))) ?_
        exact nx_cut (atK a b c d (k + 1)) (fun _ => rfl) (Kn.cons rfl (Kn.cons rfl (Kn.cons rfl (Kn.cons rfl (Kn.cons rfl (Kn.cons rfl (Kn.cons rfl Kn.nil))))))) (HLe.refl _)
      · refine awp_skip ?_
        exact nx_cut S (fun h => by rw [hf] at h; cases h) (Kn.cons rfl (Kn.cons rfl (Kn.cons rfl (Kn.cons rfl (Kn.cons rfl (Kn.cons rfl (Kn.cons rfl Kn.nil))))))) (HLe.refl _)
    intro S' hS'
    repeat (with_reducible refine nx_block_normal ?_)
    with_reducible refine nx_normal ?_
    refine awp_region (fun Z hZ => ?_)
    refine sx_move rfl rfl ?_
    refine sx_add rfl rfl ((k + 1 : Nat) : Int) (by rw [IntWalk.i64_in _ (by omega)]; omega) rfl ?_
    refine sx_assign rfl rfl ?_
    refine sx_nil (hZ _ _ ?_)
    refine nx_forget [(1, _), (3, _), (4, _), (5, _), (6, _), (7, _), (8, _)] (Kn.cons rfl (Kn.cons rfl (Kn.cons rfl (Kn.cons rfl (Kn.cons rfl (Kn.cons rfl (Kn.cons rfl (Kn.nil)))))))) ?_
    refine nx_round (k + 1, sm && decide (lnK a b c d k ≤ 1099511627776), S') ⟨by omega, fun ht => ⟨hS' ht, ?_⟩, fun hf => ?_⟩ (by simp; omega) (Kn.cons rfl (Kn.cons rfl (Kn.cons rfl (Kn.cons rfl (Kn.cons rfl (Kn.cons rfl (Kn.cons rfl Kn.nil))))))) (HLe.refl _)
    · simp only [Bool.and_eq_true, decide_eq_true_eq] at ht
      obtain ⟨y1, y2⟩ := hy ht.1
      simp only
      omega
    · simp only [Bool.and_eq_false_iff, decide_eq_false_iff_not] at hf
      rcases hf with hf | hf
      · exact hnn hf
      · exact decide_eq_false (by omega)
  · refine awp_exit ?_
    repeat (with_reducible (first | refine nx_then_exit ?_ | refine nx_block_other (by decide) ?_))
    with_reducible refine nx_block_exit ?_
    repeat (with_reducible refine nx_block_normal ?_)
    with_reducible refine nx_normal ?_
    have hke : k = 4 := by simp at h; omega
    subst hke
    have hat4 : atK a b c d 4 = 127 + a + b + c + d := rfl

    refine awp_seq ?_
    refine awp_seq_region (fun Z hZ => ?_)
    refine sx_move rfl rfl ?_
    first | refine sx_neq rfl rfl rfl ?_ | refine sx_sneq rfl rfl rfl ?_
    refine sx_nil (hZ _ _ ?_)
    refine awp_forget [(1, _), (3, _), (4, _), (6, _), (7, _), (35, _)] (Kn.cons rfl (Kn.cons rfl (Kn.cons rfl (Kn.cons rfl (Kn.cons rfl (Kn.cons rfl (Kn.nil))))))) ?_
    cases hok : secOk a b c d with
    | false =>
      obtain rfl : M = 0 := by rw [← hM]; exact if_neg (by simp [hok])
      obtain rfl : E = 8 := by rw [← hE]; exact if_neg (by simp [hok])
      have hz : secC a b c d = zero8 := if_neg (by simp [hok])
      have hno : ¬ 127 + a + b + c + d ≤ 1099511627776 := of_decide_eq_false hok
      rw [hC] at hz
      rw [hz]
      first | refine awp_cond rfl (fun h => ?_) (fun h => ?_) | refine awp_seq (awp_cond rfl (fun h => ?_) (fun h => ?_))
      · refine awp_seq_meet [(2, .bool true)] [] (fun Z hZ => ?_) ?_
        · refine sx_move rfl rfl ?_
          refine sx_not rfl rfl ?_
          refine sx_move rfl rfl ?_
          refine sx_split 38 rfl (fun hb2 => ?_) (fun hb2 => ?_)
          · refine sx_off rfl rfl rfl rfl rfl ?_
            refine sx_off rfl rfl rfl rfl rfl ?_
            refine sx_pick rfl rfl rfl ?_
            refine sx_move rfl rfl ?_
            refine sx_on rfl rfl rfl ?_
            refine sx_move rfl rfl ?_
            refine sx_on rfl rfl rfl ?_
            first | refine sx_eql rfl rfl rfl ?_ | refine sx_seql rfl rfl rfl ?_
            refine sx_pick rfl rfl rfl ?_
            refine sx_move rfl rfl ?_
            refine sx_split 46 rfl (fun hb10 => ?_) (fun hb10 => ?_)
            · refine sx_on rfl rfl rfl ?_
              first | refine sx_loadA 0 rfl rfl tyA30 tyS30 (by first | (simp only [List.length_cons, List.length_nil, Nat.reduceAdd, Nat.zero_add, Nat.add_zero]; first | done | rfl) | rfl) (by first | (simp only [List.take_succ_cons, List.take_zero, List.drop_succ_cons, List.drop_zero, List.cons_append, List.nil_append, List.append_nil, List.length_cons, List.length_nil, Nat.reduceAdd, Nat.zero_add, Nat.add_zero, Value.cells, wrV]; first | done | rfl) | rfl) rfl ?_ | refine sx_loadA 1 rfl rfl tyA30 tyS30 (by first | (simp only [List.length_cons, List.length_nil, Nat.reduceAdd, Nat.zero_add, Nat.add_zero]; first | done | rfl) | rfl) (by first | (simp only [List.take_succ_cons, List.take_zero, List.drop_succ_cons, List.drop_zero, List.cons_append, List.nil_append, List.append_nil, List.length_cons, List.length_nil, Nat.reduceAdd, Nat.zero_add, Nat.add_zero, Value.cells, wrV]; first | done | rfl) | rfl) rfl ?_
              refine sx_on rfl rfl rfl ?_
              refine sx_buildA tyZ30 Try.underlying30 tyS29 rfl rfl (by first | (simp only [List.take_succ_cons, List.take_zero, List.drop_succ_cons, List.drop_zero, List.cons_append, List.nil_append, List.append_nil, List.length_cons, List.length_nil, Nat.reduceAdd, Nat.zero_add, Nat.add_zero, Value.cells, wrV, zrep_one, List.replicate_succ, List.replicate_zero, Nat.reduceMul, Nat.zero_mul]; first | done | rfl) | rfl) rfl ?_
              refine sx_on rfl rfl rfl ?_
              refine sx_aeql (sec4_same 0 0 0 0 0 0 0 0) guard_sec4 rfl rfl rfl ?_
              refine sx_pick rfl rfl rfl ?_
              refine sx_move rfl rfl ?_
              refine sx_split 51 rfl (fun hb15 => ?_) (fun hb15 => ?_)
              · refine sx_on rfl rfl rfl ?_
                refine sx_callP awake_fn rfl rfl ?_
                refine sx_pick rfl rfl rfl ?_
                refine sx_assign rfl rfl ?_
                refine sx_nil (hZ _ _ ?_ ?_)
                · exact Kn.cons (congrArg some (congrArg Value.bool (by clear hs1; first | rfl | (exfalso; simp at hb10; done) | (exfalso; simp at hb2 hb6; have := (hy hb2).1; omega) | (exfalso; exact Bool.noConfusion hb15)))) Kn.nil
                · exact HLe.pick [] (by simp) rfl
              · refine sx_off rfl rfl rfl rfl rfl ?_
                refine sx_pick rfl rfl rfl ?_
                refine sx_assign rfl rfl ?_
                refine sx_nil (hZ _ _ ?_ ?_)
                · exact Kn.cons (congrArg some (congrArg Value.bool (by clear hs1; first | rfl | (exfalso; simp at hb10; done) | (exfalso; simp at hb2 hb6; have := (hy hb2).1; omega) | (exfalso; exact Bool.noConfusion hb15)))) Kn.nil
                · exact HLe.pick [] (by simp) rfl
            · refine sx_off rfl rfl rfl rfl rfl ?_
              refine sx_off rfl rfl rfl rfl rfl ?_
              refine sx_off rfl rfl rfl rfl rfl ?_
              refine sx_pick rfl rfl rfl ?_
              refine sx_move rfl rfl ?_
              refine sx_off rfl rfl rfl rfl rfl ?_
              refine sx_pick rfl rfl rfl ?_
              refine sx_assign rfl rfl ?_
              refine sx_nil (hZ _ _ ?_ ?_)
              · exact Kn.cons (congrArg some (congrArg Value.bool (by clear hs1; first | rfl | (exfalso; simp at hb10; done) | (exfalso; simp at hb2 hb6; have := (hy hb2).1; omega) | (exfalso; exact Bool.noConfusion hb15)))) Kn.nil
              · exact HLe.pick [] (by simp) rfl
          · refine sx_on rfl rfl rfl ?_
            refine sx_move rfl rfl ?_
            refine sx_on rfl rfl rfl ?_
            first | refine sx_gtr rfl rfl rfl ?_ | refine sx_sgtr rfl rfl rfl ?_
            refine sx_pick rfl rfl rfl ?_
            refine sx_move rfl rfl ?_
            refine sx_split 42 rfl (fun hb6 => ?_) (fun hb6 => ?_)
            · refine sx_on rfl rfl rfl ?_
              refine sx_move rfl rfl ?_
              refine sx_on rfl rfl rfl ?_
              first | refine sx_eql rfl rfl rfl ?_ | refine sx_seql rfl rfl rfl ?_
              refine sx_pick rfl rfl rfl ?_
              refine sx_move rfl rfl ?_
              refine sx_split 46 rfl (fun hb10 => ?_) (fun hb10 => ?_)
              · refine sx_on rfl rfl rfl ?_
                first | refine sx_loadA 0 rfl rfl tyA30 tyS30 (by first | (simp only [List.length_cons, List.length_nil, Nat.reduceAdd, Nat.zero_add, Nat.add_zero]; first | done | rfl) | rfl) (by first | (simp only [List.take_succ_cons, List.take_zero, List.drop_succ_cons, List.drop_zero, List.cons_append, List.nil_append, List.append_nil, List.length_cons, List.length_nil, Nat.reduceAdd, Nat.zero_add, Nat.add_zero, Value.cells, wrV]; first | done | rfl) | rfl) rfl ?_ | refine sx_loadA 1 rfl rfl tyA30 tyS30 (by first | (simp only [List.length_cons, List.length_nil, Nat.reduceAdd, Nat.zero_add, Nat.add_zero]; first | done | rfl) | rfl) (by first | (simp only [List.take_succ_cons, List.take_zero, List.drop_succ_cons, List.drop_zero, List.cons_append, List.nil_append, List.append_nil, List.length_cons, List.length_nil, Nat.reduceAdd, Nat.zero_add, Nat.add_zero, Value.cells, wrV]; first | done | rfl) | rfl) rfl ?_
                refine sx_on rfl rfl rfl ?_
                refine sx_buildA tyZ30 Try.underlying30 tyS29 rfl rfl (by first | (simp only [List.take_succ_cons, List.take_zero, List.drop_succ_cons, List.drop_zero, List.cons_append, List.nil_append, List.append_nil, List.length_cons, List.length_nil, Nat.reduceAdd, Nat.zero_add, Nat.add_zero, Value.cells, wrV, zrep_one, List.replicate_succ, List.replicate_zero, Nat.reduceMul, Nat.zero_mul]; first | done | rfl) | rfl) rfl ?_
                refine sx_on rfl rfl rfl ?_
                refine sx_aeql (sec4_same 0 0 0 0 0 0 0 0) guard_sec4 rfl rfl rfl ?_
                refine sx_pick rfl rfl rfl ?_
                refine sx_move rfl rfl ?_
                refine sx_split 51 rfl (fun hb15 => ?_) (fun hb15 => ?_)
                · refine sx_on rfl rfl rfl ?_
                  refine sx_callP awake_fn rfl rfl ?_
                  refine sx_pick rfl rfl rfl ?_
                  refine sx_assign rfl rfl ?_
                  refine sx_nil (hZ _ _ ?_ ?_)
                  · exact Kn.cons (congrArg some (congrArg Value.bool (by clear hs1; first | rfl | (exfalso; simp at hb10; done) | (exfalso; simp at hb2 hb6; have := (hy hb2).1; omega) | (exfalso; exact Bool.noConfusion hb15)))) Kn.nil
                  · exact HLe.pick [] (by simp) rfl
                · refine sx_off rfl rfl rfl rfl rfl ?_
                  refine sx_pick rfl rfl rfl ?_
                  refine sx_assign rfl rfl ?_
                  refine sx_nil (hZ _ _ ?_ ?_)
                  · exact Kn.cons (congrArg some (congrArg Value.bool (by clear hs1; first | rfl | (exfalso; simp at hb10; done) | (exfalso; simp at hb2 hb6; have := (hy hb2).1; omega) | (exfalso; exact Bool.noConfusion hb15)))) Kn.nil
                  · exact HLe.pick [] (by simp) rfl
              · refine sx_off rfl rfl rfl rfl rfl ?_
                refine sx_off rfl rfl rfl rfl rfl ?_
                refine sx_off rfl rfl rfl rfl rfl ?_
                refine sx_pick rfl rfl rfl ?_
                refine sx_move rfl rfl ?_
                refine sx_off rfl rfl rfl rfl rfl ?_
                refine sx_pick rfl rfl rfl ?_
                refine sx_assign rfl rfl ?_
                refine sx_nil (hZ _ _ ?_ ?_)
                · exact Kn.cons (congrArg some (congrArg Value.bool (by clear hs1; first | rfl | (exfalso; simp at hb10; done) | (exfalso; simp at hb2 hb6; have := (hy hb2).1; omega) | (exfalso; exact Bool.noConfusion hb15)))) Kn.nil
                · exact HLe.pick [] (by simp) rfl
            · refine sx_off rfl rfl rfl rfl rfl ?_
              refine sx_off rfl rfl rfl rfl rfl ?_
              refine sx_pick rfl rfl rfl ?_
              refine sx_move rfl rfl ?_
              refine sx_off rfl rfl rfl rfl rfl ?_
              refine sx_off rfl rfl rfl rfl rfl ?_
              refine sx_off rfl rfl rfl rfl rfl ?_
              refine sx_pick rfl rfl rfl ?_
              refine sx_move rfl rfl ?_
              refine sx_off rfl rfl rfl rfl rfl ?_
              refine sx_pick rfl rfl rfl ?_
              refine sx_assign rfl rfl ?_
              refine sx_nil (hZ _ _ ?_ ?_)
              · exact Kn.cons (congrArg some (congrArg Value.bool (by clear hs1; first | rfl | (exfalso; simp at hb10; done) | (exfalso; simp at hb2 hb6; have := (hy hb2).1; omega) | (exfalso; exact Bool.noConfusion hb15)))) Kn.nil
              · exact HLe.pick [] (by simp) rfl
        refine awp_ret ?_
        repeat (with_reducible (first | refine nx_then_ret ?_ | refine nx_block_ret ?_))
        exact nx_ret1 rfl rfl rfl
      · simp at h
    | true =>
      have hyes : 127 + a + b + c + d ≤ 1099511627776 := of_decide_eq_true hok
      obtain ⟨hC', hE', hN'⟩ := secC_ok hok
      obtain rfl : M = 127 + a + b + c + d := by rw [← hM, hN']
      obtain rfl : E = 0 := by rw [← hE, hE']
      have hsm : sm = true := by
        cases sm with
        | true => rfl
        | false => rw [hok] at hnn; exact absurd (hnn rfl) (by simp)
      subst hsm
      obtain ⟨y1, y2⟩ := hy rfl
      rw [hC] at hC'
      rw [hC']
      first | refine awp_cond rfl (fun h => ?_) (fun h => ?_) | refine awp_seq (awp_cond rfl (fun h => ?_) (fun h => ?_))
      · simp at h
      refine awp_skip ?_
      repeat (with_reducible refine nx_block_normal ?_)
      with_reducible refine nx_normal ?_
      refine awp_seq_region (fun Z hZ => ?_)
      refine sx_assign rfl rfl ?_
      refine sx_nil (hZ _ _ ?_)
      refine awp_forget [(1, _), (3, _), (4, _), (6, _), (7, _), (9, _)] (Kn.cons rfl (Kn.cons rfl (Kn.cons rfl (Kn.cons rfl (Kn.cons rfl (Kn.cons rfl (Kn.nil))))))) ?_
      refine awp_seq ?_
      refine awp_seq_region (fun Z hZ => ?_)
      refine sx_assign rfl rfl ?_
      refine sx_nil (hZ _ _ ?_)
      refine awp_forget [(1, _), (3, _), (4, _), (6, _), (7, _), (9, _), (10, _)] (Kn.cons rfl (Kn.cons rfl (Kn.cons rfl (Kn.cons rfl (Kn.cons rfl (Kn.cons rfl (Kn.cons rfl (Kn.nil)))))))) ?_
      refine awp_block ?_
      refine awp_loop (ι := Nat) (fun k => [(1, ptr g1 0), (3, ptr g2 0), (4, uq (127 + a + b + c + d)), (6, .bool true), (7, uq S), (9, uq (atK a b c d k)), (10, iq (k : Nat))]) (fun _ => [.own g2 30 (sec8 127 a (127 + a) b (127 + a + b) c (127 + a + b + c) d), .own g1 23 [uq a, uq b, uq c, uq d]])
        (fun k => k ≤ 4) (fun k => 4 - k) 0 (by omega) (Kn.cons rfl (Kn.cons rfl (Kn.cons rfl (Kn.cons rfl (Kn.cons rfl (Kn.cons rfl (Kn.cons rfl Kn.nil))))))) (HLe.refl _) ?_
      intro k hk

      refine awp_seq ?_
      refine awp_seq_region (fun Z hZ => ?_)
      refine sx_move rfl rfl ?_
      first | refine sx_lss rfl rfl rfl ?_ | refine sx_slss rfl rfl rfl ?_
      refine sx_nil (hZ _ _ ?_)
      refine awp_forget [(1, _), (3, _), (4, _), (6, _), (7, _), (9, _), (10, _), (55, _)] (Kn.cons rfl (Kn.cons rfl (Kn.cons rfl (Kn.cons rfl (Kn.cons rfl (Kn.cons rfl (Kn.cons rfl (Kn.cons rfl (Kn.nil))))))))) ?_
      first | refine awp_cond rfl (fun hh => ?_) (fun hh => ?_) | refine awp_seq (awp_cond rfl (fun hh => ?_) (fun hh => ?_))
      · have hlt : k < 4 := by simp at hh; omega
        have hnx := at_next a b c d hlt
        have hle := at_le a b c d (k := k + 1) (by omega)
        have hrd := ln_rd a b c d hlt
        have hrs := sec_rd (a := a) (b := b) (c := c) (d := d) hlt
        refine awp_skip ?_
        repeat (with_reducible refine nx_block_normal ?_)
        with_reducible refine nx_normal ?_
        refine awp_seq (awp_block ?_)
        refine awp_seq ?_
        refine awq_seq_region mixed (by kernel_rfl) (fun Z hZ => ?_)
        refine sq_move rfl rfl ?_
        refine sq_indexAddrA (k * 2) Try.underlying30 tyS29 rfl rfl (by omega) (by simp) rfl ?_
        refine sq_load 0 rfl rfl tyA29 tyS29 hrs rfl ?_
        refine sq_move rfl rfl ?_
        refine sq_move rfl rfl ?_
        refine sq_indexAddrA k Try.underlying23 tyS22 rfl rfl (by omega) (by simp) rfl ?_
        refine sq_load 1 rfl rfl tyA22 tyS22 hrd rfl ?_
        refine sq_build tyZ29 tyP29 rfl rfl (by first | (simp only [List.take_succ_cons, List.take_zero, List.drop_succ_cons, List.drop_zero, List.cons_append, List.nil_append, List.append_nil, List.length_cons, List.length_nil, Nat.reduceAdd, Nat.zero_add, Nat.add_zero, Value.cells, wrV, zrep_one, List.replicate_succ, List.replicate_zero, Nat.reduceMul, Nat.zero_mul]; first | done | rfl) | rfl) rfl ?_
        refine sq_aneq (sec_same (atK a b c d k) (lnK a b c d k)) guard_sec rfl rfl rfl ?_
        refine sq_nil (hZ _ _ ?_)
        refine awp_forget [(1, _), (3, _), (4, _), (6, _), (7, _), (9, _), (10, _), (66, _)] (Kn.cons rfl (Kn.cons rfl (Kn.cons rfl (Kn.cons rfl (Kn.cons rfl (Kn.cons rfl (Kn.cons rfl (Kn.cons rfl (Kn.nil))))))))) ?_
        first | refine awp_cond rfl (fun hf => ?_) (fun hf => ?_) | refine awp_seq (awp_cond rfl (fun hf => ?_) (fun hf => ?_))
        · cases hf
        refine awp_skip ?_
        repeat (with_reducible refine nx_block_normal ?_)
        with_reducible refine nx_normal ?_
        refine awp_region (fun Z hZ => ?_)
        refine sx_move rfl rfl ?_
        refine sx_move rfl rfl ?_
        refine sx_indexAddrA k Try.underlying23 tyS22 rfl rfl (by omega) (by simp) rfl ?_
        refine sx_load 1 rfl rfl tyA22 tyS22 hrd rfl ?_
        refine sx_add rfl rfl ((atK a b c d (k + 1) : Nat) : Int) (by rw [IntWalk.u64_in _ (by omega)]; omega) rfl ?_
        refine sx_assign rfl rfl ?_
        refine sx_nil (hZ _ _ ?_)
        refine nx_forget [(1, _), (3, _), (4, _), (6, _), (7, _), (9, _), (10, _)] (Kn.cons rfl (Kn.cons rfl (Kn.cons rfl (Kn.cons rfl (Kn.cons rfl (Kn.cons rfl (Kn.cons rfl (Kn.nil)))))))) ?_
        repeat (with_reducible refine nx_block_normal ?_)
        with_reducible refine nx_normal ?_
        refine awp_region (fun Z hZ => ?_)
        refine sx_move rfl rfl ?_
        refine sx_add rfl rfl ((k + 1 : Nat) : Int) (by rw [IntWalk.i64_in _ (by omega)]; omega) rfl ?_
        refine sx_assign rfl rfl ?_
        refine sx_nil (hZ _ _ ?_)
        refine nx_forget [(1, _), (3, _), (4, _), (6, _), (7, _), (9, _), (10, _)] (Kn.cons rfl (Kn.cons rfl (Kn.cons rfl (Kn.cons rfl (Kn.cons rfl (Kn.cons rfl (Kn.cons rfl (Kn.nil)))))))) ?_
        exact nx_round (k + 1) (by omega) (by omega) (Kn.cons rfl (Kn.cons rfl (Kn.cons rfl (Kn.cons rfl (Kn.cons rfl (Kn.cons rfl (Kn.cons rfl Kn.nil))))))) (HLe.refl _)
      · refine awp_exit ?_
        repeat (with_reducible (first | refine nx_then_exit ?_ | refine nx_block_other (by decide) ?_))
        with_reducible refine nx_block_exit ?_
        repeat (with_reducible refine nx_block_normal ?_)
        with_reducible refine nx_normal ?_
        have hke : k = 4 := by simp at hh; omega
        subst hke
        rw [y1, hat4]
        refine awp_seq_meet [(2, .bool true)] [] (fun Z hZ => ?_) ?_
        · refine sx_move rfl rfl ?_
          refine sx_move rfl rfl ?_
          refine sx_force 73 rfl true (by first | rfl | (simp; done) | (simp; omega)) ?_
          refine sx_on rfl rfl rfl ?_
          refine sx_move rfl rfl ?_
          refine sx_on rfl rfl rfl ?_
          first | refine sx_leq rfl rfl rfl ?_ | refine sx_sleq rfl rfl rfl ?_
          refine sx_pick rfl rfl rfl ?_
          refine sx_move rfl rfl ?_
          refine sx_force 77 rfl true (by first | rfl | (simp; done) | (simp; omega)) ?_
          refine sx_on rfl rfl rfl ?_
          refine sx_move rfl rfl ?_
          refine sx_on rfl rfl rfl ?_
          refine sx_move rfl rfl ?_
          refine sx_on rfl rfl rfl ?_
          first | refine sx_eql rfl rfl rfl ?_ | refine sx_seql rfl rfl rfl ?_
          refine sx_pick rfl rfl rfl ?_
          refine sx_move rfl rfl ?_
          refine sx_force 82 rfl true (by first | rfl | (simp; done) | (simp; omega)) ?_
          refine sx_on rfl rfl rfl ?_
          refine sx_callP awake_fn rfl rfl ?_
          refine sx_pick rfl rfl rfl ?_
          refine sx_assign rfl rfl ?_
          refine sx_nil (hZ _ _ ?_ ?_)
          · exact Kn.cons rfl Kn.nil
          · exact HLe.pick [] (by simp) rfl
        refine awp_ret ?_
        repeat (with_reducible (first | refine nx_then_ret ?_ | refine nx_block_ret ?_))
        exact nx_ret1 rfl rfl rfl
set_option maxRecDepth 20000 in
theorem LayoutSums_read {H : Type} {enc : TypeId × Value → H} (w : World) {base : Nat} {v0 : Value} {d0 : DataW H} {p0 : List MemPlace}
    (k0 : Value.okWide Try.prog w .any base 23 v0) (h0 : DataW.Trod enc Try.prog w 0 (fun _ => true) true 23 v0 d0 p0) :
    Calls Try.prog 5 #[v0] w fun e w' => e = .returned (.bool true) ∧ Bel w w' := by
  obtain ⟨a, b, c, d, h4, rfl⟩ := open_u4 k0 h0
  exact (sums_fn a b c d h4).bel w
namespace layoutSums
open Go.ChangeShapes Go.WideShapes Go.ChangeAt Go.RowKit
theorem own : ownKnob Try.prog.godebug = none := by kernel_rfl
theorem laidOut : laidOutB Try.prog = true := by kernel_rfl
set_option maxRecDepth 100000 in
theorem lifted (os : Os) (started : os.Started) (H : Type) (enc : TypeId × Value → H) :
    ReturnsInHanded {} Try.checked os 5 .any (Rows.layoutSumsSpec.pre6 enc Try.prog Try.f5 Rows.layoutSumsRow.domain false) (Rows.layoutSumsSpec.post enc Try.prog Try.f5 false true false false) := by
  refine returnsInHanded_of_change (C := Try.checked) own started (by kernel_rfl) Try.func5
    (ChangeSpec.witness6 (enc := enc) (C := Try.checked) false ⟨#[], #[.agg #[.int .u64 0, .int .u64 0, .int .u64 0, .int .u64 0]], []⟩ 8 (by kernel_rfl) (by kernel_rfl) (by kernel_rfl) (by kernel_rfl)) ?_
  intro W base args ds gs before hval0 hW hcnd _
  have hval : ∀ (j : Nat) t v, Try.f5.params[j]? = some t → args[j]? = some v → Value.okWide Try.prog W .any base t v := hval0
  have hW' := hW
  obtain ⟨p, q, hA0, hV, rfl, hfz, hnd⟩ := hW
  have hA : DataW.TrodAll enc Try.prog W 0 (fun _ => true) true Try.f5.params.toList args.toList ds p := hA0
  rw [Try.params5] at hA hval
  obtain ⟨v0, vs0, d0, ds0, p0, q0, hargs, rfl, rfl, h0, r0⟩ := trodAll_cons hA
  obtain ⟨rfl, rfl, rfl⟩ := trodAll_nil r0
  obtain rfl : args = #[v0] := by cases args; simp_all
  obtain ⟨rfl, rfl⟩ := trodVars_none hV
  have lt0 : ∀ x ∈ p0, x.block < W.heap.size := by obtain ⟨m, hm⟩ := h0; exact DataW.trod_lt m _ _ _ hm
  refine (LayoutSums_read W (hval 0 23 v0 rfl rfl) h0).mono fun e W' ⟨he, bel0⟩ => ?_
  have bel : Below W.heap.size W W' := bel0
  subst he
  exact ⟨_, rfl, _, _, _, [], _, [], hW', trodAll_mk1 (shut_bool Try.underlying4 _), (trodAll_cons_mk (Below.trod laidOut (by kernel_rfl) (of_decide_eq_true (by kernel_rfl)) h0 bel lt0) trodAll_mk0), rfl, bel.frame _, fun h => by cases h⟩
theorem over : Rows.layoutSumsRow.holds Try.pinned (OpenSpec.ofChange Rows.layoutSumsSpec) :=
  OpenClaim.holds_of_wide 5 Try.f5 rfl rfl rfl rfl rfl rfl rfl ⟨rfl, rfl, rfl, rfl, rfl⟩ rfl rfl rfl rfl rfl (by kernel_rfl) Try.func5 (by kernel_rfl)
    (of_decide_eq_true (by kernel_rfl)) (by unfold Func.isWrapper; first | (rw [if_pos (by decide +kernel)]; kernel_rfl) | (rw [if_neg (by decide +kernel)]; exact ⟨rfl, rfl⟩))
    (fun os started H enc _ => lifted os started H enc)
theorem proved : Rows.LayoutSumsSaid := over
#print axioms proved
end layoutSums
end Go.Proofs.Ytkcbdidaahgfhaa
