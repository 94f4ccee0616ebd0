/- The walk of the document's Get of numbers. No conditions but of lengths. -/
import Derived.Test.YtfffhnefjaomnaaVa4
namespace Go.Proofs.Ytfffhnefjaomnaa
open Go.RowKit
set_option linter.unusedVariables false
set_option linter.unusedSimpArgs false
theorem cnt_lt_iff {t : List UInt8} {n : Nat} (h : n ≤ cnt 10 t) : n < cnt 10 t ↔ (n < t.length ∧ n < 10 ∧ 128 ≤ dat t n) := by
  obtain ⟨h1, h2⟩ := cnt_le 10 t
  constructor
  · intro h3
    exact ⟨by omega, by omega, cnt_in 10 t n h3⟩
  · rintro ⟨h3, h4, h5⟩
    rcases Nat.lt_or_ge n (cnt 10 t) with h6 | h6
    · exact h6
    · obtain rfl : n = cnt 10 t := by omega
      have := cnt_at 10 t (by omega) (by omega)
      omega
theorem rwrong_fn (t : List UInt8) (ht : t.length ≤ 1000000) : Fn Try.prog 51 [.string (str t)] [] fun v _ => v = .tuple #[iq (wrongQ t).1, iq (wrongQ t).2] := by
  obtain ⟨hc10, hcl⟩ := cnt_le 10 t
  refine Fn.enter (N := 45) Try.func51 rfl (by kernel_rfl) rfl (fun w0 => ?_)
  refine awp_seq_region (fun Z hZ => ?_)
  refine sx_assign rfl rfl ?_
  refine sx_assign rfl rfl ?_
  refine sx_nil (hZ _ _ ?_)
  refine awp_forget [(0, _)] (Kn.cons rfl (Kn.nil)) ?_
  refine awp_seq_region (fun Z hZ => ?_)
  refine sx_assign rfl rfl ?_
  refine sx_nil (hZ _ _ ?_)
  refine awp_forget [(0, _), (4, _)] (Kn.cons rfl (Kn.cons rfl (Kn.nil))) ?_
  refine awp_seq (awp_block ?_)
  refine awp_loop (ι := Nat) (fun n => [(0, .string (str t)), (4, iq (n : Nat))]) (fun _ => []) (fun n => n ≤ cnt 10 t) (fun n => 10 - n) 0 (by omega) (Kn.cons rfl (Kn.cons rfl Kn.nil)) (HLe.refl _) ?_
  intro n hn
  have key := cnt_lt_iff hn
  have hdd : (t.getD n 0).toNat = dat t n := rfl
  refine awp_seq ?_
  refine awp_seq_meet [(0, .string (str t)), (4, iq (n : Nat)), (18, .bool (decide (n < cnt 10 t)))] [] (fun Z hZ => ?_) ?_
  · refine sx_move rfl rfl ?_
    refine sx_move rfl rfl ?_
    first | refine sx_len Try.underlying9 rfl rfl ?_ | refine sx_lenS Try.underlying9 rfl rfl ?_
    first | refine sx_lss rfl rfl rfl ?_ | refine sx_slss rfl rfl rfl ?_
    refine sx_move rfl rfl ?_
    refine sx_split 9 rfl (fun hb4 => ?_) (fun hb4 => ?_)
    · refine sx_on rfl rfl rfl ?_
      refine sx_move rfl rfl ?_
      refine sx_on rfl rfl rfl ?_
      first | refine sx_lss rfl rfl rfl ?_ | refine sx_slss rfl rfl rfl ?_
      refine sx_pick rfl rfl rfl ?_
      refine sx_move rfl rfl ?_
      refine sx_split 13 rfl (fun hb8 => ?_) (fun hb8 => ?_)
      · refine sx_on rfl rfl rfl ?_
        refine sx_move rfl rfl ?_
        refine sx_on rfl rfl rfl ?_
        refine sx_move rfl rfl ?_
        refine sx_on rfl rfl rfl ?_
        refine sx_indexS (l := t) (c := t.getD n 0) Try.underlying9 rfl rfl (by omega) (getD_at (by simp at hb4; omega)) rfl ?_
        refine sx_on rfl rfl rfl ?_
        first | refine sx_geq rfl rfl rfl ?_ | refine sx_sgeq rfl rfl rfl ?_
        refine sx_pick rfl rfl rfl ?_
        refine sx_nil (hZ _ _ ?_ ?_)
        · exact Kn.cons rfl (Kn.cons rfl (Kn.cons (congrArg some (congrArg Value.bool (by (try simp at hb4); (try simp at hb8); rw [Bool.eq_iff_iff]; simp only [decide_eq_true_eq, hdd, Bool.false_eq_true, false_iff]; omega))) Kn.nil))
        · exact HLe.refl _
      · refine sx_off rfl rfl rfl rfl rfl ?_
        refine sx_off rfl rfl rfl rfl rfl ?_
        refine sx_off rfl rfl rfl rfl rfl ?_
        refine sx_off rfl rfl rfl rfl rfl ?_
        refine sx_pick rfl rfl rfl ?_
        refine sx_nil (hZ _ _ ?_ ?_)
        · exact Kn.cons rfl (Kn.cons rfl (Kn.cons (congrArg some (congrArg Value.bool (by (try simp at hb4); (try simp at hb8); rw [Bool.eq_iff_iff]; simp only [decide_eq_true_eq, hdd, Bool.false_eq_true, false_iff]; omega))) Kn.nil))
        · exact HLe.refl _
    · refine sx_off rfl rfl rfl rfl rfl ?_
      refine sx_off rfl rfl rfl rfl rfl ?_
      refine sx_pick rfl rfl rfl ?_
      refine sx_move rfl rfl ?_
      refine sx_off rfl rfl rfl rfl rfl ?_
      refine sx_off rfl rfl rfl rfl rfl ?_
      refine sx_off rfl rfl rfl rfl rfl ?_
      refine sx_off rfl rfl rfl rfl rfl ?_
      refine sx_pick rfl rfl rfl ?_
      refine sx_nil (hZ _ _ ?_ ?_)
      · exact Kn.cons rfl (Kn.cons rfl (Kn.cons (congrArg some (congrArg Value.bool (by (try simp at hb4); (try simp at hb8); rw [Bool.eq_iff_iff]; simp only [decide_eq_true_eq, hdd, Bool.false_eq_true, false_iff]; omega))) Kn.nil))
      · exact HLe.refl _
  first | refine awp_cond rfl (fun h => ?_) (fun h => ?_) | refine awp_seq (awp_cond rfl (fun h => ?_) (fun h => ?_))
  · have hlt : n < cnt 10 t := by simpa using h
    refine awp_skip ?_
    repeat (with_reducible (first | refine nx_block_normal ?_ | refine nx_scope_normal ?_))
    with_reducible first | refine nx_normal ?_ | refine nx_normalM ?_
    refine awp_block ?_
    refine awp_region (fun Z hZ => ?_)
    refine sx_move rfl rfl ?_
    refine sx_add rfl rfl ((n + 1 : Nat) : Int) (by rw [IntWalk.i64_in _ (by omega)]; omega) rfl ?_
    refine sx_assign rfl rfl ?_
    refine sx_nil (hZ _ _ ?_)
    refine nx_forget [(0, _), (4, _)] (Kn.cons rfl (Kn.cons rfl (Kn.nil))) ?_
    repeat (with_reducible refine nx_block_normal ?_)
    exact nx_round (n + 1) (by omega) (by omega) (Kn.cons rfl (Kn.cons rfl Kn.nil)) (HLe.refl _)
  have hge : n = cnt 10 t := by simp at h; omega
  subst hge
  refine awp_exit ?_
  repeat (with_reducible (first | refine nx_then_exit ?_ | refine nx_block_other (by decide) ?_ | refine nx_scope_exit ?_))
  with_reducible refine nx_block_exit ?_
  repeat (with_reducible (first | refine nx_block_normal ?_ | refine nx_scope_normal ?_))
  with_reducible first | refine nx_normal ?_ | refine nx_normalM ?_
  refine awp_seq ?_
  refine awp_seq_region (fun Z hZ => ?_)
  refine sx_move rfl rfl ?_
  first | refine sx_eql rfl rfl rfl ?_ | refine sx_seql rfl rfl rfl ?_
  refine sx_nil (hZ _ _ ?_)
  refine awp_forget [(0, _), (4, _), (22, _)] (Kn.cons rfl (Kn.cons rfl (Kn.cons rfl (Kn.nil)))) ?_
  first | refine awp_cond rfl (fun h1 => ?_) (fun h1 => ?_) | refine awp_seq (awp_cond rfl (fun h1 => ?_) (fun h1 => ?_))
  · have h10 : cnt 10 t = 10 := by simp at h1; omega
    rw [show wrongQ t = (11, 0) by unfold wrongQ; rw [if_pos h10]]
    refine awp_seq_region (fun Z hZ => ?_)
    refine sx_assign rfl rfl ?_
    refine sx_assign rfl rfl ?_
    refine sx_nil (hZ _ _ ?_)
    refine awp_forget [(2, _), (3, _)] (Kn.cons rfl (Kn.cons rfl (Kn.nil))) ?_
    refine awp_ret ?_
    repeat (with_reducible (first | refine nx_then_ret ?_ | refine nx_block_ret ?_ | refine nx_scope_ret ?_))
    exact nx_ret2 rfl rfl rfl rfl
  have h10 : cnt 10 t ≠ 10 := by simp at h1; omega
  refine awp_skip ?_
  repeat (with_reducible (first | refine nx_block_normal ?_ | refine nx_scope_normal ?_))
  with_reducible first | refine nx_normal ?_ | refine nx_normalM ?_
  refine awp_seq ?_
  refine awp_seq_region (fun Z hZ => ?_)
  refine sx_move rfl rfl ?_
  refine sx_move rfl rfl ?_
  first | refine sx_len Try.underlying9 rfl rfl ?_ | refine sx_lenS Try.underlying9 rfl rfl ?_
  first | refine sx_eql rfl rfl rfl ?_ | refine sx_seql rfl rfl rfl ?_
  refine sx_nil (hZ _ _ ?_)
  refine awp_forget [(0, _), (4, _), (26, _)] (Kn.cons rfl (Kn.cons rfl (Kn.cons rfl (Kn.nil)))) ?_
  first | refine awp_cond rfl (fun h2 => ?_) (fun h2 => ?_) | refine awp_seq (awp_cond rfl (fun h2 => ?_) (fun h2 => ?_))
  · have hl : cnt 10 t = t.length := by simp at h2; omega
    rw [show wrongQ t = (3, 0) by unfold wrongQ; rw [if_neg h10, if_pos hl]]
    refine awp_seq_region (fun Z hZ => ?_)
    refine sx_assign rfl rfl ?_
    refine sx_assign rfl rfl ?_
    refine sx_nil (hZ _ _ ?_)
    refine awp_forget [(2, _), (3, _)] (Kn.cons rfl (Kn.cons rfl (Kn.nil))) ?_
    refine awp_ret ?_
    repeat (with_reducible (first | refine nx_then_ret ?_ | refine nx_block_ret ?_ | refine nx_scope_ret ?_))
    exact nx_ret2 rfl rfl rfl rfl
  have hl : cnt 10 t ≠ t.length := by simp at h2; omega
  have hcl2 : cnt 10 t < t.length := by omega
  have hdx := getD_at hcl2
  have e9 : cnt 10 t = 9 → dat t 9 = dat t (cnt 10 t) := fun h => by rw [h]
  refine awp_skip ?_
  repeat (with_reducible (first | refine nx_block_normal ?_ | refine nx_scope_normal ?_))
  with_reducible first | refine nx_normal ?_ | refine nx_normalM ?_
  refine awp_seq ?_
  refine awp_seq_meet [(0, .string (str t)), (4, iq (cnt 10 t : Nat)), (34, .bool (decide (cnt 10 t = 9 ∧ 1 < dat t 9)))] [] (fun Z hZ => ?_) ?_
  · refine sx_move rfl rfl ?_
    first | refine sx_eql rfl rfl rfl ?_ | refine sx_seql rfl rfl rfl ?_
    refine sx_move rfl rfl ?_
    refine sx_split 29 rfl (fun hb2 => ?_) (fun hb2 => ?_)
    · refine sx_on rfl rfl rfl ?_
      refine sx_move rfl rfl ?_
      refine sx_on rfl rfl rfl ?_
      refine sx_move rfl rfl ?_
      refine sx_on rfl rfl rfl ?_
      refine sx_indexS (l := t) (c := t.getD (cnt 10 t) 0) Try.underlying9 rfl rfl (by omega) hdx rfl ?_
      refine sx_on rfl rfl rfl ?_
      first | refine sx_gtr rfl rfl rfl ?_ | refine sx_sgtr rfl rfl rfl ?_
      refine sx_pick rfl rfl rfl ?_
      refine sx_nil (hZ _ _ ?_ ?_)
      · exact Kn.cons rfl (Kn.cons rfl (Kn.cons (congrArg some (congrArg Value.bool (by simp at hb2; rw [Bool.eq_iff_iff]; simp only [beq_iff_eq, decide_eq_true_eq, hdd, Bool.false_eq_true, false_iff]; omega))) Kn.nil))
      · exact HLe.refl _
    · refine sx_off rfl rfl rfl rfl rfl ?_
      refine sx_off rfl rfl rfl rfl rfl ?_
      refine sx_off rfl rfl rfl rfl rfl ?_
      refine sx_off rfl rfl rfl rfl rfl ?_
      refine sx_pick rfl rfl rfl ?_
      refine sx_nil (hZ _ _ ?_ ?_)
      · exact Kn.cons rfl (Kn.cons rfl (Kn.cons (congrArg some (congrArg Value.bool (by simp at hb2; rw [Bool.eq_iff_iff]; simp only [beq_iff_eq, decide_eq_true_eq, hdd, Bool.false_eq_true, false_iff]; omega))) Kn.nil))
      · exact HLe.refl _
  first | refine awp_cond rfl (fun h3 => ?_) (fun h3 => ?_) | refine awp_seq (awp_cond rfl (fun h3 => ?_) (fun h3 => ?_))
  · have h9 : cnt 10 t = 9 ∧ 1 < dat t 9 := by simpa using h3
    rw [show wrongQ t = (11, 0) by unfold wrongQ; rw [if_neg h10, if_neg hl, if_pos h9]]
    refine awp_seq_region (fun Z hZ => ?_)
    refine sx_assign rfl rfl ?_
    refine sx_assign rfl rfl ?_
    refine sx_nil (hZ _ _ ?_)
    refine awp_forget [(2, _), (3, _)] (Kn.cons rfl (Kn.cons rfl (Kn.nil))) ?_
    refine awp_ret ?_
    repeat (with_reducible (first | refine nx_then_ret ?_ | refine nx_block_ret ?_ | refine nx_scope_ret ?_))
    exact nx_ret2 rfl rfl rfl rfl
  have h9 : ¬ (cnt 10 t = 9 ∧ 1 < dat t 9) := by simpa using h3
  refine awp_skip ?_
  repeat (with_reducible (first | refine nx_block_normal ?_ | refine nx_scope_normal ?_))
  with_reducible first | refine nx_normal ?_ | refine nx_normalM ?_
  refine awp_seq ?_
  refine awp_seq_meet [(4, iq (cnt 10 t : Nat)), (42, .bool (decide (0 < cnt 10 t ∧ dat t (cnt 10 t) = 0)))] [] (fun Z hZ => ?_) ?_
  · refine sx_move rfl rfl ?_
    first | refine sx_gtr rfl rfl rfl ?_ | refine sx_sgtr rfl rfl rfl ?_
    refine sx_move rfl rfl ?_
    refine sx_split 37 rfl (fun hb2 => ?_) (fun hb2 => ?_)
    · refine sx_on rfl rfl rfl ?_
      refine sx_move rfl rfl ?_
      refine sx_on rfl rfl rfl ?_
      refine sx_move rfl rfl ?_
      refine sx_on rfl rfl rfl ?_
      refine sx_indexS (l := t) (c := t.getD (cnt 10 t) 0) Try.underlying9 rfl rfl (by omega) hdx rfl ?_
      refine sx_on rfl rfl rfl ?_
      first | refine sx_eql rfl rfl rfl ?_ | refine sx_seql rfl rfl rfl ?_
      refine sx_pick rfl rfl rfl ?_
      refine sx_nil (hZ _ _ ?_ ?_)
      · exact Kn.cons rfl (Kn.cons (congrArg some (congrArg Value.bool (by simp at hb2; rw [Bool.eq_iff_iff]; simp only [beq_iff_eq, decide_eq_true_eq, hdd, Bool.false_eq_true, false_iff]; omega))) Kn.nil)
      · exact HLe.refl _
    · refine sx_off rfl rfl rfl rfl rfl ?_
      refine sx_off rfl rfl rfl rfl rfl ?_
      refine sx_off rfl rfl rfl rfl rfl ?_
      refine sx_off rfl rfl rfl rfl rfl ?_
      refine sx_pick rfl rfl rfl ?_
      refine sx_nil (hZ _ _ ?_ ?_)
      · exact Kn.cons rfl (Kn.cons (congrArg some (congrArg Value.bool (by simp at hb2; rw [Bool.eq_iff_iff]; simp only [beq_iff_eq, decide_eq_true_eq, hdd, Bool.false_eq_true, false_iff]; omega))) Kn.nil)
      · exact HLe.refl _
  first | refine awp_cond rfl (fun h4 => ?_) (fun h4 => ?_) | refine awp_seq (awp_cond rfl (fun h4 => ?_) (fun h4 => ?_))
  · have h0 : 0 < cnt 10 t ∧ dat t (cnt 10 t) = 0 := by simpa using h4
    rw [show wrongQ t = (4, 0) by unfold wrongQ; rw [if_neg h10, if_neg hl, if_neg h9, if_pos h0]]
    refine awp_seq_region (fun Z hZ => ?_)
    refine sx_assign rfl rfl ?_
    refine sx_assign rfl rfl ?_
    refine sx_nil (hZ _ _ ?_)
    refine awp_forget [(2, _), (3, _)] (Kn.cons rfl (Kn.cons rfl (Kn.nil))) ?_
    refine awp_ret ?_
    repeat (with_reducible (first | refine nx_then_ret ?_ | refine nx_block_ret ?_ | refine nx_scope_ret ?_))
    exact nx_ret2 rfl rfl rfl rfl
  have h0 : ¬ (0 < cnt 10 t ∧ dat t (cnt 10 t) = 0) := by simpa using h4
  rw [show wrongQ t = (0, cnt 10 t + 1) by unfold wrongQ; rw [if_neg h10, if_neg hl, if_neg h9, if_neg h0]]
  refine awp_skip ?_
  repeat (with_reducible (first | refine nx_block_normal ?_ | refine nx_scope_normal ?_))
  with_reducible first | refine nx_normal ?_ | refine nx_normalM ?_
  refine awp_seq_region (fun Z hZ => ?_)
  refine sx_move rfl rfl ?_
  refine sx_add rfl rfl ((cnt 10 t + 1 : Nat) : Int) (by rw [IntWalk.i64_in _ (by omega)]; omega) rfl ?_
  refine sx_assign rfl rfl ?_
  refine sx_assign rfl rfl ?_
  refine sx_nil (hZ _ _ ?_)
  refine awp_forget [(2, _), (3, _)] (Kn.cons rfl (Kn.cons rfl (Kn.nil))) ?_
  refine awp_ret ?_
  repeat (with_reducible (first | refine nx_then_ret ?_ | refine nx_block_ret ?_ | refine nx_scope_ret ?_))
  exact nx_ret2 rfl rfl rfl rfl
theorem wrong_ok {t : List UInt8} (h : (wrongQ t).1 = 0) : (wrongQ t).2 = cnt 10 t + 1 ∧ cnt 10 t < 10 ∧ cnt 10 t < t.length ∧ (cnt 10 t = 9 → dat t 9 ≤ 1) := by
  obtain ⟨hc10, hcl⟩ := cnt_le 10 t
  unfold wrongQ at h ⊢
  by_cases h1 : cnt 10 t = 10
  · rw [if_pos h1] at h; cases h
  rw [if_neg h1] at h ⊢
  by_cases h2 : cnt 10 t = t.length
  · rw [if_pos h2] at h; cases h
  rw [if_neg h2] at h ⊢
  by_cases h3 : cnt 10 t = 9 ∧ 1 < dat t 9
  · rw [if_pos h3] at h; cases h
  rw [if_neg h3] at h ⊢
  by_cases h4 : 0 < cnt 10 t ∧ dat t (cnt 10 t) = 0
  · rw [if_pos h4] at h; cases h
  rw [if_neg h4]
  exact ⟨rfl, by omega, by omega, fun h9 => by omega⟩
theorem valL_drop {l : List UInt8} {i : Nat} (h : i < l.length) : valL (l.drop i) = dat l i % 128 + 128 * valL (l.drop (i + 1)) := by
  rw [List.drop_eq_getElem_cons h, valL]
  simp [dat, h]
theorem valL_mono : ∀ (l : List UInt8) (i : Nat), valL (l.drop i) ≤ valL l
  | l, 0 => by simp
  | [], i + 1 => by simp
  | b :: r, i + 1 => by
    have := valL_mono r i
    simp only [List.drop_succ_cons, valL]
    omega
theorem rget_fn (s : List UInt8) (p : Nat) (hp : p ≤ s.length) (hs : s.length ≤ 1000000) : Fn Try.prog 29 [scV s p 0] [] fun v _ => v = getV (getQ s p) s := by
  obtain ⟨t, ht⟩ : ∃ t, s.drop p = t := ⟨_, rfl⟩
  have htl : t.length + p = s.length := by rw [← ht, List.length_drop]; omega
  refine Fn.enter (N := 64) Try.func29 rfl (by kernel_rfl) rfl (fun w0 => ?_)
  refine awp_seq_region (fun Z hZ => ?_)
  refine sx_box rfl rfl rfl (fun g1 => ?_)
  refine sx_assign rfl rfl ?_
  refine sx_alloc tyZ71 rfl (fun g2 => ?_)
  refine sx_nil (hZ _ _ ?_)
  refine awp_forget [(1, _), (3, _)] (Kn.cons rfl (Kn.cons rfl (Kn.nil))) ?_
  refine awp_seq ?_
  refine awp_seq_region (fun Z hZ => ?_)
  refine sx_fieldAddr rfl tyF71_2 (by first | (simp only [Nat.reduceAdd, Nat.add_zero, Nat.zero_add]; first | done | rfl) | rfl) rfl ?_
  first | refine sx_load 0 rfl rfl tyA3 tyS3 rfl rfl ?_ | refine sx_load 1 rfl rfl tyA3 tyS3 rfl rfl ?_
  first | refine sx_neq rfl rfl rfl ?_ | refine sx_sneq rfl rfl rfl ?_
  refine sx_nil (hZ _ _ ?_)
  refine awp_forget [(1, _), (3, _), (10, _)] (Kn.cons rfl (Kn.cons rfl (Kn.cons rfl (Kn.nil)))) ?_
  first | refine awp_cond rfl (fun h => ?_) (fun h => ?_) | refine awp_seq (awp_cond rfl (fun h => ?_) (fun h => ?_))
  · cases h
  refine awp_skip ?_
  repeat (with_reducible (first | refine nx_block_normal ?_ | refine nx_scope_normal ?_))
  with_reducible first | refine nx_normal ?_ | refine nx_normalM ?_
  refine awp_seq ?_
  refine awp_seq_meet [(1, ptr g1 0), (3, ptr g2 0), (22, .bool false)] [.own g2 71 [.string (str []), iq 0, iq 0], .own g1 71 [.string (str s), iq p, iq 0]] (fun Z hZ => ?_) ?_
  · refine sx_fieldAddr rfl tyF71_1 (by first | (simp only [Nat.reduceAdd, Nat.add_zero, Nat.zero_add]; first | done | rfl) | rfl) rfl ?_
    first | refine sx_load 0 rfl rfl tyA3 tyS3 rfl rfl ?_ | refine sx_load 1 rfl rfl tyA3 tyS3 rfl rfl ?_
    first | refine sx_lss rfl rfl rfl ?_ | refine sx_slss rfl rfl rfl ?_
    refine sx_move rfl rfl ?_
    refine sx_force 15 rfl false (by simp) ?_
    refine sx_on rfl rfl rfl ?_
    refine sx_fieldAddr rfl tyF71_1 (by first | (simp only [Nat.reduceAdd, Nat.add_zero, Nat.zero_add]; first | done | rfl) | rfl) rfl ?_
    refine sx_on rfl rfl rfl ?_
    first | refine sx_load 0 rfl rfl tyA3 tyS3 rfl rfl ?_ | refine sx_load 1 rfl rfl tyA3 tyS3 rfl rfl ?_
    refine sx_on rfl rfl rfl ?_
    refine sx_fieldAddr rfl tyF71_0 (by first | (simp only [Nat.reduceAdd, Nat.add_zero, Nat.zero_add]; first | done | rfl) | rfl) rfl ?_
    refine sx_on rfl rfl rfl ?_
    first | refine sx_load 0 rfl rfl tyA9 tyS9 rfl rfl ?_ | refine sx_load 1 rfl rfl tyA9 tyS9 rfl rfl ?_
    refine sx_on rfl rfl rfl ?_
    first | refine sx_len Try.underlying9 rfl rfl ?_ | refine sx_lenS Try.underlying9 rfl rfl ?_
    refine sx_on rfl rfl rfl ?_
    first | refine sx_gtr rfl rfl rfl ?_ | refine sx_sgtr rfl rfl rfl ?_
    refine sx_pick rfl rfl rfl ?_
    refine sx_nil (hZ _ _ ?_ ?_)
    · exact Kn.cons rfl (Kn.cons rfl (Kn.cons (congrArg some (congrArg Value.bool (by simp; omega))) Kn.nil))
    · exact HLe.refl _
  first | refine awp_cond rfl (fun h => ?_) (fun h => ?_) | refine awp_seq (awp_cond rfl (fun h => ?_) (fun h => ?_))
  · cases h
  refine awp_skip ?_
  repeat (with_reducible (first | refine nx_block_normal ?_ | refine nx_scope_normal ?_))
  with_reducible first | refine nx_normal ?_ | refine nx_normalM ?_
  refine awp_seq_region (fun Z hZ => ?_)
  refine sx_fieldAddr rfl tyF71_0 (by first | (simp only [Nat.reduceAdd, Nat.add_zero, Nat.zero_add]; first | done | rfl) | rfl) rfl ?_
  first | refine sx_load 0 rfl rfl tyA9 tyS9 rfl rfl ?_ | refine sx_load 1 rfl rfl tyA9 tyS9 rfl rfl ?_
  refine sx_fieldAddr rfl tyF71_1 (by first | (simp only [Nat.reduceAdd, Nat.add_zero, Nat.zero_add]; first | done | rfl) | rfl) rfl ?_
  first | refine sx_load 0 rfl rfl tyA3 tyS3 rfl rfl ?_ | refine sx_load 1 rfl rfl tyA3 tyS3 rfl rfl ?_
  refine sx_sliceS t Try.underlying9 rfl rfl rfl (by omega) (by omega) (by omega) (by rw [← ht]; exact List.take_of_length_le (by rw [List.length_drop]; omega)) rfl ?_
  refine sx_callP (rwrong_fn t (by omega)) rfl rfl ?_
  refine sx_move rfl rfl ?_
  refine sx_extract rfl rfl rfl ?_
  refine sx_extract rfl rfl rfl ?_
  refine sx_assign rfl rfl ?_
  refine sx_assign rfl rfl ?_
  refine sx_nil (hZ _ _ ?_)
  refine awp_forget [(1, _), (3, _), (4, _), (5, _)] (Kn.cons rfl (Kn.cons rfl (Kn.cons rfl (Kn.cons rfl (Kn.nil))))) ?_
  refine awp_seq ?_
  refine awp_seq_region (fun Z hZ => ?_)
  refine sx_move rfl rfl ?_
  first | refine sx_neq rfl rfl rfl ?_ | refine sx_sneq rfl rfl rfl ?_
  refine sx_nil (hZ _ _ ?_)
  refine awp_forget [(1, _), (3, _), (4, _), (5, _), (35, _)] (Kn.cons rfl (Kn.cons rfl (Kn.cons rfl (Kn.cons rfl (Kn.cons rfl (Kn.nil)))))) ?_
  first | refine awp_cond rfl (fun h1 => ?_) (fun h1 => ?_) | refine awp_seq (awp_cond rfl (fun h1 => ?_) (fun h1 => ?_))
  · have hne : (wrongQ t).1 ≠ 0 := by simp at h1; omega
    rw [show getQ s p = (0, p, (wrongQ t).1) by unfold getQ; rw [ht, if_neg hne]]
    refine awp_seq_region (fun Z hZ => ?_)
    refine sx_move rfl rfl ?_
    refine sx_fieldAddr rfl tyF71_2 (by first | (simp only [Nat.reduceAdd, Nat.add_zero, Nat.zero_add]; first | done | rfl) | rfl) rfl ?_
    first | refine sx_store1 0 rfl rfl rfl tyS3 rfl (by first | (simp only [List.length_cons, List.length_nil, Nat.reduceAdd, Nat.zero_add, Nat.add_zero]; first | done | rfl) | rfl) (by first | (simp only [List.set_cons_succ, List.set_cons_zero, Nat.reduceAdd, Nat.add_zero, Nat.zero_add]; first | done | rfl) | rfl) (by first | (simp only [List.set_cons_succ, List.set_cons_zero]; first | done | rfl) | rfl) ?_ | refine sx_store1 1 rfl rfl rfl tyS3 rfl (by first | (simp only [List.length_cons, List.length_nil, Nat.reduceAdd, Nat.zero_add, Nat.add_zero]; first | done | rfl) | rfl) (by first | (simp only [List.set_cons_succ, List.set_cons_zero, Nat.reduceAdd, Nat.add_zero, Nat.zero_add]; first | done | rfl) | rfl) (by first | (simp only [List.set_cons_succ, List.set_cons_zero]; first | done | rfl) | rfl) ?_
    refine sx_nil (hZ _ _ ?_)
    refine awp_forget [(1, _), (3, _)] (Kn.cons rfl (Kn.cons rfl (Kn.nil))) ?_
    refine awd_seq_region [0, 1, 2] mixed (by kernel_rfl) rfl (fun Z hZ => ?_)
    first | refine sx_loadA 0 rfl rfl tyA71 tyS71 (by first | (simp only [List.length_cons, List.length_nil, Nat.reduceAdd, Nat.zero_add, Nat.add_zero]; first | done | rfl) | rfl) (by first | (simp only [List.take_succ_cons, List.take_zero, List.drop_succ_cons, List.drop_zero, List.cons_append, List.nil_append, List.append_nil, List.length_cons, List.length_nil, Nat.reduceAdd, Nat.zero_add, Nat.add_zero, Value.cells, wrV]; first | done | rfl) | rfl) rfl ?_ | refine sx_loadA 1 rfl rfl tyA71 tyS71 (by first | (simp only [List.length_cons, List.length_nil, Nat.reduceAdd, Nat.zero_add, Nat.add_zero]; first | done | rfl) | rfl) (by first | (simp only [List.take_succ_cons, List.take_zero, List.drop_succ_cons, List.drop_zero, List.cons_append, List.nil_append, List.append_nil, List.length_cons, List.length_nil, Nat.reduceAdd, Nat.zero_add, Nat.add_zero, Value.cells, wrV]; first | done | rfl) | rfl) rfl ?_
    refine sx_assign rfl rfl ?_
    first | refine sx_store 0 rfl rfl rfl tyS71 (by first | (simp only [Value.cells]; first | done | rfl) | rfl) rfl rfl (by first | (simp only [List.length_cons, List.length_nil, Nat.reduceAdd, Nat.zero_add, Nat.add_zero]; first | done | rfl) | rfl) (by first | (simp only [List.take_succ_cons, List.take_zero, List.drop_succ_cons, List.drop_zero, List.cons_append, List.nil_append, List.append_nil, List.length_cons, List.length_nil, Nat.reduceAdd, Nat.zero_add, Nat.add_zero, Value.cells, wrV]; first | done | rfl) | rfl) (by first | (simp only [List.set_cons_succ, List.set_cons_zero]; first | done | rfl) | rfl) ?_ | refine sx_store 1 rfl rfl rfl tyS71 (by first | (simp only [Value.cells]; first | done | rfl) | rfl) rfl rfl (by first | (simp only [List.length_cons, List.length_nil, Nat.reduceAdd, Nat.zero_add, Nat.add_zero]; first | done | rfl) | rfl) (by first | (simp only [List.take_succ_cons, List.take_zero, List.drop_succ_cons, List.drop_zero, List.cons_append, List.nil_append, List.append_nil, List.length_cons, List.length_nil, Nat.reduceAdd, Nat.zero_add, Nat.add_zero, Value.cells, wrV]; first | done | rfl) | rfl) (by first | (simp only [List.set_cons_succ, List.set_cons_zero]; first | done | rfl) | rfl) ?_
    refine sx_nil (hZ _ _ ?_)
    refine awp_forget [(2, _), (3, _)] (Kn.cons rfl (Kn.cons rfl (Kn.nil))) ?_
    refine awp_ret ?_
    repeat (with_reducible (first | refine nx_then_ret ?_ | refine nx_block_ret ?_ | refine nx_scope_ret ?_))
    exact nx_ret2 rfl rfl (ResOk.cell 0 rfl rfl tyA71 tyS71 rfl) rfl
  have he : (wrongQ t).1 = 0 := by simp at h1; omega
  obtain ⟨hn, hk, hkl, h9⟩ := wrong_ok he
  obtain ⟨n, hnn⟩ : ∃ n, (wrongQ t).2 = n := ⟨_, rfl⟩
  have hg : getQ s p = (valL (t.take n), p + n, 0) := by unfold getQ; rw [ht, if_pos he, hnn]
  rw [hg]
  simp only [hnn]
  rw [hnn] at hn
  have hbig : valL (t.take n) < 18446744073709551616 := by
    have := valL_mod (t := t) (k := cnt 10 t) (by omega) hkl h9
    rw [hn]
    omega
  refine awp_skip ?_
  repeat (with_reducible (first | refine nx_block_normal ?_ | refine nx_scope_normal ?_))
  with_reducible first | refine nx_normal ?_ | refine nx_normalM ?_
  refine awp_seq_region (fun Z hZ => ?_)
  refine sx_assign rfl rfl ?_
  refine sx_nil (hZ _ _ ?_)
  refine awp_forget [(1, _), (3, _), (5, _), (6, _)] (Kn.cons rfl (Kn.cons rfl (Kn.cons rfl (Kn.cons rfl (Kn.nil))))) ?_
  refine awp_seq ?_
  refine awp_seq_region (fun Z hZ => ?_)
  refine sx_move rfl rfl ?_
  refine sx_sub rfl rfl (((n : Nat) : Int) - 1) (by rw [IntWalk.i64_in _ (by omega)]) rfl ?_
  refine sx_assign rfl rfl ?_
  refine sx_nil (hZ _ _ ?_)
  refine awp_forget [(1, _), (3, _), (5, _), (6, _), (7, _)] (Kn.cons rfl (Kn.cons rfl (Kn.cons rfl (Kn.cons rfl (Kn.cons rfl (Kn.nil)))))) ?_
  refine awp_block ?_
  refine awp_loop (ι := Nat) (fun i => [(1, ptr g1 0), (3, ptr g2 0), (5, iq (n : Nat)), (6, uq (valL ((t.take n).drop i))), (7, iq ((i : Int) - 1))]) (fun _ => [.own g2 71 [.string (str []), iq 0, iq 0], .own g1 71 [.string (str s), iq p, iq 0]])
    (fun i => i ≤ n) (fun i => i) n (by omega) (Kn.cons rfl (Kn.cons rfl (Kn.cons rfl (Kn.cons (by rw [List.drop_eq_nil_of_le (by rw [List.length_take]; omega)]; rfl) (Kn.cons rfl Kn.nil))))) (HLe.refl _) ?_
  intro i hi
  refine awp_seq ?_
  refine awp_seq_region (fun Z hZ => ?_)
  refine sx_move rfl rfl ?_
  first | refine sx_geq rfl rfl rfl ?_ | refine sx_sgeq rfl rfl rfl ?_
  refine sx_nil (hZ _ _ ?_)
  refine awp_forget [(1, _), (3, _), (5, _), (6, _), (7, _), (42, _)] (Kn.cons rfl (Kn.cons rfl (Kn.cons rfl (Kn.cons rfl (Kn.cons rfl (Kn.cons rfl (Kn.nil))))))) ?_
  first | refine awp_cond rfl (fun h2 => ?_) (fun h2 => ?_) | refine awp_seq (awp_cond rfl (fun h2 => ?_) (fun h2 => ?_))
  · obtain ⟨i, rfl⟩ : ∃ k, i = k + 1 := ⟨i - 1, by simp at h2; omega⟩
    have hil : i < t.length := by omega
    have hsd : s[p + i]? = some (t.getD i 0) := by
      rw [← getD_at hil, ← ht, List.getElem?_drop]
    have hd : dat (t.take n) i = dat t i := by simp [dat, List.getElem?_take, show i < n by omega]
    have hvd := valL_drop (l := t.take n) (i := i) (by rw [List.length_take]; omega)
    have hvm := valL_mono (t.take n) i
    refine awp_skip ?_
    repeat (with_reducible (first | refine nx_block_normal ?_ | refine nx_scope_normal ?_))
    with_reducible first | refine nx_normal ?_ | refine nx_normalM ?_
    refine awp_seq (awp_block ?_)
    refine awp_region (fun Z hZ => ?_)
    refine sx_move rfl rfl ?_
    refine sx_mul rfl rfl ((128 * valL ((t.take n).drop (i + 1)) : Nat) : Int) (by rw [IntWalk.u64_in _ (by omega)]; omega) rfl ?_
    refine sx_fieldAddr rfl tyF71_0 (by first | (simp only [Nat.reduceAdd, Nat.add_zero, Nat.zero_add]; first | done | rfl) | rfl) rfl ?_
    first | refine sx_load 0 rfl rfl tyA9 tyS9 rfl rfl ?_ | refine sx_load 1 rfl rfl tyA9 tyS9 rfl rfl ?_
    refine sx_fieldAddr rfl tyF71_1 (by first | (simp only [Nat.reduceAdd, Nat.add_zero, Nat.zero_add]; first | done | rfl) | rfl) rfl ?_
    first | refine sx_load 0 rfl rfl tyA3 tyS3 rfl rfl ?_ | refine sx_load 1 rfl rfl tyA3 tyS3 rfl rfl ?_
    refine sx_move rfl rfl ?_
    refine sx_add rfl rfl ((p + i : Nat) : Int) (by rw [IntWalk.i64_in _ (by omega)]; omega) rfl ?_
    refine sx_indexS (l := s) (c := t.getD i 0) Try.underlying9 rfl rfl (by omega) hsd rfl ?_
    refine sx_rem rfl rfl (by decide) ((dat t i % 128 : Nat) : Int) (by rw [Int.tmod_eq_emod_of_nonneg (by omega)]; simp only [dat]; omega) rfl ?_
    refine sx_conv Try.underlying5 Try.underlying48 rfl ((dat t i % 128 : Nat) : Int) (by rw [IntWalk.u64_in _ (by omega)]) rfl ?_
    refine sx_add rfl rfl ((valL ((t.take n).drop i) : Nat) : Int) (by rw [IntWalk.u64_in _ (by omega)]; omega) rfl ?_
    refine sx_assign rfl rfl ?_
    refine sx_nil (hZ _ _ ?_)
    refine nx_forget [(1, _), (3, _), (5, _), (6, _), (7, _)] (Kn.cons rfl (Kn.cons rfl (Kn.cons rfl (Kn.cons rfl (Kn.cons rfl (Kn.nil)))))) ?_
    repeat (with_reducible (first | refine nx_block_normal ?_ | refine nx_scope_normal ?_))
    with_reducible first | refine nx_normal ?_ | refine nx_normalM ?_
    refine awp_region (fun Z hZ => ?_)
    refine sx_move rfl rfl ?_
    refine sx_sub rfl rfl ((i : Int) - 1) (by rw [IntWalk.i64_in _ (by omega)]; omega) rfl ?_
    refine sx_assign rfl rfl ?_
    refine sx_nil (hZ _ _ ?_)
    refine nx_forget [(1, _), (3, _), (5, _), (6, _), (7, _)] (Kn.cons rfl (Kn.cons rfl (Kn.cons rfl (Kn.cons rfl (Kn.cons rfl (Kn.nil)))))) ?_
    exact nx_round i (by omega) (by omega) (Kn.cons rfl (Kn.cons rfl (Kn.cons rfl (Kn.cons rfl (Kn.cons rfl Kn.nil))))) (HLe.refl _)
  have hi0 : i = 0 := by simp at h2; omega
  subst hi0
  refine awp_exit ?_
  repeat (with_reducible (first | refine nx_then_exit ?_ | refine nx_block_other (by decide) ?_ | refine nx_scope_exit ?_))
  with_reducible refine nx_block_exit ?_
  repeat (with_reducible (first | refine nx_block_normal ?_ | refine nx_scope_normal ?_))
  with_reducible first | refine nx_normal ?_ | refine nx_normalM ?_
  refine awp_seq_region (fun Z hZ => ?_)
  refine sx_fieldAddr rfl tyF71_1 (by first | (simp only [Nat.reduceAdd, Nat.add_zero, Nat.zero_add]; first | done | rfl) | rfl) rfl ?_
  first | refine sx_load 0 rfl rfl tyA3 tyS3 rfl rfl ?_ | refine sx_load 1 rfl rfl tyA3 tyS3 rfl rfl ?_
  refine sx_move rfl rfl ?_
  refine sx_add rfl rfl ((p + n : Nat) : Int) (by rw [IntWalk.i64_in _ (by omega)]; omega) rfl ?_
  refine sx_fieldAddr rfl tyF71_1 (by first | (simp only [Nat.reduceAdd, Nat.add_zero, Nat.zero_add]; first | done | rfl) | rfl) rfl ?_
  first | refine sx_store1 0 rfl rfl rfl tyS3 rfl (by first | (simp only [List.length_cons, List.length_nil, Nat.reduceAdd, Nat.zero_add, Nat.add_zero]; first | done | rfl) | rfl) (by first | (simp only [List.set_cons_succ, List.set_cons_zero, Nat.reduceAdd, Nat.add_zero, Nat.zero_add]; first | done | rfl) | rfl) (by first | (simp only [List.set_cons_succ, List.set_cons_zero]; first | done | rfl) | rfl) ?_ | refine sx_store1 1 rfl rfl rfl tyS3 rfl (by first | (simp only [List.length_cons, List.length_nil, Nat.reduceAdd, Nat.zero_add, Nat.add_zero]; first | done | rfl) | rfl) (by first | (simp only [List.set_cons_succ, List.set_cons_zero, Nat.reduceAdd, Nat.add_zero, Nat.zero_add]; first | done | rfl) | rfl) (by first | (simp only [List.set_cons_succ, List.set_cons_zero]; first | done | rfl) | rfl) ?_
  refine sx_nil (hZ _ _ ?_)
  refine awp_forget [(1, _), (3, _), (6, _)] (Kn.cons rfl (Kn.cons rfl (Kn.cons rfl (Kn.nil)))) ?_
  refine awd_seq_region [0, 1, 2, 3] mixed (by kernel_rfl) rfl (fun Z hZ => ?_)
  refine sx_move rfl rfl ?_
  first | refine sx_loadA 0 rfl rfl tyA71 tyS71 (by first | (simp only [List.length_cons, List.length_nil, Nat.reduceAdd, Nat.zero_add, Nat.add_zero]; first | done | rfl) | rfl) (by first | (simp only [List.take_succ_cons, List.take_zero, List.drop_succ_cons, List.drop_zero, List.cons_append, List.nil_append, List.append_nil, List.length_cons, List.length_nil, Nat.reduceAdd, Nat.zero_add, Nat.add_zero, Value.cells, wrV]; first | done | rfl) | rfl) rfl ?_ | refine sx_loadA 1 rfl rfl tyA71 tyS71 (by first | (simp only [List.length_cons, List.length_nil, Nat.reduceAdd, Nat.zero_add, Nat.add_zero]; first | done | rfl) | rfl) (by first | (simp only [List.take_succ_cons, List.take_zero, List.drop_succ_cons, List.drop_zero, List.cons_append, List.nil_append, List.append_nil, List.length_cons, List.length_nil, Nat.reduceAdd, Nat.zero_add, Nat.add_zero, Value.cells, wrV]; first | done | rfl) | rfl) rfl ?_
  refine sx_assign rfl rfl ?_
  first | refine sx_store 0 rfl rfl rfl tyS71 (by first | (simp only [Value.cells]; first | done | rfl) | rfl) rfl rfl (by first | (simp only [List.length_cons, List.length_nil, Nat.reduceAdd, Nat.zero_add, Nat.add_zero]; first | done | rfl) | rfl) (by first | (simp only [List.take_succ_cons, List.take_zero, List.drop_succ_cons, List.drop_zero, List.cons_append, List.nil_append, List.append_nil, List.length_cons, List.length_nil, Nat.reduceAdd, Nat.zero_add, Nat.add_zero, Value.cells, wrV]; first | done | rfl) | rfl) (by first | (simp only [List.set_cons_succ, List.set_cons_zero]; first | done | rfl) | rfl) ?_ | refine sx_store 1 rfl rfl rfl tyS71 (by first | (simp only [Value.cells]; first | done | rfl) | rfl) rfl rfl (by first | (simp only [List.length_cons, List.length_nil, Nat.reduceAdd, Nat.zero_add, Nat.add_zero]; first | done | rfl) | rfl) (by first | (simp only [List.take_succ_cons, List.take_zero, List.drop_succ_cons, List.drop_zero, List.cons_append, List.nil_append, List.append_nil, List.length_cons, List.length_nil, Nat.reduceAdd, Nat.zero_add, Nat.add_zero, Value.cells, wrV]; first | done | rfl) | rfl) (by first | (simp only [List.set_cons_succ, List.set_cons_zero]; first | done | rfl) | rfl) ?_
  refine sx_nil (hZ _ _ ?_)
  refine awp_forget [(2, _), (3, _)] (Kn.cons rfl (Kn.cons rfl (Kn.nil))) ?_
  refine awp_ret ?_
  repeat (with_reducible (first | refine nx_then_ret ?_ | refine nx_block_ret ?_ | refine nx_scope_ret ?_))
  exact nx_ret2 rfl rfl (ResOk.cell 0 rfl rfl tyA71 tyS71 rfl) rfl
end Go.Proofs.Ytfffhnefjaomnaa
