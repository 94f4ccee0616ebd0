/- The walk of varint.Get. No conditions but of lengths. -/
import Derived.Test.YtfffhnefjaomnaaVa3
namespace Go.Proofs.Ytfffhnefjaomnaa
open Go.RowKit
set_option linter.unusedVariables false
set_option linter.unusedSimpArgs false
theorem dat_lt (t : List UInt8) (i : Nat) : dat t i < 256 := (t.getD i 0).toNat_lt
theorem add7 (i : Nat) (hi : i ≤ 9) : IntKind.i64.wrap ((7 : Int) * (i : Int)) = ((7 * i : Nat) : Int) := by rw [IntWalk.i64_in _ (by omega)]; omega
theorem valL9 {t : List UInt8} {i : Nat} (hi : i ≤ 9) : valL (t.take i) < 128 ^ i :=
  Nat.lt_of_lt_of_le (valL_lt _) (Nat.pow_le_pow_right (by omega) (by rw [List.length_take]; omega))
/-- The value is whole. -/
theorem valL_mod {t : List UInt8} {k : Nat} (hk : k ≤ 9) (hl : k < t.length) (h9 : k = 9 → dat t 9 ≤ 1) : valL (t.take (k + 1)) % 18446744073709551616 = valL (t.take (k + 1)) := by
  have hb := valL9 (t := t) (i := k) hk
  refine Nat.mod_eq_of_lt ?_
  rw [valL_take hl]
  have hp : (128 : Nat) ^ k ≤ 128 ^ 9 := Nat.pow_le_pow_right (by omega) hk
  by_cases h : k = 9
  · subst h
    have := h9 rfl
    have : dat t 9 % 128 ≤ 1 := by omega
    omega
  · have hp : (128 : Nat) ^ (k + 1) ≤ 128 ^ 9 := Nat.pow_le_pow_right (by omega) (by omega)
    rw [Nat.pow_succ] at hp
    have h2 : dat t k % 128 * 128 ^ k ≤ 127 * 128 ^ k := Nat.mul_le_mul_right _ (by omega)
    omega
theorem vget_fn (s : List UInt8) (p : Nat) (hp : p ≤ s.length) (hs : s.length ≤ 1000000) : Fn Try.prog 27 [scV s p 0] [] fun v _ => v = getV (getQ s p) s := by
  obtain ⟨t, ht⟩ : ∃ t, s.drop p = t := ⟨_, rfl⟩
  have htl : t.length + p = s.length := by rw [← ht, List.length_drop]; omega
  obtain ⟨hc10, hcl⟩ := cnt_le 10 t
  refine Fn.enter (N := 121) Try.func27 rfl (by kernel_rfl) rfl (fun w0 => ?_)
  refine awp_seq_region (fun Z hZ => ?_)
  refine sx_box rfl rfl rfl (fun g1 => ?_)
  refine sx_assign rfl rfl ?_
  refine sx_alloc tyZ65 rfl (fun g2 => ?_)
  refine sx_nil (hZ _ _ ?_)
  refine awp_forget [(1, _), (3, _)] (Kn.cons rfl (Kn.cons rfl (Kn.nil))) ?_
  refine awp_scope ?_
  refine awp_seq ?_
  refine awp_seq_region (fun Z hZ => ?_)
  refine sx_fieldAddr rfl tyF65_2 (by first | (simp only [Nat.reduceAdd, Nat.add_zero, Nat.zero_add]; first | done | rfl) | rfl) rfl ?_
  first | refine sx_load 0 rfl rfl tyA24 tyS24 rfl rfl ?_ | refine sx_load 1 rfl rfl tyA24 tyS24 rfl rfl ?_
  first | refine sx_neq rfl rfl rfl ?_ | refine sx_sneq rfl rfl rfl ?_
  refine sx_nil (hZ _ _ ?_)
  refine awp_forget [(1, _), (3, _), (12, _)] (Kn.cons rfl (Kn.cons rfl (Kn.cons rfl (Kn.nil)))) ?_
  first | refine awp_cond rfl (fun h => ?_) (fun h => ?_) | refine awp_seq (awp_cond rfl (fun h => ?_) (fun h => ?_))
  · cases h
  refine awp_skip ?_
  repeat (with_reducible (first | refine nx_block_normal ?_ | refine nx_scope_normal ?_))
  with_reducible first | refine nx_normal ?_ | refine nx_normalM ?_
  refine awp_seq ?_
  refine awp_seq_meet [(1, ptr g1 0), (3, ptr g2 0), (24, .bool false)] [.own g2 65 [.string (str []), iq 0, iq 0], .own g1 65 [.string (str s), iq p, iq 0]] (fun Z hZ => ?_) ?_
  · refine sx_fieldAddr rfl tyF65_1 (by first | (simp only [Nat.reduceAdd, Nat.add_zero, Nat.zero_add]; first | done | rfl) | rfl) rfl ?_
    first | refine sx_load 0 rfl rfl tyA3 tyS3 rfl rfl ?_ | refine sx_load 1 rfl rfl tyA3 tyS3 rfl rfl ?_
    first | refine sx_lss rfl rfl rfl ?_ | refine sx_slss rfl rfl rfl ?_
    refine sx_move rfl rfl ?_
    refine sx_force 17 rfl false (by simp) ?_
    refine sx_on rfl rfl rfl ?_
    refine sx_fieldAddr rfl tyF65_1 (by first | (simp only [Nat.reduceAdd, Nat.add_zero, Nat.zero_add]; first | done | rfl) | rfl) rfl ?_
    refine sx_on rfl rfl rfl ?_
    first | refine sx_load 0 rfl rfl tyA3 tyS3 rfl rfl ?_ | refine sx_load 1 rfl rfl tyA3 tyS3 rfl rfl ?_
    refine sx_on rfl rfl rfl ?_
    refine sx_fieldAddr rfl tyF65_0 (by first | (simp only [Nat.reduceAdd, Nat.add_zero, Nat.zero_add]; first | done | rfl) | rfl) rfl ?_
    refine sx_on rfl rfl rfl ?_
    first | refine sx_load 0 rfl rfl tyA9 tyS9 rfl rfl ?_ | refine sx_load 1 rfl rfl tyA9 tyS9 rfl rfl ?_
    refine sx_on rfl rfl rfl ?_
    first | refine sx_len Try.underlying9 rfl rfl ?_ | refine sx_lenS Try.underlying9 rfl rfl ?_
    refine sx_on rfl rfl rfl ?_
    first | refine sx_gtr rfl rfl rfl ?_ | refine sx_sgtr rfl rfl rfl ?_
    refine sx_pick rfl rfl rfl ?_
    refine sx_nil (hZ _ _ ?_ ?_)
    · exact Kn.cons rfl (Kn.cons rfl (Kn.cons (congrArg some (congrArg Value.bool (by simp; omega))) Kn.nil))
    · exact HLe.refl _
  first | refine awp_cond rfl (fun h => ?_) (fun h => ?_) | refine awp_seq (awp_cond rfl (fun h => ?_) (fun h => ?_))
  · cases h
  refine awp_skip ?_
  repeat (with_reducible (first | refine nx_block_normal ?_ | refine nx_scope_normal ?_))
  with_reducible first | refine nx_normal ?_ | refine nx_normalM ?_
  refine awp_seq_region (fun Z hZ => ?_)
  refine sx_assign rfl rfl ?_
  refine sx_assign rfl rfl ?_
  refine sx_assign rfl rfl ?_
  refine sx_nil (hZ _ _ ?_)
  refine awp_forget [(1, _), (3, _), (4, _), (5, _), (6, _)] (Kn.cons rfl (Kn.cons rfl (Kn.cons rfl (Kn.cons rfl (Kn.cons rfl (Kn.nil)))))) ?_
  refine awp_seq_region (fun Z hZ => ?_)
  refine sx_fieldAddr rfl tyF65_0 (by first | (simp only [Nat.reduceAdd, Nat.add_zero, Nat.zero_add]; first | done | rfl) | rfl) rfl ?_
  first | refine sx_load 0 rfl rfl tyA9 tyS9 rfl rfl ?_ | refine sx_load 1 rfl rfl tyA9 tyS9 rfl rfl ?_
  refine sx_fieldAddr rfl tyF65_1 (by first | (simp only [Nat.reduceAdd, Nat.add_zero, Nat.zero_add]; first | done | rfl) | rfl) rfl ?_
  first | refine sx_load 0 rfl rfl tyA3 tyS3 rfl rfl ?_ | refine sx_load 1 rfl rfl tyA3 tyS3 rfl rfl ?_
  refine sx_sliceS t Try.underlying9 rfl rfl rfl (by omega) (by omega) (by omega) (by rw [← ht]; exact List.take_of_length_le (by rw [List.length_drop]; omega)) rfl ?_
  refine sx_assign rfl rfl ?_
  refine sx_nil (hZ _ _ ?_)
  refine awp_forget [(1, _), (3, _), (4, _), (5, _), (6, _), (7, _)] (Kn.cons rfl (Kn.cons rfl (Kn.cons rfl (Kn.cons rfl (Kn.cons rfl (Kn.cons rfl (Kn.nil))))))) ?_
  refine awp_seq (awp_label ?_)
  repeat (with_reducible (first | refine nx_block_normal ?_ | refine nx_scope_normal ?_))
  with_reducible first | refine nx_normal ?_ | refine nx_normalM ?_
  refine awp_seq ?_
  refine awp_seq_region (fun Z hZ => ?_)
  refine sx_move rfl rfl ?_
  first | refine sx_len Try.underlying9 rfl rfl ?_ | refine sx_lenS Try.underlying9 rfl rfl ?_
  refine sx_move rfl rfl ?_
  refine sx_nil (hZ _ _ ?_)
  refine awp_forget [(1, _), (3, _), (4, _), (5, _), (6, _), (7, _), (35, _), (36, _)] (Kn.cons rfl (Kn.cons rfl (Kn.cons rfl (Kn.cons rfl (Kn.cons rfl (Kn.cons rfl (Kn.cons rfl (Kn.cons rfl (Kn.nil))))))))) ?_
  refine awp_meet (ι := Nat × Nat × Bool) (fun j => [(1, ptr g1 0), (3, ptr g2 0), (4, uq j.1), (5, iq j.2.1), (6, .bool j.2.2), (7, .string (str t))]) (fun _ => [.own g2 65 [.string (str []), iq 0, iq 0], .own g1 65 [.string (str s), iq p, iq 0]])
    (fun j => (j.2.2 = false ∧ j.2.1 = cnt 10 t ∧ (j.2.1 = 10 ∨ j.2.1 = t.length)) ∨ (j.2.2 = true ∧ j.2.1 = cnt 10 t + 1 ∧ cnt 10 t < 10 ∧ cnt 10 t < t.length ∧ j.1 = valL (t.take j.2.1) % 18446744073709551616)) ?_ ?_
  · refine awp_block ?_
    refine awp_loop (ι := Nat × Nat) (fun i => [(1, ptr g1 0), (3, ptr g2 0), (4, uq i.2), (5, iq (i.1 : Nat)), (6, .bool false), (7, .string (str t)), (35, iq (t.length : Nat)), (36, iq (i.1 : Nat))]) (fun _ => [.own g2 65 [.string (str []), iq 0, iq 0], .own g1 65 [.string (str s), iq p, iq 0]])
      (fun i => i.1 ≤ cnt 10 t ∧ (i.1 ≤ 9 → i.2 = valL (t.take i.1))) (fun i => t.length - i.1) (0, 0) ⟨by omega, fun _ => rfl⟩ (Kn.cons rfl (Kn.cons rfl (Kn.cons rfl (Kn.cons rfl (Kn.cons rfl (Kn.cons rfl (Kn.cons rfl (Kn.cons rfl Kn.nil)))))))) (HLe.refl _) ?_
    rintro ⟨i, x⟩ ⟨hi, hx⟩
    simp only at hi hx
    refine awp_seq_region (fun Z hZ => ?_)
    first | refine sx_lss rfl rfl rfl ?_ | refine sx_slss rfl rfl rfl ?_
    refine sx_nil (hZ _ _ ?_)
    refine awp_forget [(1, _), (3, _), (4, _), (5, _), (6, _), (7, _), (35, _), (36, _), (37, _)] (Kn.cons rfl (Kn.cons rfl (Kn.cons rfl (Kn.cons rfl (Kn.cons rfl (Kn.cons rfl (Kn.cons rfl (Kn.cons rfl (Kn.cons rfl (Kn.nil)))))))))) ?_
    first | refine awp_cond rfl (fun h => ?_) (fun h => ?_) | refine awp_seq (awp_cond rfl (fun h => ?_) (fun h => ?_))
    · have hlt : i < t.length := by simpa using h
      have hd := getD_at hlt
      refine awp_skip ?_
      repeat (with_reducible (first | refine nx_block_normal ?_ | refine nx_scope_normal ?_))
      with_reducible first | refine nx_normal ?_ | refine nx_normalM ?_
      refine awp_seq (awp_block ?_)
      refine awp_seq_region (fun Z hZ => ?_)
      refine sx_move rfl rfl ?_
      refine sx_assign rfl rfl ?_
      refine sx_nil (hZ _ _ ?_)
      refine awp_forget [(1, _), (3, _), (4, _), (5, _), (6, _), (7, _), (8, _), (35, _), (36, _)] (Kn.cons rfl (Kn.cons rfl (Kn.cons rfl (Kn.cons rfl (Kn.cons rfl (Kn.cons rfl (Kn.cons rfl (Kn.cons rfl (Kn.cons rfl (Kn.nil)))))))))) ?_
      refine awp_seq_region (fun Z hZ => ?_)
      refine sx_move rfl rfl ?_
      refine sx_move rfl rfl ?_
      refine sx_indexS (l := t) (c := t.getD i 0) Try.underlying9 rfl rfl (by omega) hd rfl ?_
      refine sx_assign rfl rfl ?_
      refine sx_nil (hZ _ _ ?_)
      refine awp_forget [(1, _), (3, _), (4, _), (5, _), (6, _), (7, _), (8, _), (9, _), (35, _), (36, _)] (Kn.cons rfl (Kn.cons rfl (Kn.cons rfl (Kn.cons rfl (Kn.cons rfl (Kn.cons rfl (Kn.cons rfl (Kn.cons rfl (Kn.cons rfl (Kn.cons rfl (Kn.nil))))))))))) ?_
      refine awp_block ?_
      refine awp_seq_region (fun Z hZ => ?_)
      refine sx_move rfl rfl ?_
      first | refine sx_eql rfl rfl rfl ?_ | refine sx_seql rfl rfl rfl ?_
      refine sx_assign rfl rfl ?_
      refine sx_nil (hZ _ _ ?_)
      refine awp_forget [(1, _), (3, _), (4, _), (5, _), (6, _), (7, _), (8, _), (9, _), (35, _), (36, _), (52, _)] (Kn.cons rfl (Kn.cons rfl (Kn.cons rfl (Kn.cons rfl (Kn.cons rfl (Kn.cons rfl (Kn.cons rfl (Kn.cons rfl (Kn.cons rfl (Kn.cons rfl (Kn.cons rfl (Kn.nil)))))))))))) ?_
      first | refine awp_cond rfl (fun h2 => ?_) (fun h2 => ?_) | refine awp_seq (awp_cond rfl (fun h2 => ?_) (fun h2 => ?_))
      · have hi10 : i = 10 := by simp at h2; omega
        refine awp_exit ?_
        repeat (with_reducible (first | refine nx_then_exit ?_ | refine nx_block_other (by decide) ?_ | refine nx_scope_exit ?_))
        with_reducible refine nx_block_exit ?_
        repeat (with_reducible (first | refine nx_block_normal ?_ | refine nx_scope_normal ?_))
        exact nx_cut (x, i, false) (.inl ⟨rfl, by show i = _; omega, .inl hi10⟩) (Kn.cons rfl (Kn.cons rfl (Kn.cons rfl (Kn.cons rfl (Kn.cons rfl (Kn.cons rfl Kn.nil)))))) (HLe.refl _)
      have hi9 : i ≤ 9 := by simp at h2; omega
      have hx := hx hi9
      have hb := valL9 (t := t) (i := i) hi9
      have hdd : dat t i < 256 := dat_lt t i
      refine awp_seq_region (fun Z hZ => ?_)
      refine sx_move rfl rfl ?_
      first | refine sx_lss rfl rfl rfl ?_ | refine sx_slss rfl rfl rfl ?_
      refine sx_assign rfl rfl ?_
      refine sx_nil (hZ _ _ ?_)
      refine awp_forget [(1, _), (3, _), (4, _), (6, _), (7, _), (8, _), (9, _), (35, _), (36, _), (55, _)] (Kn.cons rfl (Kn.cons rfl (Kn.cons rfl (Kn.cons rfl (Kn.cons rfl (Kn.cons rfl (Kn.cons rfl (Kn.cons rfl (Kn.cons rfl (Kn.cons rfl (Kn.nil))))))))))) ?_
      first | refine awp_cond rfl (fun h3 => ?_) (fun h3 => ?_) | refine awp_seq (awp_cond rfl (fun h3 => ?_) (fun h3 => ?_))
      · have hd1 : dat t i < 128 := by
          have : (((t.getD i 0).toNat : Int)) < 128 := by simpa using h3
          simp only [dat]
          omega
        have hic : i = cnt 10 t := by
          rcases Nat.lt_or_ge i (cnt 10 t) with h4 | h4
          · have := cnt_in 10 t i h4
            omega
          · omega
        refine awp_seq_region (fun Z hZ => ?_)
        refine sx_move rfl rfl ?_
        refine sx_move rfl rfl ?_
        refine sx_conv Try.underlying5 Try.underlying48 rfl ((dat t i : Nat) : Int) (by rw [IntWalk.u64_in _ (by have := (t.getD i 0).toNat_lt; omega)]; rfl) rfl ?_
        refine sx_move rfl rfl ?_
        refine sx_mul rfl rfl ((7 * i : Nat) : Int) (add7 i hi9) rfl ?_
        refine sx_shl rfl rfl (by omega) _ rfl rfl ?_
        refine sx_bits (.inr (.inl rfl)) rfl rfl ((valL (t.take (i + 1)) % 18446744073709551616 : Nat) : Int) (by rw [hx, sh_or hi9 hb, valL_take hlt, Nat.mod_eq_of_lt hd1]) rfl ?_
        refine sx_assign rfl rfl ?_
        refine sx_nil (hZ _ _ ?_)
        refine awp_forget [(1, _), (3, _), (4, _), (7, _), (8, _)] (Kn.cons rfl (Kn.cons rfl (Kn.cons rfl (Kn.cons rfl (Kn.cons rfl (Kn.nil)))))) ?_
        refine awp_seq_region (fun Z hZ => ?_)
        refine sx_move rfl rfl ?_
        refine sx_add rfl rfl ((i + 1 : Nat) : Int) (by rw [IntWalk.i64_in _ (by omega)]; omega) rfl ?_
        refine sx_assign rfl rfl ?_
        refine sx_assign rfl rfl ?_
        refine sx_nil (hZ _ _ ?_)
        refine awp_forget [(1, _), (3, _), (4, _), (5, _), (6, _), (7, _)] (Kn.cons rfl (Kn.cons rfl (Kn.cons rfl (Kn.cons rfl (Kn.cons rfl (Kn.cons rfl (Kn.nil))))))) ?_
        refine awp_exit ?_
        repeat (with_reducible (first | refine nx_then_exit ?_ | refine nx_block_other (by decide) ?_ | refine nx_scope_exit ?_))
        with_reducible refine nx_block_exit ?_
        repeat (with_reducible (first | refine nx_block_normal ?_ | refine nx_scope_normal ?_))
        exact nx_cut (valL (t.take (i + 1)) % 18446744073709551616, i + 1, true) (.inr ⟨rfl, by show i + 1 = _; omega, by omega, by omega, rfl⟩) (Kn.cons rfl (Kn.cons rfl (Kn.cons rfl (Kn.cons rfl (Kn.cons rfl (Kn.cons rfl Kn.nil)))))) (HLe.refl _)
      have hd1 : 128 ≤ dat t i := by
        have : ¬ (((t.getD i 0).toNat : Int)) < 128 := by simpa using h3
        simp only [dat]
        omega
      have hic : i < cnt 10 t := by
        rcases Nat.lt_or_ge i (cnt 10 t) with h4 | h4
        · exact h4
        · obtain rfl : i = cnt 10 t := by omega
          have := cnt_at 10 t (by omega) hlt
          omega
      refine awp_seq_region (fun Z hZ => ?_)
      refine sx_move rfl rfl ?_
      refine sx_move rfl rfl ?_
      refine sx_bits (.inl rfl) rfl rfl ((dat t i % 128 : Nat) : Int) (and127 _ (t.getD i 0).toNat_lt) rfl ?_
      refine sx_conv Try.underlying5 Try.underlying48 rfl ((dat t i % 128 : Nat) : Int) (by rw [IntWalk.u64_in _ (by omega)]) rfl ?_
      refine sx_move rfl rfl ?_
      refine sx_mul rfl rfl ((7 * i : Nat) : Int) (add7 i hi9) rfl ?_
      refine sx_shl rfl rfl (by omega) _ rfl rfl ?_
      refine sx_bits (.inr (.inl rfl)) rfl rfl ((valL (t.take (i + 1)) % 18446744073709551616 : Nat) : Int) (by rw [hx, sh_or hi9 hb, valL_take hlt]) rfl ?_
      refine sx_assign rfl rfl ?_
      refine sx_nil (hZ _ _ ?_)
      refine awp_forget [(1, _), (3, _), (4, _), (6, _), (7, _), (8, _), (35, _), (36, _)] (Kn.cons rfl (Kn.cons rfl (Kn.cons rfl (Kn.cons rfl (Kn.cons rfl (Kn.cons rfl (Kn.cons rfl (Kn.cons rfl (Kn.nil))))))))) ?_
      refine awp_region (fun Z hZ => ?_)
      refine sx_move rfl rfl ?_
      refine sx_add rfl rfl ((i + 1 : Nat) : Int) (by rw [IntWalk.i64_in _ (by omega)]; omega) rfl ?_
      refine sx_assign rfl rfl ?_
      refine sx_nil (hZ _ _ ?_)
      refine nx_forget [(1, _), (3, _), (4, _), (5, _), (6, _), (7, _), (35, _), (36, _)] (Kn.cons rfl (Kn.cons rfl (Kn.cons rfl (Kn.cons rfl (Kn.cons rfl (Kn.cons rfl (Kn.cons rfl (Kn.cons rfl (Kn.nil))))))))) ?_
      repeat (with_reducible (first | refine nx_block_normal ?_ | refine nx_scope_normal ?_))
      with_reducible first | refine nx_normal ?_ | refine nx_normalM ?_
      refine awp_region (fun Z hZ => ?_)
      refine sx_add rfl rfl ((i + 1 : Nat) : Int) (by rw [IntWalk.i64_in _ (by omega)]; omega) rfl ?_
      refine sx_move rfl rfl ?_
      refine sx_nil (hZ _ _ ?_)
      refine nx_forget [(1, _), (3, _), (4, _), (5, _), (6, _), (7, _), (35, _), (36, _)] (Kn.cons rfl (Kn.cons rfl (Kn.cons rfl (Kn.cons rfl (Kn.cons rfl (Kn.cons rfl (Kn.cons rfl (Kn.cons rfl (Kn.nil))))))))) ?_
      refine nx_round (i + 1, valL (t.take (i + 1)) % 18446744073709551616) ⟨by show i + 1 ≤ _; omega, fun h9 => ?_⟩ (by simp; omega) (Kn.cons rfl (Kn.cons rfl (Kn.cons rfl (Kn.cons rfl (Kn.cons rfl (Kn.cons rfl (Kn.cons rfl (Kn.cons rfl Kn.nil)))))))) (HLe.refl _)
      exact valL_mod (by omega) hlt (fun h => by simp at h9; omega)
    · have hge : i = t.length := by simp at h; omega
      refine awp_exit ?_
      repeat (with_reducible (first | refine nx_then_exit ?_ | refine nx_block_other (by decide) ?_ | refine nx_scope_exit ?_))
      with_reducible refine nx_block_exit ?_
      repeat (with_reducible (first | refine nx_block_normal ?_ | refine nx_scope_normal ?_))
      exact nx_cut (x, i, false) (.inl ⟨rfl, by show i = _; omega, .inr hge⟩) (Kn.cons rfl (Kn.cons rfl (Kn.cons rfl (Kn.cons rfl (Kn.cons rfl (Kn.cons rfl Kn.nil)))))) (HLe.refl _)
  rintro ⟨x, n, b⟩ hj
  simp only at hj
  repeat (with_reducible (first | refine nx_block_normal ?_ | refine nx_scope_normal ?_))
  with_reducible first | refine nx_normal ?_ | refine nx_normalM ?_
  show awp _ _ _ _ _ [(1, ptr g1 0), (3, ptr g2 0), (4, uq x), (5, iq n), (6, .bool b), (7, .string (str t))] _ _
  have done : ∀ e : Nat, wrongQ t = (e, 0) → e ≠ 0 → getQ s p = (0, p, e) := fun e he h0 => by
    unfold getQ
    rw [ht, he, if_neg h0]
  refine awp_seq (awp_block ?_)
  rcases hj with ⟨hb, hn, hor⟩ | ⟨hb, hn, h10, hcl2, hx⟩
  · subst hb hn
    refine awp_seq_meet [(1, ptr g1 0), (3, ptr g2 0), (4, uq x), (5, iq (cnt 10 t : Nat)), (6, .bool false), (7, .string (str t)), (68, .bool (decide (cnt 10 t = 10)))] [.own g2 65 [.string (str []), iq 0, iq 0], .own g1 65 [.string (str s), iq p, iq 0]] (fun Z hZ => ?_) ?_
    · refine sx_move rfl rfl ?_
      refine sx_not rfl rfl ?_
      refine sx_move rfl rfl ?_
      refine sx_force 71 rfl true (by rfl) ?_
      refine sx_on rfl rfl rfl ?_
      refine sx_move rfl rfl ?_
      refine sx_on rfl rfl rfl ?_
      first | refine sx_eql rfl rfl rfl ?_ | refine sx_seql rfl rfl rfl ?_
      refine sx_pick rfl rfl rfl ?_
      refine sx_assign rfl rfl ?_
      refine sx_nil (hZ _ _ ?_ ?_)
      · exact Kn.cons rfl (Kn.cons rfl (Kn.cons rfl (Kn.cons rfl (Kn.cons rfl (Kn.cons rfl (Kn.cons (congrArg some (congrArg Value.bool (by rw [Bool.eq_iff_iff]; simp; omega))) Kn.nil))))))
      · exact HLe.refl _
    first | refine awp_cond rfl (fun h => ?_) (fun h => ?_) | refine awp_seq (awp_cond rfl (fun h => ?_) (fun h => ?_))
    · have h10 : cnt 10 t = 10 := by simpa using h
      rw [done 11 (by unfold wrongQ; rw [if_pos h10]) (by decide)]
      refine awp_seq_region (fun Z hZ => ?_)
      first | refine sx_loadA 0 rfl rfl tyA65 tyS65 (by first | (simp only [List.length_cons, List.length_nil, Nat.reduceAdd, Nat.zero_add, Nat.add_zero]; first | done | rfl) | rfl) (by first | (simp only [List.take_succ_cons, List.take_zero, List.drop_succ_cons, List.drop_zero, List.cons_append, List.nil_append, List.append_nil, List.length_cons, List.length_nil, Nat.reduceAdd, Nat.zero_add, Nat.add_zero, Value.cells, wrV]; first | done | rfl) | rfl) rfl ?_ | refine sx_loadA 1 rfl rfl tyA65 tyS65 (by first | (simp only [List.length_cons, List.length_nil, Nat.reduceAdd, Nat.zero_add, Nat.add_zero]; first | done | rfl) | rfl) (by first | (simp only [List.take_succ_cons, List.take_zero, List.drop_succ_cons, List.drop_zero, List.cons_append, List.nil_append, List.append_nil, List.length_cons, List.length_nil, Nat.reduceAdd, Nat.zero_add, Nat.add_zero, Value.cells, wrV]; first | done | rfl) | rfl) rfl ?_
      refine sx_callP (vbad_fn s p 0 11) rfl rfl ?_
      refine sx_extract rfl rfl rfl ?_
      refine sx_extract rfl rfl rfl ?_
      refine sx_assign rfl rfl ?_
      first | refine sx_store 0 rfl rfl rfl tyS65 (by first | (simp only [Value.cells]; first | done | rfl) | rfl) rfl rfl (by first | (simp only [List.length_cons, List.length_nil, Nat.reduceAdd, Nat.zero_add, Nat.add_zero]; first | done | rfl) | rfl) (by first | (simp only [List.take_succ_cons, List.take_zero, List.drop_succ_cons, List.drop_zero, List.cons_append, List.nil_append, List.append_nil, List.length_cons, List.length_nil, Nat.reduceAdd, Nat.zero_add, Nat.add_zero, Value.cells, wrV]; first | done | rfl) | rfl) (by first | (simp only [List.set_cons_succ, List.set_cons_zero]; first | done | rfl) | rfl) ?_ | refine sx_store 1 rfl rfl rfl tyS65 (by first | (simp only [Value.cells]; first | done | rfl) | rfl) rfl rfl (by first | (simp only [List.length_cons, List.length_nil, Nat.reduceAdd, Nat.zero_add, Nat.add_zero]; first | done | rfl) | rfl) (by first | (simp only [List.take_succ_cons, List.take_zero, List.drop_succ_cons, List.drop_zero, List.cons_append, List.nil_append, List.append_nil, List.length_cons, List.length_nil, Nat.reduceAdd, Nat.zero_add, Nat.add_zero, Value.cells, wrV]; first | done | rfl) | rfl) (by first | (simp only [List.set_cons_succ, List.set_cons_zero]; first | done | rfl) | rfl) ?_
      refine sx_nil (hZ _ _ ?_)
      refine awp_forget [(2, _), (3, _)] (Kn.cons rfl (Kn.cons rfl (Kn.nil))) ?_
      refine awp_ret ?_
      repeat (with_reducible (first | refine nx_then_ret ?_ | refine nx_block_ret ?_ | refine nx_scope_ret ?_))
      exact nx_ret2 rfl rfl (ResOk.cell 0 rfl rfl tyA65 tyS65 rfl) rfl
    · have h10 : cnt 10 t ≠ 10 := by simpa using h
      rw [done 3 (by unfold wrongQ; rw [if_neg h10, if_pos (hor.resolve_left h10)]) (by decide)]
      refine awp_seq_region (fun Z hZ => ?_)
      refine sx_move rfl rfl ?_
      refine sx_not rfl rfl ?_
      refine sx_assign rfl rfl ?_
      refine sx_nil (hZ _ _ ?_)
      refine awp_forget [(1, _), (3, _), (4, _), (5, _), (7, _), (79, _)] (Kn.cons rfl (Kn.cons rfl (Kn.cons rfl (Kn.cons rfl (Kn.cons rfl (Kn.cons rfl (Kn.nil))))))) ?_
      first | refine awp_cond rfl (fun h2 => ?_) (fun h2 => ?_) | refine awp_seq (awp_cond rfl (fun h2 => ?_) (fun h2 => ?_))
      · refine awp_seq_region (fun Z hZ => ?_)
        first | refine sx_loadA 0 rfl rfl tyA65 tyS65 (by first | (simp only [List.length_cons, List.length_nil, Nat.reduceAdd, Nat.zero_add, Nat.add_zero]; first | done | rfl) | rfl) (by first | (simp only [List.take_succ_cons, List.take_zero, List.drop_succ_cons, List.drop_zero, List.cons_append, List.nil_append, List.append_nil, List.length_cons, List.length_nil, Nat.reduceAdd, Nat.zero_add, Nat.add_zero, Value.cells, wrV]; first | done | rfl) | rfl) rfl ?_ | refine sx_loadA 1 rfl rfl tyA65 tyS65 (by first | (simp only [List.length_cons, List.length_nil, Nat.reduceAdd, Nat.zero_add, Nat.add_zero]; first | done | rfl) | rfl) (by first | (simp only [List.take_succ_cons, List.take_zero, List.drop_succ_cons, List.drop_zero, List.cons_append, List.nil_append, List.append_nil, List.length_cons, List.length_nil, Nat.reduceAdd, Nat.zero_add, Nat.add_zero, Value.cells, wrV]; first | done | rfl) | rfl) rfl ?_
        refine sx_callP (vbad_fn s p 0 3) rfl rfl ?_
        refine sx_extract rfl rfl rfl ?_
        refine sx_extract rfl rfl rfl ?_
        refine sx_assign rfl rfl ?_
        first | refine sx_store 0 rfl rfl rfl tyS65 (by first | (simp only [Value.cells]; first | done | rfl) | rfl) rfl rfl (by first | (simp only [List.length_cons, List.length_nil, Nat.reduceAdd, Nat.zero_add, Nat.add_zero]; first | done | rfl) | rfl) (by first | (simp only [List.take_succ_cons, List.take_zero, List.drop_succ_cons, List.drop_zero, List.cons_append, List.nil_append, List.append_nil, List.length_cons, List.length_nil, Nat.reduceAdd, Nat.zero_add, Nat.add_zero, Value.cells, wrV]; first | done | rfl) | rfl) (by first | (simp only [List.set_cons_succ, List.set_cons_zero]; first | done | rfl) | rfl) ?_ | refine sx_store 1 rfl rfl rfl tyS65 (by first | (simp only [Value.cells]; first | done | rfl) | rfl) rfl rfl (by first | (simp only [List.length_cons, List.length_nil, Nat.reduceAdd, Nat.zero_add, Nat.add_zero]; first | done | rfl) | rfl) (by first | (simp only [List.take_succ_cons, List.take_zero, List.drop_succ_cons, List.drop_zero, List.cons_append, List.nil_append, List.append_nil, List.length_cons, List.length_nil, Nat.reduceAdd, Nat.zero_add, Nat.add_zero, Value.cells, wrV]; first | done | rfl) | rfl) (by first | (simp only [List.set_cons_succ, List.set_cons_zero]; first | done | rfl) | rfl) ?_
        refine sx_nil (hZ _ _ ?_)
        refine awp_forget [(2, _), (3, _)] (Kn.cons rfl (Kn.cons rfl (Kn.nil))) ?_
        refine awp_ret ?_
        repeat (with_reducible (first | refine nx_then_ret ?_ | refine nx_block_ret ?_ | refine nx_scope_ret ?_))
        exact nx_ret2 rfl rfl (ResOk.cell 0 rfl rfl tyA65 tyS65 rfl) rfl
      · cases h2
  · subst hb hn
    have hdk := cnt_at 10 t h10 hcl2
    have hdx := getD_at hcl2
    have hdd : (t.getD (cnt 10 t) 0).toNat = dat t (cnt 10 t) := rfl
    have e9 : cnt 10 t = 9 → dat t 9 = dat t (cnt 10 t) := fun h => by rw [h]
    refine awp_seq_meet [(1, ptr g1 0), (3, ptr g2 0), (4, uq x), (5, iq (cnt 10 t + 1 : Nat)), (6, .bool true), (7, .string (str t)), (68, .bool false)] [.own g2 65 [.string (str []), iq 0, iq 0], .own g1 65 [.string (str s), iq p, iq 0]] (fun Z hZ => ?_) ?_
    · refine sx_move rfl rfl ?_
      refine sx_not rfl rfl ?_
      refine sx_move rfl rfl ?_
      refine sx_split 71 rfl (fun hb2 => ?_) (fun hb2 => ?_)
      · refine sx_on rfl rfl rfl ?_
        refine sx_move rfl rfl ?_
        refine sx_on rfl rfl rfl ?_
        first | refine sx_eql rfl rfl rfl ?_ | refine sx_seql rfl rfl rfl ?_
        refine sx_pick rfl rfl rfl ?_
        refine sx_assign rfl rfl ?_
        refine sx_nil (hZ _ _ ?_ ?_)
        · first | (exfalso; revert hb2; decide) | exact Kn.cons rfl (Kn.cons rfl (Kn.cons rfl (Kn.cons rfl (Kn.cons rfl (Kn.cons rfl (Kn.cons rfl Kn.nil))))))
        · exact HLe.refl _
      · refine sx_off rfl rfl rfl rfl rfl ?_
        refine sx_off rfl rfl rfl rfl rfl ?_
        refine sx_pick rfl rfl rfl ?_
        refine sx_assign rfl rfl ?_
        refine sx_nil (hZ _ _ ?_ ?_)
        · first | (exfalso; revert hb2; decide) | exact Kn.cons rfl (Kn.cons rfl (Kn.cons rfl (Kn.cons rfl (Kn.cons rfl (Kn.cons rfl (Kn.cons rfl Kn.nil))))))
        · exact HLe.refl _
    first | refine awp_cond rfl (fun h => ?_) (fun h => ?_) | refine awp_seq (awp_cond rfl (fun h => ?_) (fun h => ?_))
    · cases h
    refine awp_seq_region (fun Z hZ => ?_)
    refine sx_move rfl rfl ?_
    refine sx_not rfl rfl ?_
    refine sx_assign rfl rfl ?_
    refine sx_nil (hZ _ _ ?_)
    refine awp_forget [(1, _), (3, _), (4, _), (5, _), (7, _), (79, _)] (Kn.cons rfl (Kn.cons rfl (Kn.cons rfl (Kn.cons rfl (Kn.cons rfl (Kn.cons rfl (Kn.nil))))))) ?_
    first | refine awp_cond rfl (fun h2 => ?_) (fun h2 => ?_) | refine awp_seq (awp_cond rfl (fun h2 => ?_) (fun h2 => ?_))
    · cases h2
    refine awp_seq_meet [(1, ptr g1 0), (3, ptr g2 0), (4, uq x), (5, iq (cnt 10 t + 1 : Nat)), (7, .string (str t)), (86, .bool (decide (cnt 10 t = 9 ∧ 1 < dat t 9)))] [.own g2 65 [.string (str []), iq 0, iq 0], .own g1 65 [.string (str s), iq p, iq 0]] (fun Z hZ => ?_) ?_
    · refine sx_move rfl rfl ?_
      first | refine sx_eql rfl rfl rfl ?_ | refine sx_seql rfl rfl rfl ?_
      refine sx_move rfl rfl ?_
      refine sx_split 89 rfl (fun hb2 => ?_) (fun hb2 => ?_)
      · refine sx_on rfl rfl rfl ?_
        refine sx_move rfl rfl ?_
        refine sx_on rfl rfl rfl ?_
        refine sx_move rfl rfl ?_
        refine sx_on rfl rfl rfl ?_
        refine sx_sub rfl rfl ((cnt 10 t : Nat) : Int) (by rw [IntWalk.i64_in _ (by omega)]; omega) rfl ?_
        refine sx_on rfl rfl rfl ?_
        refine sx_indexS (l := t) (c := t.getD (cnt 10 t) 0) Try.underlying9 rfl rfl (by omega) hdx rfl ?_
        refine sx_on rfl rfl rfl ?_
        first | refine sx_gtr rfl rfl rfl ?_ | refine sx_sgtr rfl rfl rfl ?_
        refine sx_pick rfl rfl rfl ?_
        refine sx_assign rfl rfl ?_
        refine sx_nil (hZ _ _ ?_ ?_)
        · exact Kn.cons rfl (Kn.cons rfl (Kn.cons rfl (Kn.cons rfl (Kn.cons rfl (Kn.cons (congrArg some (congrArg Value.bool (by simp at hb2; rw [Bool.eq_iff_iff]; simp only [beq_iff_eq, decide_eq_true_eq, hdd, Bool.false_eq_true, false_iff]; omega))) Kn.nil)))))
        · exact HLe.refl _
      · refine sx_off rfl rfl rfl rfl rfl ?_
        refine sx_off rfl rfl rfl rfl rfl ?_
        refine sx_off rfl rfl rfl rfl rfl ?_
        refine sx_off rfl rfl rfl rfl rfl ?_
        refine sx_off rfl rfl rfl rfl rfl ?_
        refine sx_pick rfl rfl rfl ?_
        refine sx_assign rfl rfl ?_
        refine sx_nil (hZ _ _ ?_ ?_)
        · exact Kn.cons rfl (Kn.cons rfl (Kn.cons rfl (Kn.cons rfl (Kn.cons rfl (Kn.cons (congrArg some (congrArg Value.bool (by simp at hb2; rw [Bool.eq_iff_iff]; simp only [beq_iff_eq, decide_eq_true_eq, hdd, Bool.false_eq_true, false_iff]; omega))) Kn.nil)))))
        · exact HLe.refl _
    first | refine awp_cond rfl (fun h3 => ?_) (fun h3 => ?_) | refine awp_seq (awp_cond rfl (fun h3 => ?_) (fun h3 => ?_))
    · have h9 : cnt 10 t = 9 ∧ 1 < dat t 9 := by simpa using h3
      rw [done 11 (by unfold wrongQ; rw [if_neg (by omega), if_neg (by omega), if_pos h9]) (by decide)]
      refine awp_seq_region (fun Z hZ => ?_)
      first | refine sx_loadA 0 rfl rfl tyA65 tyS65 (by first | (simp only [List.length_cons, List.length_nil, Nat.reduceAdd, Nat.zero_add, Nat.add_zero]; first | done | rfl) | rfl) (by first | (simp only [List.take_succ_cons, List.take_zero, List.drop_succ_cons, List.drop_zero, List.cons_append, List.nil_append, List.append_nil, List.length_cons, List.length_nil, Nat.reduceAdd, Nat.zero_add, Nat.add_zero, Value.cells, wrV]; first | done | rfl) | rfl) rfl ?_ | refine sx_loadA 1 rfl rfl tyA65 tyS65 (by first | (simp only [List.length_cons, List.length_nil, Nat.reduceAdd, Nat.zero_add, Nat.add_zero]; first | done | rfl) | rfl) (by first | (simp only [List.take_succ_cons, List.take_zero, List.drop_succ_cons, List.drop_zero, List.cons_append, List.nil_append, List.append_nil, List.length_cons, List.length_nil, Nat.reduceAdd, Nat.zero_add, Nat.add_zero, Value.cells, wrV]; first | done | rfl) | rfl) rfl ?_
      refine sx_callP (vbad_fn s p 0 11) rfl rfl ?_
      refine sx_extract rfl rfl rfl ?_
      refine sx_extract rfl rfl rfl ?_
      refine sx_assign rfl rfl ?_
      first | refine sx_store 0 rfl rfl rfl tyS65 (by first | (simp only [Value.cells]; first | done | rfl) | rfl) rfl rfl (by first | (simp only [List.length_cons, List.length_nil, Nat.reduceAdd, Nat.zero_add, Nat.add_zero]; first | done | rfl) | rfl) (by first | (simp only [List.take_succ_cons, List.take_zero, List.drop_succ_cons, List.drop_zero, List.cons_append, List.nil_append, List.append_nil, List.length_cons, List.length_nil, Nat.reduceAdd, Nat.zero_add, Nat.add_zero, Value.cells, wrV]; first | done | rfl) | rfl) (by first | (simp only [List.set_cons_succ, List.set_cons_zero]; first | done | rfl) | rfl) ?_ | refine sx_store 1 rfl rfl rfl tyS65 (by first | (simp only [Value.cells]; first | done | rfl) | rfl) rfl rfl (by first | (simp only [List.length_cons, List.length_nil, Nat.reduceAdd, Nat.zero_add, Nat.add_zero]; first | done | rfl) | rfl) (by first | (simp only [List.take_succ_cons, List.take_zero, List.drop_succ_cons, List.drop_zero, List.cons_append, List.nil_append, List.append_nil, List.length_cons, List.length_nil, Nat.reduceAdd, Nat.zero_add, Nat.add_zero, Value.cells, wrV]; first | done | rfl) | rfl) (by first | (simp only [List.set_cons_succ, List.set_cons_zero]; first | done | rfl) | rfl) ?_
      refine sx_nil (hZ _ _ ?_)
      refine awp_forget [(2, _), (3, _)] (Kn.cons rfl (Kn.cons rfl (Kn.nil))) ?_
      refine awp_ret ?_
      repeat (with_reducible (first | refine nx_then_ret ?_ | refine nx_block_ret ?_ | refine nx_scope_ret ?_))
      exact nx_ret2 rfl rfl (ResOk.cell 0 rfl rfl tyA65 tyS65 rfl) rfl
    have h9 : ¬ (cnt 10 t = 9 ∧ 1 < dat t 9) := by simpa using h3
    refine awp_seq_meet [(1, ptr g1 0), (3, ptr g2 0), (4, uq x), (5, iq (cnt 10 t + 1 : Nat)), (100, .bool (decide (0 < cnt 10 t ∧ dat t (cnt 10 t) = 0)))] [.own g2 65 [.string (str []), iq 0, iq 0], .own g1 65 [.string (str s), iq p, iq 0]] (fun Z hZ => ?_) ?_
    · refine sx_move rfl rfl ?_
      first | refine sx_gtr rfl rfl rfl ?_ | refine sx_sgtr rfl rfl rfl ?_
      refine sx_move rfl rfl ?_
      refine sx_split 103 rfl (fun hb2 => ?_) (fun hb2 => ?_)
      · refine sx_on rfl rfl rfl ?_
        refine sx_move rfl rfl ?_
        refine sx_on rfl rfl rfl ?_
        refine sx_move rfl rfl ?_
        refine sx_on rfl rfl rfl ?_
        refine sx_sub rfl rfl ((cnt 10 t : Nat) : Int) (by rw [IntWalk.i64_in _ (by omega)]; omega) rfl ?_
        refine sx_on rfl rfl rfl ?_
        refine sx_indexS (l := t) (c := t.getD (cnt 10 t) 0) Try.underlying9 rfl rfl (by omega) hdx rfl ?_
        refine sx_on rfl rfl rfl ?_
        first | refine sx_eql rfl rfl rfl ?_ | refine sx_seql rfl rfl rfl ?_
        refine sx_pick rfl rfl rfl ?_
        refine sx_assign rfl rfl ?_
        refine sx_nil (hZ _ _ ?_ ?_)
        · exact Kn.cons rfl (Kn.cons rfl (Kn.cons rfl (Kn.cons rfl (Kn.cons (congrArg some (congrArg Value.bool (by simp at hb2; rw [Bool.eq_iff_iff]; simp only [beq_iff_eq, decide_eq_true_eq, hdd, Bool.false_eq_true, false_iff]; omega))) Kn.nil))))
        · exact HLe.refl _
      · refine sx_off rfl rfl rfl rfl rfl ?_
        refine sx_off rfl rfl rfl rfl rfl ?_
        refine sx_off rfl rfl rfl rfl rfl ?_
        refine sx_off rfl rfl rfl rfl rfl ?_
        refine sx_off rfl rfl rfl rfl rfl ?_
        refine sx_pick rfl rfl rfl ?_
        refine sx_assign rfl rfl ?_
        refine sx_nil (hZ _ _ ?_ ?_)
        · exact Kn.cons rfl (Kn.cons rfl (Kn.cons rfl (Kn.cons rfl (Kn.cons (congrArg some (congrArg Value.bool (by simp at hb2; rw [Bool.eq_iff_iff]; simp only [beq_iff_eq, decide_eq_true_eq, hdd, Bool.false_eq_true, false_iff]; omega))) Kn.nil))))
        · exact HLe.refl _
    first | refine awp_cond rfl (fun h4 => ?_) (fun h4 => ?_) | refine awp_seq (awp_cond rfl (fun h4 => ?_) (fun h4 => ?_))
    · have h0 : 0 < cnt 10 t ∧ dat t (cnt 10 t) = 0 := by simpa using h4
      rw [done 4 (by unfold wrongQ; rw [if_neg (by omega), if_neg (by omega), if_neg h9, if_pos h0]) (by decide)]
      refine awp_seq_region (fun Z hZ => ?_)
      first | refine sx_loadA 0 rfl rfl tyA65 tyS65 (by first | (simp only [List.length_cons, List.length_nil, Nat.reduceAdd, Nat.zero_add, Nat.add_zero]; first | done | rfl) | rfl) (by first | (simp only [List.take_succ_cons, List.take_zero, List.drop_succ_cons, List.drop_zero, List.cons_append, List.nil_append, List.append_nil, List.length_cons, List.length_nil, Nat.reduceAdd, Nat.zero_add, Nat.add_zero, Value.cells, wrV]; first | done | rfl) | rfl) rfl ?_ | refine sx_loadA 1 rfl rfl tyA65 tyS65 (by first | (simp only [List.length_cons, List.length_nil, Nat.reduceAdd, Nat.zero_add, Nat.add_zero]; first | done | rfl) | rfl) (by first | (simp only [List.take_succ_cons, List.take_zero, List.drop_succ_cons, List.drop_zero, List.cons_append, List.nil_append, List.append_nil, List.length_cons, List.length_nil, Nat.reduceAdd, Nat.zero_add, Nat.add_zero, Value.cells, wrV]; first | done | rfl) | rfl) rfl ?_
      refine sx_callP (vbad_fn s p 0 4) rfl rfl ?_
      refine sx_extract rfl rfl rfl ?_
      refine sx_extract rfl rfl rfl ?_
      refine sx_assign rfl rfl ?_
      first | refine sx_store 0 rfl rfl rfl tyS65 (by first | (simp only [Value.cells]; first | done | rfl) | rfl) rfl rfl (by first | (simp only [List.length_cons, List.length_nil, Nat.reduceAdd, Nat.zero_add, Nat.add_zero]; first | done | rfl) | rfl) (by first | (simp only [List.take_succ_cons, List.take_zero, List.drop_succ_cons, List.drop_zero, List.cons_append, List.nil_append, List.append_nil, List.length_cons, List.length_nil, Nat.reduceAdd, Nat.zero_add, Nat.add_zero, Value.cells, wrV]; first | done | rfl) | rfl) (by first | (simp only [List.set_cons_succ, List.set_cons_zero]; first | done | rfl) | rfl) ?_ | refine sx_store 1 rfl rfl rfl tyS65 (by first | (simp only [Value.cells]; first | done | rfl) | rfl) rfl rfl (by first | (simp only [List.length_cons, List.length_nil, Nat.reduceAdd, Nat.zero_add, Nat.add_zero]; first | done | rfl) | rfl) (by first | (simp only [List.take_succ_cons, List.take_zero, List.drop_succ_cons, List.drop_zero, List.cons_append, List.nil_append, List.append_nil, List.length_cons, List.length_nil, Nat.reduceAdd, Nat.zero_add, Nat.add_zero, Value.cells, wrV]; first | done | rfl) | rfl) (by first | (simp only [List.set_cons_succ, List.set_cons_zero]; first | done | rfl) | rfl) ?_
      refine sx_nil (hZ _ _ ?_)
      refine awp_forget [(2, _), (3, _)] (Kn.cons rfl (Kn.cons rfl (Kn.nil))) ?_
      refine awp_ret ?_
      repeat (with_reducible (first | refine nx_then_ret ?_ | refine nx_block_ret ?_ | refine nx_scope_ret ?_))
      exact nx_ret2 rfl rfl (ResOk.cell 0 rfl rfl tyA65 tyS65 rfl) rfl
    have h0 : ¬ (0 < cnt 10 t ∧ dat t (cnt 10 t) = 0) := by simpa using h4
    refine awp_skip ?_
    repeat (with_reducible (first | refine nx_block_normal ?_ | refine nx_scope_normal ?_))
    with_reducible first | refine nx_normal ?_ | refine nx_normalM ?_
    have hw : wrongQ t = (0, cnt 10 t + 1) := by unfold wrongQ; rw [if_neg (by omega), if_neg (by omega), if_neg h9, if_neg h0]
    have hg : getQ s p = (x, p + (cnt 10 t + 1), 0) := by
      unfold getQ
      rw [ht, hw, if_pos rfl, hx, valL_mod (by omega) hcl2 (fun h => by have : ¬ 1 < dat t 9 := fun h' => h9 ⟨h, h'⟩; omega)]
    rw [hg]
    refine awp_seq_region (fun Z hZ => ?_)
    refine sx_fieldAddr rfl tyF65_1 (by first | (simp only [Nat.reduceAdd, Nat.add_zero, Nat.zero_add]; first | done | rfl) | rfl) rfl ?_
    first | refine sx_load 0 rfl rfl tyA3 tyS3 rfl rfl ?_ | refine sx_load 1 rfl rfl tyA3 tyS3 rfl rfl ?_
    refine sx_move rfl rfl ?_
    refine sx_add rfl rfl ((p + (cnt 10 t + 1) : Nat) : Int) (by rw [IntWalk.i64_in _ (by omega)]; omega) rfl ?_
    refine sx_fieldAddr rfl tyF65_1 (by first | (simp only [Nat.reduceAdd, Nat.add_zero, Nat.zero_add]; first | done | rfl) | rfl) rfl ?_
    first | refine sx_store1 0 rfl rfl rfl tyS3 rfl (by first | (simp only [List.length_cons, List.length_nil, Nat.reduceAdd, Nat.zero_add, Nat.add_zero]; first | done | rfl) | rfl) (by first | (simp only [List.set_cons_succ, List.set_cons_zero, Nat.reduceAdd, Nat.add_zero, Nat.zero_add]; first | done | rfl) | rfl) (by first | (simp only [List.set_cons_succ, List.set_cons_zero]; first | done | rfl) | rfl) ?_ | refine sx_store1 1 rfl rfl rfl tyS3 rfl (by first | (simp only [List.length_cons, List.length_nil, Nat.reduceAdd, Nat.zero_add, Nat.add_zero]; first | done | rfl) | rfl) (by first | (simp only [List.set_cons_succ, List.set_cons_zero, Nat.reduceAdd, Nat.add_zero, Nat.zero_add]; first | done | rfl) | rfl) (by first | (simp only [List.set_cons_succ, List.set_cons_zero]; first | done | rfl) | rfl) ?_
    refine sx_nil (hZ _ _ ?_)
    refine awp_forget [(1, _), (3, _), (4, _)] (Kn.cons rfl (Kn.cons rfl (Kn.cons rfl (Kn.nil)))) ?_
    refine awd_seq_region [0, 1, 2, 3] mixed (by kernel_rfl) rfl (fun Z hZ => ?_)
    refine sx_move rfl rfl ?_
    first | refine sx_loadA 0 rfl rfl tyA65 tyS65 (by first | (simp only [List.length_cons, List.length_nil, Nat.reduceAdd, Nat.zero_add, Nat.add_zero]; first | done | rfl) | rfl) (by first | (simp only [List.take_succ_cons, List.take_zero, List.drop_succ_cons, List.drop_zero, List.cons_append, List.nil_append, List.append_nil, List.length_cons, List.length_nil, Nat.reduceAdd, Nat.zero_add, Nat.add_zero, Value.cells, wrV]; first | done | rfl) | rfl) rfl ?_ | refine sx_loadA 1 rfl rfl tyA65 tyS65 (by first | (simp only [List.length_cons, List.length_nil, Nat.reduceAdd, Nat.zero_add, Nat.add_zero]; first | done | rfl) | rfl) (by first | (simp only [List.take_succ_cons, List.take_zero, List.drop_succ_cons, List.drop_zero, List.cons_append, List.nil_append, List.append_nil, List.length_cons, List.length_nil, Nat.reduceAdd, Nat.zero_add, Nat.add_zero, Value.cells, wrV]; first | done | rfl) | rfl) rfl ?_
    refine sx_assign rfl rfl ?_
    first | refine sx_store 0 rfl rfl rfl tyS65 (by first | (simp only [Value.cells]; first | done | rfl) | rfl) rfl rfl (by first | (simp only [List.length_cons, List.length_nil, Nat.reduceAdd, Nat.zero_add, Nat.add_zero]; first | done | rfl) | rfl) (by first | (simp only [List.take_succ_cons, List.take_zero, List.drop_succ_cons, List.drop_zero, List.cons_append, List.nil_append, List.append_nil, List.length_cons, List.length_nil, Nat.reduceAdd, Nat.zero_add, Nat.add_zero, Value.cells, wrV]; first | done | rfl) | rfl) (by first | (simp only [List.set_cons_succ, List.set_cons_zero]; first | done | rfl) | rfl) ?_ | refine sx_store 1 rfl rfl rfl tyS65 (by first | (simp only [Value.cells]; first | done | rfl) | rfl) rfl rfl (by first | (simp only [List.length_cons, List.length_nil, Nat.reduceAdd, Nat.zero_add, Nat.add_zero]; first | done | rfl) | rfl) (by first | (simp only [List.take_succ_cons, List.take_zero, List.drop_succ_cons, List.drop_zero, List.cons_append, List.nil_append, List.append_nil, List.length_cons, List.length_nil, Nat.reduceAdd, Nat.zero_add, Nat.add_zero, Value.cells, wrV]; first | done | rfl) | rfl) (by first | (simp only [List.set_cons_succ, List.set_cons_zero]; first | done | rfl) | rfl) ?_
    refine sx_nil (hZ _ _ ?_)
    refine awp_forget [(2, _), (3, _)] (Kn.cons rfl (Kn.cons rfl (Kn.nil))) ?_
    refine awp_ret ?_
    repeat (with_reducible (first | refine nx_then_ret ?_ | refine nx_block_ret ?_ | refine nx_scope_ret ?_))
    exact nx_ret2 rfl rfl (ResOk.cell 0 rfl rfl tyA65 tyS65 rfl) rfl
end Go.Proofs.Ytfffhnefjaomnaa
