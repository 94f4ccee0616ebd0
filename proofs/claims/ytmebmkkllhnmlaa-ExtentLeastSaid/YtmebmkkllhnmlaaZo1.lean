/- The walks of an identifier's zoom, the program's and the document's. No conditions. -/
import Derived.Test.YtmebmkkllhnmlaaLayCh
import Derived.Test.YtmebmkkllhnmlaaGsx5
import Derived.Test.YtmebmkkllhnmlaaSxS
import Derived.Lib.ItoaNum
namespace Go.Proofs.Ytmebmkkllhnmlaa
open Go.RowKit
set_option linter.unusedVariables false
set_option linter.unusedSimpArgs false
/-- An identifier's zoom. -/
def zoomQ (k : Nat) : Int := if 6004799503160661 ≤ k then -1 else (((Lib.bitLen (3 * k + 1) - 1) / 2 : Nat) : Int)
/-- How many tiles the zooms ahead have. -/
def base4 : Nat → Nat
  | 0 => 0
  | z + 1 => base4 z + 4 ^ z
theorem base4_eq (z : Nat) : 3 * base4 z + 1 = 4 ^ z := by
  induction z with
  | zero => rfl
  | succ z ih => rw [base4, Nat.pow_succ]; omega
theorem base4_27 : base4 27 = 6004799503160661 := by decide
theorem bitLen_b (x : Nat) (h0 : x ≠ 0) (h : x < 18446744073709551616) : 1 ≤ Lib.bitLen x ∧ 2 ^ (Lib.bitLen x - 1) ≤ x ∧ x < 2 ^ Lib.bitLen x := Lib.bitLenAux_bounds 64 x h h0
theorem pow_mono {a b : Nat} (h : a ≤ b) : 4 ^ a ≤ 4 ^ b := Nat.pow_le_pow_right (by decide) h
theorem base4_mono {a b : Nat} (h : a ≤ b) : base4 a ≤ base4 b := by
  have h1 := base4_eq a
  have h2 := base4_eq b
  have h3 := pow_mono h
  omega
theorem zoom_at {k z : Nat} (hz : z ≤ 26) (h1 : base4 z ≤ k) (h2 : k < base4 (z + 1)) : zoomQ k = (z : Int) := by
  have e1 := base4_eq z
  have e2 := base4_eq (z + 1)
  have e3 : base4 (z + 1) ≤ base4 27 := base4_mono (by omega)
  rw [base4_27] at e3
  unfold zoomQ
  rw [if_neg (by omega)]
  obtain ⟨b1, b2, b3⟩ := bitLen_b (3 * k + 1) (by omega) (by omega)
  have p1 : (4 : Nat) ^ z = 2 ^ (2 * z) := by rw [Nat.pow_mul]
  have p2 : (4 : Nat) ^ (z + 1) = 2 ^ (2 * z + 2) := by rw [show 2 * z + 2 = 2 * (z + 1) by omega, Nat.pow_mul]
  generalize Lib.bitLen (3 * k + 1) = b at b1 b2 b3 ⊢
  have q1 : b - 1 < 2 * z + 2 := (Nat.pow_lt_pow_iff_right (a := 2) (by decide)).1 (by omega)
  have q2 : 2 * z < b := (Nat.pow_lt_pow_iff_right (a := 2) (by decide)).1 (by omega)
  have : (b - 1) / 2 = z := by omega
  rw [this]
theorem zoom_ex {k : Nat} (h : k < 6004799503160661) : ∃ z : Nat, z ≤ 26 ∧ zoomQ k = (z : Int) ∧ base4 z ≤ k ∧ k < base4 (z + 1) := by
  have key : ∀ n, k < base4 n → ∃ z, z < n ∧ base4 z ≤ k ∧ k < base4 (z + 1) := by
    intro n
    induction n with
    | zero => intro h; simp [base4] at h
    | succ n ih =>
      intro h
      rcases Nat.lt_or_ge k (base4 n) with h1 | h1
      · obtain ⟨z, h2, h3⟩ := ih h1
        exact ⟨z, by omega, h3⟩
      · exact ⟨n, by omega, h1, h⟩
  obtain ⟨z, h1, h2, h3⟩ := key 27 (by rw [base4_27]; exact h)
  exact ⟨z, by omega, zoom_at (by omega) h2 h3, h2, h3⟩
theorem zoom_fn (k : Nat) (hk : k < 18446744073709551616) : Fn Try.prog 55 [uq k] [] fun v _ => v = iq (zoomQ k) := by
  refine Fn.enter (N := 11) Try.func55 rfl (by kernel_rfl) rfl (fun w0 => ?_)

  refine awp_seq_region (fun Z hZ => ?_)
  refine sx_assign rfl rfl ?_
  refine sx_nil (hZ _ _ ?_)
  refine awp_forget [(0, _)] (Kn.cons rfl (Kn.nil)) ?_
  refine awp_seq ?_
  refine awp_seq_region (fun Z hZ => ?_)
  refine sx_move rfl rfl ?_
  first | refine sx_geq rfl rfl rfl ?_ | refine sx_sgeq rfl rfl rfl ?_
  refine sx_nil (hZ _ _ ?_)
  refine awp_forget [(0, _), (4, _)] (Kn.cons rfl (Kn.cons rfl (Kn.nil))) ?_
  first | refine awp_cond rfl (fun h => ?_) (fun h => ?_) | refine awp_seq (awp_cond rfl (fun h => ?_) (fun h => ?_))
  · have h' : 6004799503160661 ≤ k := by simp at h; omega
    rw [show zoomQ k = -1 by unfold zoomQ; rw [if_pos h']]
    refine awp_seq_region (fun Z hZ => ?_)
    refine sx_assign rfl rfl ?_
    refine sx_nil (hZ _ _ ?_)
    refine awp_forget [(2, _)] (Kn.cons rfl (Kn.nil)) ?_
    refine awp_ret ?_
    repeat (with_reducible (first | refine nx_then_ret ?_ | refine nx_block_ret ?_ | refine nx_scope_ret ?_))
    exact nx_ret1 rfl rfl rfl
  have h' : ¬ 6004799503160661 ≤ k := by simp at h; omega
  rw [show zoomQ k = (((Lib.bitLen (3 * k + 1) - 1) / 2 : Nat) : Int) by unfold zoomQ; rw [if_neg h']]
  obtain ⟨b1, b2, b3⟩ := bitLen_b (3 * k + 1) (by omega) (by omega)
  obtain ⟨b, hb⟩ : ∃ b, Lib.bitLen (3 * k + 1) = b := ⟨_, rfl⟩
  have hl := clen_fn (3 * k + 1) (by omega)
  have hb64 : b ≤ 64 := by
    have : b - 1 < 64 := (Nat.pow_lt_pow_iff_right (a := 2) (by decide)).1 (by rw [← hb]; omega)
    omega
  rw [hb] at hl b1 ⊢
  refine awp_skip ?_
  repeat (with_reducible (first | refine nx_block_normal ?_ | refine nx_scope_normal ?_))
  with_reducible first | refine nx_normal ?_ | refine nx_normalM ?_
  refine awp_seq_region (fun Z hZ => ?_)
  refine sx_move rfl rfl ?_
  refine sx_mul rfl rfl ((3 * k : Nat) : Int) (by rw [IntWalk.u64_in _ (by omega)]; omega) rfl ?_
  refine sx_add rfl rfl ((3 * k + 1 : Nat) : Int) (by rw [IntWalk.u64_in _ (by omega)]; omega) rfl ?_
  refine sx_callP hl rfl rfl ?_
  refine sx_sub rfl rfl ((b - 1 : Nat) : Int) (by rw [IntWalk.i64_in _ (by omega)]; omega) rfl ?_
  refine sx_quo rfl rfl (by omega) (((b - 1) / 2 : Nat) : Int) (by rw [Int.tdiv_eq_ediv_of_nonneg (by omega), IntWalk.i64_in _ (by omega)]; omega) rfl ?_
  refine sx_assign rfl rfl ?_
  refine sx_nil (hZ _ _ ?_)
  refine awp_forget [(2, _)] (Kn.cons rfl (Kn.nil)) ?_
  refine awp_ret ?_
  repeat (with_reducible (first | refine nx_then_ret ?_ | refine nx_block_ret ?_ | refine nx_scope_ret ?_))
  exact nx_ret1 rfl rfl rfl
theorem rbase_fn (z : Nat) (hz : z ≤ 27) : Fn Try.prog 62 [iq z] [] fun v _ => v = .tuple #[uq (base4 z), iq (0 : Nat)] := by
  refine Fn.enter (N := 24) Try.func62 rfl (by kernel_rfl) rfl (fun w0 => ?_)

  refine awp_seq_region (fun Z hZ => ?_)
  refine sx_assign rfl rfl ?_
  refine sx_assign rfl rfl ?_
  refine sx_nil (hZ _ _ ?_)
  refine awp_forget [(0, _)] (Kn.cons rfl (Kn.nil)) ?_
  refine awp_seq ?_
  refine awp_seq_meet [(0, iq (z : Nat)), (12, .bool false)] [] (fun Z hZ => ?_) ?_
  · refine sx_move rfl rfl ?_
    first | refine sx_lss rfl rfl rfl ?_ | refine sx_slss rfl rfl rfl ?_
    refine sx_move rfl rfl ?_
    refine sx_split 9 rfl (fun hb2 => ?_) (fun hb2 => ?_)
    · refine sx_off rfl rfl rfl rfl rfl ?_
      refine sx_off rfl rfl rfl rfl rfl ?_
      refine sx_pick rfl rfl rfl ?_
      refine sx_nil (hZ _ _ ?_ ?_)
      · exact Kn.cons rfl (Kn.cons (congrArg some (congrArg Value.bool (by first | rfl | (simp at *; done) | (simp at *; omega)))) Kn.nil)
      · exact HLe.refl _
    · refine sx_on rfl rfl rfl ?_
      refine sx_move rfl rfl ?_
      refine sx_on rfl rfl rfl ?_
      first | refine sx_gtr rfl rfl rfl ?_ | refine sx_sgtr rfl rfl rfl ?_
      refine sx_pick rfl rfl rfl ?_
      refine sx_nil (hZ _ _ ?_ ?_)
      · exact Kn.cons rfl (Kn.cons (congrArg some (congrArg Value.bool (by first | rfl | (simp at *; done) | (simp at *; omega)))) Kn.nil)
      · exact HLe.refl _
  first | refine awp_cond rfl (fun h => ?_) (fun h => ?_) | refine awp_seq (awp_cond rfl (fun h => ?_) (fun h => ?_))
  · cases h
  refine awp_skip ?_
  repeat (with_reducible (first | refine nx_block_normal ?_ | refine nx_scope_normal ?_))
  with_reducible first | refine nx_normal ?_ | refine nx_normalM ?_
  refine awp_seq_region (fun Z hZ => ?_)
  refine sx_assign rfl rfl ?_
  refine sx_assign rfl rfl ?_
  refine sx_nil (hZ _ _ ?_)
  refine awp_forget [(0, _), (4, _), (5, _)] (Kn.cons rfl (Kn.cons rfl (Kn.cons rfl (Kn.nil)))) ?_
  refine awp_seq ?_
  refine awp_seq_region (fun Z hZ => ?_)
  refine sx_assign rfl rfl ?_
  refine sx_nil (hZ _ _ ?_)
  refine awp_forget [(0, _), (4, _), (5, _), (6, _)] (Kn.cons rfl (Kn.cons rfl (Kn.cons rfl (Kn.cons rfl (Kn.nil))))) ?_
  refine awp_block ?_
  refine awp_loop (ι := Nat) (fun i => [(0, iq (z : Nat)), (4, uq (4 ^ i : Nat)), (5, uq (base4 i)), (6, iq (i : Nat))]) (fun _ => []) (fun i => i ≤ z) (fun i => z - i) 0 (Nat.zero_le _) (Kn.cons rfl (Kn.cons rfl (Kn.cons rfl (Kn.cons rfl Kn.nil)))) (HLe.refl _) ?_
  intro i hi
  refine awp_seq ?_
  refine awp_seq_region (fun Z hZ => ?_)
  refine sx_move rfl rfl ?_
  refine sx_move rfl rfl ?_
  first | refine sx_lss rfl rfl rfl ?_ | refine sx_slss rfl rfl rfl ?_
  refine sx_nil (hZ _ _ ?_)
  refine awp_forget [(0, _), (4, _), (5, _), (6, _), (15, _)] (Kn.cons rfl (Kn.cons rfl (Kn.cons rfl (Kn.cons rfl (Kn.cons rfl (Kn.nil)))))) ?_
  first | refine awp_cond rfl (fun h1 => ?_) (fun h1 => ?_) | refine awp_seq (awp_cond rfl (fun h1 => ?_) (fun h1 => ?_))
  · have hlt : i < z := by simpa using h1
    have e1 := base4_eq i
    have e2 := base4_eq (i + 1)
    have e3 : base4 (i + 1) ≤ base4 27 := base4_mono (by omega)
    rw [base4_27] at e3
    have e4 : (4 : Nat) ^ (i + 1) = 4 * 4 ^ i := by rw [Nat.pow_succ]; omega
    have e5 : base4 (i + 1) = base4 i + 4 ^ i := rfl
    obtain ⟨p, hp⟩ : ∃ p : Nat, 4 ^ i = p := ⟨_, rfl⟩
    obtain ⟨q, hq⟩ : ∃ q : Nat, 4 ^ (i + 1) = q := ⟨_, rfl⟩
    obtain ⟨b, hb⟩ : ∃ b : Nat, base4 i = b := ⟨_, rfl⟩
    obtain ⟨c, hc⟩ : ∃ c : Nat, base4 (i + 1) = c := ⟨_, rfl⟩
    rw [hp, hb] at e1 e5
    rw [hq, hc] at e2
    rw [hp, hq] at e4
    rw [hc] at e3 e5
    rw [hp, hb]
    refine awp_skip ?_
    repeat (with_reducible (first | refine nx_block_normal ?_ | refine nx_scope_normal ?_))
    with_reducible first | refine nx_normal ?_ | refine nx_normalM ?_
    refine awp_seq (awp_block ?_)
    refine awp_seq_region (fun Z hZ => ?_)
    refine sx_move rfl rfl ?_
    refine sx_move rfl rfl ?_
    refine sx_add rfl rfl ((c : Nat) : Int) (by rw [IntWalk.u64_in _ (by omega)]; omega) rfl ?_
    refine sx_assign rfl rfl ?_
    refine sx_nil (hZ _ _ ?_)
    refine awp_forget [(0, _), (4, _), (5, _), (6, _)] (Kn.cons rfl (Kn.cons rfl (Kn.cons rfl (Kn.cons rfl (Kn.nil))))) ?_
    refine awp_region (fun Z hZ => ?_)
    refine sx_move rfl rfl ?_
    refine sx_mul rfl rfl ((q : Nat) : Int) (by rw [IntWalk.u64_in _ (by omega)]; omega) rfl ?_
    refine sx_assign rfl rfl ?_
    refine sx_nil (hZ _ _ ?_)
    refine nx_forget [(0, _), (4, _), (5, _), (6, _)] (Kn.cons rfl (Kn.cons rfl (Kn.cons rfl (Kn.cons rfl (Kn.nil))))) ?_
    repeat (with_reducible (first | refine nx_block_normal ?_ | refine nx_scope_normal ?_))
    with_reducible first | refine nx_normal ?_ | refine nx_normalM ?_
    refine awp_region (fun Z hZ => ?_)
    refine sx_move rfl rfl ?_
    refine sx_add rfl rfl ((i + 1 : Nat) : Int) (by rw [IntWalk.i64_in _ (by omega)]; omega) rfl ?_
    refine sx_assign rfl rfl ?_
    refine sx_nil (hZ _ _ ?_)
    refine nx_forget [(0, _), (4, _), (5, _), (6, _)] (Kn.cons rfl (Kn.cons rfl (Kn.cons rfl (Kn.cons rfl (Kn.nil))))) ?_
    exact nx_round (i + 1) hlt (by omega) (Kn.cons rfl (Kn.cons (by rw [hq]; rfl) (Kn.cons (by rw [hc]; rfl) (Kn.cons rfl Kn.nil)))) (HLe.refl _)
  · have hie : i = z := by simp at h1; omega
    subst hie
    refine awp_exit ?_
    repeat (with_reducible (first | refine nx_then_exit ?_ | refine nx_block_other (by decide) ?_ | refine nx_scope_exit ?_))
    with_reducible refine nx_block_exit ?_
    repeat (with_reducible (first | refine nx_block_normal ?_ | refine nx_scope_normal ?_))
    with_reducible first | refine nx_normal ?_ | refine nx_normalM ?_
    refine awp_seq_region (fun Z hZ => ?_)
    refine sx_move rfl rfl ?_
    refine sx_assign rfl rfl ?_
    refine sx_assign rfl rfl ?_
    refine sx_nil (hZ _ _ ?_)
    refine awp_forget [(2, _), (3, _)] (Kn.cons rfl (Kn.cons rfl (Kn.nil))) ?_
    refine awp_ret ?_
    repeat (with_reducible (first | refine nx_then_ret ?_ | refine nx_block_ret ?_ | refine nx_scope_ret ?_))
    exact nx_ret2 rfl rfl rfl rfl
theorem rzoom_fn (k : Nat) : Fn Try.prog 44 [uq k] [] fun v _ => v = iq (zoomQ k) := by
  refine Fn.enter (N := 32) Try.func44 rfl (by kernel_rfl) rfl (fun w0 => ?_)

  refine awp_seq_region (fun Z hZ => ?_)
  refine sx_assign rfl rfl ?_
  refine sx_nil (hZ _ _ ?_)
  refine awp_forget [(0, _)] (Kn.cons rfl (Kn.nil)) ?_
  refine awp_seq ?_
  refine awp_seq_region (fun Z hZ => ?_)
  refine sx_assign rfl rfl ?_
  refine sx_nil (hZ _ _ ?_)
  refine awp_forget [(0, _), (3, _)] (Kn.cons rfl (Kn.cons rfl (Kn.nil))) ?_
  refine awp_block ?_
  refine awp_loop (ι := Nat) (fun i => [(0, uq k), (3, iq ((i : Nat) - 1 : Int))]) (fun _ => []) (fun i => i ≤ 27 ∧ (6004799503160661 ≤ k ∨ k < base4 i)) (fun i => i) 27 ⟨by omega, by rw [base4_27]; omega⟩ (Kn.cons rfl (Kn.cons rfl Kn.nil)) (HLe.refl _) ?_
  rintro i ⟨hi, hq⟩
  refine awp_seq ?_
  refine awp_seq_region (fun Z hZ => ?_)
  refine sx_move rfl rfl ?_
  first | refine sx_geq rfl rfl rfl ?_ | refine sx_sgeq rfl rfl rfl ?_
  refine sx_nil (hZ _ _ ?_)
  refine awp_forget [(0, _), (3, _), (9, _)] (Kn.cons rfl (Kn.cons rfl (Kn.cons rfl (Kn.nil)))) ?_
  first | refine awp_cond rfl (fun h => ?_) (fun h => ?_) | refine awp_seq (awp_cond rfl (fun h => ?_) (fun h => ?_))
  · have h1 : 1 ≤ i := by simp at h; omega
    obtain ⟨z, rfl⟩ : ∃ z, i = z + 1 := ⟨i - 1, by omega⟩
    have b1 := rbase_fn z (by omega)
    have b2 := rbase_fn (z + 1) (by omega)
    have ez : ((z + 1 : Nat) : Int) - 1 = (z : Int) := by omega
    rw [ez]
    refine awp_skip ?_
    repeat (with_reducible (first | refine nx_block_normal ?_ | refine nx_scope_normal ?_))
    with_reducible first | refine nx_normal ?_ | refine nx_normalM ?_
    refine awp_seq (awp_block ?_)
    refine awp_seq_region (fun Z hZ => ?_)
    refine sx_move rfl rfl ?_
    refine sx_callP b1 rfl rfl ?_
    refine sx_move rfl rfl ?_
    refine sx_extract rfl rfl rfl ?_
    refine sx_extract rfl rfl rfl ?_
    refine sx_assign rfl rfl ?_
    refine sx_assign rfl rfl ?_
    refine sx_nil (hZ _ _ ?_)
    refine awp_forget [(0, _), (3, _), (4, _)] (Kn.cons rfl (Kn.cons rfl (Kn.cons rfl (Kn.nil)))) ?_
    refine awp_seq_region (fun Z hZ => ?_)
    refine sx_move rfl rfl ?_
    refine sx_add rfl rfl ((z + 1 : Nat) : Int) (by rw [IntWalk.i64_in _ (by omega)]; omega) rfl ?_
    refine sx_callP b2 rfl rfl ?_
    refine sx_move rfl rfl ?_
    refine sx_extract rfl rfl rfl ?_
    refine sx_extract rfl rfl rfl ?_
    refine sx_assign rfl rfl ?_
    refine sx_assign rfl rfl ?_
    refine sx_nil (hZ _ _ ?_)
    refine awp_forget [(0, _), (3, _), (4, _), (6, _)] (Kn.cons rfl (Kn.cons rfl (Kn.cons rfl (Kn.cons rfl (Kn.nil))))) ?_
    refine awp_seq_meet [(0, uq k), (3, iq (z : Nat)), (30, .bool (decide (base4 z ≤ k ∧ k < base4 (z + 1))))] [] (fun Z hZ => ?_) ?_
    · refine sx_move rfl rfl ?_
      refine sx_move rfl rfl ?_
      first | refine sx_geq rfl rfl rfl ?_ | refine sx_sgeq rfl rfl rfl ?_
      refine sx_move rfl rfl ?_
      refine sx_split 26 rfl (fun hb3 => ?_) (fun hb3 => ?_)
      · refine sx_on rfl rfl rfl ?_
        refine sx_move rfl rfl ?_
        refine sx_on rfl rfl rfl ?_
        refine sx_move rfl rfl ?_
        refine sx_on rfl rfl rfl ?_
        first | refine sx_lss rfl rfl rfl ?_ | refine sx_slss rfl rfl rfl ?_
        refine sx_pick rfl rfl rfl ?_
        refine sx_nil (hZ _ _ ?_ ?_)
        · exact Kn.cons rfl (Kn.cons rfl (Kn.cons (congrArg some (congrArg Value.bool (by first | (simp at *; done) | (rw [Bool.eq_iff_iff]; simp at *; omega)))) Kn.nil))
        · exact HLe.refl _
      · refine sx_off rfl rfl rfl rfl rfl ?_
        refine sx_off rfl rfl rfl rfl rfl ?_
        refine sx_off rfl rfl rfl rfl rfl ?_
        refine sx_pick rfl rfl rfl ?_
        refine sx_nil (hZ _ _ ?_ ?_)
        · exact Kn.cons rfl (Kn.cons rfl (Kn.cons (congrArg some (congrArg Value.bool (by first | (simp at *; done) | (rw [Bool.eq_iff_iff]; simp at *; omega)))) Kn.nil))
        · exact HLe.refl _
    first | refine awp_cond rfl (fun h2 => ?_) (fun h2 => ?_) | refine awp_seq (awp_cond rfl (fun h2 => ?_) (fun h2 => ?_))
    · have h3 : base4 z ≤ k ∧ k < base4 (z + 1) := by simpa using h2
      rw [zoom_at (by omega) h3.1 h3.2]
      refine awp_seq_region (fun Z hZ => ?_)
      refine sx_move rfl rfl ?_
      refine sx_assign rfl rfl ?_
      refine sx_nil (hZ _ _ ?_)
      refine awp_forget [(2, _)] (Kn.cons rfl (Kn.nil)) ?_
      refine awp_ret ?_
      repeat (with_reducible (first | refine nx_then_ret ?_ | refine nx_block_ret ?_ | refine nx_scope_ret ?_))
      exact nx_ret1 rfl rfl rfl
    have h3 : ¬ (base4 z ≤ k ∧ k < base4 (z + 1)) := by simpa using h2
    refine awp_skip ?_
    repeat (with_reducible (first | refine nx_block_normal ?_ | refine nx_scope_normal ?_))
    with_reducible first | refine nx_normal ?_ | refine nx_normalM ?_
    refine awp_region (fun Z hZ => ?_)
    refine sx_move rfl rfl ?_
    refine sx_sub rfl rfl ((z : Int) - 1) (by rw [IntWalk.i64_in _ (by omega)]) rfl ?_
    refine sx_assign rfl rfl ?_
    refine sx_nil (hZ _ _ ?_)
    refine nx_forget [(0, _), (3, _)] (Kn.cons rfl (Kn.cons rfl (Kn.nil))) ?_
    exact nx_round z ⟨by omega, by omega⟩ (by omega) (Kn.cons rfl (Kn.cons rfl Kn.nil)) (HLe.refl _)
  · have h1 : i = 0 := by simp at h; omega
    subst h1
    have hk : 6004799503160661 ≤ k := by
      rcases hq with hq | hq
      · exact hq
      · simp [base4] at hq
    rw [show zoomQ k = -1 by unfold zoomQ; rw [if_pos hk]]
    refine awp_exit ?_
    repeat (with_reducible (first | refine nx_then_exit ?_ | refine nx_block_other (by decide) ?_ | refine nx_scope_exit ?_))
    with_reducible refine nx_block_exit ?_
    repeat (with_reducible (first | refine nx_block_normal ?_ | refine nx_scope_normal ?_))
    with_reducible first | refine nx_normal ?_ | refine nx_normalM ?_
    refine awp_seq_region (fun Z hZ => ?_)
    refine sx_assign rfl rfl ?_
    refine sx_nil (hZ _ _ ?_)
    refine awp_forget [(2, _)] (Kn.cons rfl (Kn.nil)) ?_
    refine awp_ret ?_
    repeat (with_reducible (first | refine nx_then_ret ?_ | refine nx_block_ret ?_ | refine nx_scope_ret ?_))
    exact nx_ret1 rfl rfl rfl
end Go.Proofs.Ytmebmkkllhnmlaa
