/- The walks of the document's curve. No conditions. -/
import Derived.Test.YtbldhokgbcljjaaZo1
import Derived.Test.YtbldhokgbcljjaaCv1
namespace Go.Proofs.Ytbldhokgbcljjaa
open Go.RowKit
set_option linter.unusedVariables false
set_option linter.unusedSimpArgs false
theorem pow2_le26 {z : Nat} (h : z ≤ 26) : 2 ^ z ≤ 67108864 := Nat.pow_le_pow_right (n := 2) (by decide) h
theorem rside_fn (z : Nat) (hz : z ≤ 26) : Fn Try.prog 87 [iq z] [] fun v _ => v = iq ((2 ^ z : Nat) : Int) := by
  refine Fn.enter (N := 19) Try.func87 rfl (by kernel_rfl) rfl (fun w0 => ?_)

  refine awp_seq_region (fun Z hZ => ?_)
  refine sx_assign rfl rfl ?_
  refine sx_nil (hZ _ _ ?_)
  refine awp_forget [(0, _)] (Kn.cons rfl (Kn.nil)) ?_
  refine awp_seq ?_
  refine awp_seq_meet [(0, iq (z : Nat)), (10, .bool false)] [] (fun Z hZ => ?_) ?_
  · refine sx_move rfl rfl ?_
    refine sx_lss rfl rfl rfl ?_
    refine sx_move rfl rfl ?_
    refine sx_split 7 rfl (fun hb2 => ?_) (fun hb2 => ?_)
    · refine sx_off rfl rfl rfl rfl rfl ?_
      refine sx_off rfl rfl rfl rfl rfl ?_
      refine sx_pick rfl rfl rfl ?_
      refine sx_nil (hZ _ _ ?_ ?_)
      · exact Kn.cons rfl (Kn.cons (congrArg some (congrArg Value.bool (by first | rfl | (simp at *; done) | (simp at *; omega)))) Kn.nil)
      · exact HLe.refl _
    · refine sx_on rfl rfl rfl ?_
      refine sx_move rfl rfl ?_
      refine sx_on rfl rfl rfl ?_
      refine sx_gtr rfl rfl rfl ?_
      refine sx_pick rfl rfl rfl ?_
      refine sx_nil (hZ _ _ ?_ ?_)
      · exact Kn.cons rfl (Kn.cons (congrArg some (congrArg Value.bool (by first | rfl | (simp at *; done) | (simp at *; omega)))) Kn.nil)
      · exact HLe.refl _
  refine awp_cond rfl (fun h => ?_) (fun h => ?_)
  · cases h
  refine awp_skip ?_
  with_reducible refine nx_normal ?_
  refine awp_seq_region (fun Z hZ => ?_)
  refine sx_assign rfl rfl ?_
  refine sx_nil (hZ _ _ ?_)
  refine awp_forget [(0, _), (3, _)] (Kn.cons rfl (Kn.cons rfl (Kn.nil))) ?_
  refine awp_seq ?_
  refine awp_seq_region (fun Z hZ => ?_)
  refine sx_assign rfl rfl ?_
  refine sx_nil (hZ _ _ ?_)
  refine awp_forget [(0, _), (3, _), (4, _)] (Kn.cons rfl (Kn.cons rfl (Kn.cons rfl (Kn.nil)))) ?_
  refine awp_block ?_
  refine awp_loop (ι := Nat) (fun i => [(0, iq (z : Nat)), (3, iq ((2 ^ i : Nat) : Int)), (4, iq (i : Nat))]) (fun _ => []) (fun i => i ≤ z) (fun i => z - i) 0 (Nat.zero_le _) (Kn.cons rfl (Kn.cons rfl (Kn.cons rfl Kn.nil))) (HLe.refl _) ?_
  intro i hi
  refine awp_seq ?_
  refine awp_seq_region (fun Z hZ => ?_)
  refine sx_move rfl rfl ?_
  refine sx_move rfl rfl ?_
  refine sx_lss rfl rfl rfl ?_
  refine sx_nil (hZ _ _ ?_)
  refine awp_forget [(0, _), (3, _), (4, _), (13, _)] (Kn.cons rfl (Kn.cons rfl (Kn.cons rfl (Kn.cons rfl (Kn.nil))))) ?_
  refine awp_cond rfl (fun h1 => ?_) (fun h1 => ?_)
  · have hlt : i < z := by simpa using h1
    have e1 : (2 : Nat) ^ (i + 1) = 2 * 2 ^ i := by rw [Nat.pow_succ]; omega
    have e2 := pow2_le26 (show i + 1 ≤ 26 by omega)
    obtain ⟨p, hp⟩ : ∃ p : Nat, 2 ^ i = p := ⟨_, rfl⟩
    obtain ⟨q, hq⟩ : ∃ q : Nat, 2 ^ (i + 1) = q := ⟨_, rfl⟩
    rw [hp, hq] at e1
    rw [hq] at e2
    rw [hp]
    refine awp_skip ?_
    with_reducible refine nx_normal ?_
    refine awp_seq (awp_block ?_)
    refine awp_region (fun Z hZ => ?_)
    refine sx_move rfl rfl ?_
    refine sx_mul rfl rfl ((q : Nat) : Int) (by rw [IntWalk.i64_in _ (by omega)]; omega) rfl ?_
    refine sx_assign rfl rfl ?_
    refine sx_nil (hZ _ _ ?_)
    refine nx_forget [(0, _), (3, _), (4, _)] (Kn.cons rfl (Kn.cons rfl (Kn.cons rfl (Kn.nil)))) ?_
    repeat (with_reducible refine nx_block_normal ?_)
    with_reducible refine nx_normal ?_
    refine awp_region (fun Z hZ => ?_)
    refine sx_move rfl rfl ?_
    refine sx_add rfl rfl ((i + 1 : Nat) : Int) (by rw [IntWalk.i64_in _ (by omega)]; omega) rfl ?_
    refine sx_assign rfl rfl ?_
    refine sx_nil (hZ _ _ ?_)
    refine nx_forget [(0, _), (3, _), (4, _)] (Kn.cons rfl (Kn.cons rfl (Kn.cons rfl (Kn.nil)))) ?_
    exact nx_round (i + 1) hlt (by omega) (Kn.cons rfl (Kn.cons (by rw [hq]; rfl) (Kn.cons rfl Kn.nil))) (HLe.refl _)
  · have hie : i = z := by simp at h1; omega
    subst hie
    refine awp_exit ?_
    repeat (with_reducible refine nx_then_exit ?_)
    with_reducible refine nx_block_exit ?_
    with_reducible refine nx_normal ?_
    refine awp_seq_region (fun Z hZ => ?_)
    refine sx_move rfl rfl ?_
    refine sx_assign rfl rfl ?_
    refine sx_nil (hZ _ _ ?_)
    refine awp_forget [(2, _)] (Kn.cons rfl (Kn.nil)) ?_
    refine awp_ret ?_
    exact nx_ret1 rfl rfl rfl
theorem rside_no (z : Int) (hz : z < 0 ∨ 26 < z) : Fn Try.prog 87 [iq z] [] fun v _ => v = iq (0 : Int) := by
  refine Fn.enter (N := 19) Try.func87 rfl (by kernel_rfl) rfl (fun w0 => ?_)

  refine awp_seq_region (fun Z hZ => ?_)
  refine sx_assign rfl rfl ?_
  refine sx_nil (hZ _ _ ?_)
  refine awp_forget [(0, _)] (Kn.cons rfl (Kn.nil)) ?_
  refine awp_seq ?_
  refine awp_seq_meet [(10, .bool true)] [] (fun Z hZ => ?_) ?_
  · refine sx_move rfl rfl ?_
    refine sx_lss rfl rfl rfl ?_
    refine sx_move rfl rfl ?_
    refine sx_split 7 rfl (fun hb2 => ?_) (fun hb2 => ?_)
    · refine sx_off rfl rfl rfl rfl rfl ?_
      refine sx_off rfl rfl rfl rfl rfl ?_
      refine sx_pick rfl rfl rfl ?_
      refine sx_nil (hZ _ _ ?_ ?_)
      · exact Kn.cons (congrArg some (congrArg Value.bool (by first | rfl | (simp at *; done) | (simp at *; omega)))) Kn.nil
      · exact HLe.refl _
    · refine sx_on rfl rfl rfl ?_
      refine sx_move rfl rfl ?_
      refine sx_on rfl rfl rfl ?_
      refine sx_gtr rfl rfl rfl ?_
      refine sx_pick rfl rfl rfl ?_
      refine sx_nil (hZ _ _ ?_ ?_)
      · exact Kn.cons (congrArg some (congrArg Value.bool (by first | rfl | (simp at *; done) | (simp at *; omega)))) Kn.nil
      · exact HLe.refl _
  refine awp_cond rfl (fun h => ?_) (fun h => ?_)
  · refine awp_seq_region (fun Z hZ => ?_)
    refine sx_assign rfl rfl ?_
    refine sx_nil (hZ _ _ ?_)
    refine awp_forget [(2, _)] (Kn.cons rfl (Kn.nil)) ?_
    refine awp_ret ?_
    repeat (with_reducible refine nx_then_ret ?_)
    exact nx_ret1 rfl rfl rfl
  cases h
theorem rplace_fn : ∀ (z : Nat), z ≤ 26 → ∀ x y : Nat, x < 2 ^ z → y < 2 ^ z → Fn Try.prog 120 [iq ((2 ^ z : Nat) : Int), iq x, iq y] [] fun v _ => v = uq (hp z x y) := by
  intro z
  induction z with
  | zero =>
    intro _ x y _ _
    obtain ⟨n, hn⟩ : ∃ n : Nat, 2 ^ 0 = n := ⟨_, rfl⟩
    have hn1 : n = 1 := by rw [← hn]
    rw [hn]
    refine Fn.enter (N := 70) Try.func120 rfl (by kernel_rfl) rfl (fun w0 => ?_)

    refine awp_seq_region (fun Z hZ => ?_)
    refine sx_assign rfl rfl ?_
    refine sx_nil (hZ _ _ ?_)
    refine awp_forget [(0, _), (1, _), (2, _)] (Kn.cons rfl (Kn.cons rfl (Kn.cons rfl (Kn.nil)))) ?_
    refine awp_seq ?_
    refine awp_seq_region (fun Z hZ => ?_)
    refine sx_move rfl rfl ?_
    refine sx_lss rfl rfl rfl ?_
    refine sx_nil (hZ _ _ ?_)
    refine awp_forget [(0, _), (1, _), (2, _), (10, _)] (Kn.cons rfl (Kn.cons rfl (Kn.cons rfl (Kn.cons rfl (Kn.nil))))) ?_
    refine awp_cond rfl (fun h => ?_) (fun h => ?_)
    · refine awp_seq_region (fun Z hZ => ?_)
      refine sx_assign rfl rfl ?_
      refine sx_nil (hZ _ _ ?_)
      refine awp_forget [(6, _)] (Kn.cons rfl (Kn.nil)) ?_
      refine awp_ret ?_
      repeat (with_reducible refine nx_then_ret ?_)
      exact nx_ret1 rfl rfl rfl
    exfalso
    simp at h
    omega
  | succ z ih =>
    intro hz x y hx hy
    have ih := ih (by omega)
    have hb := pow2_le26 (show z ≤ 26 by omega)
    have e1 : (2 : Nat) ^ (z + 1) = 2 * 2 ^ z := by rw [Nat.pow_succ]; omega
    have hqq := pow4_sq z
    have hq4 : 4 ^ z ≤ 67108864 * 67108864 := by rw [hqq]; exact Nat.mul_le_mul hb hb
    have hl := hp_lt z
    rw [show hp (z + 1) x y = if x < 2 ^ z then (if y < 2 ^ z then hp z y x else 4 ^ z + hp z x (y - 2 ^ z)) else (if y < 2 ^ z then 3 * 4 ^ z + hp z (2 ^ z - 1 - y) (2 ^ z - 1 - (x - 2 ^ z)) else 2 * 4 ^ z + hp z (x - 2 ^ z) (y - 2 ^ z)) from rfl]
    have hp0 := pow2_pos z
    obtain ⟨p, hpz⟩ : ∃ p : Nat, 2 ^ z = p := ⟨_, rfl⟩
    obtain ⟨q, hq⟩ : ∃ q : Nat, 4 ^ z = q := ⟨_, rfl⟩
    obtain ⟨n, hn⟩ : ∃ n : Nat, 2 ^ (z + 1) = n := ⟨_, rfl⟩
    rw [hn, hpz] at e1
    rw [hpz] at hb hqq hl hp0 ih
    rw [hq] at hqq hq4 hl
    rw [hn] at hx hy
    rw [hn, hpz, hq]
    obtain ⟨F, hF⟩ : ∃ F, hp z = F := ⟨_, rfl⟩
    rw [hF] at hl ih ⊢
    refine Fn.enter (N := 70) Try.func120 rfl (by kernel_rfl) rfl (fun w0 => ?_)

    refine awp_seq_region (fun Z hZ => ?_)
    refine sx_assign rfl rfl ?_
    refine sx_nil (hZ _ _ ?_)
    refine awp_forget [(0, _), (1, _), (2, _)] (Kn.cons rfl (Kn.cons rfl (Kn.cons rfl (Kn.nil)))) ?_
    refine awp_seq ?_
    refine awp_seq_region (fun Z hZ => ?_)
    refine sx_move rfl rfl ?_
    refine sx_lss rfl rfl rfl ?_
    refine sx_nil (hZ _ _ ?_)
    refine awp_forget [(0, _), (1, _), (2, _), (10, _)] (Kn.cons rfl (Kn.cons rfl (Kn.cons rfl (Kn.cons rfl (Kn.nil))))) ?_
    refine awp_cond rfl (fun h => ?_) (fun h => ?_)
    · exfalso
      simp at h
      omega
    refine awp_skip ?_
    with_reducible refine nx_normal ?_
    refine awp_seq_region (fun Z hZ => ?_)
    refine sx_move rfl rfl ?_
    refine sx_quo rfl rfl (by omega) ((p : Nat) : Int) (by rw [Int.tdiv_eq_ediv_of_nonneg (by omega), IntWalk.i64_in _ (by omega)]; omega) rfl ?_
    refine sx_assign rfl rfl ?_
    refine sx_nil (hZ _ _ ?_)
    refine awp_forget [(1, _), (2, _), (7, _)] (Kn.cons rfl (Kn.cons rfl (Kn.cons rfl (Kn.nil)))) ?_
    refine awp_seq_region (fun Z hZ => ?_)
    refine sx_move rfl rfl ?_
    refine sx_conv Try.underlying3 Try.underlying36 rfl ((p : Nat) : Int) (by rw [IntWalk.u64_in _ (by omega)]) rfl ?_
    refine sx_move rfl rfl ?_
    refine sx_conv Try.underlying3 Try.underlying36 rfl ((p : Nat) : Int) (by rw [IntWalk.u64_in _ (by omega)]) rfl ?_
    refine sx_mul rfl rfl ((q : Nat) : Int) (by rw [← Int.natCast_mul, ← hqq, IntWalk.u64_in _ (by omega)]) rfl ?_
    refine sx_assign rfl rfl ?_
    refine sx_nil (hZ _ _ ?_)
    refine awp_forget [(1, _), (2, _), (7, _), (8, _)] (Kn.cons rfl (Kn.cons rfl (Kn.cons rfl (Kn.cons rfl (Kn.nil))))) ?_
    refine awp_seq ?_
    refine awp_seq_meet [(1, iq x), (2, iq y), (7, iq p), (8, uq q), (25, .bool (decide (x < p ∧ y < p)))] [] (fun Z hZ => ?_) ?_
    · refine sx_move rfl rfl ?_
      refine sx_move rfl rfl ?_
      refine sx_lss rfl rfl rfl ?_
      refine sx_move rfl rfl ?_
      refine sx_split 21 rfl (fun hb3 => ?_) (fun hb3 => ?_)
      · refine sx_on rfl rfl rfl ?_
        refine sx_move rfl rfl ?_
        refine sx_on rfl rfl rfl ?_
        refine sx_move rfl rfl ?_
        refine sx_on rfl rfl rfl ?_
        refine sx_lss rfl rfl rfl ?_
        refine sx_pick rfl rfl rfl ?_
        refine sx_nil (hZ _ _ ?_ ?_)
        · exact Kn.cons rfl (Kn.cons rfl (Kn.cons rfl (Kn.cons rfl (Kn.cons (congrArg some (congrArg Value.bool (by first | (simp at *; done) | (rw [Bool.eq_iff_iff]; simp at *; omega)))) Kn.nil))))
        · exact HLe.refl _
      · refine sx_off rfl rfl rfl rfl rfl ?_
        refine sx_off rfl rfl rfl rfl rfl ?_
        refine sx_off rfl rfl rfl rfl rfl ?_
        refine sx_pick rfl rfl rfl ?_
        refine sx_nil (hZ _ _ ?_ ?_)
        · exact Kn.cons rfl (Kn.cons rfl (Kn.cons rfl (Kn.cons rfl (Kn.cons (congrArg some (congrArg Value.bool (by first | (simp at *; done) | (rw [Bool.eq_iff_iff]; simp at *; omega)))) Kn.nil))))
        · exact HLe.refl _
    refine awp_cond rfl (fun h1 => ?_) (fun h1 => ?_)
    · have h2 : x < p ∧ y < p := by simpa using h1
      rw [if_pos h2.1, if_pos h2.2]
      refine awp_seq_region (fun Z hZ => ?_)
      refine sx_move rfl rfl ?_
      refine sx_move rfl rfl ?_
      refine sx_move rfl rfl ?_
      refine sx_callP (ih y x h2.2 h2.1) rfl rfl ?_
      refine sx_assign rfl rfl ?_
      refine sx_nil (hZ _ _ ?_)
      refine awp_forget [(6, _)] (Kn.cons rfl (Kn.nil)) ?_
      refine awp_ret ?_
      repeat (with_reducible refine nx_then_ret ?_)
      exact nx_ret1 rfl rfl rfl
    have h2 : ¬ (x < p ∧ y < p) := by simpa using h1
    refine awp_skip ?_
    with_reducible refine nx_normal ?_
    refine awp_seq ?_
    refine awp_seq_region (fun Z hZ => ?_)
    refine sx_move rfl rfl ?_
    refine sx_move rfl rfl ?_
    refine sx_lss rfl rfl rfl ?_
    refine sx_nil (hZ _ _ ?_)
    refine awp_forget [(1, _), (2, _), (7, _), (8, _), (32, _)] (Kn.cons rfl (Kn.cons rfl (Kn.cons rfl (Kn.cons rfl (Kn.cons rfl (Kn.nil)))))) ?_
    refine awp_cond rfl (fun h3 => ?_) (fun h3 => ?_)
    · have h4 : x < p := by simpa using h3
      rw [if_pos h4, if_neg (by omega)]
      have hl1 := hl x (y - p) h4 (by omega)
      refine awp_seq_region (fun Z hZ => ?_)
      refine sx_move rfl rfl ?_
      refine sx_move rfl rfl ?_
      refine sx_move rfl rfl ?_
      refine sx_move rfl rfl ?_
      refine sx_move rfl rfl ?_
      refine sx_sub rfl rfl ((y - p : Nat) : Int) (by rw [IntWalk.i64_in _ (by omega)]; omega) rfl ?_
      refine sx_callP (ih x (y - p) h4 (by omega)) rfl rfl ?_
      refine sx_add rfl rfl ((q + F x (y - p) : Nat) : Int) (by rw [IntWalk.u64_in _ (by omega)]; omega) rfl ?_
      refine sx_assign rfl rfl ?_
      refine sx_nil (hZ _ _ ?_)
      refine awp_forget [(6, _)] (Kn.cons rfl (Kn.nil)) ?_
      refine awp_ret ?_
      repeat (with_reducible refine nx_then_ret ?_)
      exact nx_ret1 rfl rfl rfl
    have h4 : ¬ x < p := by simpa using h3
    rw [if_neg h4]
    refine awp_skip ?_
    with_reducible refine nx_normal ?_
    refine awp_seq ?_
    refine awp_seq_region (fun Z hZ => ?_)
    refine sx_move rfl rfl ?_
    refine sx_move rfl rfl ?_
    refine sx_geq rfl rfl rfl ?_
    refine sx_nil (hZ _ _ ?_)
    refine awp_forget [(1, _), (2, _), (7, _), (8, _), (43, _)] (Kn.cons rfl (Kn.cons rfl (Kn.cons rfl (Kn.cons rfl (Kn.cons rfl (Kn.nil)))))) ?_
    refine awp_cond rfl (fun h5 => ?_) (fun h5 => ?_)
    · have h6 : p ≤ y := by simpa using h5
      rw [if_neg (by omega)]
      have hl1 := hl (x - p) (y - p) (by omega) (by omega)
      refine awp_seq_region (fun Z hZ => ?_)
      refine sx_move rfl rfl ?_
      refine sx_mul rfl rfl ((2 * q : Nat) : Int) (by rw [IntWalk.u64_in _ (by omega)]; omega) rfl ?_
      refine sx_move rfl rfl ?_
      refine sx_move rfl rfl ?_
      refine sx_move rfl rfl ?_
      refine sx_sub rfl rfl ((x - p : Nat) : Int) (by rw [IntWalk.i64_in _ (by omega)]; omega) rfl ?_
      refine sx_move rfl rfl ?_
      refine sx_move rfl rfl ?_
      refine sx_sub rfl rfl ((y - p : Nat) : Int) (by rw [IntWalk.i64_in _ (by omega)]; omega) rfl ?_
      refine sx_callP (ih (x - p) (y - p) (by omega) (by omega)) rfl rfl ?_
      refine sx_add rfl rfl ((2 * q + F (x - p) (y - p) : Nat) : Int) (by rw [IntWalk.u64_in _ (by omega)]; omega) rfl ?_
      refine sx_assign rfl rfl ?_
      refine sx_nil (hZ _ _ ?_)
      refine awp_forget [(6, _)] (Kn.cons rfl (Kn.nil)) ?_
      refine awp_ret ?_
      repeat (with_reducible refine nx_then_ret ?_)
      exact nx_ret1 rfl rfl rfl
    have h6 : ¬ p ≤ y := by simpa using h5
    rw [if_pos (by omega)]
    have hl1 := hl (p - 1 - y) (p - 1 - (x - p)) (by omega) (by omega)
    refine awp_skip ?_
    with_reducible refine nx_normal ?_
    refine awp_seq_region (fun Z hZ => ?_)
    refine sx_move rfl rfl ?_
    refine sx_mul rfl rfl ((3 * q : Nat) : Int) (by rw [IntWalk.u64_in _ (by omega)]; omega) rfl ?_
    refine sx_move rfl rfl ?_
    refine sx_move rfl rfl ?_
    refine sx_sub rfl rfl ((p - 1 : Nat) : Int) (by rw [IntWalk.i64_in _ (by omega)]; omega) rfl ?_
    refine sx_move rfl rfl ?_
    refine sx_sub rfl rfl ((p - 1 - y : Nat) : Int) (by rw [IntWalk.i64_in _ (by omega)]; omega) rfl ?_
    refine sx_move rfl rfl ?_
    refine sx_sub rfl rfl ((p - 1 : Nat) : Int) (by rw [IntWalk.i64_in _ (by omega)]; omega) rfl ?_
    refine sx_move rfl rfl ?_
    refine sx_move rfl rfl ?_
    refine sx_sub rfl rfl ((x - p : Nat) : Int) (by rw [IntWalk.i64_in _ (by omega)]; omega) rfl ?_
    refine sx_sub rfl rfl ((p - 1 - (x - p) : Nat) : Int) (by rw [IntWalk.i64_in _ (by omega)]; omega) rfl ?_
    refine sx_callP (ih (p - 1 - y) (p - 1 - (x - p)) (by omega) (by omega)) rfl rfl ?_
    refine sx_add rfl rfl ((3 * q + F (p - 1 - y) (p - 1 - (x - p)) : Nat) : Int) (by rw [IntWalk.u64_in _ (by omega)]; omega) rfl ?_
    refine sx_assign rfl rfl ?_
    refine sx_nil (hZ _ _ ?_)
    refine awp_forget [(6, _)] (Kn.cons rfl (Kn.nil)) ?_
    refine awp_ret ?_
    exact nx_ret1 rfl rfl rfl
theorem rpoint_fn : ∀ (z : Nat), z ≤ 26 → ∀ d : Nat, d < 4 ^ z → Fn Try.prog 121 [iq ((2 ^ z : Nat) : Int), uq d] [] fun v _ => v = .tuple #[iq ((pt z d).1 : Nat), iq ((pt z d).2 : Nat)] := by
  intro z
  induction z with
  | zero =>
    intro _ d _
    obtain ⟨n, hn⟩ : ∃ n : Nat, 2 ^ 0 = n := ⟨_, rfl⟩
    have hn1 : n = 1 := by rw [← hn]
    rw [hn]
    refine Fn.enter (N := 61) Try.func121 rfl (by kernel_rfl) rfl (fun w0 => ?_)

    refine awp_seq_region (fun Z hZ => ?_)
    refine sx_assign rfl rfl ?_
    refine sx_assign rfl rfl ?_
    refine sx_nil (hZ _ _ ?_)
    refine awp_forget [(0, _), (1, _)] (Kn.cons rfl (Kn.cons rfl (Kn.nil))) ?_
    refine awp_seq ?_
    refine awp_seq_region (fun Z hZ => ?_)
    refine sx_move rfl rfl ?_
    refine sx_lss rfl rfl rfl ?_
    refine sx_nil (hZ _ _ ?_)
    refine awp_forget [(0, _), (1, _), (11, _)] (Kn.cons rfl (Kn.cons rfl (Kn.cons rfl (Kn.nil)))) ?_
    refine awp_cond rfl (fun h => ?_) (fun h => ?_)
    · refine awp_seq_region (fun Z hZ => ?_)
      refine sx_assign rfl rfl ?_
      refine sx_assign rfl rfl ?_
      refine sx_nil (hZ _ _ ?_)
      refine awp_forget [(4, _), (5, _)] (Kn.cons rfl (Kn.cons rfl (Kn.nil))) ?_
      refine awp_ret ?_
      repeat (with_reducible refine nx_then_ret ?_)
      exact nx_ret2 rfl rfl rfl rfl
    exfalso
    simp at h
    omega
  | succ z ih =>
    intro hz d hd
    have hb := pow2_le26 (show z ≤ 26 by omega)
    have e1 : (2 : Nat) ^ (z + 1) = 2 * 2 ^ z := by rw [Nat.pow_succ]; omega
    have e4 : (4 : Nat) ^ (z + 1) = 4 * 4 ^ z := by rw [Nat.pow_succ]; omega
    have hqq := pow4_sq z
    have hq4 : 4 ^ z ≤ 67108864 * 67108864 := by rw [hqq]; exact Nat.mul_le_mul hb hb
    have hp0 := pow2_pos z
    have hq0 := pow4_pos z
    have hml := Nat.mod_lt d hq0
    have hl := pt_lt z (d % 4 ^ z) hml
    have ih := ih (by omega) (d % 4 ^ z) hml
    rw [show pt (z + 1) d = if d / 4 ^ z = 0 then ((pt z (d % 4 ^ z)).2, (pt z (d % 4 ^ z)).1) else if d / 4 ^ z = 1 then ((pt z (d % 4 ^ z)).1, (pt z (d % 4 ^ z)).2 + 2 ^ z) else if d / 4 ^ z = 2 then ((pt z (d % 4 ^ z)).1 + 2 ^ z, (pt z (d % 4 ^ z)).2 + 2 ^ z) else (2 ^ z - 1 - (pt z (d % 4 ^ z)).2 + 2 ^ z, 2 ^ z - 1 - (pt z (d % 4 ^ z)).1) from rfl]
    obtain ⟨ab, hab⟩ : ∃ ab, pt z (d % 4 ^ z) = ab := ⟨_, rfl⟩
    obtain ⟨a, b⟩ := ab
    rw [hab] at hl ih ⊢
    obtain ⟨p, hpz⟩ : ∃ p : Nat, 2 ^ z = p := ⟨_, rfl⟩
    obtain ⟨q, hq⟩ : ∃ q : Nat, 4 ^ z = q := ⟨_, rfl⟩
    obtain ⟨n, hn⟩ : ∃ n : Nat, 2 ^ (z + 1) = n := ⟨_, rfl⟩
    obtain ⟨m, hm⟩ : ∃ n : Nat, 4 ^ (z + 1) = n := ⟨_, rfl⟩
    rw [hn, hpz] at e1
    rw [hm, hq] at e4
    rw [hpz] at hb hqq hl hp0 ih
    rw [hq] at hqq hq4 hq0 hml ih
    rw [hm] at hd
    rw [hn, hpz, hq]
    simp only at hl ih ⊢
    obtain ⟨r, hr⟩ : ∃ r : Nat, d % q = r := ⟨_, rfl⟩
    obtain ⟨k, hk⟩ : ∃ r : Nat, d / q = r := ⟨_, rfl⟩
    have hk4 : k < 4 := by rw [← hk]; exact Nat.div_lt_of_lt_mul (by omega)
    rw [hr] at hml ih
    rw [hk]
    refine Fn.enter (N := 61) Try.func121 rfl (by kernel_rfl) rfl (fun w0 => ?_)

    refine awp_seq_region (fun Z hZ => ?_)
    refine sx_assign rfl rfl ?_
    refine sx_assign rfl rfl ?_
    refine sx_nil (hZ _ _ ?_)
    refine awp_forget [(0, _), (1, _)] (Kn.cons rfl (Kn.cons rfl (Kn.nil))) ?_
    refine awp_seq ?_
    refine awp_seq_region (fun Z hZ => ?_)
    refine sx_move rfl rfl ?_
    refine sx_lss rfl rfl rfl ?_
    refine sx_nil (hZ _ _ ?_)
    refine awp_forget [(0, _), (1, _), (11, _)] (Kn.cons rfl (Kn.cons rfl (Kn.cons rfl (Kn.nil)))) ?_
    refine awp_cond rfl (fun h => ?_) (fun h => ?_)
    · exfalso
      simp at h
      omega
    refine awp_skip ?_
    with_reducible refine nx_normal ?_
    refine awp_seq_region (fun Z hZ => ?_)
    refine sx_move rfl rfl ?_
    refine sx_quo rfl rfl (by omega) ((p : Nat) : Int) (by rw [Int.tdiv_eq_ediv_of_nonneg (by omega), IntWalk.i64_in _ (by omega)]; omega) rfl ?_
    refine sx_assign rfl rfl ?_
    refine sx_nil (hZ _ _ ?_)
    refine awp_forget [(1, _), (6, _)] (Kn.cons rfl (Kn.cons rfl (Kn.nil))) ?_
    refine awp_seq_region (fun Z hZ => ?_)
    refine sx_move rfl rfl ?_
    refine sx_conv Try.underlying3 Try.underlying36 rfl ((p : Nat) : Int) (by rw [IntWalk.u64_in _ (by omega)]) rfl ?_
    refine sx_move rfl rfl ?_
    refine sx_conv Try.underlying3 Try.underlying36 rfl ((p : Nat) : Int) (by rw [IntWalk.u64_in _ (by omega)]) rfl ?_
    refine sx_mul rfl rfl ((q : Nat) : Int) (by rw [← Int.natCast_mul, ← hqq, IntWalk.u64_in _ (by omega)]) rfl ?_
    refine sx_assign rfl rfl ?_
    refine sx_nil (hZ _ _ ?_)
    refine awp_forget [(1, _), (6, _), (7, _)] (Kn.cons rfl (Kn.cons rfl (Kn.cons rfl (Kn.nil)))) ?_
    refine awp_seq_region (fun Z hZ => ?_)
    refine sx_move rfl rfl ?_
    refine sx_move rfl rfl ?_
    refine sx_move rfl rfl ?_
    refine sx_rem rfl rfl (by omega) ((r : Nat) : Int) (by rw [Int.tmod_eq_emod_of_nonneg (by omega), ← Int.natCast_emod, hr]) rfl ?_
    refine sx_callP (ih) rfl rfl ?_
    refine sx_move rfl rfl ?_
    refine sx_extract rfl rfl rfl ?_
    refine sx_extract rfl rfl rfl ?_
    refine sx_assign rfl rfl ?_
    refine sx_assign rfl rfl ?_
    refine sx_nil (hZ _ _ ?_)
    refine awp_forget [(1, _), (6, _), (7, _), (8, _), (9, _)] (Kn.cons rfl (Kn.cons rfl (Kn.cons rfl (Kn.cons rfl (Kn.cons rfl (Kn.nil)))))) ?_
    refine awp_seq ?_
    refine awp_seq_region (fun Z hZ => ?_)
    refine sx_move rfl rfl ?_
    refine sx_move rfl rfl ?_
    refine sx_quo rfl rfl (by omega) ((k : Nat) : Int) (by rw [Int.tdiv_eq_ediv_of_nonneg (by omega), ← Int.natCast_ediv, hk, IntWalk.u64_in _ (by omega)]) rfl ?_
    refine sx_eql rfl rfl rfl ?_
    refine sx_nil (hZ _ _ ?_)
    refine awp_forget [(1, _), (6, _), (7, _), (8, _), (9, _), (30, _)] (Kn.cons rfl (Kn.cons rfl (Kn.cons rfl (Kn.cons rfl (Kn.cons rfl (Kn.cons rfl (Kn.nil))))))) ?_
    refine awp_cond rfl (fun h1 => ?_) (fun h1 => ?_)
    · have h2 : k = 0 := by simp at h1; omega
      rw [if_pos h2]
      refine awp_seq_region (fun Z hZ => ?_)
      refine sx_move rfl rfl ?_
      refine sx_move rfl rfl ?_
      refine sx_assign rfl rfl ?_
      refine sx_assign rfl rfl ?_
      refine sx_nil (hZ _ _ ?_)
      refine awp_forget [(4, _), (5, _)] (Kn.cons rfl (Kn.cons rfl (Kn.nil))) ?_
      refine awp_ret ?_
      repeat (with_reducible refine nx_then_ret ?_)
      exact nx_ret2 rfl rfl rfl rfl
    have h2 : ¬ k = 0 := by simp at h1; omega
    rw [if_neg h2]
    refine awp_skip ?_
    with_reducible refine nx_normal ?_
    refine awp_seq ?_
    refine awp_seq_region (fun Z hZ => ?_)
    refine sx_move rfl rfl ?_
    refine sx_move rfl rfl ?_
    refine sx_quo rfl rfl (by omega) ((k : Nat) : Int) (by rw [Int.tdiv_eq_ediv_of_nonneg (by omega), ← Int.natCast_ediv, hk, IntWalk.u64_in _ (by omega)]) rfl ?_
    refine sx_eql rfl rfl rfl ?_
    refine sx_nil (hZ _ _ ?_)
    refine awp_forget [(1, _), (6, _), (7, _), (8, _), (9, _), (36, _)] (Kn.cons rfl (Kn.cons rfl (Kn.cons rfl (Kn.cons rfl (Kn.cons rfl (Kn.cons rfl (Kn.nil))))))) ?_
    refine awp_cond rfl (fun h3 => ?_) (fun h3 => ?_)
    · have h4 : k = 1 := by simp at h3; omega
      rw [if_pos h4]
      refine awp_seq_region (fun Z hZ => ?_)
      refine sx_move rfl rfl ?_
      refine sx_move rfl rfl ?_
      refine sx_move rfl rfl ?_
      refine sx_add rfl rfl ((b + p : Nat) : Int) (by rw [IntWalk.i64_in _ (by omega)]; omega) rfl ?_
      refine sx_assign rfl rfl ?_
      refine sx_assign rfl rfl ?_
      refine sx_nil (hZ _ _ ?_)
      refine awp_forget [(4, _), (5, _)] (Kn.cons rfl (Kn.cons rfl (Kn.nil))) ?_
      refine awp_ret ?_
      repeat (with_reducible refine nx_then_ret ?_)
      exact nx_ret2 rfl rfl rfl rfl
    have h4 : ¬ k = 1 := by simp at h3; omega
    rw [if_neg h4]
    refine awp_skip ?_
    with_reducible refine nx_normal ?_
    refine awp_seq ?_
    refine awp_seq_region (fun Z hZ => ?_)
    refine sx_move rfl rfl ?_
    refine sx_move rfl rfl ?_
    refine sx_quo rfl rfl (by omega) ((k : Nat) : Int) (by rw [Int.tdiv_eq_ediv_of_nonneg (by omega), ← Int.natCast_ediv, hk, IntWalk.u64_in _ (by omega)]) rfl ?_
    refine sx_eql rfl rfl rfl ?_
    refine sx_nil (hZ _ _ ?_)
    refine awp_forget [(6, _), (8, _), (9, _), (44, _)] (Kn.cons rfl (Kn.cons rfl (Kn.cons rfl (Kn.cons rfl (Kn.nil))))) ?_
    refine awp_cond rfl (fun h5 => ?_) (fun h5 => ?_)
    · have h6 : k = 2 := by simp at h5; omega
      rw [if_pos h6]
      refine awp_seq_region (fun Z hZ => ?_)
      refine sx_move rfl rfl ?_
      refine sx_move rfl rfl ?_
      refine sx_add rfl rfl ((a + p : Nat) : Int) (by rw [IntWalk.i64_in _ (by omega)]; omega) rfl ?_
      refine sx_move rfl rfl ?_
      refine sx_move rfl rfl ?_
      refine sx_add rfl rfl ((b + p : Nat) : Int) (by rw [IntWalk.i64_in _ (by omega)]; omega) rfl ?_
      refine sx_assign rfl rfl ?_
      refine sx_assign rfl rfl ?_
      refine sx_nil (hZ _ _ ?_)
      refine awp_forget [(4, _), (5, _)] (Kn.cons rfl (Kn.cons rfl (Kn.nil))) ?_
      refine awp_ret ?_
      repeat (with_reducible refine nx_then_ret ?_)
      exact nx_ret2 rfl rfl rfl rfl
    have h6 : ¬ k = 2 := by simp at h5; omega
    rw [if_neg h6]
    refine awp_skip ?_
    with_reducible refine nx_normal ?_
    refine awp_seq_region (fun Z hZ => ?_)
    refine sx_move rfl rfl ?_
    refine sx_sub rfl rfl ((p - 1 : Nat) : Int) (by rw [IntWalk.i64_in _ (by omega)]; omega) rfl ?_
    refine sx_move rfl rfl ?_
    refine sx_sub rfl rfl ((p - 1 - b : Nat) : Int) (by rw [IntWalk.i64_in _ (by omega)]; omega) rfl ?_
    refine sx_move rfl rfl ?_
    refine sx_add rfl rfl ((p - 1 - b + p : Nat) : Int) (by rw [IntWalk.i64_in _ (by omega)]; omega) rfl ?_
    refine sx_move rfl rfl ?_
    refine sx_sub rfl rfl ((p - 1 : Nat) : Int) (by rw [IntWalk.i64_in _ (by omega)]; omega) rfl ?_
    refine sx_move rfl rfl ?_
    refine sx_sub rfl rfl ((p - 1 - a : Nat) : Int) (by rw [IntWalk.i64_in _ (by omega)]; omega) rfl ?_
    refine sx_assign rfl rfl ?_
    refine sx_assign rfl rfl ?_
    refine sx_nil (hZ _ _ ?_)
    refine awp_forget [(4, _), (5, _)] (Kn.cons rfl (Kn.cons rfl (Kn.nil))) ?_
    refine awp_ret ?_
    exact nx_ret2 rfl rfl rfl rfl
/-- What is wrong with a tile: 0 if nothing is. -/
def placeE (z x y : Int) : Int := if z < 0 ∨ 26 < z then 2 else if x < 0 ∨ ((2 ^ z.toNat : Nat) : Int) ≤ x ∨ y < 0 ∨ ((2 ^ z.toNat : Nat) : Int) ≤ y then 8 else 0
def placeV (z x y : Int) : Nat := if placeE z x y = 0 then hp z.toNat x.toNat y.toNat else 0
theorem place_e2 {z : Int} (h : z < 0 ∨ 26 < z) (x y : Int) : placeE z x y = 2 ∧ placeV z x y = 0 := by
  have h1 : placeE z x y = 2 := if_pos h
  exact ⟨h1, by unfold placeV; rw [h1]; rfl⟩
theorem place_e8 {z : Nat} (h : z ≤ 26) {x y : Int} (hx : x < 0 ∨ ((2 ^ z : Nat) : Int) ≤ x ∨ y < 0 ∨ ((2 ^ z : Nat) : Int) ≤ y) : placeE z x y = 8 ∧ placeV z x y = 0 := by
  have h1 : placeE z x y = 8 := by unfold placeE; rw [if_neg (by omega), Int.toNat_natCast, if_pos hx]
  exact ⟨h1, by unfold placeV; rw [h1]; rfl⟩
theorem place_e0 {z x y : Nat} (h : z ≤ 26) (hx : x < 2 ^ z) (hy : y < 2 ^ z) : placeE z x y = 0 ∧ placeV z x y = hp z x y := by
  have h1 : placeE z x y = 0 := by
    unfold placeE
    rw [if_neg (by omega), if_neg]
    rw [Int.toNat_natCast]
    omega
  exact ⟨h1, by unfold placeV; rw [h1, if_pos rfl]; rfl⟩
/-- The three ways of a tile. -/
theorem place_ways (z x y : Int) : (z < 0 ∨ 26 < z) ∨ (∃ n : Nat, z = n ∧ n ≤ 26 ∧ (x < 0 ∨ ((2 ^ n : Nat) : Int) ≤ x ∨ y < 0 ∨ ((2 ^ n : Nat) : Int) ≤ y)) ∨ ∃ n a b : Nat, z = n ∧ x = a ∧ y = b ∧ n ≤ 26 ∧ a < 2 ^ n ∧ b < 2 ^ n := by
  by_cases hz : z < 0 ∨ 26 < z
  · exact .inl hz
  obtain ⟨n, rfl⟩ := Int.eq_ofNat_of_zero_le (show 0 ≤ z by omega)
  by_cases hx : x < 0 ∨ ((2 ^ n : Nat) : Int) ≤ x ∨ y < 0 ∨ ((2 ^ n : Nat) : Int) ≤ y
  · exact .inr (.inl ⟨n, rfl, by omega, hx⟩)
  obtain ⟨a, rfl⟩ := Int.eq_ofNat_of_zero_le (show 0 ≤ x by omega)
  obtain ⟨b, rfl⟩ := Int.eq_ofNat_of_zero_le (show 0 ≤ y by omega)
  exact .inr (.inr ⟨n, a, b, rfl, rfl, rfl, by omega, by omega, by omega⟩)
theorem rPlace_fn (z x y : Int) : Fn Try.prog 108 [iq z, iq x, iq y] [] fun v _ => v = .tuple #[uq (placeV z x y), iq (placeE z x y)] := by
  refine Fn.enter (N := 33) Try.func108 rfl (by kernel_rfl) rfl (fun w0 => ?_)

  rcases place_ways z x y with h | ⟨n, rfl, hn, h⟩ | ⟨n, a, b, rfl, rfl, rfl, hn, ha, hb⟩
  · rw [(place_e2 h x y).1, (place_e2 h x y).2]
    refine awp_seq_region (fun Z hZ => ?_)
    refine sx_assign rfl rfl ?_
    refine sx_assign rfl rfl ?_
    refine sx_nil (hZ _ _ ?_)
    refine awp_forget [(0, _), (1, _), (2, _)] (Kn.cons rfl (Kn.cons rfl (Kn.cons rfl (Kn.nil)))) ?_
    refine awp_seq_region (fun Z hZ => ?_)
    refine sx_move rfl rfl ?_
    refine sx_callP (rside_no z h) rfl rfl ?_
    refine sx_assign rfl rfl ?_
    refine sx_nil (hZ _ _ ?_)
    refine awp_forget [(1, _), (2, _), (8, _)] (Kn.cons rfl (Kn.cons rfl (Kn.cons rfl (Kn.nil)))) ?_
    refine awp_seq ?_
    refine awp_seq_region (fun Z hZ => ?_)
    refine sx_move rfl rfl ?_
    refine sx_eql rfl rfl rfl ?_
    refine sx_nil (hZ _ _ ?_)
    refine awp_forget [(1, _), (2, _), (8, _), (12, _)] (Kn.cons rfl (Kn.cons rfl (Kn.cons rfl (Kn.cons rfl (Kn.nil))))) ?_
    refine awp_cond rfl (fun h1 => ?_) (fun h1 => ?_)
    · refine awp_seq_region (fun Z hZ => ?_)
      refine sx_assign rfl rfl ?_
      refine sx_assign rfl rfl ?_
      refine sx_nil (hZ _ _ ?_)
      refine awp_forget [(6, _), (7, _)] (Kn.cons rfl (Kn.cons rfl (Kn.nil))) ?_
      refine awp_ret ?_
      repeat (with_reducible refine nx_then_ret ?_)
      exact nx_ret2 rfl rfl rfl rfl
    cases h1
  · rw [(place_e8 hn h).1, (place_e8 hn h).2]
    have hs := rside_fn n hn
    have hp0 := pow2_pos n
    obtain ⟨p, hp⟩ : ∃ p, 2 ^ n = p := ⟨_, rfl⟩
    rw [hp] at hs h hp0
    refine awp_seq_region (fun Z hZ => ?_)
    refine sx_assign rfl rfl ?_
    refine sx_assign rfl rfl ?_
    refine sx_nil (hZ _ _ ?_)
    refine awp_forget [(0, _), (1, _), (2, _)] (Kn.cons rfl (Kn.cons rfl (Kn.cons rfl (Kn.nil)))) ?_
    refine awp_seq_region (fun Z hZ => ?_)
    refine sx_move rfl rfl ?_
    refine sx_callP (hs) rfl rfl ?_
    refine sx_assign rfl rfl ?_
    refine sx_nil (hZ _ _ ?_)
    refine awp_forget [(1, _), (2, _), (8, _)] (Kn.cons rfl (Kn.cons rfl (Kn.cons rfl (Kn.nil)))) ?_
    refine awp_seq ?_
    refine awp_seq_region (fun Z hZ => ?_)
    refine sx_move rfl rfl ?_
    refine sx_eql rfl rfl rfl ?_
    refine sx_nil (hZ _ _ ?_)
    refine awp_forget [(1, _), (2, _), (8, _), (12, _)] (Kn.cons rfl (Kn.cons rfl (Kn.cons rfl (Kn.cons rfl (Kn.nil))))) ?_
    refine awp_cond rfl (fun h1 => ?_) (fun h1 => ?_)
    · exfalso
      simp at h1
      omega
    refine awp_skip ?_
    with_reducible refine nx_normal ?_
    refine awp_seq ?_
    refine awp_seq_meet [(28, .bool true)] [] (fun Z hZ => ?_) ?_
    · refine sx_move rfl rfl ?_
      refine sx_lss rfl rfl rfl ?_
      refine sx_move rfl rfl ?_
      refine sx_split 15 rfl (fun hb2 => ?_) (fun hb2 => ?_)
      · refine sx_off rfl rfl rfl rfl rfl ?_
        refine sx_off rfl rfl rfl rfl rfl ?_
        refine sx_off rfl rfl rfl rfl rfl ?_
        refine sx_pick rfl rfl rfl ?_
        refine sx_move rfl rfl ?_
        refine sx_off rfl rfl rfl rfl rfl ?_
        refine sx_off rfl rfl rfl rfl rfl ?_
        refine sx_pick rfl rfl rfl ?_
        refine sx_move rfl rfl ?_
        refine sx_off rfl rfl rfl rfl rfl ?_
        refine sx_off rfl rfl rfl rfl rfl ?_
        refine sx_off rfl rfl rfl rfl rfl ?_
        refine sx_pick rfl rfl rfl ?_
        refine sx_nil (hZ _ _ ?_ ?_)
        · exact Kn.cons (congrArg some (congrArg Value.bool (by first | rfl | (simp at *; done) | (simp at *; omega)))) Kn.nil
        · exact HLe.refl _
      · refine sx_on rfl rfl rfl ?_
        refine sx_move rfl rfl ?_
        refine sx_on rfl rfl rfl ?_
        refine sx_move rfl rfl ?_
        refine sx_on rfl rfl rfl ?_
        refine sx_geq rfl rfl rfl ?_
        refine sx_pick rfl rfl rfl ?_
        refine sx_move rfl rfl ?_
        refine sx_split 20 rfl (fun hb7 => ?_) (fun hb7 => ?_)
        · refine sx_off rfl rfl rfl rfl rfl ?_
          refine sx_off rfl rfl rfl rfl rfl ?_
          refine sx_pick rfl rfl rfl ?_
          refine sx_move rfl rfl ?_
          refine sx_off rfl rfl rfl rfl rfl ?_
          refine sx_off rfl rfl rfl rfl rfl ?_
          refine sx_off rfl rfl rfl rfl rfl ?_
          refine sx_pick rfl rfl rfl ?_
          refine sx_nil (hZ _ _ ?_ ?_)
          · exact Kn.cons (congrArg some (congrArg Value.bool (by first | rfl | (simp at *; done) | (simp at *; omega)))) Kn.nil
          · exact HLe.refl _
        · refine sx_on rfl rfl rfl ?_
          refine sx_move rfl rfl ?_
          refine sx_on rfl rfl rfl ?_
          refine sx_lss rfl rfl rfl ?_
          refine sx_pick rfl rfl rfl ?_
          refine sx_move rfl rfl ?_
          refine sx_split 24 rfl (fun hb11 => ?_) (fun hb11 => ?_)
          · refine sx_off rfl rfl rfl rfl rfl ?_
            refine sx_off rfl rfl rfl rfl rfl ?_
            refine sx_off rfl rfl rfl rfl rfl ?_
            refine sx_pick rfl rfl rfl ?_
            refine sx_nil (hZ _ _ ?_ ?_)
            · exact Kn.cons (congrArg some (congrArg Value.bool (by first | rfl | (simp at *; done) | (simp at *; omega)))) Kn.nil
            · exact HLe.refl _
          · refine sx_on rfl rfl rfl ?_
            refine sx_move rfl rfl ?_
            refine sx_on rfl rfl rfl ?_
            refine sx_move rfl rfl ?_
            refine sx_on rfl rfl rfl ?_
            refine sx_geq rfl rfl rfl ?_
            refine sx_pick rfl rfl rfl ?_
            refine sx_nil (hZ _ _ ?_ ?_)
            · exact Kn.cons (congrArg some (congrArg Value.bool (by first | rfl | (simp at *; done) | (simp at *; omega)))) Kn.nil
            · exact HLe.refl _
    refine awp_cond rfl (fun h2 => ?_) (fun h2 => ?_)
    · refine awp_seq_region (fun Z hZ => ?_)
      refine sx_assign rfl rfl ?_
      refine sx_assign rfl rfl ?_
      refine sx_nil (hZ _ _ ?_)
      refine awp_forget [(6, _), (7, _)] (Kn.cons rfl (Kn.cons rfl (Kn.nil))) ?_
      refine awp_ret ?_
      repeat (with_reducible refine nx_then_ret ?_)
      exact nx_ret2 rfl rfl rfl rfl
    cases h2
  · rw [(place_e0 hn ha hb).1, (place_e0 hn ha hb).2]
    have hs := rside_fn n hn
    have hp0 := pow2_pos n
    have hpl := rplace_fn n hn a b ha hb
    obtain ⟨p, hpn⟩ : ∃ p, 2 ^ n = p := ⟨_, rfl⟩
    rw [hpn] at hs hp0 hpl ha hb
    refine awp_seq_region (fun Z hZ => ?_)
    refine sx_assign rfl rfl ?_
    refine sx_assign rfl rfl ?_
    refine sx_nil (hZ _ _ ?_)
    refine awp_forget [(0, _), (1, _), (2, _)] (Kn.cons rfl (Kn.cons rfl (Kn.cons rfl (Kn.nil)))) ?_
    refine awp_seq_region (fun Z hZ => ?_)
    refine sx_move rfl rfl ?_
    refine sx_callP (hs) rfl rfl ?_
    refine sx_assign rfl rfl ?_
    refine sx_nil (hZ _ _ ?_)
    refine awp_forget [(1, _), (2, _), (8, _)] (Kn.cons rfl (Kn.cons rfl (Kn.cons rfl (Kn.nil)))) ?_
    refine awp_seq ?_
    refine awp_seq_region (fun Z hZ => ?_)
    refine sx_move rfl rfl ?_
    refine sx_eql rfl rfl rfl ?_
    refine sx_nil (hZ _ _ ?_)
    refine awp_forget [(1, _), (2, _), (8, _), (12, _)] (Kn.cons rfl (Kn.cons rfl (Kn.cons rfl (Kn.cons rfl (Kn.nil))))) ?_
    refine awp_cond rfl (fun h1 => ?_) (fun h1 => ?_)
    · exfalso
      simp at h1
      omega
    refine awp_skip ?_
    with_reducible refine nx_normal ?_
    refine awp_seq ?_
    refine awp_seq_meet [(1, iq a), (2, iq b), (8, iq p), (28, .bool false)] [] (fun Z hZ => ?_) ?_
    · refine sx_move rfl rfl ?_
      refine sx_lss rfl rfl rfl ?_
      refine sx_move rfl rfl ?_
      refine sx_split 15 rfl (fun hb2 => ?_) (fun hb2 => ?_)
      · refine sx_off rfl rfl rfl rfl rfl ?_
        refine sx_off rfl rfl rfl rfl rfl ?_
        refine sx_off rfl rfl rfl rfl rfl ?_
        refine sx_pick rfl rfl rfl ?_
        refine sx_move rfl rfl ?_
        refine sx_off rfl rfl rfl rfl rfl ?_
        refine sx_off rfl rfl rfl rfl rfl ?_
        refine sx_pick rfl rfl rfl ?_
        refine sx_move rfl rfl ?_
        refine sx_off rfl rfl rfl rfl rfl ?_
        refine sx_off rfl rfl rfl rfl rfl ?_
        refine sx_off rfl rfl rfl rfl rfl ?_
        refine sx_pick rfl rfl rfl ?_
        refine sx_nil (hZ _ _ ?_ ?_)
        · exact Kn.cons rfl (Kn.cons rfl (Kn.cons rfl (Kn.cons (congrArg some (congrArg Value.bool (by first | rfl | (simp at *; done) | (simp at *; omega)))) Kn.nil)))
        · exact HLe.refl _
      · refine sx_on rfl rfl rfl ?_
        refine sx_move rfl rfl ?_
        refine sx_on rfl rfl rfl ?_
        refine sx_move rfl rfl ?_
        refine sx_on rfl rfl rfl ?_
        refine sx_geq rfl rfl rfl ?_
        refine sx_pick rfl rfl rfl ?_
        refine sx_move rfl rfl ?_
        refine sx_split 20 rfl (fun hb7 => ?_) (fun hb7 => ?_)
        · refine sx_off rfl rfl rfl rfl rfl ?_
          refine sx_off rfl rfl rfl rfl rfl ?_
          refine sx_pick rfl rfl rfl ?_
          refine sx_move rfl rfl ?_
          refine sx_off rfl rfl rfl rfl rfl ?_
          refine sx_off rfl rfl rfl rfl rfl ?_
          refine sx_off rfl rfl rfl rfl rfl ?_
          refine sx_pick rfl rfl rfl ?_
          refine sx_nil (hZ _ _ ?_ ?_)
          · exact Kn.cons rfl (Kn.cons rfl (Kn.cons rfl (Kn.cons (congrArg some (congrArg Value.bool (by first | rfl | (simp at *; done) | (simp at *; omega)))) Kn.nil)))
          · exact HLe.refl _
        · refine sx_on rfl rfl rfl ?_
          refine sx_move rfl rfl ?_
          refine sx_on rfl rfl rfl ?_
          refine sx_lss rfl rfl rfl ?_
          refine sx_pick rfl rfl rfl ?_
          refine sx_move rfl rfl ?_
          refine sx_split 24 rfl (fun hb11 => ?_) (fun hb11 => ?_)
          · refine sx_off rfl rfl rfl rfl rfl ?_
            refine sx_off rfl rfl rfl rfl rfl ?_
            refine sx_off rfl rfl rfl rfl rfl ?_
            refine sx_pick rfl rfl rfl ?_
            refine sx_nil (hZ _ _ ?_ ?_)
            · exact Kn.cons rfl (Kn.cons rfl (Kn.cons rfl (Kn.cons (congrArg some (congrArg Value.bool (by first | rfl | (simp at *; done) | (simp at *; omega)))) Kn.nil)))
            · exact HLe.refl _
          · refine sx_on rfl rfl rfl ?_
            refine sx_move rfl rfl ?_
            refine sx_on rfl rfl rfl ?_
            refine sx_move rfl rfl ?_
            refine sx_on rfl rfl rfl ?_
            refine sx_geq rfl rfl rfl ?_
            refine sx_pick rfl rfl rfl ?_
            refine sx_nil (hZ _ _ ?_ ?_)
            · exact Kn.cons rfl (Kn.cons rfl (Kn.cons rfl (Kn.cons (congrArg some (congrArg Value.bool (by first | rfl | (simp at *; done) | (simp at *; omega)))) Kn.nil)))
            · exact HLe.refl _
    refine awp_cond rfl (fun h2 => ?_) (fun h2 => ?_)
    · cases h2
    refine awp_skip ?_
    with_reducible refine nx_normal ?_
    refine awp_seq_region (fun Z hZ => ?_)
    refine sx_move rfl rfl ?_
    refine sx_move rfl rfl ?_
    refine sx_move rfl rfl ?_
    refine sx_callP (hpl) rfl rfl ?_
    refine sx_assign rfl rfl ?_
    refine sx_assign rfl rfl ?_
    refine sx_nil (hZ _ _ ?_)
    refine awp_forget [(6, _), (7, _)] (Kn.cons rfl (Kn.cons rfl (Kn.nil))) ?_
    refine awp_ret ?_
    exact nx_ret2 rfl rfl rfl rfl
theorem rPoint_fn (n d : Nat) (hn : n ≤ 26) (hd : d < 4 ^ n) : Fn Try.prog 110 [iq (n : Nat), uq d] [] fun v _ => v = .tuple #[iq ((pt n d).1 : Nat), iq ((pt n d).2 : Nat), iq (0 : Int)] := by
  refine Fn.enter (N := 29) Try.func110 rfl (by kernel_rfl) rfl (fun w0 => ?_)

  have hs := rside_fn n hn
  have hp0 := pow2_pos n
  have hpl := rpoint_fn n hn d hd
  have hb := pow2_le26 hn
  have hqq := pow4_sq n
  have hq4 : 4 ^ n ≤ 67108864 * 67108864 := by rw [hqq]; exact Nat.mul_le_mul hb hb
  obtain ⟨p, hpn⟩ : ∃ p, 2 ^ n = p := ⟨_, rfl⟩
  obtain ⟨q, hq⟩ : ∃ p, 4 ^ n = p := ⟨_, rfl⟩
  rw [hpn] at hs hp0 hpl hb hqq
  rw [hq] at hqq hq4 hd
  refine awp_seq_region (fun Z hZ => ?_)
  refine sx_assign rfl rfl ?_
  refine sx_assign rfl rfl ?_
  refine sx_assign rfl rfl ?_
  refine sx_nil (hZ _ _ ?_)
  refine awp_forget [(0, _), (1, _)] (Kn.cons rfl (Kn.cons rfl (Kn.nil))) ?_
  refine awp_seq_region (fun Z hZ => ?_)
  refine sx_move rfl rfl ?_
  refine sx_callP (hs) rfl rfl ?_
  refine sx_assign rfl rfl ?_
  refine sx_nil (hZ _ _ ?_)
  refine awp_forget [(1, _), (7, _)] (Kn.cons rfl (Kn.cons rfl (Kn.nil))) ?_
  refine awp_seq ?_
  refine awp_seq_region (fun Z hZ => ?_)
  refine sx_move rfl rfl ?_
  refine sx_eql rfl rfl rfl ?_
  refine sx_nil (hZ _ _ ?_)
  refine awp_forget [(1, _), (7, _), (13, _)] (Kn.cons rfl (Kn.cons rfl (Kn.cons rfl (Kn.nil)))) ?_
  refine awp_cond rfl (fun h1 => ?_) (fun h1 => ?_)
  · exfalso
    simp at h1
    omega
  refine awp_skip ?_
  with_reducible refine nx_normal ?_
  refine awp_seq ?_
  refine awp_seq_region (fun Z hZ => ?_)
  refine sx_move rfl rfl ?_
  refine sx_move rfl rfl ?_
  refine sx_conv Try.underlying3 Try.underlying36 rfl ((p : Nat) : Int) (by rw [IntWalk.u64_in _ (by omega)]) rfl ?_
  refine sx_move rfl rfl ?_
  refine sx_conv Try.underlying3 Try.underlying36 rfl ((p : Nat) : Int) (by rw [IntWalk.u64_in _ (by omega)]) rfl ?_
  refine sx_mul rfl rfl ((q : Nat) : Int) (by rw [← Int.natCast_mul, ← hqq, IntWalk.u64_in _ (by omega)]) rfl ?_
  refine sx_geq rfl rfl rfl ?_
  refine sx_nil (hZ _ _ ?_)
  refine awp_forget [(1, _), (7, _), (20, _)] (Kn.cons rfl (Kn.cons rfl (Kn.cons rfl (Kn.nil)))) ?_
  refine awp_cond rfl (fun h2 => ?_) (fun h2 => ?_)
  · exfalso
    simp at h2
    omega
  refine awp_skip ?_
  with_reducible refine nx_normal ?_
  refine awp_seq_region (fun Z hZ => ?_)
  refine sx_move rfl rfl ?_
  refine sx_move rfl rfl ?_
  refine sx_callP (hpl) rfl rfl ?_
  refine sx_move rfl rfl ?_
  refine sx_extract rfl rfl rfl ?_
  refine sx_extract rfl rfl rfl ?_
  refine sx_assign rfl rfl ?_
  refine sx_assign rfl rfl ?_
  refine sx_nil (hZ _ _ ?_)
  refine awp_forget [(8, _), (9, _)] (Kn.cons rfl (Kn.cons rfl (Kn.nil))) ?_
  refine awp_seq_region (fun Z hZ => ?_)
  refine sx_move rfl rfl ?_
  refine sx_move rfl rfl ?_
  refine sx_assign rfl rfl ?_
  refine sx_assign rfl rfl ?_
  refine sx_assign rfl rfl ?_
  refine sx_nil (hZ _ _ ?_)
  refine awp_forget [(4, _), (5, _), (6, _)] (Kn.cons rfl (Kn.cons rfl (Kn.cons rfl (Kn.nil)))) ?_
  refine awp_ret ?_
  exact nx_ret3 rfl rfl rfl rfl rfl
end Go.Proofs.Ytbldhokgbcljjaa
