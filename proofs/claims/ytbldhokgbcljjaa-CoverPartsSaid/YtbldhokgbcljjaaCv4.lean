/- What lies in a set and over it, there and back, and how many. Plain laws. -/
import Derived.Test.YtbldhokgbcljjaaCv2
namespace Go.Proofs.Ytbldhokgbcljjaa
open Go.RowKit
set_option linter.unusedVariables false
set_option linter.unusedSimpArgs false
theorem low_in (x : List Sp) (k : Nat) : inS (lessQ x (zoS x 26)) k ↔ k < 6004799503160661 ∧ inS x k ∧ zN k < 26 := by
  rw [less_in, zo_in x (Nat.le_refl _)]
  constructor
  · rintro ⟨h1, h2, h3⟩
    refine ⟨h1, h2, ?_⟩
    obtain ⟨a, b, c, d⟩ := zN_ex h1
    rcases Nat.lt_or_ge (zN k) 26 with h | h
    · exact h
    · have e : zN k = 26 := by omega
      rw [e] at c d
      exact absurd ⟨h2, c, d⟩ h3
  · rintro ⟨h1, h2, h3⟩
    refine ⟨h1, h2, fun ⟨_, c, d⟩ => ?_⟩
    rw [zN_at (Nat.le_refl _) c d] at h3
    exact absurd h3 (Nat.lt_irrefl _)
theorem high_in (x : List Sp) (k : Nat) : inS (lessQ x (zoS x 0)) k ↔ k < 6004799503160661 ∧ inS x k ∧ 1 ≤ zN k := by
  rw [less_in, zo_in x (Nat.zero_le _)]
  constructor
  · rintro ⟨h1, h2, h3⟩
    refine ⟨h1, h2, ?_⟩
    obtain ⟨a, b, c, d⟩ := zN_ex h1
    rcases Nat.eq_zero_or_pos (zN k) with h | h
    · rw [h] at c d
      exact absurd ⟨h2, c, d⟩ h3
    · exact h
  · rintro ⟨h1, h2, h3⟩
    refine ⟨h1, h2, fun ⟨_, c, d⟩ => ?_⟩
    rw [zN_at (Nat.zero_le _) c d] at h3
    exact absurd h3 (by omega)
/-- What lies in a set without the last zoom lies in what is over that again. -/
theorem up_down {low D U : List Sp} (hl : Plain low) (hb : BelowS 6004799503160661 low) (hz : ∀ k, inS low k → zN k < 26) (hD : ∀ k, inS D k ↔ DownIn low k) (hU : Plain U) (hUi : ∀ k, inS U k ↔ UpIn D k) : U = low := plain_ext hU hl fun k => by
  rw [hUi]
  constructor
  · rintro ⟨j, h1, h2, h3, rfl⟩
    exact ((hD j).1 h2).2.2
  · intro hk
    have hlt := (below_in hl).1 hb k hk
    obtain ⟨z, d, h1, h2, rfl⟩ := id_ex hlt
    have h3 := hz _ hk
    rw [zN_is h1 h2] at h3
    have e4 : 4 ^ (z + 1) = 4 * 4 ^ z := by rw [Nat.pow_succ]; omega
    have h4 : 4 * d < 4 ^ (z + 1) := by omega
    have h5 : upK (base4 (z + 1) + 4 * d) = base4 z + d := by rw [upK_is (by omega) h4]; omega
    exact ⟨base4 (z + 1) + 4 * d, base4_lt (by omega) h4, (hD _).2 ⟨base4_lt (by omega) h4, by rw [zN_is (by omega) h4]; omega, by rw [h5]; exact hk⟩, by rw [zN_is (by omega) h4]; omega, h5⟩
theorem cntB_zooms (p : Nat → Bool) : ∀ n, cntB p (base4 n) = sumN (fun z => cntB (fun d => p (base4 z + d)) (4 ^ z)) n
  | 0 => rfl
  | n + 1 => by
    rw [show base4 (n + 1) = base4 n + 4 ^ n from rfl, cntB_add, cntB_zooms p n]
    rfl
theorem cntB_quarter (f : Nat → Bool) : ∀ q, cntB (fun d => f (d / 4)) (4 * q) = 4 * cntB f q
  | 0 => rfl
  | q + 1 => by
    have ih := cntB_quarter f q
    have e : ∀ j, j < 4 → (4 * q + j) / 4 = q := fun j hj => by omega
    rw [show 4 * (q + 1) = 4 * q + 1 + 1 + 1 + 1 by omega, cntB, cntB, cntB, cntB, ih, cntB, show (4 * q) / 4 = q by omega, e 1 (by omega), show (4 * q + 1 + 1) / 4 = q by omega, show (4 * q + 1 + 1 + 1) / 4 = q by omega]
    omega
theorem sumN_mul (c : Nat) (f : Nat → Nat) : ∀ n, sumN (fun k => c * f k) n = c * sumN f n
  | 0 => rfl
  | n + 1 => by rw [sumN, sumN, sumN_mul c f n, Nat.mul_add]
theorem total_down {low D : List Sp} (hl : Plain low) (hb : BelowS 6004799503160661 low) (hz : ∀ k, inS low k → zN k < 26) (hDp : Plain D) (hD : ∀ k, inS D k ↔ DownIn low k) : totalQ D = 4 * totalQ low := by
  have hDb : BelowS 6004799503160661 D := (below_in hDp).2 fun k hk => ((hD k).1 hk).1
  rw [total_cnt hDp hDb, total_cnt hl hb, ← base4_27, cntB_zooms, cntB_zooms]
  rw [sumN_congr (g := fun z => if z = 0 then 0 else 4 * cntB (fun d => decide (inS low (base4 (z - 1) + d))) (4 ^ (z - 1))) 27 fun z hz27 => ?_]
  · rw [show (27 : Nat) = 1 + 26 from rfl, sumN_add]
    have e1 : sumN (fun k => if 1 + k = 0 then 0 else 4 * cntB (fun d => decide (inS low (base4 (1 + k - 1) + d))) (4 ^ (1 + k - 1))) 26 = sumN (fun k => 4 * cntB (fun d => decide (inS low (base4 k + d))) (4 ^ k)) 26 := sumN_congr 26 fun k hk => by
      rw [if_neg (by omega), Nat.add_sub_cancel_left]
    have e2 : sumN (fun z => cntB (fun d => decide (inS low (base4 z + d))) (4 ^ z)) (1 + 26) = sumN (fun z => cntB (fun d => decide (inS low (base4 z + d))) (4 ^ z)) 26 + cntB (fun d => decide (inS low (base4 26 + d))) (4 ^ 26) := rfl
    have e3 : cntB (fun d => decide (inS low (base4 26 + d))) (4 ^ 26) = 0 := cntB_none _ fun d hd => decide_eq_false fun hc => by
      have := hz _ hc
      rw [zN_is (Nat.le_refl _) hd] at this
      exact absurd this (Nat.lt_irrefl _)
    rw [e1, e2, e3, sumN_mul]
    show 0 + 0 + _ = _
    omega
  · by_cases h0 : z = 0
    · subst h0
      rw [if_pos rfl]
      refine cntB_none _ fun d hd => decide_eq_false fun hc => ?_
      have := ((hD _).1 hc).2.1
      rw [zN_is (Nat.zero_le _) hd] at this
      omega
    · rw [if_neg h0]
      obtain ⟨y, rfl⟩ : ∃ y, z = y + 1 := ⟨z - 1, by omega⟩
      rw [Nat.add_sub_cancel, show 4 ^ (y + 1) = 4 * 4 ^ y by rw [Nat.pow_succ]; omega, ← cntB_quarter]
      refine cntB_congr _ fun d hd => ?_
      have hd' : d < 4 ^ (y + 1) := by rw [Nat.pow_succ]; omega
      rw [Bool.eq_iff_iff, decide_eq_true_iff, decide_eq_true_iff, hD]
      unfold DownIn
      rw [zN_is (by omega) hd', upK_is (by omega) hd']
      exact ⟨fun h => h.2.2, fun h => ⟨base4_lt (by omega) hd', by omega, h⟩⟩
end Go.Proofs.Ytbldhokgbcljjaa
