/- The walks of an identifier's zoom, the program's and the document's; of a chart's zooms. Conditions: the lists are not too long. -/
import Derived.Test.YtahmhcmfeloclaaCh9
import Derived.Lib.ItoaNum
namespace Go.Proofs.Ytahmhcmfeloclaa
open Go.RowKit
set_option linter.unusedVariables false
set_option linter.unusedSimpArgs false
/-- An identifier's zoom. -/
def zoomQ (k : Nat) : Int := if 6004799503160661 ≤ k then -1 else (((Lib.bitLen (3 * k + 1) - 1) / 2 : Nat) : Int)
/-- How many tiles the zooms ahead have. -/
def base4 : Nat → Nat
  | 0 => 0
  | z + 1 => base4 z + 4 ^ z
theorem base4_eq (z : Nat) : 3 * base4 z + 1 = 4 ^ z := by
  induction z with
  | zero => rfl
  | succ z ih => rw [base4, Nat.pow_succ]; omega
theorem base4_27 : base4 27 = 6004799503160661 := by decide
theorem bitLen_b (x : Nat) (h0 : x ≠ 0) (h : x < 18446744073709551616) : 1 ≤ Lib.bitLen x ∧ 2 ^ (Lib.bitLen x - 1) ≤ x ∧ x < 2 ^ Lib.bitLen x := Lib.bitLenAux_bounds 64 x h h0
theorem pow_mono {a b : Nat} (h : a ≤ b) : 4 ^ a ≤ 4 ^ b := Nat.pow_le_pow_right (by decide) h
theorem base4_mono {a b : Nat} (h : a ≤ b) : base4 a ≤ base4 b := by
  have h1 := base4_eq a
  have h2 := base4_eq b
  have h3 := pow_mono h
  omega
theorem zoom_at {k z : Nat} (hz : z ≤ 26) (h1 : base4 z ≤ k) (h2 : k < base4 (z + 1)) : zoomQ k = (z : Int) := by
  have e1 := base4_eq z
  have e2 := base4_eq (z + 1)
  have e3 : base4 (z + 1) ≤ base4 27 := base4_mono (by omega)
  rw [base4_27] at e3
  unfold zoomQ
  rw [if_neg (by omega)]
  obtain ⟨b1, b2, b3⟩ := bitLen_b (3 * k + 1) (by omega) (by omega)
  have p1 : (4 : Nat) ^ z = 2 ^ (2 * z) := by rw [Nat.pow_mul]
  have p2 : (4 : Nat) ^ (z + 1) = 2 ^ (2 * z + 2) := by rw [show 2 * z + 2 = 2 * (z + 1) by omega, Nat.pow_mul]
  generalize Lib.bitLen (3 * k + 1) = b at b1 b2 b3 ⊢
  have q1 : b - 1 < 2 * z + 2 := (Nat.pow_lt_pow_iff_right (a := 2) (by decide)).1 (by omega)
  have q2 : 2 * z < b := (Nat.pow_lt_pow_iff_right (a := 2) (by decide)).1 (by omega)
  have : (b - 1) / 2 = z := by omega
  rw [this]
theorem zoom_ex {k : Nat} (h : k < 6004799503160661) : ∃ z : Nat, z ≤ 26 ∧ zoomQ k = (z : Int) ∧ base4 z ≤ k ∧ k < base4 (z + 1) := by
  have key : ∀ n, k < base4 n → ∃ z, z < n ∧ base4 z ≤ k ∧ k < base4 (z + 1) := by
    intro n
    induction n with
    | zero => intro h; simp [base4] at h
    | succ n ih =>
      intro h
      rcases Nat.lt_or_ge k (base4 n) with h1 | h1
      · obtain ⟨z, h2, h3⟩ := ih h1
        exact ⟨z, by omega, h3⟩
      · exact ⟨n, by omega, h1, h⟩
  obtain ⟨z, h1, h2, h3⟩ := key 27 (by rw [base4_27]; exact h)
  exact ⟨z, by omega, zoom_at (by omega) h2 h3, h2, h3⟩
/-- The least zoom, and the greatest. -/
def zLo (L : List It) : Int := if L = [] then 0 else zoomQ (itAt L 0).id
def zHi (L : List It) : Int := if L = [] then 0 else zoomQ (itAt L (L.length - 1)).id
end Go.Proofs.Ytahmhcmfeloclaa
