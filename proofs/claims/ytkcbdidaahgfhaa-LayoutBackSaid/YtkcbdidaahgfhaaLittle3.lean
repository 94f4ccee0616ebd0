/- The walks of package little and of its reference: numbers with a sign. Condition: the numbers fit their kinds. -/
import Derived.Test.YtkcbdidaahgfhaaLittle2
namespace Go.Proofs.Ytkcbdidaahgfhaa
open Go.RowKit
set_option linter.unusedVariables false
set_option linter.unusedSimpArgs false
def sgnE (n : Int) : Int := if 1 ≤ n ∧ n ≤ 8 then 0 else 2
def sgnV (x n : Int) : Int := if 1 ≤ n ∧ n ≤ 8 then (x + 2 ^ (8 * n - 1).toNat) % 2 ^ (8 * n).toNat - 2 ^ (8 * n - 1).toNat else 0
theorem ret2 {a b c d : Value} (h1 : a = c) (h2 : b = d) : Ending.returned (.tuple #[a, b]) = .returned (.tuple #[c, d]) := by rw [h1, h2]
theorem range8 {n : Int} (h : 1 ≤ n ∧ n ≤ 8) : n = 1 ∨ n = 2 ∨ n = 3 ∨ n = 4 ∨ n = 5 ∨ n = 6 ∨ n = 7 ∨ n = 8 := by omega
set_option maxHeartbeats 1000000 in
theorem signed_any (x n : Int) (w : World) (hx : 0 ≤ x ∧ x < 18446744073709551616) :
    Calls Try.prog 55 #[.int .u64 x, .int .i64 n] w fun e w' => e = .returned (.tuple #[.int .i64 (sgnV x n), .int .i64 (sgnE n)]) ∧ w = w' := by
  by_cases h : 1 ≤ n ∧ n ≤ 8
  · rcases range8 h with rfl | rfl | rfl | rfl | rfl | rfl | rfl | rfl
    all_goals
      go_enter Try.func55, Try.ntmps55
      go_wp2_with (go_at_call 59; refine (fits_any _ _).mono ?_; rintro e w1 ⟨rfl, rfl⟩; rw [show fitsB _ = true from by decide])
      go_ret2
      refine ⟨ret2 (congrArg (Value.int _) ?_) rfl, rfl⟩
      simp [sgnV, wrap64, IntKind.wrap_u64]
      try omega
  · have h1 : fitsB n = false := by simp [fitsB]; omega
    go_enter Try.func55, Try.ntmps55
    go_wp2_with (go_at_call 59; refine (fits_any _ _).mono ?_; rintro e w1 ⟨rfl, rfl⟩)
    go_ret2
    exact ⟨by simp [sgnV, sgnE, h], rfl⟩
set_option maxHeartbeats 1000000 in
theorem refSigned_any (x n : Int) (w : World) (hx : 0 ≤ x ∧ x < 18446744073709551616) :
    Calls Try.prog 57 #[.int .u64 x, .int .i64 n] w fun e w' => e = .returned (.tuple #[.int .i64 (sgnV x n), .int .i64 (sgnE n)]) ∧ w = w' := by
  by_cases h : 1 ≤ n ∧ n ≤ 8
  · rcases range8 h with rfl | rfl | rfl | rfl | rfl | rfl | rfl | rfl
    all_goals
      go_enter Try.func57, Try.ntmps57
      go_wp2
      all_goals
        go_ret2
        refine ⟨ret2 (congrArg (Value.int _) ?_) rfl, rfl⟩
        simp [sgnV, wrap64, IntKind.wrap_u64]
        try omega
  · have h1 : fitsB n = false := by simp [fitsB]; omega
    by_cases h2 : n < 1
    · go_enter Try.func57, Try.ntmps57
      go_wp2
      go_ret2
      exact ⟨by simp [sgnV, sgnE, h], rfl⟩
    · have h3 : 8 < n := by omega
      go_enter Try.func57, Try.ntmps57
      go_wp2
      go_ret2
      exact ⟨by simp [sgnV, sgnE, h], rfl⟩
def unsE (v n : Int) : Int := if 1 ≤ n ∧ n ≤ 8 then (if -2 ^ (8 * n - 1).toNat ≤ v ∧ v < 2 ^ (8 * n - 1).toNat then 0 else 8) else 2
def unsV (v n : Int) : Int := if unsE v n = 0 then v % 2 ^ (8 * n).toNat else 0
set_option maxHeartbeats 1000000 in
theorem unsigned_any (v n : Int) (w : World) (hx : -9223372036854775808 ≤ v ∧ v < 9223372036854775808) :
    Calls Try.prog 46 #[.int .i64 v, .int .i64 n] w fun e w' => e = .returned (.tuple #[.int .u64 (unsV v n), .int .i64 (unsE v n)]) ∧ w = w' := by
  by_cases h : 1 ≤ n ∧ n ≤ 8
  · rcases range8 h with rfl | rfl | rfl | rfl | rfl | rfl | rfl | rfl
    all_goals
      go_enter Try.func46, Try.ntmps46
      go_wp2_with (go_at_call 59; refine (fits_any _ _).mono ?_; rintro e w1 ⟨rfl, rfl⟩; rw [show fitsB _ = true from by decide])
      all_goals
        go_ret2
        refine ⟨ret2 (congrArg (Value.int _) ?_) (congrArg (Value.int _) ?_), rfl⟩
        all_goals
          simp [unsV, unsE, wrap64, IntKind.wrap_u64] at *
          try (repeat' split) <;> omega
  · have h1 : fitsB n = false := by simp [fitsB]; omega
    go_enter Try.func46, Try.ntmps46
    go_wp2_with (go_at_call 59; refine (fits_any _ _).mono ?_; rintro e w1 ⟨rfl, rfl⟩)
    go_ret2
    exact ⟨by simp [unsV, unsE, h], rfl⟩
set_option maxHeartbeats 1000000 in
theorem refUnsigned_any (v n : Int) (w : World) (hx : -9223372036854775808 ≤ v ∧ v < 9223372036854775808) :
    Calls Try.prog 52 #[.int .i64 v, .int .i64 n] w fun e w' => e = .returned (.tuple #[.int .u64 (unsV v n), .int .i64 (unsE v n)]) ∧ w = w' := by
  by_cases h : 1 ≤ n ∧ n ≤ 8
  · rcases range8 h with rfl | rfl | rfl | rfl | rfl | rfl | rfl | rfl
    all_goals
      go_enter Try.func52, Try.ntmps52
      go_wp2
      all_goals
        go_ret2
        refine ⟨ret2 (congrArg (Value.int _) ?_) (congrArg (Value.int _) ?_), rfl⟩
        all_goals
          simp [unsV, unsE, IntKind.wrap_u64] at *
          try (repeat' split) <;> omega
  · have h1 : fitsB n = false := by simp [fitsB]; omega
    by_cases h2 : n < 1
    · go_enter Try.func52, Try.ntmps52
      go_wp2
      go_ret2
      exact ⟨by simp [unsV, unsE, h], rfl⟩
    · have h3 : 8 < n := by omega
      go_enter Try.func52, Try.ntmps52
      go_wp2
      go_ret2
      exact ⟨by simp [unsV, unsE, h], rfl⟩
end Go.Proofs.Ytkcbdidaahgfhaa
