/- The law LittleTurns: a number with a sign that has bytes is told by them; and what any bytes tell has just these. No conditions. -/
import Derived.Test.YtnnmbmgfjbiejaaLittle9
import Derived.Test.YtnnmbmgfjbiejaaOpen
namespace Go.Proofs.Ytnnmbmgfjbiejaa
open Go.RowKit
set_option linter.unusedVariables false
set_option linter.unusedSimpArgs false
theorem sgn_uns_1 (v : Int) (h : -128 ≤ v ∧ v < 128) : unsE v 1 = 0 ∧ 0 ≤ unsV v 1 ∧ unsV v 1 < 256 ∧ sgnV (unsV v 1) 1 = v := by
  have e : unsE v 1 = 0 := by
    unfold unsE
    simp
    omega
  refine ⟨e, ?_, ?_, ?_⟩
  · unfold unsV; rw [if_pos e]; simp; omega
  · unfold unsV; rw [if_pos e]; simp; omega
  · unfold unsV; rw [if_pos e]; simp [sgnV]; omega
theorem uns_no_1 (v : Int) (h : ¬ (-128 ≤ v ∧ v < 128)) : unsE v 1 = 8 := by
  unfold unsE
  simp
  try omega
theorem sgnV_bd_1 (x : Int) (hx : 0 ≤ x ∧ x < 18446744073709551616) : -9223372036854775808 ≤ sgnV x 1 ∧ sgnV x 1 < 9223372036854775808 ∧ unsE (sgnV x 1) 1 = 0 := by
  refine ⟨?_, ?_, ?_⟩
  · simp [sgnV]; omega
  · simp [sgnV]; omega
  · unfold unsE sgnV
    simp
    omega
theorem uns_sgn_1 (x : Int) (hx : 0 ≤ x ∧ x < 18446744073709551616) : unsV (sgnV x 1) 1 = x % 256 := by
  have e := (sgnV_bd_1 x hx).2.2
  unfold unsV
  rw [if_pos e]
  simp [sgnV]
  try omega
theorem wrap_1 (x : Int) (hx : 0 ≤ x ∧ x < 18446744073709551616) : IntKind.u64.wrap (x * 72057594037927936) / 72057594037927936 = x % 256 := by
  rw [IntKind.wrap_u64]
  try omega
set_option maxHeartbeats 1000000 in
theorem turns_yes_1 (x v : Int) (w : World) (hx : 0 ≤ x ∧ x < 18446744073709551616) (hv : -9223372036854775808 ≤ v ∧ v < 9223372036854775808) (h : -128 ≤ v ∧ v < 128) :
    Calls Try.prog 7 #[.int .u64 x, .int .i64 v, .int .i64 1] w fun e w' => e = .returned (.bool true) ∧ Bel w w' := by
  obtain ⟨f1, f2, f3, f4⟩ := sgn_uns_1 v h
  generalize hU : unsV v 1 = U at *
  have F1 := hide f1
  have F4 := hide f4
  have HU := hide hU
  clear f1 f4 hU
  have hq : (U / 256 != 0) = false := by simp; omega
  obtain ⟨g1, g2, g3⟩ := sgnV_bd_1 x hx
  have g5 := (uns_sgn_1 x hx).trans (wrap_1 x hx).symm
  generalize hC : sgnV x 1 = C at *
  have G3 := hide g3
  have G5 := hide g5
  have HC := hide hC
  clear g3 g5 hC
  go_enter Try.func7, Try.ntmps7
  go_wp2_with fail
  refine (unsigned_any v 1 _ hv).mono ?_
  rintro e w1 ⟨rfl, rfl⟩
  rw [F1.out, HU.out]
  go_wp2_with fail
  refine (signed_any U 1 _ (by omega)).mono ?_
  rintro e w1 ⟨rfl, rfl⟩
  rw [F4.out, show sgnE 1 = 0 from rfl]
  go_wp2_with fail
  refine (signed_any x 1 _ hx).mono ?_
  rintro e w1 ⟨rfl, rfl⟩
  rw [HC.out, show sgnE 1 = 0 from rfl]
  go_wp2_with fail
  refine (unsigned_any C 1 _ (by omega)).mono ?_
  rintro e w1 ⟨rfl, rfl⟩
  rw [G3.out, G5.out]
  go_wp2_with fail
  refine (awake_any _).mono ?_
  rintro e w1 ⟨rfl, hb1⟩
  go_wp2_with fail
  go_ret
  exact ⟨rfl, (by repeat (first | exact Bel.refl _ | exact Bel.drew (Bel.refl _) | refine Bel.drew ?_ | refine Bel.drewN ?_ _ | refine Bel.alloc ?_ _ | refine Bel.set ?_ (by simp; try omega) _ | refine Bel.trans ?_ (by assumption)))⟩
set_option maxHeartbeats 1000000 in
theorem turns_no_1 (x v : Int) (w : World) (hx : 0 ≤ x ∧ x < 18446744073709551616) (hv : -9223372036854775808 ≤ v ∧ v < 9223372036854775808) (h : ¬ (-128 ≤ v ∧ v < 128)) :
    Calls Try.prog 7 #[.int .u64 x, .int .i64 v, .int .i64 1] w fun e w' => e = .returned (.bool true) ∧ Bel w w' := by
  have F1 := hide (uns_no_1 v h)
  obtain ⟨g1, g2, g3⟩ := sgnV_bd_1 x hx
  have g5 := (uns_sgn_1 x hx).trans (wrap_1 x hx).symm
  generalize hC : sgnV x 1 = C at *
  have G3 := hide g3
  have G5 := hide g5
  have HC := hide hC
  clear g3 g5 hC
  go_enter Try.func7, Try.ntmps7
  go_wp2_with fail
  refine (unsigned_any v 1 _ hv).mono ?_
  rintro e w1 ⟨rfl, rfl⟩
  rw [F1.out]
  go_wp2_with fail
  refine (signed_any x 1 _ hx).mono ?_
  rintro e w1 ⟨rfl, rfl⟩
  rw [HC.out, show sgnE 1 = 0 from rfl]
  go_wp2_with fail
  refine (unsigned_any C 1 _ (by omega)).mono ?_
  rintro e w1 ⟨rfl, rfl⟩
  rw [G3.out, G5.out]
  go_wp2_with fail
  refine (awake_any _).mono ?_
  rintro e w1 ⟨rfl, hb1⟩
  go_wp2_with fail
  go_ret
  exact ⟨rfl, (by repeat (first | exact Bel.refl _ | exact Bel.drew (Bel.refl _) | refine Bel.drew ?_ | refine Bel.drewN ?_ _ | refine Bel.alloc ?_ _ | refine Bel.set ?_ (by simp; try omega) _ | refine Bel.trans ?_ (by assumption)))⟩
theorem sgn_uns_2 (v : Int) (h : -32768 ≤ v ∧ v < 32768) : unsE v 2 = 0 ∧ 0 ≤ unsV v 2 ∧ unsV v 2 < 65536 ∧ sgnV (unsV v 2) 2 = v := by
  have e : unsE v 2 = 0 := by
    unfold unsE
    simp
    omega
  refine ⟨e, ?_, ?_, ?_⟩
  · unfold unsV; rw [if_pos e]; simp; omega
  · unfold unsV; rw [if_pos e]; simp; omega
  · unfold unsV; rw [if_pos e]; simp [sgnV]; omega
theorem uns_no_2 (v : Int) (h : ¬ (-32768 ≤ v ∧ v < 32768)) : unsE v 2 = 8 := by
  unfold unsE
  simp
  try omega
theorem sgnV_bd_2 (x : Int) (hx : 0 ≤ x ∧ x < 18446744073709551616) : -9223372036854775808 ≤ sgnV x 2 ∧ sgnV x 2 < 9223372036854775808 ∧ unsE (sgnV x 2) 2 = 0 := by
  refine ⟨?_, ?_, ?_⟩
  · simp [sgnV]; omega
  · simp [sgnV]; omega
  · unfold unsE sgnV
    simp
    omega
theorem uns_sgn_2 (x : Int) (hx : 0 ≤ x ∧ x < 18446744073709551616) : unsV (sgnV x 2) 2 = x % 65536 := by
  have e := (sgnV_bd_2 x hx).2.2
  unfold unsV
  rw [if_pos e]
  simp [sgnV]
  try omega
theorem wrap_2 (x : Int) (hx : 0 ≤ x ∧ x < 18446744073709551616) : IntKind.u64.wrap (x * 281474976710656) / 281474976710656 = x % 65536 := by
  rw [IntKind.wrap_u64]
  try omega
set_option maxHeartbeats 1000000 in
theorem turns_yes_2 (x v : Int) (w : World) (hx : 0 ≤ x ∧ x < 18446744073709551616) (hv : -9223372036854775808 ≤ v ∧ v < 9223372036854775808) (h : -32768 ≤ v ∧ v < 32768) :
    Calls Try.prog 7 #[.int .u64 x, .int .i64 v, .int .i64 2] w fun e w' => e = .returned (.bool true) ∧ Bel w w' := by
  obtain ⟨f1, f2, f3, f4⟩ := sgn_uns_2 v h
  generalize hU : unsV v 2 = U at *
  have F1 := hide f1
  have F4 := hide f4
  have HU := hide hU
  clear f1 f4 hU
  have hq : (U / 65536 != 0) = false := by simp; omega
  obtain ⟨g1, g2, g3⟩ := sgnV_bd_2 x hx
  have g5 := (uns_sgn_2 x hx).trans (wrap_2 x hx).symm
  generalize hC : sgnV x 2 = C at *
  have G3 := hide g3
  have G5 := hide g5
  have HC := hide hC
  clear g3 g5 hC
  go_enter Try.func7, Try.ntmps7
  go_wp2_with fail
  refine (unsigned_any v 2 _ hv).mono ?_
  rintro e w1 ⟨rfl, rfl⟩
  rw [F1.out, HU.out]
  go_wp2_with fail
  refine (signed_any U 2 _ (by omega)).mono ?_
  rintro e w1 ⟨rfl, rfl⟩
  rw [F4.out, show sgnE 2 = 0 from rfl]
  go_wp2_with fail
  refine (signed_any x 2 _ hx).mono ?_
  rintro e w1 ⟨rfl, rfl⟩
  rw [HC.out, show sgnE 2 = 0 from rfl]
  go_wp2_with fail
  refine (unsigned_any C 2 _ (by omega)).mono ?_
  rintro e w1 ⟨rfl, rfl⟩
  rw [G3.out, G5.out]
  go_wp2_with fail
  refine (awake_any _).mono ?_
  rintro e w1 ⟨rfl, hb1⟩
  go_wp2_with fail
  go_ret
  exact ⟨rfl, (by repeat (first | exact Bel.refl _ | exact Bel.drew (Bel.refl _) | refine Bel.drew ?_ | refine Bel.drewN ?_ _ | refine Bel.alloc ?_ _ | refine Bel.set ?_ (by simp; try omega) _ | refine Bel.trans ?_ (by assumption)))⟩
set_option maxHeartbeats 1000000 in
theorem turns_no_2 (x v : Int) (w : World) (hx : 0 ≤ x ∧ x < 18446744073709551616) (hv : -9223372036854775808 ≤ v ∧ v < 9223372036854775808) (h : ¬ (-32768 ≤ v ∧ v < 32768)) :
    Calls Try.prog 7 #[.int .u64 x, .int .i64 v, .int .i64 2] w fun e w' => e = .returned (.bool true) ∧ Bel w w' := by
  have F1 := hide (uns_no_2 v h)
  obtain ⟨g1, g2, g3⟩ := sgnV_bd_2 x hx
  have g5 := (uns_sgn_2 x hx).trans (wrap_2 x hx).symm
  generalize hC : sgnV x 2 = C at *
  have G3 := hide g3
  have G5 := hide g5
  have HC := hide hC
  clear g3 g5 hC
  go_enter Try.func7, Try.ntmps7
  go_wp2_with fail
  refine (unsigned_any v 2 _ hv).mono ?_
  rintro e w1 ⟨rfl, rfl⟩
  rw [F1.out]
  go_wp2_with fail
  refine (signed_any x 2 _ hx).mono ?_
  rintro e w1 ⟨rfl, rfl⟩
  rw [HC.out, show sgnE 2 = 0 from rfl]
  go_wp2_with fail
  refine (unsigned_any C 2 _ (by omega)).mono ?_
  rintro e w1 ⟨rfl, rfl⟩
  rw [G3.out, G5.out]
  go_wp2_with fail
  refine (awake_any _).mono ?_
  rintro e w1 ⟨rfl, hb1⟩
  go_wp2_with fail
  go_ret
  exact ⟨rfl, (by repeat (first | exact Bel.refl _ | exact Bel.drew (Bel.refl _) | refine Bel.drew ?_ | refine Bel.drewN ?_ _ | refine Bel.alloc ?_ _ | refine Bel.set ?_ (by simp; try omega) _ | refine Bel.trans ?_ (by assumption)))⟩
theorem sgn_uns_3 (v : Int) (h : -8388608 ≤ v ∧ v < 8388608) : unsE v 3 = 0 ∧ 0 ≤ unsV v 3 ∧ unsV v 3 < 16777216 ∧ sgnV (unsV v 3) 3 = v := by
  have e : unsE v 3 = 0 := by
    unfold unsE
    simp
    omega
  refine ⟨e, ?_, ?_, ?_⟩
  · unfold unsV; rw [if_pos e]; simp; omega
  · unfold unsV; rw [if_pos e]; simp; omega
  · unfold unsV; rw [if_pos e]; simp [sgnV]; omega
theorem uns_no_3 (v : Int) (h : ¬ (-8388608 ≤ v ∧ v < 8388608)) : unsE v 3 = 8 := by
  unfold unsE
  simp
  try omega
theorem sgnV_bd_3 (x : Int) (hx : 0 ≤ x ∧ x < 18446744073709551616) : -9223372036854775808 ≤ sgnV x 3 ∧ sgnV x 3 < 9223372036854775808 ∧ unsE (sgnV x 3) 3 = 0 := by
  refine ⟨?_, ?_, ?_⟩
  · simp [sgnV]; omega
  · simp [sgnV]; omega
  · unfold unsE sgnV
    simp
    omega
theorem uns_sgn_3 (x : Int) (hx : 0 ≤ x ∧ x < 18446744073709551616) : unsV (sgnV x 3) 3 = x % 16777216 := by
  have e := (sgnV_bd_3 x hx).2.2
  unfold unsV
  rw [if_pos e]
  simp [sgnV]
  try omega
theorem wrap_3 (x : Int) (hx : 0 ≤ x ∧ x < 18446744073709551616) : IntKind.u64.wrap (x * 1099511627776) / 1099511627776 = x % 16777216 := by
  rw [IntKind.wrap_u64]
  try omega
set_option maxHeartbeats 1000000 in
theorem turns_yes_3 (x v : Int) (w : World) (hx : 0 ≤ x ∧ x < 18446744073709551616) (hv : -9223372036854775808 ≤ v ∧ v < 9223372036854775808) (h : -8388608 ≤ v ∧ v < 8388608) :
    Calls Try.prog 7 #[.int .u64 x, .int .i64 v, .int .i64 3] w fun e w' => e = .returned (.bool true) ∧ Bel w w' := by
  obtain ⟨f1, f2, f3, f4⟩ := sgn_uns_3 v h
  generalize hU : unsV v 3 = U at *
  have F1 := hide f1
  have F4 := hide f4
  have HU := hide hU
  clear f1 f4 hU
  have hq : (U / 16777216 != 0) = false := by simp; omega
  obtain ⟨g1, g2, g3⟩ := sgnV_bd_3 x hx
  have g5 := (uns_sgn_3 x hx).trans (wrap_3 x hx).symm
  generalize hC : sgnV x 3 = C at *
  have G3 := hide g3
  have G5 := hide g5
  have HC := hide hC
  clear g3 g5 hC
  go_enter Try.func7, Try.ntmps7
  go_wp2_with fail
  refine (unsigned_any v 3 _ hv).mono ?_
  rintro e w1 ⟨rfl, rfl⟩
  rw [F1.out, HU.out]
  go_wp2_with fail
  refine (signed_any U 3 _ (by omega)).mono ?_
  rintro e w1 ⟨rfl, rfl⟩
  rw [F4.out, show sgnE 3 = 0 from rfl]
  go_wp2_with fail
  refine (signed_any x 3 _ hx).mono ?_
  rintro e w1 ⟨rfl, rfl⟩
  rw [HC.out, show sgnE 3 = 0 from rfl]
  go_wp2_with fail
  refine (unsigned_any C 3 _ (by omega)).mono ?_
  rintro e w1 ⟨rfl, rfl⟩
  rw [G3.out, G5.out]
  go_wp2_with fail
  refine (awake_any _).mono ?_
  rintro e w1 ⟨rfl, hb1⟩
  go_wp2_with fail
  go_ret
  exact ⟨rfl, (by repeat (first | exact Bel.refl _ | exact Bel.drew (Bel.refl _) | refine Bel.drew ?_ | refine Bel.drewN ?_ _ | refine Bel.alloc ?_ _ | refine Bel.set ?_ (by simp; try omega) _ | refine Bel.trans ?_ (by assumption)))⟩
set_option maxHeartbeats 1000000 in
theorem turns_no_3 (x v : Int) (w : World) (hx : 0 ≤ x ∧ x < 18446744073709551616) (hv : -9223372036854775808 ≤ v ∧ v < 9223372036854775808) (h : ¬ (-8388608 ≤ v ∧ v < 8388608)) :
    Calls Try.prog 7 #[.int .u64 x, .int .i64 v, .int .i64 3] w fun e w' => e = .returned (.bool true) ∧ Bel w w' := by
  have F1 := hide (uns_no_3 v h)
  obtain ⟨g1, g2, g3⟩ := sgnV_bd_3 x hx
  have g5 := (uns_sgn_3 x hx).trans (wrap_3 x hx).symm
  generalize hC : sgnV x 3 = C at *
  have G3 := hide g3
  have G5 := hide g5
  have HC := hide hC
  clear g3 g5 hC
  go_enter Try.func7, Try.ntmps7
  go_wp2_with fail
  refine (unsigned_any v 3 _ hv).mono ?_
  rintro e w1 ⟨rfl, rfl⟩
  rw [F1.out]
  go_wp2_with fail
  refine (signed_any x 3 _ hx).mono ?_
  rintro e w1 ⟨rfl, rfl⟩
  rw [HC.out, show sgnE 3 = 0 from rfl]
  go_wp2_with fail
  refine (unsigned_any C 3 _ (by omega)).mono ?_
  rintro e w1 ⟨rfl, rfl⟩
  rw [G3.out, G5.out]
  go_wp2_with fail
  refine (awake_any _).mono ?_
  rintro e w1 ⟨rfl, hb1⟩
  go_wp2_with fail
  go_ret
  exact ⟨rfl, (by repeat (first | exact Bel.refl _ | exact Bel.drew (Bel.refl _) | refine Bel.drew ?_ | refine Bel.drewN ?_ _ | refine Bel.alloc ?_ _ | refine Bel.set ?_ (by simp; try omega) _ | refine Bel.trans ?_ (by assumption)))⟩
theorem sgn_uns_4 (v : Int) (h : -2147483648 ≤ v ∧ v < 2147483648) : unsE v 4 = 0 ∧ 0 ≤ unsV v 4 ∧ unsV v 4 < 4294967296 ∧ sgnV (unsV v 4) 4 = v := by
  have e : unsE v 4 = 0 := by
    unfold unsE
    simp
    omega
  refine ⟨e, ?_, ?_, ?_⟩
  · unfold unsV; rw [if_pos e]; simp; omega
  · unfold unsV; rw [if_pos e]; simp; omega
  · unfold unsV; rw [if_pos e]; simp [sgnV]; omega
theorem uns_no_4 (v : Int) (h : ¬ (-2147483648 ≤ v ∧ v < 2147483648)) : unsE v 4 = 8 := by
  unfold unsE
  simp
  try omega
theorem sgnV_bd_4 (x : Int) (hx : 0 ≤ x ∧ x < 18446744073709551616) : -9223372036854775808 ≤ sgnV x 4 ∧ sgnV x 4 < 9223372036854775808 ∧ unsE (sgnV x 4) 4 = 0 := by
  refine ⟨?_, ?_, ?_⟩
  · simp [sgnV]; omega
  · simp [sgnV]; omega
  · unfold unsE sgnV
    simp
    omega
theorem uns_sgn_4 (x : Int) (hx : 0 ≤ x ∧ x < 18446744073709551616) : unsV (sgnV x 4) 4 = x % 4294967296 := by
  have e := (sgnV_bd_4 x hx).2.2
  unfold unsV
  rw [if_pos e]
  simp [sgnV]
  try omega
theorem wrap_4 (x : Int) (hx : 0 ≤ x ∧ x < 18446744073709551616) : IntKind.u64.wrap (x * 4294967296) / 4294967296 = x % 4294967296 := by
  rw [IntKind.wrap_u64]
  try omega
set_option maxHeartbeats 1000000 in
theorem turns_yes_4 (x v : Int) (w : World) (hx : 0 ≤ x ∧ x < 18446744073709551616) (hv : -9223372036854775808 ≤ v ∧ v < 9223372036854775808) (h : -2147483648 ≤ v ∧ v < 2147483648) :
    Calls Try.prog 7 #[.int .u64 x, .int .i64 v, .int .i64 4] w fun e w' => e = .returned (.bool true) ∧ Bel w w' := by
  obtain ⟨f1, f2, f3, f4⟩ := sgn_uns_4 v h
  generalize hU : unsV v 4 = U at *
  have F1 := hide f1
  have F4 := hide f4
  have HU := hide hU
  clear f1 f4 hU
  have hq : (U / 4294967296 != 0) = false := by simp; omega
  obtain ⟨g1, g2, g3⟩ := sgnV_bd_4 x hx
  have g5 := (uns_sgn_4 x hx).trans (wrap_4 x hx).symm
  generalize hC : sgnV x 4 = C at *
  have G3 := hide g3
  have G5 := hide g5
  have HC := hide hC
  clear g3 g5 hC
  go_enter Try.func7, Try.ntmps7
  go_wp2_with fail
  refine (unsigned_any v 4 _ hv).mono ?_
  rintro e w1 ⟨rfl, rfl⟩
  rw [F1.out, HU.out]
  go_wp2_with fail
  refine (signed_any U 4 _ (by omega)).mono ?_
  rintro e w1 ⟨rfl, rfl⟩
  rw [F4.out, show sgnE 4 = 0 from rfl]
  go_wp2_with fail
  refine (signed_any x 4 _ hx).mono ?_
  rintro e w1 ⟨rfl, rfl⟩
  rw [HC.out, show sgnE 4 = 0 from rfl]
  go_wp2_with fail
  refine (unsigned_any C 4 _ (by omega)).mono ?_
  rintro e w1 ⟨rfl, rfl⟩
  rw [G3.out, G5.out]
  go_wp2_with fail
  refine (awake_any _).mono ?_
  rintro e w1 ⟨rfl, hb1⟩
  go_wp2_with fail
  go_ret
  exact ⟨rfl, (by repeat (first | exact Bel.refl _ | exact Bel.drew (Bel.refl _) | refine Bel.drew ?_ | refine Bel.drewN ?_ _ | refine Bel.alloc ?_ _ | refine Bel.set ?_ (by simp; try omega) _ | refine Bel.trans ?_ (by assumption)))⟩
set_option maxHeartbeats 1000000 in
theorem turns_no_4 (x v : Int) (w : World) (hx : 0 ≤ x ∧ x < 18446744073709551616) (hv : -9223372036854775808 ≤ v ∧ v < 9223372036854775808) (h : ¬ (-2147483648 ≤ v ∧ v < 2147483648)) :
    Calls Try.prog 7 #[.int .u64 x, .int .i64 v, .int .i64 4] w fun e w' => e = .returned (.bool true) ∧ Bel w w' := by
  have F1 := hide (uns_no_4 v h)
  obtain ⟨g1, g2, g3⟩ := sgnV_bd_4 x hx
  have g5 := (uns_sgn_4 x hx).trans (wrap_4 x hx).symm
  generalize hC : sgnV x 4 = C at *
  have G3 := hide g3
  have G5 := hide g5
  have HC := hide hC
  clear g3 g5 hC
  go_enter Try.func7, Try.ntmps7
  go_wp2_with fail
  refine (unsigned_any v 4 _ hv).mono ?_
  rintro e w1 ⟨rfl, rfl⟩
  rw [F1.out]
  go_wp2_with fail
  refine (signed_any x 4 _ hx).mono ?_
  rintro e w1 ⟨rfl, rfl⟩
  rw [HC.out, show sgnE 4 = 0 from rfl]
  go_wp2_with fail
  refine (unsigned_any C 4 _ (by omega)).mono ?_
  rintro e w1 ⟨rfl, rfl⟩
  rw [G3.out, G5.out]
  go_wp2_with fail
  refine (awake_any _).mono ?_
  rintro e w1 ⟨rfl, hb1⟩
  go_wp2_with fail
  go_ret
  exact ⟨rfl, (by repeat (first | exact Bel.refl _ | exact Bel.drew (Bel.refl _) | refine Bel.drew ?_ | refine Bel.drewN ?_ _ | refine Bel.alloc ?_ _ | refine Bel.set ?_ (by simp; try omega) _ | refine Bel.trans ?_ (by assumption)))⟩
theorem sgn_uns_5 (v : Int) (h : -549755813888 ≤ v ∧ v < 549755813888) : unsE v 5 = 0 ∧ 0 ≤ unsV v 5 ∧ unsV v 5 < 1099511627776 ∧ sgnV (unsV v 5) 5 = v := by
  have e : unsE v 5 = 0 := by
    unfold unsE
    simp
    omega
  refine ⟨e, ?_, ?_, ?_⟩
  · unfold unsV; rw [if_pos e]; simp; omega
  · unfold unsV; rw [if_pos e]; simp; omega
  · unfold unsV; rw [if_pos e]; simp [sgnV]; omega
theorem uns_no_5 (v : Int) (h : ¬ (-549755813888 ≤ v ∧ v < 549755813888)) : unsE v 5 = 8 := by
  unfold unsE
  simp
  try omega
theorem sgnV_bd_5 (x : Int) (hx : 0 ≤ x ∧ x < 18446744073709551616) : -9223372036854775808 ≤ sgnV x 5 ∧ sgnV x 5 < 9223372036854775808 ∧ unsE (sgnV x 5) 5 = 0 := by
  refine ⟨?_, ?_, ?_⟩
  · simp [sgnV]; omega
  · simp [sgnV]; omega
  · unfold unsE sgnV
    simp
    omega
theorem uns_sgn_5 (x : Int) (hx : 0 ≤ x ∧ x < 18446744073709551616) : unsV (sgnV x 5) 5 = x % 1099511627776 := by
  have e := (sgnV_bd_5 x hx).2.2
  unfold unsV
  rw [if_pos e]
  simp [sgnV]
  try omega
theorem wrap_5 (x : Int) (hx : 0 ≤ x ∧ x < 18446744073709551616) : IntKind.u64.wrap (x * 16777216) / 16777216 = x % 1099511627776 := by
  rw [IntKind.wrap_u64]
  try omega
set_option maxHeartbeats 1000000 in
theorem turns_yes_5 (x v : Int) (w : World) (hx : 0 ≤ x ∧ x < 18446744073709551616) (hv : -9223372036854775808 ≤ v ∧ v < 9223372036854775808) (h : -549755813888 ≤ v ∧ v < 549755813888) :
    Calls Try.prog 7 #[.int .u64 x, .int .i64 v, .int .i64 5] w fun e w' => e = .returned (.bool true) ∧ Bel w w' := by
  obtain ⟨f1, f2, f3, f4⟩ := sgn_uns_5 v h
  generalize hU : unsV v 5 = U at *
  have F1 := hide f1
  have F4 := hide f4
  have HU := hide hU
  clear f1 f4 hU
  have hq : (U / 1099511627776 != 0) = false := by simp; omega
  obtain ⟨g1, g2, g3⟩ := sgnV_bd_5 x hx
  have g5 := (uns_sgn_5 x hx).trans (wrap_5 x hx).symm
  generalize hC : sgnV x 5 = C at *
  have G3 := hide g3
  have G5 := hide g5
  have HC := hide hC
  clear g3 g5 hC
  go_enter Try.func7, Try.ntmps7
  go_wp2_with fail
  refine (unsigned_any v 5 _ hv).mono ?_
  rintro e w1 ⟨rfl, rfl⟩
  rw [F1.out, HU.out]
  go_wp2_with fail
  refine (signed_any U 5 _ (by omega)).mono ?_
  rintro e w1 ⟨rfl, rfl⟩
  rw [F4.out, show sgnE 5 = 0 from rfl]
  go_wp2_with fail
  refine (signed_any x 5 _ hx).mono ?_
  rintro e w1 ⟨rfl, rfl⟩
  rw [HC.out, show sgnE 5 = 0 from rfl]
  go_wp2_with fail
  refine (unsigned_any C 5 _ (by omega)).mono ?_
  rintro e w1 ⟨rfl, rfl⟩
  rw [G3.out, G5.out]
  go_wp2_with fail
  refine (awake_any _).mono ?_
  rintro e w1 ⟨rfl, hb1⟩
  go_wp2_with fail
  go_ret
  exact ⟨rfl, (by repeat (first | exact Bel.refl _ | exact Bel.drew (Bel.refl _) | refine Bel.drew ?_ | refine Bel.drewN ?_ _ | refine Bel.alloc ?_ _ | refine Bel.set ?_ (by simp; try omega) _ | refine Bel.trans ?_ (by assumption)))⟩
set_option maxHeartbeats 1000000 in
theorem turns_no_5 (x v : Int) (w : World) (hx : 0 ≤ x ∧ x < 18446744073709551616) (hv : -9223372036854775808 ≤ v ∧ v < 9223372036854775808) (h : ¬ (-549755813888 ≤ v ∧ v < 549755813888)) :
    Calls Try.prog 7 #[.int .u64 x, .int .i64 v, .int .i64 5] w fun e w' => e = .returned (.bool true) ∧ Bel w w' := by
  have F1 := hide (uns_no_5 v h)
  obtain ⟨g1, g2, g3⟩ := sgnV_bd_5 x hx
  have g5 := (uns_sgn_5 x hx).trans (wrap_5 x hx).symm
  generalize hC : sgnV x 5 = C at *
  have G3 := hide g3
  have G5 := hide g5
  have HC := hide hC
  clear g3 g5 hC
  go_enter Try.func7, Try.ntmps7
  go_wp2_with fail
  refine (unsigned_any v 5 _ hv).mono ?_
  rintro e w1 ⟨rfl, rfl⟩
  rw [F1.out]
  go_wp2_with fail
  refine (signed_any x 5 _ hx).mono ?_
  rintro e w1 ⟨rfl, rfl⟩
  rw [HC.out, show sgnE 5 = 0 from rfl]
  go_wp2_with fail
  refine (unsigned_any C 5 _ (by omega)).mono ?_
  rintro e w1 ⟨rfl, rfl⟩
  rw [G3.out, G5.out]
  go_wp2_with fail
  refine (awake_any _).mono ?_
  rintro e w1 ⟨rfl, hb1⟩
  go_wp2_with fail
  go_ret
  exact ⟨rfl, (by repeat (first | exact Bel.refl _ | exact Bel.drew (Bel.refl _) | refine Bel.drew ?_ | refine Bel.drewN ?_ _ | refine Bel.alloc ?_ _ | refine Bel.set ?_ (by simp; try omega) _ | refine Bel.trans ?_ (by assumption)))⟩
theorem sgn_uns_6 (v : Int) (h : -140737488355328 ≤ v ∧ v < 140737488355328) : unsE v 6 = 0 ∧ 0 ≤ unsV v 6 ∧ unsV v 6 < 281474976710656 ∧ sgnV (unsV v 6) 6 = v := by
  have e : unsE v 6 = 0 := by
    unfold unsE
    simp
    omega
  refine ⟨e, ?_, ?_, ?_⟩
  · unfold unsV; rw [if_pos e]; simp; omega
  · unfold unsV; rw [if_pos e]; simp; omega
  · unfold unsV; rw [if_pos e]; simp [sgnV]; omega
theorem uns_no_6 (v : Int) (h : ¬ (-140737488355328 ≤ v ∧ v < 140737488355328)) : unsE v 6 = 8 := by
  unfold unsE
  simp
  try omega
theorem sgnV_bd_6 (x : Int) (hx : 0 ≤ x ∧ x < 18446744073709551616) : -9223372036854775808 ≤ sgnV x 6 ∧ sgnV x 6 < 9223372036854775808 ∧ unsE (sgnV x 6) 6 = 0 := by
  refine ⟨?_, ?_, ?_⟩
  · simp [sgnV]; omega
  · simp [sgnV]; omega
  · unfold unsE sgnV
    simp
    omega
theorem uns_sgn_6 (x : Int) (hx : 0 ≤ x ∧ x < 18446744073709551616) : unsV (sgnV x 6) 6 = x % 281474976710656 := by
  have e := (sgnV_bd_6 x hx).2.2
  unfold unsV
  rw [if_pos e]
  simp [sgnV]
  try omega
theorem wrap_6 (x : Int) (hx : 0 ≤ x ∧ x < 18446744073709551616) : IntKind.u64.wrap (x * 65536) / 65536 = x % 281474976710656 := by
  rw [IntKind.wrap_u64]
  try omega
set_option maxHeartbeats 1000000 in
theorem turns_yes_6 (x v : Int) (w : World) (hx : 0 ≤ x ∧ x < 18446744073709551616) (hv : -9223372036854775808 ≤ v ∧ v < 9223372036854775808) (h : -140737488355328 ≤ v ∧ v < 140737488355328) :
    Calls Try.prog 7 #[.int .u64 x, .int .i64 v, .int .i64 6] w fun e w' => e = .returned (.bool true) ∧ Bel w w' := by
  obtain ⟨f1, f2, f3, f4⟩ := sgn_uns_6 v h
  generalize hU : unsV v 6 = U at *
  have F1 := hide f1
  have F4 := hide f4
  have HU := hide hU
  clear f1 f4 hU
  have hq : (U / 281474976710656 != 0) = false := by simp; omega
  obtain ⟨g1, g2, g3⟩ := sgnV_bd_6 x hx
  have g5 := (uns_sgn_6 x hx).trans (wrap_6 x hx).symm
  generalize hC : sgnV x 6 = C at *
  have G3 := hide g3
  have G5 := hide g5
  have HC := hide hC
  clear g3 g5 hC
  go_enter Try.func7, Try.ntmps7
  go_wp2_with fail
  refine (unsigned_any v 6 _ hv).mono ?_
  rintro e w1 ⟨rfl, rfl⟩
  rw [F1.out, HU.out]
  go_wp2_with fail
  refine (signed_any U 6 _ (by omega)).mono ?_
  rintro e w1 ⟨rfl, rfl⟩
  rw [F4.out, show sgnE 6 = 0 from rfl]
  go_wp2_with fail
  refine (signed_any x 6 _ hx).mono ?_
  rintro e w1 ⟨rfl, rfl⟩
  rw [HC.out, show sgnE 6 = 0 from rfl]
  go_wp2_with fail
  refine (unsigned_any C 6 _ (by omega)).mono ?_
  rintro e w1 ⟨rfl, rfl⟩
  rw [G3.out, G5.out]
  go_wp2_with fail
  refine (awake_any _).mono ?_
  rintro e w1 ⟨rfl, hb1⟩
  go_wp2_with fail
  go_ret
  exact ⟨rfl, (by repeat (first | exact Bel.refl _ | exact Bel.drew (Bel.refl _) | refine Bel.drew ?_ | refine Bel.drewN ?_ _ | refine Bel.alloc ?_ _ | refine Bel.set ?_ (by simp; try omega) _ | refine Bel.trans ?_ (by assumption)))⟩
set_option maxHeartbeats 1000000 in
theorem turns_no_6 (x v : Int) (w : World) (hx : 0 ≤ x ∧ x < 18446744073709551616) (hv : -9223372036854775808 ≤ v ∧ v < 9223372036854775808) (h : ¬ (-140737488355328 ≤ v ∧ v < 140737488355328)) :
    Calls Try.prog 7 #[.int .u64 x, .int .i64 v, .int .i64 6] w fun e w' => e = .returned (.bool true) ∧ Bel w w' := by
  have F1 := hide (uns_no_6 v h)
  obtain ⟨g1, g2, g3⟩ := sgnV_bd_6 x hx
  have g5 := (uns_sgn_6 x hx).trans (wrap_6 x hx).symm
  generalize hC : sgnV x 6 = C at *
  have G3 := hide g3
  have G5 := hide g5
  have HC := hide hC
  clear g3 g5 hC
  go_enter Try.func7, Try.ntmps7
  go_wp2_with fail
  refine (unsigned_any v 6 _ hv).mono ?_
  rintro e w1 ⟨rfl, rfl⟩
  rw [F1.out]
  go_wp2_with fail
  refine (signed_any x 6 _ hx).mono ?_
  rintro e w1 ⟨rfl, rfl⟩
  rw [HC.out, show sgnE 6 = 0 from rfl]
  go_wp2_with fail
  refine (unsigned_any C 6 _ (by omega)).mono ?_
  rintro e w1 ⟨rfl, rfl⟩
  rw [G3.out, G5.out]
  go_wp2_with fail
  refine (awake_any _).mono ?_
  rintro e w1 ⟨rfl, hb1⟩
  go_wp2_with fail
  go_ret
  exact ⟨rfl, (by repeat (first | exact Bel.refl _ | exact Bel.drew (Bel.refl _) | refine Bel.drew ?_ | refine Bel.drewN ?_ _ | refine Bel.alloc ?_ _ | refine Bel.set ?_ (by simp; try omega) _ | refine Bel.trans ?_ (by assumption)))⟩
theorem sgn_uns_7 (v : Int) (h : -36028797018963968 ≤ v ∧ v < 36028797018963968) : unsE v 7 = 0 ∧ 0 ≤ unsV v 7 ∧ unsV v 7 < 72057594037927936 ∧ sgnV (unsV v 7) 7 = v := by
  have e : unsE v 7 = 0 := by
    unfold unsE
    simp
    omega
  refine ⟨e, ?_, ?_, ?_⟩
  · unfold unsV; rw [if_pos e]; simp; omega
  · unfold unsV; rw [if_pos e]; simp; omega
  · unfold unsV; rw [if_pos e]; simp [sgnV]; omega
theorem uns_no_7 (v : Int) (h : ¬ (-36028797018963968 ≤ v ∧ v < 36028797018963968)) : unsE v 7 = 8 := by
  unfold unsE
  simp
  try omega
theorem sgnV_bd_7 (x : Int) (hx : 0 ≤ x ∧ x < 18446744073709551616) : -9223372036854775808 ≤ sgnV x 7 ∧ sgnV x 7 < 9223372036854775808 ∧ unsE (sgnV x 7) 7 = 0 := by
  refine ⟨?_, ?_, ?_⟩
  · simp [sgnV]; omega
  · simp [sgnV]; omega
  · unfold unsE sgnV
    simp
    omega
theorem uns_sgn_7 (x : Int) (hx : 0 ≤ x ∧ x < 18446744073709551616) : unsV (sgnV x 7) 7 = x % 72057594037927936 := by
  have e := (sgnV_bd_7 x hx).2.2
  unfold unsV
  rw [if_pos e]
  simp [sgnV]
  try omega
theorem wrap_7 (x : Int) (hx : 0 ≤ x ∧ x < 18446744073709551616) : IntKind.u64.wrap (x * 256) / 256 = x % 72057594037927936 := by
  rw [IntKind.wrap_u64]
  try omega
set_option maxHeartbeats 1000000 in
theorem turns_yes_7 (x v : Int) (w : World) (hx : 0 ≤ x ∧ x < 18446744073709551616) (hv : -9223372036854775808 ≤ v ∧ v < 9223372036854775808) (h : -36028797018963968 ≤ v ∧ v < 36028797018963968) :
    Calls Try.prog 7 #[.int .u64 x, .int .i64 v, .int .i64 7] w fun e w' => e = .returned (.bool true) ∧ Bel w w' := by
  obtain ⟨f1, f2, f3, f4⟩ := sgn_uns_7 v h
  generalize hU : unsV v 7 = U at *
  have F1 := hide f1
  have F4 := hide f4
  have HU := hide hU
  clear f1 f4 hU
  have hq : (U / 72057594037927936 != 0) = false := by simp; omega
  obtain ⟨g1, g2, g3⟩ := sgnV_bd_7 x hx
  have g5 := (uns_sgn_7 x hx).trans (wrap_7 x hx).symm
  generalize hC : sgnV x 7 = C at *
  have G3 := hide g3
  have G5 := hide g5
  have HC := hide hC
  clear g3 g5 hC
  go_enter Try.func7, Try.ntmps7
  go_wp2_with fail
  refine (unsigned_any v 7 _ hv).mono ?_
  rintro e w1 ⟨rfl, rfl⟩
  rw [F1.out, HU.out]
  go_wp2_with fail
  refine (signed_any U 7 _ (by omega)).mono ?_
  rintro e w1 ⟨rfl, rfl⟩
  rw [F4.out, show sgnE 7 = 0 from rfl]
  go_wp2_with fail
  refine (signed_any x 7 _ hx).mono ?_
  rintro e w1 ⟨rfl, rfl⟩
  rw [HC.out, show sgnE 7 = 0 from rfl]
  go_wp2_with fail
  refine (unsigned_any C 7 _ (by omega)).mono ?_
  rintro e w1 ⟨rfl, rfl⟩
  rw [G3.out, G5.out]
  go_wp2_with fail
  refine (awake_any _).mono ?_
  rintro e w1 ⟨rfl, hb1⟩
  go_wp2_with fail
  go_ret
  exact ⟨rfl, (by repeat (first | exact Bel.refl _ | exact Bel.drew (Bel.refl _) | refine Bel.drew ?_ | refine Bel.drewN ?_ _ | refine Bel.alloc ?_ _ | refine Bel.set ?_ (by simp; try omega) _ | refine Bel.trans ?_ (by assumption)))⟩
set_option maxHeartbeats 1000000 in
theorem turns_no_7 (x v : Int) (w : World) (hx : 0 ≤ x ∧ x < 18446744073709551616) (hv : -9223372036854775808 ≤ v ∧ v < 9223372036854775808) (h : ¬ (-36028797018963968 ≤ v ∧ v < 36028797018963968)) :
    Calls Try.prog 7 #[.int .u64 x, .int .i64 v, .int .i64 7] w fun e w' => e = .returned (.bool true) ∧ Bel w w' := by
  have F1 := hide (uns_no_7 v h)
  obtain ⟨g1, g2, g3⟩ := sgnV_bd_7 x hx
  have g5 := (uns_sgn_7 x hx).trans (wrap_7 x hx).symm
  generalize hC : sgnV x 7 = C at *
  have G3 := hide g3
  have G5 := hide g5
  have HC := hide hC
  clear g3 g5 hC
  go_enter Try.func7, Try.ntmps7
  go_wp2_with fail
  refine (unsigned_any v 7 _ hv).mono ?_
  rintro e w1 ⟨rfl, rfl⟩
  rw [F1.out]
  go_wp2_with fail
  refine (signed_any x 7 _ hx).mono ?_
  rintro e w1 ⟨rfl, rfl⟩
  rw [HC.out, show sgnE 7 = 0 from rfl]
  go_wp2_with fail
  refine (unsigned_any C 7 _ (by omega)).mono ?_
  rintro e w1 ⟨rfl, rfl⟩
  rw [G3.out, G5.out]
  go_wp2_with fail
  refine (awake_any _).mono ?_
  rintro e w1 ⟨rfl, hb1⟩
  go_wp2_with fail
  go_ret
  exact ⟨rfl, (by repeat (first | exact Bel.refl _ | exact Bel.drew (Bel.refl _) | refine Bel.drew ?_ | refine Bel.drewN ?_ _ | refine Bel.alloc ?_ _ | refine Bel.set ?_ (by simp; try omega) _ | refine Bel.trans ?_ (by assumption)))⟩
theorem sgn_uns_8 (v : Int) (h : -9223372036854775808 ≤ v ∧ v < 9223372036854775808) : unsE v 8 = 0 ∧ 0 ≤ unsV v 8 ∧ unsV v 8 < 18446744073709551616 ∧ sgnV (unsV v 8) 8 = v := by
  have e : unsE v 8 = 0 := by
    unfold unsE
    simp
    omega
  refine ⟨e, ?_, ?_, ?_⟩
  · unfold unsV; rw [if_pos e]; simp; omega
  · unfold unsV; rw [if_pos e]; simp; omega
  · unfold unsV; rw [if_pos e]; simp [sgnV]; omega
theorem uns_no_8 (v : Int) (h : ¬ (-9223372036854775808 ≤ v ∧ v < 9223372036854775808)) : unsE v 8 = 8 := by
  unfold unsE
  simp
  try omega
theorem sgnV_bd_8 (x : Int) (hx : 0 ≤ x ∧ x < 18446744073709551616) : -9223372036854775808 ≤ sgnV x 8 ∧ sgnV x 8 < 9223372036854775808 ∧ unsE (sgnV x 8) 8 = 0 := by
  refine ⟨?_, ?_, ?_⟩
  · simp [sgnV]; omega
  · simp [sgnV]; omega
  · unfold unsE sgnV
    simp
    omega
theorem uns_sgn_8 (x : Int) (hx : 0 ≤ x ∧ x < 18446744073709551616) : unsV (sgnV x 8) 8 = x % 18446744073709551616 := by
  have e := (sgnV_bd_8 x hx).2.2
  unfold unsV
  rw [if_pos e]
  simp [sgnV]
  try omega
theorem wrap_8 (x : Int) (hx : 0 ≤ x ∧ x < 18446744073709551616) : IntKind.u64.wrap (x * 1) / 1 = x % 18446744073709551616 := by
  rw [IntKind.wrap_u64]
  try omega
set_option maxHeartbeats 1000000 in
theorem turns_yes_8 (x v : Int) (w : World) (hx : 0 ≤ x ∧ x < 18446744073709551616) (hv : -9223372036854775808 ≤ v ∧ v < 9223372036854775808) (h : -9223372036854775808 ≤ v ∧ v < 9223372036854775808) :
    Calls Try.prog 7 #[.int .u64 x, .int .i64 v, .int .i64 8] w fun e w' => e = .returned (.bool true) ∧ Bel w w' := by
  obtain ⟨f1, f2, f3, f4⟩ := sgn_uns_8 v h
  generalize hU : unsV v 8 = U at *
  have F1 := hide f1
  have F4 := hide f4
  have HU := hide hU
  clear f1 f4 hU
  have hq : (U / 18446744073709551616 != 0) = false := by simp; omega
  obtain ⟨g1, g2, g3⟩ := sgnV_bd_8 x hx
  have g5 := (uns_sgn_8 x hx).trans (wrap_8 x hx).symm
  generalize hC : sgnV x 8 = C at *
  have G3 := hide g3
  have G5 := hide g5
  have HC := hide hC
  clear g3 g5 hC
  go_enter Try.func7, Try.ntmps7
  go_wp2_with fail
  refine (unsigned_any v 8 _ hv).mono ?_
  rintro e w1 ⟨rfl, rfl⟩
  rw [F1.out, HU.out]
  go_wp2_with fail
  refine (signed_any U 8 _ (by omega)).mono ?_
  rintro e w1 ⟨rfl, rfl⟩
  rw [F4.out, show sgnE 8 = 0 from rfl]
  go_wp2_with fail
  refine (signed_any x 8 _ hx).mono ?_
  rintro e w1 ⟨rfl, rfl⟩
  rw [HC.out, show sgnE 8 = 0 from rfl]
  go_wp2_with fail
  refine (unsigned_any C 8 _ (by omega)).mono ?_
  rintro e w1 ⟨rfl, rfl⟩
  rw [G3.out, G5.out]
  go_wp2_with fail
  refine (awake_any _).mono ?_
  rintro e w1 ⟨rfl, hb1⟩
  go_wp2_with fail
  go_ret
  exact ⟨rfl, (by repeat (first | exact Bel.refl _ | exact Bel.drew (Bel.refl _) | refine Bel.drew ?_ | refine Bel.drewN ?_ _ | refine Bel.alloc ?_ _ | refine Bel.set ?_ (by simp; try omega) _ | refine Bel.trans ?_ (by assumption)))⟩
set_option maxHeartbeats 1000000 in
theorem turns_no_8 (x v : Int) (w : World) (hx : 0 ≤ x ∧ x < 18446744073709551616) (hv : -9223372036854775808 ≤ v ∧ v < 9223372036854775808) (h : ¬ (-9223372036854775808 ≤ v ∧ v < 9223372036854775808)) :
    Calls Try.prog 7 #[.int .u64 x, .int .i64 v, .int .i64 8] w fun e w' => e = .returned (.bool true) ∧ Bel w w' := by
  have F1 := hide (uns_no_8 v h)
  obtain ⟨g1, g2, g3⟩ := sgnV_bd_8 x hx
  have g5 := (uns_sgn_8 x hx).trans (wrap_8 x hx).symm
  generalize hC : sgnV x 8 = C at *
  have G3 := hide g3
  have G5 := hide g5
  have HC := hide hC
  clear g3 g5 hC
  go_enter Try.func7, Try.ntmps7
  go_wp2_with fail
  refine (unsigned_any v 8 _ hv).mono ?_
  rintro e w1 ⟨rfl, rfl⟩
  rw [F1.out]
  go_wp2_with fail
  refine (signed_any x 8 _ hx).mono ?_
  rintro e w1 ⟨rfl, rfl⟩
  rw [HC.out, show sgnE 8 = 0 from rfl]
  go_wp2_with fail
  refine (unsigned_any C 8 _ (by omega)).mono ?_
  rintro e w1 ⟨rfl, rfl⟩
  rw [G3.out, G5.out]
  go_wp2_with fail
  refine (awake_any _).mono ?_
  rintro e w1 ⟨rfl, hb1⟩
  go_wp2_with fail
  go_ret
  exact ⟨rfl, (by repeat (first | exact Bel.refl _ | exact Bel.drew (Bel.refl _) | refine Bel.drew ?_ | refine Bel.drewN ?_ _ | refine Bel.alloc ?_ _ | refine Bel.set ?_ (by simp; try omega) _ | refine Bel.trans ?_ (by assumption)))⟩
set_option maxHeartbeats 1000000 in
theorem turns_out (x v n : Int) (w : World) (hx : 0 ≤ x ∧ x < 18446744073709551616) (hv : -9223372036854775808 ≤ v ∧ v < 9223372036854775808) (h : ¬ (1 ≤ n ∧ n ≤ 8)) :
    Calls Try.prog 7 #[.int .u64 x, .int .i64 v, .int .i64 n] w fun e w' => e = .returned (.bool true) ∧ Bel w w' := by
  have F1 : Hid (unsE v n = 2) := hide (if_neg h)
  have F2 : Hid (sgnE n = 2) := hide (if_neg h)
  go_enter Try.func7, Try.ntmps7
  go_wp2_with fail
  refine (unsigned_any v n _ hv).mono ?_
  rintro e w1 ⟨rfl, rfl⟩
  rw [F1.out]
  go_wp2_with fail
  refine (signed_any x n _ hx).mono ?_
  rintro e w1 ⟨rfl, rfl⟩
  rw [F2.out]
  go_wp2_with fail
  refine (awake_any _).mono ?_
  rintro e w1 ⟨rfl, hb1⟩
  go_wp2_with fail
  go_ret
  exact ⟨rfl, (by repeat (first | exact Bel.refl _ | exact Bel.drew (Bel.refl _) | refine Bel.drew ?_ | refine Bel.drewN ?_ _ | refine Bel.alloc ?_ _ | refine Bel.set ?_ (by simp; try omega) _ | refine Bel.trans ?_ (by assumption)))⟩
theorem LittleTurns_walk (x v n : Int) (w : World) (hx : 0 ≤ x ∧ x < 18446744073709551616) (hv : -9223372036854775808 ≤ v ∧ v < 9223372036854775808) :
    Calls Try.prog 7 #[.int .u64 x, .int .i64 v, .int .i64 n] w fun e w' => e = .returned (.bool true) ∧ Bel w w' := by
  by_cases h : 1 ≤ n ∧ n ≤ 8
  · rcases range8 h with rfl | rfl | rfl | rfl | rfl | rfl | rfl | rfl
    · by_cases h : -128 ≤ v ∧ v < 128
      · exact turns_yes_1 x v w hx hv h
      · exact turns_no_1 x v w hx hv h
    · by_cases h : -32768 ≤ v ∧ v < 32768
      · exact turns_yes_2 x v w hx hv h
      · exact turns_no_2 x v w hx hv h
    · by_cases h : -8388608 ≤ v ∧ v < 8388608
      · exact turns_yes_3 x v w hx hv h
      · exact turns_no_3 x v w hx hv h
    · by_cases h : -2147483648 ≤ v ∧ v < 2147483648
      · exact turns_yes_4 x v w hx hv h
      · exact turns_no_4 x v w hx hv h
    · by_cases h : -549755813888 ≤ v ∧ v < 549755813888
      · exact turns_yes_5 x v w hx hv h
      · exact turns_no_5 x v w hx hv h
    · by_cases h : -140737488355328 ≤ v ∧ v < 140737488355328
      · exact turns_yes_6 x v w hx hv h
      · exact turns_no_6 x v w hx hv h
    · by_cases h : -36028797018963968 ≤ v ∧ v < 36028797018963968
      · exact turns_yes_7 x v w hx hv h
      · exact turns_no_7 x v w hx hv h
    · exact turns_yes_8 x v w hx hv hv
  · exact turns_out x v n w hx hv h
theorem LittleTurns_read {H : Type} {enc : TypeId × Value → H} (w : World) {base : Nat} {v0 v1 v2 : Value} {d0 d1 d2 : DataW H} {p0 p1 p2 : List MemPlace}
    (k0 : Value.okWide Try.prog w .any base 23 v0) (h0 : DataW.Trod enc Try.prog w 0 (fun _ => true) true 23 v0 d0 p0)
    (k1 : Value.okWide Try.prog w .any base 2 v1) (h1 : DataW.Trod enc Try.prog w 0 (fun _ => true) true 2 v1 d1 p1)
    (k2 : Value.okWide Try.prog w .any base 3 v2) (h2 : DataW.Trod enc Try.prog w 0 (fun _ => true) true 3 v2 d2 p2) :
    Calls Try.prog 7 #[v0, v1, v2] w fun e w' => e = .returned (.bool true) ∧ Bel w w' := by
  obtain ⟨x, rfl, _, _, hx⟩ := ChangeShapes.open_int Try.underlying23 k0 h0
  obtain ⟨v, rfl, _, _, hv⟩ := ChangeShapes.open_int Try.underlying2 k1 h1
  obtain ⟨n, rfl, _, _, hn⟩ := ChangeShapes.open_int Try.underlying3 k2 h2
  exact LittleTurns_walk x v n w (wf_u64 hx) (wf_i64 hv)
namespace littleTurns
open Go.ChangeShapes Go.WideShapes Go.ChangeAt Go.RowKit
theorem own : ownKnob Try.prog.godebug = none := by kernel_rfl
theorem laidOut : laidOutB Try.prog = true := by kernel_rfl
set_option maxRecDepth 100000 in
theorem lifted (os : Os) (started : os.Started) (H : Type) (enc : TypeId × Value → H) :
    ReturnsInHanded {} Try.checked os 7 .any (Rows.littleTurnsSpec.pre6 enc Try.prog Try.f7 Rows.littleTurnsRow.domain false) (Rows.littleTurnsSpec.post enc Try.prog Try.f7 false true false false) := by
  refine returnsInHanded_of_change (C := Try.checked) own started (by kernel_rfl) Try.func7
    (ChangeSpec.witness6 (enc := enc) (C := Try.checked) false ⟨#[], #[.int .u64 0, .int .i64 0, .int .i64 0], []⟩ 8 (by kernel_rfl) (by kernel_rfl) (by kernel_rfl) (by kernel_rfl)) ?_
  intro W base args ds gs before hval0 hW hcnd _
  have hval : ∀ (j : Nat) t v, Try.f7.params[j]? = some t → args[j]? = some v → Value.okWide Try.prog W .any base t v := hval0
  have hW' := hW
  obtain ⟨p, q, hA0, hV, rfl, hfz, hnd⟩ := hW
  have hA : DataW.TrodAll enc Try.prog W 0 (fun _ => true) true Try.f7.params.toList args.toList ds p := hA0
  rw [Try.params7] at hA hval
  obtain ⟨v0, vs0, d0, ds0, p0, q0, hargs, rfl, rfl, h0, r0⟩ := trodAll_cons hA
  obtain ⟨v1, vs1, d1, ds1, p1, q1, rfl, rfl, rfl, h1, r1⟩ := trodAll_cons r0
  obtain ⟨v2, vs2, d2, ds2, p2, q2, rfl, rfl, rfl, h2, r2⟩ := trodAll_cons r1
  obtain ⟨rfl, rfl, rfl⟩ := trodAll_nil r2
  obtain rfl : args = #[v0, v1, v2] := by cases args; simp_all
  obtain ⟨rfl, rfl⟩ := trodVars_none hV
  have lt0 : ∀ x ∈ p0, x.block < W.heap.size := by obtain ⟨m, hm⟩ := h0; exact DataW.trod_lt m _ _ _ hm
  have lt1 : ∀ x ∈ p1, x.block < W.heap.size := by obtain ⟨m, hm⟩ := h1; exact DataW.trod_lt m _ _ _ hm
  have lt2 : ∀ x ∈ p2, x.block < W.heap.size := by obtain ⟨m, hm⟩ := h2; exact DataW.trod_lt m _ _ _ hm
  refine (LittleTurns_read W (hval 0 23 v0 rfl rfl) h0 (hval 1 2 v1 rfl rfl) h1 (hval 2 3 v2 rfl rfl) h2).mono fun e W' ⟨he, bel0⟩ => ?_
  have bel : Below W.heap.size W W' := bel0
  subst he
  exact ⟨_, rfl, _, _, _, [], _, [], hW', trodAll_mk1 (shut_bool Try.underlying4 _), (trodAll_cons_mk (Below.trod laidOut (by kernel_rfl) (of_decide_eq_true (by kernel_rfl)) h0 bel lt0) (trodAll_cons_mk (Below.trod laidOut (by kernel_rfl) (of_decide_eq_true (by kernel_rfl)) h1 bel lt1) (trodAll_cons_mk (Below.trod laidOut (by kernel_rfl) (of_decide_eq_true (by kernel_rfl)) h2 bel lt2) trodAll_mk0))), rfl, bel.frame _, fun h => by cases h⟩
theorem over : Rows.littleTurnsRow.holds Try.pinned (OpenSpec.ofChange Rows.littleTurnsSpec) :=
  OpenClaim.holds_of_wide 7 Try.f7 rfl rfl rfl rfl rfl rfl rfl ⟨rfl, rfl, rfl, rfl, rfl⟩ rfl rfl rfl rfl rfl (by kernel_rfl) Try.func7 (by kernel_rfl)
    (of_decide_eq_true (by kernel_rfl)) (by unfold Func.isWrapper; first | (rw [if_pos (by decide +kernel)]; kernel_rfl) | (rw [if_neg (by decide +kernel)]; exact ⟨rfl, rfl⟩))
    (fun os started H enc _ => lifted os started H enc)
theorem proved : Rows.LittleTurnsSaid := over
#print axioms proved
end littleTurns
end Go.Proofs.Ytnnmbmgfjbiejaa
