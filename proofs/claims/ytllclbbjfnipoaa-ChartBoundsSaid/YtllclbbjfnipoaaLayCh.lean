/- slices.Grow, math/bits.Len64, by the library's contracts. No conditions but of lengths. -/
import Derived.Test.YtllclbbjfnipoaaTy
import Derived.Test.YtllclbbjfnipoaaGsx4
import Derived.Shelf.Spec.SlicesGrow
import Derived.Shelf.Strconv.Itoa0
namespace Go.Proofs.Ytllclbbjfnipoaa
open Go.RowKit
set_option linter.unusedVariables false
set_option linter.unusedSimpArgs false
def clen_rho : Go.Shelf.Ren := ⟨fun n => match n with | 0 => 0 | 1 => 1 | 2 => 2 | 99 => 42 | 105 => 29 | 125 => 53 | 128 => 68 | 129 => 50 | 165 => 43 | 166 => 44 | 169 => 46 | 170 => 45 | 206 => 57 | 212 => 41 | 240 => 58 | 241 => 59 | 263 => 55 | 264 => 56 | 276 => 69 | 277 => 70 | 329 => 72 | 330 => 73 | 347 => 77 | 348 => 78 | 349 => 79 | 350 => 80 | 351 => 81 | 352 => 82 | 353 => 83 | 354 => 84 | 355 => 85 | 356 => 86 | 357 => 87 | 358 => 88 | 359 => 89 | 360 => 90 | 361 => 91 | 362 => 93 | 366 => 94 | _ => 0, fun n => match n with | 0 => 0 | 1 => 1 | 2 => 2 | 3 => 3 | 4 => 4 | 5 => 5 | 6 => 6 | 7 => 7 | 8 => 8 | 9 => 9 | 10 => 10 | 11 => 11 | 12 => 12 | 13 => 13 | 14 => 14 | 15 => 15 | 16 => 16 | 17 => 17 | 18 => 18 | 19 => 19 | 20 => 20 | 21 => 21 | 22 => 82 | 24 => 41 | 26 => 65 | 37 => 84 | 46 => 79 | 47 => 100 | 49 => 64 | 51 => 102 | 52 => 115 | 53 => 23 | 54 => 72 | 70 => 83 | 71 => 85 | 72 => 86 | 73 => 87 | 74 => 88 | 75 => 89 | 76 => 90 | 77 => 91 | 80 => 92 | 81 => 47 | 109 => 80 | 110 => 81 | 127 => 107 | 131 => 67 | 146 => 103 | 147 => 104 | 148 => 105 | 149 => 106 | 164 => 116 | 165 => 117 | 166 => 118 | 182 => 109 | 183 => 110 | 218 => 119 | 219 => 120 | 220 => 121 | 222 => 123 | 228 => 125 | 229 => 126 | 238 => 128 | 239 => 129 | 240 => 130 | 241 => 131 | 242 => 132 | 243 => 133 | 244 => 134 | 245 => 135 | 246 => 136 | 247 => 137 | 248 => 138 | 249 => 139 | _ => 0, fun n => match n with | 1 => 0 | _ => 0⟩
theorem clen0 : Lays.n129 Try.prog clen_rho where
  mixed := by kernel_rfl
  f129 := by kernel_rfl
  t3 := by kernel_rfl
  a3 := fun w => by kernel_rfl
  z3 := fun w => by kernel_rfl
  v3 := fun w => by kernel_rfl
  t4 := by kernel_rfl
  a4 := fun w => by kernel_rfl
  z4 := fun w => by kernel_rfl
  v4 := fun w => by kernel_rfl
  t5 := by kernel_rfl
  a5 := fun w => by kernel_rfl
  z5 := fun w => by kernel_rfl
  v5 := fun w => by kernel_rfl
  t9 := by kernel_rfl
  a9 := fun w => by kernel_rfl
  z9 := fun w => by kernel_rfl
  v9 := fun w => by kernel_rfl
  t46 := by kernel_rfl
  a46 := fun w => by kernel_rfl
  z46 := fun w => by kernel_rfl
  v46 := fun w => by kernel_rfl
  t53 := by kernel_rfl
  a53 := fun w => by kernel_rfl
  z53 := fun w => by kernel_rfl
  v53 := fun w => by kernel_rfl
def growI_rho : Go.Shelf.Ren := ⟨fun n => match n with | 4 => 49 | _ => 0, fun n => match n with | 0 => 0 | 3 => 3 | 4 => 4 | 9 => 9 | 20 => 20 | 22 => 24 | 25 => 52 | _ => 0, fun n => match n with | _ => 0⟩
theorem growI0 : Lays8.n4 Try.prog growI_rho where
  mixed := by kernel_rfl
  f4 := ⟨"slices.Grow[[]gazetteer/chart.Item,gazetteer/chart.Item]", by decide, by kernel_rfl⟩
  t0 := by kernel_rfl
  a0 := fun w => by kernel_rfl
  z0 := fun w => by kernel_rfl
  v0 := fun w => by kernel_rfl
  t3 := by kernel_rfl
  a3 := fun w => by kernel_rfl
  z3 := fun w => by kernel_rfl
  v3 := fun w => by kernel_rfl
  t4 := by kernel_rfl
  a4 := fun w => by kernel_rfl
  z4 := fun w => by kernel_rfl
  v4 := fun w => by kernel_rfl
  t9 := by kernel_rfl
  a9 := fun w => by kernel_rfl
  z9 := fun w => by kernel_rfl
  v9 := fun w => by kernel_rfl
  t20 := by kernel_rfl
  a20 := fun w => by kernel_rfl
  z20 := fun w => by kernel_rfl
  v20 := fun w => by kernel_rfl
  t22 := by kernel_rfl
  a22 := fun w => by kernel_rfl
  z22 := fun w => by kernel_rfl
  v22 := fun w => by kernel_rfl
theorem enter_clen : Enters Try.prog 50 := Enters.mk Try.func50 (by kernel_rfl) (by kernel_rfl)
theorem enter_growI : Enters Try.prog 49 := Enters.mk Try.func49 (by kernel_rfl) (by kernel_rfl)
theorem clen_fn (n : Nat) (h : n < 18446744073709551616) : Fn Try.prog 50 [uq n] [] fun v _ => v = iq (Lib.bitLen n) :=
  Fn.of_bel enter_clen fun w => (Any.bits_Len64 clen0 n w (by omega) (by omega)).mono fun e w' ⟨he, hw⟩ => ⟨he, hw ▸ Bel.refl w⟩
theorem growI_fn (n : Nat) (h : n ≤ 1000000) : Fn Try.prog 49 [.slice none 0 0, iq n] [] fun v H' => RowOk v 0 ∧ H' = rowE v 52 2 [] := by
  refine ⟨enter_growI, fun w hw => ?_⟩
  rcases Nat.eq_zero_or_pos n with h0 | h0
  · subst h0
    have h1 : Calls Try.prog 49 #[.slice none 0 0, iq (0 : Nat)] w _ := Any8.slices_Grow_room growI0 none 0 0 0 w (Nat.le_refl _) (by omega) (by omega) (Nat.le_refl _)
    exact h1.mono fun e w' ⟨he, hw'⟩ => ⟨_, [], he, ⟨RowOk.nil, rfl⟩, hw' ▸ hw⟩
  · obtain ⟨i0, hi0, hz0, hs0, hb0⟩ : ∃ i0, Try.prog.info? 52 = some i0 ∧ i0.zero = some (.agg #[uq 0, .string ⟨#[]⟩]) ∧ i0.size = 2 ∧ i0.bytes = 24 := by
      exact info_parts (by kernel_rfl)
    have h1 : Calls Try.prog 49 #[.slice none 0 0, iq (n : Nat)] w _ := Any8.slices_Grow_grow growI0 i0 _ hi0 hz0 (by omega) none 0 0 n [] w (Nat.le_refl _) (by omega) (by rw [hb0]; omega) (by omega) (by simp) (fun _ => rfl) (fun a h => by cases h)
    refine h1.mono fun e w' ⟨he, hw'⟩ => ⟨_, _, he, ⟨RowOk.mk _ _ _, rfl⟩, ?_⟩
    subst hw'
    have hd := hw.drew
    refine (hd.allocOb _ (RowP 52 2 0 _ []) ⟨_, rfl, Nat.zero_le _, grownCap_le_maxLen w _ _ _ (by unfold maxLen; omega), ?_, by simp, rfl⟩)
    simp only [Array.size_append, List.size_toArray, size_zeroCells, List.length_nil]
    simp only [growI_rho]
    have := grownCap_ge w n 0 52
    simp [Value.cells]
    omega
end Go.Proofs.Ytllclbbjfnipoaa
