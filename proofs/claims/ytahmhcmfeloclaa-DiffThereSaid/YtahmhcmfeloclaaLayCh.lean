/- slices.Grow, math/bits.Len64, by the library's contracts. No conditions but of lengths. -/
import Derived.Test.YtahmhcmfeloclaaTy
import Derived.Test.YtahmhcmfeloclaaGsx4
import Derived.Shelf.Spec.SlicesGrow
import Derived.Shelf.Strconv.Itoa0
namespace Go.Proofs.Ytahmhcmfeloclaa
open Go.RowKit
set_option linter.unusedVariables false
set_option linter.unusedSimpArgs false
def clen_rho : Go.Shelf.Ren := ⟨fun n => match n with | 0 => 0 | 1 => 1 | 2 => 2 | 99 => 80 | 125 => 45 | 128 => 58 | 129 => 59 | 206 => 91 | 329 => 67 | 330 => 68 | 347 => 102 | 348 => 103 | 349 => 104 | 350 => 105 | 351 => 106 | 352 => 107 | 353 => 108 | 354 => 109 | 355 => 110 | 356 => 111 | 357 => 112 | 358 => 113 | 359 => 114 | 360 => 115 | 361 => 116 | 366 => 120 | _ => 0, fun n => match n with | 0 => 0 | 1 => 1 | 2 => 2 | 3 => 3 | 4 => 4 | 5 => 5 | 6 => 6 | 7 => 7 | 8 => 8 | 9 => 9 | 10 => 10 | 11 => 11 | 12 => 12 | 13 => 13 | 14 => 14 | 15 => 15 | 16 => 16 | 17 => 17 | 18 => 18 | 19 => 19 | 20 => 20 | 21 => 21 | 22 => 143 | 24 => 49 | 28 => 162 | 46 => 87 | 47 => 86 | 51 => 102 | 52 => 101 | 53 => 51 | 54 => 103 | 80 => 164 | 81 => 149 | 111 => 161 | 127 => 173 | 131 => 73 | 164 => 178 | 182 => 95 | 183 => 96 | 218 => 121 | 219 => 122 | 220 => 123 | 222 => 125 | 228 => 140 | 229 => 141 | 238 => 165 | 239 => 166 | 240 => 167 | 241 => 168 | 242 => 169 | 243 => 170 | 244 => 171 | 245 => 172 | 246 => 174 | 247 => 175 | 248 => 176 | 249 => 177 | _ => 0, fun n => match n with | _ => 0⟩
theorem clen0 : Lays.n129 Try.prog clen_rho where
  mixed := by kernel_rfl
  f129 := by kernel_rfl
  t3 := by kernel_rfl
  a3 := fun w => by kernel_rfl
  z3 := fun w => by kernel_rfl
  v3 := fun w => by kernel_rfl
  t4 := by kernel_rfl
  a4 := fun w => by kernel_rfl
  z4 := fun w => by kernel_rfl
  v4 := fun w => by kernel_rfl
  t5 := by kernel_rfl
  a5 := fun w => by kernel_rfl
  z5 := fun w => by kernel_rfl
  v5 := fun w => by kernel_rfl
  t9 := by kernel_rfl
  a9 := fun w => by kernel_rfl
  z9 := fun w => by kernel_rfl
  v9 := fun w => by kernel_rfl
  t46 := by kernel_rfl
  a46 := fun w => by kernel_rfl
  z46 := fun w => by kernel_rfl
  v46 := fun w => by kernel_rfl
  t53 := by kernel_rfl
  a53 := fun w => by kernel_rfl
  z53 := fun w => by kernel_rfl
  v53 := fun w => by kernel_rfl
def growI_rho : Go.Shelf.Ren := ⟨fun n => match n with | 4 => 65 | _ => 0, fun n => match n with | 0 => 0 | 3 => 3 | 4 => 4 | 9 => 9 | 20 => 20 | 22 => 27 | 25 => 60 | _ => 0, fun n => match n with | _ => 0⟩
theorem growI0 : Lays8.n4 Try.prog growI_rho where
  mixed := by kernel_rfl
  f4 := ⟨"slices.Grow[[]gazetteer/chart.Item,gazetteer/chart.Item]", by decide, by kernel_rfl⟩
  t0 := by kernel_rfl
  a0 := fun w => by kernel_rfl
  z0 := fun w => by kernel_rfl
  v0 := fun w => by kernel_rfl
  t3 := by kernel_rfl
  a3 := fun w => by kernel_rfl
  z3 := fun w => by kernel_rfl
  v3 := fun w => by kernel_rfl
  t4 := by kernel_rfl
  a4 := fun w => by kernel_rfl
  z4 := fun w => by kernel_rfl
  v4 := fun w => by kernel_rfl
  t9 := by kernel_rfl
  a9 := fun w => by kernel_rfl
  z9 := fun w => by kernel_rfl
  v9 := fun w => by kernel_rfl
  t20 := by kernel_rfl
  a20 := fun w => by kernel_rfl
  z20 := fun w => by kernel_rfl
  v20 := fun w => by kernel_rfl
  t22 := by kernel_rfl
  a22 := fun w => by kernel_rfl
  z22 := fun w => by kernel_rfl
  v22 := fun w => by kernel_rfl
theorem enter_clen : Enters Try.prog 59 := Enters.mk Try.func59 (by kernel_rfl) (by kernel_rfl)
theorem enter_growI : Enters Try.prog 65 := Enters.mk Try.func65 (by kernel_rfl) (by kernel_rfl)
theorem clen_fn (n : Nat) (h : n < 18446744073709551616) : Fn Try.prog 59 [uq n] [] fun v _ => v = iq (Lib.bitLen n) :=
  Fn.of_bel enter_clen fun w => (Any.bits_Len64 clen0 n w (by omega) (by omega)).mono fun e w' ⟨he, hw⟩ => ⟨he, hw ▸ Bel.refl w⟩
theorem growI_fn (n : Nat) (h : n ≤ 1000000) : Fn Try.prog 65 [.slice none 0 0, iq n] [] fun v H' => RowOk v 0 ∧ H' = rowE v 60 2 [] := by
  refine ⟨enter_growI, fun w hw => ?_⟩
  rcases Nat.eq_zero_or_pos n with h0 | h0
  · subst h0
    have h1 : Calls Try.prog 65 #[.slice none 0 0, iq (0 : Nat)] w _ := Any8.slices_Grow_room growI0 none 0 0 0 w (Nat.le_refl _) (by omega) (by omega) (Nat.le_refl _)
    exact h1.mono fun e w' ⟨he, hw'⟩ => ⟨_, [], he, ⟨RowOk.nil, rfl⟩, hw' ▸ hw⟩
  · obtain ⟨i0, hi0, hz0, hs0, hb0⟩ : ∃ i0, Try.prog.info? 60 = some i0 ∧ i0.zero = some (.agg #[uq 0, .string ⟨#[]⟩]) ∧ i0.size = 2 ∧ i0.bytes = 24 := by
      exact info_parts (by kernel_rfl)
    have h1 : Calls Try.prog 65 #[.slice none 0 0, iq (n : Nat)] w _ := Any8.slices_Grow_grow growI0 i0 _ hi0 hz0 (by omega) none 0 0 n [] w (Nat.le_refl _) (by omega) (by rw [hb0]; omega) (by omega) (by simp) (fun _ => rfl) (fun a h => by cases h)
    refine h1.mono fun e w' ⟨he, hw'⟩ => ⟨_, _, he, ⟨RowOk.mk _ _ _, rfl⟩, ?_⟩
    subst hw'
    have hd := hw.drew
    refine (hd.allocOb _ (RowP 60 2 0 _ []) ⟨_, rfl, Nat.zero_le _, grownCap_le_maxLen w _ _ _ (by unfold maxLen; omega), ?_, by simp, rfl⟩)
    simp only [Array.size_append, List.size_toArray, size_zeroCells, List.length_nil]
    simp only [growI_rho]
    have := grownCap_ge w n 0 60
    simp [Value.cells]
    omega
end Go.Proofs.Ytahmhcmfeloclaa
