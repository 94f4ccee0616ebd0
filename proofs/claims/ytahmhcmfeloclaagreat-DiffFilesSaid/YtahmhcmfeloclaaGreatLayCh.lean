/- slices.Grow, math/bits.Len64, by the library's contracts. No conditions but of lengths. -/
import Derived.Test.YtahmhcmfeloclaaGreatTy
import Derived.Test.YtahmhcmfeloclaaGreatGsx4
import Derived.Shelf.Spec.SlicesGrow
import Derived.Shelf.Strconv.Itoa0
namespace Go.Proofs.YtahmhcmfeloclaaGreat
open Go.RowKit
set_option linter.unusedVariables false
set_option linter.unusedSimpArgs false
def clen_rho : Go.Shelf.Ren := ⟨fun n => match n with | 0 => 0 | 1 => 1 | 2 => 2 | 99 => 82 | 125 => 30 | 128 => 54 | 129 => 55 | 206 => 101 | 329 => 75 | 330 => 76 | 347 => 116 | 348 => 117 | 349 => 118 | 350 => 119 | 351 => 120 | 352 => 121 | 353 => 122 | 354 => 123 | 355 => 124 | 356 => 125 | 357 => 126 | 358 => 127 | 359 => 128 | 360 => 129 | 361 => 130 | 366 => 134 | _ => 0, fun n => match n with | 0 => 0 | 1 => 1 | 2 => 2 | 3 => 3 | 4 => 4 | 5 => 5 | 6 => 6 | 7 => 7 | 8 => 8 | 9 => 9 | 10 => 10 | 11 => 11 | 12 => 12 | 13 => 13 | 14 => 14 | 15 => 15 | 16 => 16 | 17 => 17 | 18 => 18 | 19 => 19 | 20 => 20 | 21 => 21 | 22 => 32 | 24 => 72 | 28 => 190 | 46 => 76 | 47 => 75 | 51 => 95 | 52 => 118 | 53 => 38 | 54 => 119 | 80 => 192 | 81 => 163 | 111 => 189 | 127 => 201 | 131 => 116 | 164 => 206 | 182 => 111 | 183 => 112 | 218 => 149 | 219 => 150 | 220 => 126 | 222 => 152 | 228 => 174 | 229 => 171 | 238 => 193 | 239 => 194 | 240 => 195 | 241 => 196 | 242 => 197 | 243 => 198 | 244 => 199 | 245 => 200 | 246 => 202 | 247 => 203 | 248 => 204 | 249 => 205 | _ => 0, fun n => match n with | _ => 0⟩
def growI_rho : Go.Shelf.Ren := ⟨fun n => match n with | 4 => 81 | _ => 0, fun n => match n with | 0 => 0 | 3 => 3 | 4 => 4 | 9 => 9 | 20 => 20 | 22 => 33 | 25 => 40 | _ => 0, fun n => match n with | _ => 0⟩
theorem growI0 : Lays8.n4 Tryz.prog growI_rho where
  mixed := by kernel_rfl
  f4 := ⟨"slices.Grow[[]gazetteer/chart.Item,gazetteer/chart.Item]", by decide, by kernel_rfl⟩
  t0 := by kernel_rfl
  a0 := fun w => by kernel_rfl
  z0 := fun w => by kernel_rfl
  v0 := fun w => by kernel_rfl
  t3 := by kernel_rfl
  a3 := fun w => by kernel_rfl
  z3 := fun w => by kernel_rfl
  v3 := fun w => by kernel_rfl
  t4 := by kernel_rfl
  a4 := fun w => by kernel_rfl
  z4 := fun w => by kernel_rfl
  v4 := fun w => by kernel_rfl
  t9 := by kernel_rfl
  a9 := fun w => by kernel_rfl
  z9 := fun w => by kernel_rfl
  v9 := fun w => by kernel_rfl
  t20 := by kernel_rfl
  a20 := fun w => by kernel_rfl
  z20 := fun w => by kernel_rfl
  v20 := fun w => by kernel_rfl
  t22 := by kernel_rfl
  a22 := fun w => by kernel_rfl
  z22 := fun w => by kernel_rfl
  v22 := fun w => by kernel_rfl
theorem enter_growI : Enters Tryz.prog 81 := Enters.mk Tryz.func81 (by kernel_rfl) (by kernel_rfl)
theorem growI_fn (n : Nat) (h : n ≤ 1000000) : Fn Tryz.prog 81 [.slice none 0 0, iq n] [] fun v H' => RowOk v 0 ∧ H' = rowE v 40 2 [] := by
  refine ⟨enter_growI, fun w hw => ?_⟩
  rcases Nat.eq_zero_or_pos n with h0 | h0
  · subst h0
    have h1 : Calls Tryz.prog 81 #[.slice none 0 0, iq (0 : Nat)] w _ := Any8.slices_Grow_room growI0 none 0 0 0 w (Nat.le_refl _) (by omega) (by omega) (Nat.le_refl _)
    exact h1.mono fun e w' ⟨he, hw'⟩ => ⟨_, [], he, ⟨RowOk.nil, rfl⟩, hw' ▸ hw⟩
  · obtain ⟨i0, hi0, hz0, hs0, hb0⟩ : ∃ i0, Tryz.prog.info? 40 = some i0 ∧ i0.zero = some (.agg #[uq 0, .string ⟨#[]⟩]) ∧ i0.size = 2 ∧ i0.bytes = 24 := by
      exact info_parts (by kernel_rfl)
    have h1 : Calls Tryz.prog 81 #[.slice none 0 0, iq (n : Nat)] w _ := Any8.slices_Grow_grow growI0 i0 _ hi0 hz0 (by omega) none 0 0 n [] w (Nat.le_refl _) (by omega) (by rw [hb0]; omega) (by omega) (by simp) (fun _ => rfl) (fun a h => by cases h)
    refine h1.mono fun e w' ⟨he, hw'⟩ => ⟨_, _, he, ⟨RowOk.mk _ _ _, rfl⟩, ?_⟩
    subst hw'
    have hd := hw.drew
    refine (hd.allocOb _ (RowP 40 2 0 _ []) ⟨_, rfl, Nat.zero_le _, grownCap_le_maxLen w _ _ _ (by unfold maxLen; omega), ?_, by simp, rfl⟩)
    simp only [Array.size_append, List.size_toArray, size_zeroCells, List.length_nil]
    simp only [growI_rho]
    have := grownCap_ge w n 0 40
    simp [Value.cells]
    omega
end Go.Proofs.YtahmhcmfeloclaaGreat
