/- slices.Grow, by the library's contracts. No conditions but of lengths. -/
import Derived.Test.YtbldhokgbcljjaaKv1
import Derived.Test.YtbldhokgbcljjaaGsx4
import Derived.Shelf.Spec.SlicesGrow
namespace Go.Proofs.Ytbldhokgbcljjaa
open Go.RowKit
set_option linter.unusedVariables false
set_option linter.unusedSimpArgs false
def growS_rho : Go.Shelf.Ren := ⟨fun n => match n with | 4 => 100 | _ => 0, fun n => match n with | 0 => 0 | 3 => 3 | 4 => 4 | 9 => 9 | 20 => 20 | 22 => 24 | 25 => 43 | _ => 0, fun n => match n with | _ => 0⟩
theorem growS0 : Lays8.n4 Try.prog growS_rho where
  mixed := by kernel_rfl
  f4 := ⟨"slices.Grow[[]gazetteer/cover.Span,gazetteer/cover.Span]", by decide, by kernel_rfl⟩
  t0 := by kernel_rfl
  a0 := fun w => by kernel_rfl
  z0 := fun w => by kernel_rfl
  v0 := fun w => by kernel_rfl
  t3 := by kernel_rfl
  a3 := fun w => by kernel_rfl
  z3 := fun w => by kernel_rfl
  v3 := fun w => by kernel_rfl
  t4 := by kernel_rfl
  a4 := fun w => by kernel_rfl
  z4 := fun w => by kernel_rfl
  v4 := fun w => by kernel_rfl
  t9 := by kernel_rfl
  a9 := fun w => by kernel_rfl
  z9 := fun w => by kernel_rfl
  v9 := fun w => by kernel_rfl
  t20 := by kernel_rfl
  a20 := fun w => by kernel_rfl
  z20 := fun w => by kernel_rfl
  v20 := fun w => by kernel_rfl
  t22 := by kernel_rfl
  a22 := fun w => by kernel_rfl
  z22 := fun w => by kernel_rfl
  v22 := fun w => by kernel_rfl
theorem enter_growS : Enters Try.prog 100 := Enters.mk Try.func100 (by kernel_rfl) (by kernel_rfl)
theorem growS_fn (n : Nat) (h : n ≤ 1000000) : Fn Try.prog 100 [.slice none 0 0, iq n] [] fun v H' => RowOk v 0 ∧ H' = rowE v 43 2 [] := by
  refine ⟨enter_growS, fun w hw => ?_⟩
  rcases Nat.eq_zero_or_pos n with h0 | h0
  · subst h0
    have h1 : Calls Try.prog 100 #[.slice none 0 0, iq (0 : Nat)] w _ := Any8.slices_Grow_room growS0 none 0 0 0 w (Nat.le_refl _) (by omega) (by omega) (Nat.le_refl _)
    exact h1.mono fun e w' ⟨he, hw'⟩ => ⟨_, [], he, ⟨RowOk.nil, rfl⟩, hw' ▸ hw⟩
  · obtain ⟨i0, hi0, hz0, hs0, hb0⟩ : ∃ i0, Try.prog.info? 43 = some i0 ∧ i0.zero = some (.agg #[uq 0, uq 0]) ∧ i0.size = 2 ∧ i0.bytes = 16 := by
      exact info_parts (by kernel_rfl)
    have h1 : Calls Try.prog 100 #[.slice none 0 0, iq (n : Nat)] w _ := Any8.slices_Grow_grow growS0 i0 _ hi0 hz0 (by omega) none 0 0 n [] w (Nat.le_refl _) (by omega) (by rw [hb0]; omega) (by omega) (by simp) (fun _ => rfl) (fun a h => by cases h)
    refine h1.mono fun e w' ⟨he, hw'⟩ => ⟨_, _, he, ⟨RowOk.mk _ _ _, rfl⟩, ?_⟩
    subst hw'
    have hd := hw.drew
    refine (hd.allocOb _ (RowP 43 2 0 _ []) ⟨_, rfl, Nat.zero_le _, grownCap_le_maxLen w _ _ _ (by unfold maxLen; omega), ?_, by simp, rfl⟩)
    simp only [Array.size_append, List.size_toArray, size_zeroCells, List.length_nil]
    simp only [growS_rho]
    have := grownCap_ge w n 0 43
    simp [Value.cells]
    omega
end Go.Proofs.Ytbldhokgbcljjaa
