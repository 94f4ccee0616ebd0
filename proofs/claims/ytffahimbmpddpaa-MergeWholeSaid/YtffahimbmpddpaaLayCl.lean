/- strings.Clone, by the library's contract. No conditions but of lengths. -/
import Derived.Test.YtffahimbmpddpaaTy
import Derived.Test.YtffahimbmpddpaaGsx4
import Derived.Shelf.Pu.Clone
namespace Go.Proofs.Ytffahimbmpddpaa
open Go.RowKit
set_option linter.unusedVariables false
set_option linter.unusedSimpArgs false
def scl_rho : Go.Shelf.Ren := ⟨fun n => match n with | 25 => 73 | _ => 0, fun n => match n with | 0 => 0 | 3 => 3 | 4 => 4 | 5 => 5 | 9 => 9 | 37 => 111 | 47 => 146 | _ => 0, fun n => match n with | _ => 0⟩
theorem scl0 : LaysPu.n25 Try.prog scl_rho where
  mixed := by kernel_rfl
  f25 := by kernel_rfl
  t0 := by kernel_rfl
  a0 := fun w => by kernel_rfl
  z0 := fun w => by kernel_rfl
  v0 := fun w => by kernel_rfl
  i0 := by kernel_rfl
  t3 := by kernel_rfl
  a3 := fun w => by kernel_rfl
  z3 := fun w => by kernel_rfl
  v3 := fun w => by kernel_rfl
  i3 := by kernel_rfl
  t4 := by kernel_rfl
  a4 := fun w => by kernel_rfl
  z4 := fun w => by kernel_rfl
  v4 := fun w => by kernel_rfl
  i4 := by kernel_rfl
  t5 := by kernel_rfl
  a5 := fun w => by kernel_rfl
  z5 := fun w => by kernel_rfl
  v5 := fun w => by kernel_rfl
  i5 := by kernel_rfl
  t9 := by kernel_rfl
  a9 := fun w => by kernel_rfl
  z9 := fun w => by kernel_rfl
  v9 := fun w => by kernel_rfl
  i9 := by kernel_rfl
  t37 := by kernel_rfl
  a37 := fun w => by kernel_rfl
  z37 := fun w => by kernel_rfl
  v37 := fun w => by kernel_rfl
  i37 := by kernel_rfl
  t47 := by kernel_rfl
  a47 := fun w => by kernel_rfl
  z47 := fun w => by kernel_rfl
  v47 := fun w => by kernel_rfl
  i47 := by kernel_rfl
theorem enter_scl : Enters Try.prog 73 := Enters.mk Try.func73 (by kernel_rfl) (by kernel_rfl)
theorem scl_fn (s : List UInt8) (h : s.length ≤ 281474976710656) : Fn Try.prog 73 [.string (str s)] [] fun v _ => v = .string (str s) :=
  Fn.of_bel enter_scl fun w => (AnyPu.stringslite_Clone scl0 (str s) w (by rw [str_size]; exact h)).mono fun e w' ⟨he, a, b, c, d, f⟩ => ⟨he, a, b, c, d, f⟩
theorem clone_fn (s : List UInt8) (h : s.length ≤ 281474976710656) : Fn Try.prog 60 [.string (str s)] [] fun v _ => v = .string (str s) := by
  refine Fn.enter (N := 5) Try.func60 rfl (by kernel_rfl) rfl (fun w0 => ?_)

  refine awp_seq_region (fun Z hZ => ?_)
  refine sx_assign rfl rfl ?_
  refine sx_nil (hZ _ _ ?_)
  refine awp_forget [(0, _)] (Kn.cons rfl (Kn.nil)) ?_
  refine awp_seq_region (fun Z hZ => ?_)
  refine sx_move rfl rfl ?_
  refine sx_callP (scl_fn s h) rfl rfl ?_
  refine sx_assign rfl rfl ?_
  refine sx_nil (hZ _ _ ?_)
  refine awp_forget [(2, _)] (Kn.cons rfl (Kn.nil)) ?_
  refine awp_ret ?_
  repeat (with_reducible (first | refine nx_then_ret ?_ | refine nx_block_ret ?_ | refine nx_scope_ret ?_))
  exact nx_ret1 rfl rfl rfl
end Go.Proofs.Ytffahimbmpddpaa
