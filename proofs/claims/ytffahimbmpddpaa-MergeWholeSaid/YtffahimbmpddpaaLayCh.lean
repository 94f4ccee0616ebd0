/- math/bits.Len64, by the library's contracts. No conditions but of lengths. -/
import Derived.Test.YtffahimbmpddpaaTy
import Derived.Test.YtffahimbmpddpaaGsx4
import Derived.Shelf.Strconv.Itoa0
namespace Go.Proofs.Ytffahimbmpddpaa
open Go.RowKit
set_option linter.unusedVariables false
set_option linter.unusedSimpArgs false
def clen_rho : Go.Shelf.Ren := ⟨fun n => match n with | 0 => 0 | 1 => 1 | 2 => 2 | 125 => 68 | 128 => 82 | 129 => 83 | 316 => 73 | 329 => 88 | 330 => 89 | 347 => 93 | 348 => 94 | 349 => 95 | 350 => 96 | 351 => 97 | 352 => 98 | 353 => 99 | 354 => 100 | 355 => 101 | 356 => 102 | 357 => 103 | 358 => 104 | 359 => 105 | 360 => 106 | 361 => 107 | 366 => 110 | _ => 0, fun n => match n with | 0 => 0 | 1 => 1 | 2 => 2 | 3 => 3 | 4 => 4 | 5 => 5 | 6 => 6 | 7 => 7 | 8 => 8 | 9 => 9 | 10 => 10 | 11 => 11 | 12 => 12 | 13 => 13 | 14 => 14 | 15 => 15 | 16 => 16 | 17 => 17 | 18 => 18 | 19 => 19 | 20 => 20 | 21 => 21 | 24 => 64 | 28 => 131 | 31 => 94 | 37 => 111 | 46 => 129 | 47 => 128 | 51 => 61 | 52 => 141 | 53 => 46 | 54 => 142 | 69 => 120 | 80 => 87 | 81 => 41 | 127 => 146 | 131 => 102 | 164 => 167 | 182 => 135 | 183 => 136 | 218 => 147 | 219 => 148 | 220 => 101 | 222 => 150 | 228 => 152 | 229 => 153 | 238 => 155 | 239 => 156 | 240 => 157 | 241 => 158 | 242 => 159 | 243 => 160 | 244 => 161 | 245 => 162 | 246 => 163 | 247 => 164 | 248 => 165 | 249 => 166 | _ => 0, fun n => match n with | _ => 0⟩
theorem clen0 : Lays.n129 Try.prog clen_rho where
  mixed := by kernel_rfl
  f129 := by kernel_rfl
  t3 := by kernel_rfl
  a3 := fun w => by kernel_rfl
  z3 := fun w => by kernel_rfl
  v3 := fun w => by kernel_rfl
  t4 := by kernel_rfl
  a4 := fun w => by kernel_rfl
  z4 := fun w => by kernel_rfl
  v4 := fun w => by kernel_rfl
  t5 := by kernel_rfl
  a5 := fun w => by kernel_rfl
  z5 := fun w => by kernel_rfl
  v5 := fun w => by kernel_rfl
  t9 := by kernel_rfl
  a9 := fun w => by kernel_rfl
  z9 := fun w => by kernel_rfl
  v9 := fun w => by kernel_rfl
  t46 := by kernel_rfl
  a46 := fun w => by kernel_rfl
  z46 := fun w => by kernel_rfl
  v46 := fun w => by kernel_rfl
  t53 := by kernel_rfl
  a53 := fun w => by kernel_rfl
  z53 := fun w => by kernel_rfl
  v53 := fun w => by kernel_rfl
theorem enter_clen : Enters Try.prog 83 := Enters.mk Try.func83 (by kernel_rfl) (by kernel_rfl)
theorem clen_fn (n : Nat) (h : n < 18446744073709551616) : Fn Try.prog 83 [uq n] [] fun v _ => v = iq (Lib.bitLen n) :=
  Fn.of_bel enter_clen fun w => (Any.bits_Len64 clen0 n w (by omega) (by omega)).mono fun e w' ⟨he, hw⟩ => ⟨he, hw ▸ Bel.refl w⟩
end Go.Proofs.Ytffahimbmpddpaa
