/- math/bits.Len64, by the library's contracts. No conditions but of lengths. -/
import Derived.Test.YtbldhokgbcljjaaTy
import Derived.Test.YtbldhokgbcljjaaGsx4
import Derived.Shelf.Strconv.Itoa0
namespace Go.Proofs.Ytbldhokgbcljjaa
open Go.RowKit
set_option linter.unusedVariables false
set_option linter.unusedSimpArgs false
def clen_rho : Go.Shelf.Ren := ⟨fun n => match n with | 0 => 0 | 1 => 1 | 2 => 2 | 125 => 102 | 128 => 119 | 129 => 89 | 329 => 123 | 330 => 124 | 347 => 128 | 348 => 129 | 349 => 130 | 350 => 131 | 351 => 132 | 352 => 133 | 353 => 134 | 354 => 135 | 355 => 136 | 356 => 137 | 357 => 138 | 358 => 139 | 359 => 140 | 360 => 141 | 361 => 142 | 366 => 144 | _ => 0, fun n => match n with | 0 => 0 | 1 => 1 | 2 => 2 | 3 => 3 | 4 => 4 | 5 => 5 | 6 => 6 | 7 => 7 | 8 => 8 | 9 => 9 | 10 => 10 | 11 => 11 | 12 => 12 | 13 => 13 | 14 => 14 | 15 => 15 | 16 => 16 | 17 => 17 | 18 => 18 | 19 => 19 | 20 => 20 | 21 => 21 | 46 => 117 | 47 => 123 | 51 => 142 | 52 => 141 | 53 => 36 | 54 => 74 | 80 => 154 | 81 => 160 | 114 => 101 | 127 => 164 | 131 => 139 | 148 => 118 | 164 => 169 | 182 => 134 | 183 => 135 | 218 => 146 | 219 => 147 | 220 => 148 | 222 => 150 | 228 => 152 | 229 => 144 | 238 => 155 | 239 => 156 | 240 => 157 | 241 => 158 | 242 => 159 | 243 => 161 | 244 => 162 | 245 => 163 | 246 => 165 | 247 => 166 | 248 => 167 | 249 => 168 | _ => 0, fun n => match n with | _ => 0⟩
theorem clen0 : Lays.n129 Try.prog clen_rho where
  mixed := by kernel_rfl
  f129 := by kernel_rfl
  t3 := by kernel_rfl
  a3 := fun w => by kernel_rfl
  z3 := fun w => by kernel_rfl
  v3 := fun w => by kernel_rfl
  t4 := by kernel_rfl
  a4 := fun w => by kernel_rfl
  z4 := fun w => by kernel_rfl
  v4 := fun w => by kernel_rfl
  t5 := by kernel_rfl
  a5 := fun w => by kernel_rfl
  z5 := fun w => by kernel_rfl
  v5 := fun w => by kernel_rfl
  t9 := by kernel_rfl
  a9 := fun w => by kernel_rfl
  z9 := fun w => by kernel_rfl
  v9 := fun w => by kernel_rfl
  t46 := by kernel_rfl
  a46 := fun w => by kernel_rfl
  z46 := fun w => by kernel_rfl
  v46 := fun w => by kernel_rfl
  t53 := by kernel_rfl
  a53 := fun w => by kernel_rfl
  z53 := fun w => by kernel_rfl
  v53 := fun w => by kernel_rfl
theorem enter_clen : Enters Try.prog 89 := Enters.mk Try.func89 (by kernel_rfl) (by kernel_rfl)
theorem clen_fn (n : Nat) (h : n < 18446744073709551616) : Fn Try.prog 89 [uq n] [] fun v _ => v = iq (Lib.bitLen n) :=
  Fn.of_bel enter_clen fun w => (Any.bits_Len64 clen0 n w (by omega) (by omega)).mono fun e w' ⟨he, hw⟩ => ⟨he, hw ▸ Bel.refl w⟩
end Go.Proofs.Ytbldhokgbcljjaa
