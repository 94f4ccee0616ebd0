/- math/bits.Len64, by the library's contracts. No conditions but of lengths. -/
import Derived.Test.YtmebmkkllhnmlaaTy
import Derived.Test.YtmebmkkllhnmlaaGsx4
import Derived.Shelf.Strconv.Itoa0
namespace Go.Proofs.Ytmebmkkllhnmlaa
open Go.RowKit
set_option linter.unusedVariables false
set_option linter.unusedSimpArgs false
def clen_rho : Go.Shelf.Ren := ⟨fun n => match n with | 0 => 0 | 1 => 1 | 2 => 2 | 125 => 76 | 128 => 89 | 129 => 74 | 329 => 91 | 330 => 92 | 347 => 96 | 348 => 97 | 349 => 98 | 350 => 99 | 351 => 100 | 352 => 101 | 353 => 102 | 354 => 103 | 355 => 104 | 356 => 105 | 357 => 106 | 358 => 107 | 359 => 108 | 360 => 109 | 361 => 110 | 366 => 113 | _ => 0, fun n => match n with | 0 => 0 | 1 => 1 | 2 => 2 | 3 => 3 | 4 => 4 | 5 => 5 | 6 => 6 | 7 => 7 | 8 => 8 | 9 => 9 | 10 => 10 | 11 => 11 | 12 => 12 | 13 => 13 | 14 => 14 | 15 => 15 | 16 => 16 | 17 => 17 | 18 => 18 | 19 => 19 | 20 => 20 | 21 => 21 | 24 => 69 | 46 => 132 | 47 => 138 | 51 => 155 | 52 => 154 | 53 => 66 | 54 => 100 | 80 => 164 | 81 => 170 | 114 => 104 | 127 => 174 | 131 => 108 | 148 => 133 | 164 => 179 | 182 => 148 | 183 => 149 | 218 => 156 | 219 => 157 | 220 => 158 | 222 => 160 | 228 => 162 | 229 => 140 | 238 => 165 | 239 => 166 | 240 => 167 | 241 => 168 | 242 => 169 | 243 => 171 | 244 => 172 | 245 => 173 | 246 => 175 | 247 => 176 | 248 => 177 | 249 => 178 | _ => 0, fun n => match n with | _ => 0⟩
theorem clen0 : Lays.n129 Try.prog clen_rho where
  mixed := by kernel_rfl
  f129 := by kernel_rfl
  t3 := by kernel_rfl
  a3 := fun w => by kernel_rfl
  z3 := fun w => by kernel_rfl
  v3 := fun w => by kernel_rfl
  t4 := by kernel_rfl
  a4 := fun w => by kernel_rfl
  z4 := fun w => by kernel_rfl
  v4 := fun w => by kernel_rfl
  t5 := by kernel_rfl
  a5 := fun w => by kernel_rfl
  z5 := fun w => by kernel_rfl
  v5 := fun w => by kernel_rfl
  t9 := by kernel_rfl
  a9 := fun w => by kernel_rfl
  z9 := fun w => by kernel_rfl
  v9 := fun w => by kernel_rfl
  t46 := by kernel_rfl
  a46 := fun w => by kernel_rfl
  z46 := fun w => by kernel_rfl
  v46 := fun w => by kernel_rfl
  t53 := by kernel_rfl
  a53 := fun w => by kernel_rfl
  z53 := fun w => by kernel_rfl
  v53 := fun w => by kernel_rfl
theorem enter_clen : Enters Try.prog 74 := Enters.mk Try.func74 (by kernel_rfl) (by kernel_rfl)
theorem clen_fn (n : Nat) (h : n < 18446744073709551616) : Fn Try.prog 74 [uq n] [] fun v _ => v = iq (Lib.bitLen n) :=
  Fn.of_bel enter_clen fun w => (Any.bits_Len64 clen0 n w (by omega) (by omega)).mono fun e w' ⟨he, hw⟩ => ⟨he, hw ▸ Bel.refl w⟩
end Go.Proofs.Ytmebmkkllhnmlaa
