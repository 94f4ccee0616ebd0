/- strings.Repeat, by the library's contract. No conditions but of lengths. -/
import Derived.Test.YtfffhnefjaomnaaTy
import Derived.Test.YtfffhnefjaomnaaSxN
import Derived.Shelf.Strings.Repeat
namespace Go.Proofs.Ytfffhnefjaomnaa
open Go.RowKit
set_option linter.unusedVariables false
set_option linter.unusedSimpArgs false
def rep_rho : Go.Shelf.Ren := ⟨fun n => match n with | 0 => 0 | 1 => 1 | 2 => 2 | 99 => 35 | 105 => 20 | 129 => 48 | 165 => 36 | 166 => 37 | 169 => 39 | 170 => 38 | 206 => 54 | 212 => 34 | 240 => 55 | 241 => 56 | 263 => 52 | 264 => 53 | 276 => 61 | 277 => 62 | 347 => 63 | 348 => 64 | 349 => 65 | 350 => 66 | 351 => 67 | 352 => 68 | 353 => 69 | 354 => 70 | 355 => 71 | 356 => 72 | 357 => 73 | 358 => 74 | 359 => 75 | 360 => 76 | 361 => 77 | 362 => 80 | 366 => 81 | _ => 0, fun n => match n with | 0 => 0 | 1 => 1 | 2 => 2 | 3 => 3 | 4 => 4 | 5 => 5 | 6 => 6 | 7 => 7 | 8 => 8 | 9 => 9 | 10 => 10 | 11 => 11 | 12 => 12 | 13 => 13 | 14 => 14 | 15 => 15 | 16 => 16 | 17 => 17 | 18 => 18 | 19 => 19 | 20 => 20 | 21 => 21 | 22 => 80 | 26 => 52 | 37 => 59 | 46 => 77 | 49 => 43 | 51 => 49 | 53 => 48 | 54 => 63 | 70 => 81 | 71 => 82 | 72 => 83 | 73 => 84 | 74 => 85 | 75 => 86 | 76 => 87 | 77 => 88 | 80 => 90 | 81 => 89 | 104 => 40 | 109 => 78 | 110 => 79 | 127 => 106 | 146 => 102 | 147 => 103 | 148 => 104 | 149 => 105 | 164 => 108 | 165 => 109 | 166 => 110 | 220 => 107 | 229 => 100 | 238 => 111 | 239 => 112 | 240 => 113 | 241 => 114 | 242 => 115 | 243 => 116 | 244 => 117 | 245 => 118 | 246 => 119 | 247 => 120 | 248 => 121 | 249 => 122 | _ => 0, fun n => match n with | 1 => 0 | _ => 0⟩
theorem rep0 : Lays.n105 Try.prog rep_rho where
  mixed := by kernel_rfl
  f99 := by kernel_rfl
  f105 := by kernel_rfl
  f165 := by kernel_rfl
  f166 := by kernel_rfl
  f169 := by kernel_rfl
  f170 := by kernel_rfl
  f206 := by kernel_rfl
  f212 := by kernel_rfl
  f240 := by kernel_rfl
  f241 := by kernel_rfl
  f263 := by kernel_rfl
  f264 := by kernel_rfl
  f276 := by kernel_rfl
  f277 := by kernel_rfl
  t0 := by kernel_rfl
  a0 := fun w => by kernel_rfl
  z0 := fun w => by kernel_rfl
  v0 := fun w => by kernel_rfl
  t3 := by kernel_rfl
  a3 := fun w => by kernel_rfl
  z3 := fun w => by kernel_rfl
  v3 := fun w => by kernel_rfl
  t4 := by kernel_rfl
  a4 := fun w => by kernel_rfl
  z4 := fun w => by kernel_rfl
  v4 := fun w => by kernel_rfl
  t5 := by kernel_rfl
  a5 := fun w => by kernel_rfl
  z5 := fun w => by kernel_rfl
  v5 := fun w => by kernel_rfl
  t9 := by kernel_rfl
  a9 := fun w => by kernel_rfl
  z9 := fun w => by kernel_rfl
  v9 := fun w => by kernel_rfl
  t20 := by kernel_rfl
  a20 := fun w => by kernel_rfl
  z20 := fun w => by kernel_rfl
  v20 := fun w => by kernel_rfl
  t37 := by kernel_rfl
  a37 := fun w => by kernel_rfl
  z37 := fun w => by kernel_rfl
  v37 := fun w => by kernel_rfl
  t46 := by kernel_rfl
  a46 := fun w => by kernel_rfl
  z46 := fun w => by kernel_rfl
  v46 := fun w => by kernel_rfl
  t51 := by kernel_rfl
  a51 := fun w => by kernel_rfl
  z51 := fun w => by kernel_rfl
  v51 := fun w => by kernel_rfl
  t53 := by kernel_rfl
  a53 := fun w => by kernel_rfl
  z53 := fun w => by kernel_rfl
  v53 := fun w => by kernel_rfl
  t70 := by kernel_rfl
  a70 := fun w => by kernel_rfl
  z70 := fun w => by kernel_rfl
  v70 := fun w => by kernel_rfl
  t72 := by kernel_rfl
  a72 := fun w => by kernel_rfl
  z72 := fun w => by kernel_rfl
  v72 := fun w => by kernel_rfl
  t75 := by kernel_rfl
  a75 := fun w => by kernel_rfl
  z75 := fun w => by kernel_rfl
  v75 := fun w => by kernel_rfl
  t76 := by kernel_rfl
  a76 := fun w => by kernel_rfl
  z76 := fun w => by kernel_rfl
  v76 := fun w => by kernel_rfl
  t109 := by kernel_rfl
  a109 := fun w => by kernel_rfl
  z109 := fun w => by kernel_rfl
  v109 := fun w => by kernel_rfl
  t127 := by kernel_rfl
  a127 := fun w => by kernel_rfl
  z127 := fun w => by kernel_rfl
  v127 := fun w => by kernel_rfl
  t146 := by kernel_rfl
  a146 := fun w => by kernel_rfl
  z146 := fun w => by kernel_rfl
  v146 := fun w => by kernel_rfl
  t148 := by kernel_rfl
  a148 := fun w => by kernel_rfl
  z148 := fun w => by kernel_rfl
  v148 := fun w => by kernel_rfl
  t164 := by kernel_rfl
  a164 := fun w => by kernel_rfl
  z164 := fun w => by kernel_rfl
  v164 := fun w => by kernel_rfl
theorem rep1 : Builder.Extra Try.prog rep_rho where
  sizeBuilder := by kernel_rfl
  liesBuilder := by kernel_rfl
  t5 := by kernel_rfl
  a5 := fun w => by kernel_rfl
  z5 := fun w => by kernel_rfl
  v5 := fun w => by kernel_rfl
  infoByte := by kernel_rfl
  cellsByte := by kernel_rfl
  sizeByte := by kernel_rfl
  neB5 := by decide
theorem enter_rep : Enters Try.prog 20 := Enters.mk Try.func20 (by kernel_rfl) (by kernel_rfl)
theorem rep_fn (s : List UInt8) (c : Nat) (hs : s.length * c ≤ 140737488355328) (hc : c ≤ 9223372036854775807) : Fn Try.prog 20 [.string (str s), iq c] [] fun v _ => v = .string (str (Lib.repeatL s c)) :=
  Fn.of_bel enter_rep fun w => Any.strings_Repeat rep0 rep1 (str s) c w hc (by rw [str_size]; exact hs)
end Go.Proofs.Ytfffhnefjaomnaa
