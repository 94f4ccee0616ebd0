/- strings.Repeat, by the library's contract. No conditions but of lengths. -/
import Derived.Test.YtllclbbjfnipoaaTy
import Derived.Test.YtllclbbjfnipoaaGsx4
import Derived.Shelf.Strings.Repeat
namespace Go.Proofs.Ytllclbbjfnipoaa
open Go.RowKit
set_option linter.unusedVariables false
set_option linter.unusedSimpArgs false
def rep_rho : Go.Shelf.Ren := ⟨fun n => match n with | 0 => 0 | 1 => 1 | 2 => 2 | 99 => 42 | 105 => 29 | 125 => 53 | 128 => 68 | 129 => 50 | 165 => 43 | 166 => 44 | 169 => 46 | 170 => 45 | 206 => 57 | 212 => 41 | 240 => 58 | 241 => 59 | 263 => 55 | 264 => 56 | 276 => 69 | 277 => 70 | 329 => 72 | 330 => 73 | 347 => 77 | 348 => 78 | 349 => 79 | 350 => 80 | 351 => 81 | 352 => 82 | 353 => 83 | 354 => 84 | 355 => 85 | 356 => 86 | 357 => 87 | 358 => 88 | 359 => 89 | 360 => 90 | 361 => 91 | 362 => 93 | 366 => 94 | _ => 0, fun n => match n with | 0 => 0 | 1 => 1 | 2 => 2 | 3 => 3 | 4 => 4 | 5 => 5 | 6 => 6 | 7 => 7 | 8 => 8 | 9 => 9 | 10 => 10 | 11 => 11 | 12 => 12 | 13 => 13 | 14 => 14 | 15 => 15 | 16 => 16 | 17 => 17 | 18 => 18 | 19 => 19 | 20 => 20 | 21 => 21 | 22 => 82 | 24 => 41 | 26 => 65 | 37 => 84 | 46 => 79 | 47 => 100 | 49 => 64 | 51 => 102 | 52 => 115 | 53 => 23 | 54 => 72 | 70 => 83 | 71 => 85 | 72 => 86 | 73 => 87 | 74 => 88 | 75 => 89 | 76 => 90 | 77 => 91 | 80 => 92 | 81 => 47 | 109 => 80 | 110 => 81 | 127 => 107 | 131 => 67 | 146 => 103 | 147 => 104 | 148 => 105 | 149 => 106 | 164 => 116 | 165 => 117 | 166 => 118 | 182 => 109 | 183 => 110 | 218 => 119 | 219 => 120 | 220 => 121 | 222 => 123 | 228 => 125 | 229 => 126 | 238 => 128 | 239 => 129 | 240 => 130 | 241 => 131 | 242 => 132 | 243 => 133 | 244 => 134 | 245 => 135 | 246 => 136 | 247 => 137 | 248 => 138 | 249 => 139 | _ => 0, fun n => match n with | 1 => 0 | _ => 0⟩
theorem rep0 : Lays.n105 Try.prog rep_rho where
  mixed := by kernel_rfl
  f99 := by kernel_rfl
  f105 := by kernel_rfl
  f165 := by kernel_rfl
  f166 := by kernel_rfl
  f169 := by kernel_rfl
  f170 := by kernel_rfl
  f206 := by kernel_rfl
  f212 := by kernel_rfl
  f240 := by kernel_rfl
  f241 := by kernel_rfl
  f263 := by kernel_rfl
  f264 := by kernel_rfl
  f276 := by kernel_rfl
  f277 := by kernel_rfl
  t0 := by kernel_rfl
  a0 := fun w => by kernel_rfl
  z0 := fun w => by kernel_rfl
  v0 := fun w => by kernel_rfl
  t3 := by kernel_rfl
  a3 := fun w => by kernel_rfl
  z3 := fun w => by kernel_rfl
  v3 := fun w => by kernel_rfl
  t4 := by kernel_rfl
  a4 := fun w => by kernel_rfl
  z4 := fun w => by kernel_rfl
  v4 := fun w => by kernel_rfl
  t5 := by kernel_rfl
  a5 := fun w => by kernel_rfl
  z5 := fun w => by kernel_rfl
  v5 := fun w => by kernel_rfl
  t9 := by kernel_rfl
  a9 := fun w => by kernel_rfl
  z9 := fun w => by kernel_rfl
  v9 := fun w => by kernel_rfl
  t20 := by kernel_rfl
  a20 := fun w => by kernel_rfl
  z20 := fun w => by kernel_rfl
  v20 := fun w => by kernel_rfl
  t37 := by kernel_rfl
  a37 := fun w => by kernel_rfl
  z37 := fun w => by kernel_rfl
  v37 := fun w => by kernel_rfl
  t46 := by kernel_rfl
  a46 := fun w => by kernel_rfl
  z46 := fun w => by kernel_rfl
  v46 := fun w => by kernel_rfl
  t51 := by kernel_rfl
  a51 := fun w => by kernel_rfl
  z51 := fun w => by kernel_rfl
  v51 := fun w => by kernel_rfl
  t53 := by kernel_rfl
  a53 := fun w => by kernel_rfl
  z53 := fun w => by kernel_rfl
  v53 := fun w => by kernel_rfl
  t70 := by kernel_rfl
  a70 := fun w => by kernel_rfl
  z70 := fun w => by kernel_rfl
  v70 := fun w => by kernel_rfl
  t72 := by kernel_rfl
  a72 := fun w => by kernel_rfl
  z72 := fun w => by kernel_rfl
  v72 := fun w => by kernel_rfl
  t75 := by kernel_rfl
  a75 := fun w => by kernel_rfl
  z75 := fun w => by kernel_rfl
  v75 := fun w => by kernel_rfl
  t76 := by kernel_rfl
  a76 := fun w => by kernel_rfl
  z76 := fun w => by kernel_rfl
  v76 := fun w => by kernel_rfl
  t109 := by kernel_rfl
  a109 := fun w => by kernel_rfl
  z109 := fun w => by kernel_rfl
  v109 := fun w => by kernel_rfl
  t127 := by kernel_rfl
  a127 := fun w => by kernel_rfl
  z127 := fun w => by kernel_rfl
  v127 := fun w => by kernel_rfl
  t146 := by kernel_rfl
  a146 := fun w => by kernel_rfl
  z146 := fun w => by kernel_rfl
  v146 := fun w => by kernel_rfl
  t148 := by kernel_rfl
  a148 := fun w => by kernel_rfl
  z148 := fun w => by kernel_rfl
  v148 := fun w => by kernel_rfl
  t164 := by kernel_rfl
  a164 := fun w => by kernel_rfl
  z164 := fun w => by kernel_rfl
  v164 := fun w => by kernel_rfl
theorem rep1 : Builder.Extra Try.prog rep_rho where
  sizeBuilder := by kernel_rfl
  liesBuilder := by kernel_rfl
  t5 := by kernel_rfl
  a5 := fun w => by kernel_rfl
  z5 := fun w => by kernel_rfl
  v5 := fun w => by kernel_rfl
  infoByte := by kernel_rfl
  cellsByte := by kernel_rfl
  sizeByte := by kernel_rfl
  neB5 := by decide
theorem enter_rep : Enters Try.prog 29 := Enters.mk Try.func29 (by kernel_rfl) (by kernel_rfl)
theorem rep_fn (s : List UInt8) (c : Nat) (hs : s.length * c ≤ 140737488355328) (hc : c ≤ 9223372036854775807) : Fn Try.prog 29 [.string (str s), iq c] [] fun v _ => v = .string (str (Lib.repeatL s c)) :=
  Fn.of_bel enter_rep fun w => Any.strings_Repeat rep0 rep1 (str s) c w hc (by rw [str_size]; exact hs)
end Go.Proofs.Ytllclbbjfnipoaa
