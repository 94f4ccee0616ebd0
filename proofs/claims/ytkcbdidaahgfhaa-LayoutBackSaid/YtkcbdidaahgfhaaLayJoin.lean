/- strings.Join, by the library's contract. No conditions but of lengths. -/
import Derived.Test.YtkcbdidaahgfhaaTy
import Derived.Test.YtkcbdidaahgfhaaSxN
import Derived.Shelf.Strings.OnBuilder
namespace Go.Proofs.Ytkcbdidaahgfhaa
open Go.RowKit
set_option linter.unusedVariables false
set_option linter.unusedSimpArgs false
def join_rho : Go.Shelf.Ren := ⟨fun n => match n with | 0 => 0 | 1 => 1 | 2 => 2 | 99 => 36 | 156 => 21 | 165 => 29 | 166 => 30 | 169 => 31 | 206 => 53 | 240 => 47 | 241 => 48 | 276 => 60 | 277 => 61 | 347 => 65 | 348 => 66 | 349 => 67 | 350 => 68 | 351 => 69 | 352 => 70 | 353 => 71 | 354 => 72 | 355 => 73 | 356 => 74 | 357 => 75 | 358 => 76 | 359 => 77 | 360 => 78 | 361 => 79 | 362 => 81 | 366 => 83 | _ => 0, fun n => match n with | 0 => 0 | 1 => 1 | 2 => 2 | 3 => 3 | 4 => 4 | 5 => 5 | 6 => 6 | 7 => 7 | 8 => 8 | 9 => 9 | 10 => 10 | 11 => 11 | 12 => 12 | 13 => 13 | 14 => 14 | 15 => 15 | 16 => 16 | 17 => 17 | 18 => 18 | 19 => 19 | 20 => 20 | 21 => 21 | 22 => 83 | 28 => 98 | 31 => 59 | 37 => 67 | 46 => 115 | 51 => 127 | 53 => 22 | 67 => 58 | 70 => 70 | 71 => 71 | 72 => 72 | 73 => 73 | 74 => 74 | 75 => 75 | 76 => 76 | 77 => 77 | 80 => 78 | 81 => 91 | 83 => 82 | 99 => 113 | 111 => 114 | 127 => 101 | 164 => 116 | 165 => 117 | 166 => 118 | 220 => 56 | 238 => 122 | 239 => 123 | 240 => 124 | 241 => 125 | 242 => 126 | 243 => 128 | 244 => 129 | 245 => 130 | 246 => 131 | 247 => 132 | 248 => 133 | 249 => 134 | _ => 0, fun n => match n with | 1 => 0 | _ => 0⟩
theorem join0 : Lays.n156 Try.prog join_rho where
  mixed := by kernel_rfl
  f156 := by kernel_rfl
  f165 := by kernel_rfl
  f166 := by kernel_rfl
  f169 := by kernel_rfl
  f240 := by kernel_rfl
  f241 := by kernel_rfl
  f276 := by kernel_rfl
  f277 := by kernel_rfl
  t0 := by kernel_rfl
  a0 := fun w => by kernel_rfl
  z0 := fun w => by kernel_rfl
  v0 := fun w => by kernel_rfl
  t3 := by kernel_rfl
  a3 := fun w => by kernel_rfl
  z3 := fun w => by kernel_rfl
  v3 := fun w => by kernel_rfl
  t4 := by kernel_rfl
  a4 := fun w => by kernel_rfl
  z4 := fun w => by kernel_rfl
  v4 := fun w => by kernel_rfl
  t9 := by kernel_rfl
  a9 := fun w => by kernel_rfl
  z9 := fun w => by kernel_rfl
  v9 := fun w => by kernel_rfl
  t20 := by kernel_rfl
  a20 := fun w => by kernel_rfl
  z20 := fun w => by kernel_rfl
  v20 := fun w => by kernel_rfl
  t31 := by kernel_rfl
  a31 := fun w => by kernel_rfl
  z31 := fun w => by kernel_rfl
  v31 := fun w => by kernel_rfl
  t37 := by kernel_rfl
  a37 := fun w => by kernel_rfl
  z37 := fun w => by kernel_rfl
  v37 := fun w => by kernel_rfl
  t70 := by kernel_rfl
  a70 := fun w => by kernel_rfl
  z70 := fun w => by kernel_rfl
  v70 := fun w => by kernel_rfl
  t72 := by kernel_rfl
  a72 := fun w => by kernel_rfl
  z72 := fun w => by kernel_rfl
  v72 := fun w => by kernel_rfl
  t75 := by kernel_rfl
  a75 := fun w => by kernel_rfl
  z75 := fun w => by kernel_rfl
  v75 := fun w => by kernel_rfl
  t76 := by kernel_rfl
  a76 := fun w => by kernel_rfl
  z76 := fun w => by kernel_rfl
  v76 := fun w => by kernel_rfl
  t127 := by kernel_rfl
  a127 := fun w => by kernel_rfl
  z127 := fun w => by kernel_rfl
  v127 := fun w => by kernel_rfl
  t164 := by kernel_rfl
  a164 := fun w => by kernel_rfl
  z164 := fun w => by kernel_rfl
  v164 := fun w => by kernel_rfl
theorem join1 : Builder.Extra Try.prog join_rho where
  sizeBuilder := by kernel_rfl
  liesBuilder := by kernel_rfl
  t5 := by kernel_rfl
  a5 := fun w => by kernel_rfl
  z5 := fun w => by kernel_rfl
  v5 := fun w => by kernel_rfl
  infoByte := by kernel_rfl
  cellsByte := by kernel_rfl
  sizeByte := by kernel_rfl
  neB5 := by decide
theorem enter_join : Enters Try.prog 21 := Enters.mk Try.func21 (by kernel_rfl) (by kernel_rfl)
theorem join_any (bk o c : Nat) (xs : List (List UInt8)) (sep : List UInt8) (w : World)
    (hcells : ∀ (j : Nat) x, xs[j]? = some x → w.cell? ⟨bk, o + j, none⟩ = some (.string (str x)))
    (hbk : bk < w.heap.size) (hN : xs.length ≤ 140737488355328) (hcap : xs.length ≤ c) (hlen : (Lib.join xs sep).length ≤ 140737488355328) :
    Calls Try.prog 21 #[.slice (some ⟨bk, o, none⟩) xs.length c, .string (str sep)] w fun e w' => e = .returned (.string (str (Lib.join xs sep))) ∧ Bel w w' := by
  have e : (xs.map str).map (fun (x : ByteArray) => x.data.toList) = xs := by
    rw [List.map_map]
    conv => rhs; rw [← List.map_id xs]
    exact List.map_congr_left fun l _ => by simp [str]
  have h := Any.strings_Join join0 join1 bk o c (xs.map str) (str sep) w (fun j x hx => by
    rw [List.getElem?_map] at hx
    cases hj : xs[j]? with
    | none => rw [hj] at hx; cases hx
    | some y => rw [hj] at hx; rw [← Option.some.inj hx]; exact hcells j y hj) hbk (by simpa using hN) (by simpa using hcap) (by rw [e]; simpa [str] using hlen)
  rw [e, List.length_map] at h
  exact h
end Go.Proofs.Ytkcbdidaahgfhaa
