/- The walks of package varint: numbers as bytes. No conditions but of lengths. The walks of package varint: lists of numbers, and how long a number's bytes are; the document's bytes. No conditions but of lengths. The walks of package varint: a number taken off a text, in the code and in the document. No conditions but of lengths. The walk of varint.Get. No conditions but of lengths. The walk of the document's Get of numbers. No conditions but of lengths. -/
import Derived.Test.YtffahimbmpddpaaTy
import Derived.Test.YtffahimbmpddpaaGsx5
import Derived.Test.YtffahimbmpddpaaMem
import Derived.Shelf.Strconv.Itoa0
namespace Go.Proofs.Ytffahimbmpddpaa.V
open Go.RowKit
set_option linter.unusedVariables false
set_option linter.unusedSimpArgs false
/-- A number's bytes. -/
def vb (x : Nat) : List UInt8 := if x < 128 then [UInt8.ofNat x] else UInt8.ofNat (x % 128 + 128) :: vb (x / 128)
theorem vb_lt {x : Nat} (h : x < 128) : vb x = [UInt8.ofNat x] := by rw [vb, if_pos h]
theorem vb_ge {x : Nat} (h : 128 ≤ x) : vb x = UInt8.ofNat (x % 128 + 128) :: vb (x / 128) := by rw [vb, if_neg (by omega)]
theorem vb_pos (x : Nat) : 0 < (vb x).length := by
  rw [vb]; split <;> simp
theorem vb_len_le : ∀ (k x : Nat), x < 128 ^ (k + 1) → (vb x).length ≤ k + 1
  | 0, x, h => by rw [vb_lt (by simpa using h)]; simp
  | k + 1, x, h => by
    rcases Nat.lt_or_ge x 128 with h1 | h1
    · rw [vb_lt h1]; simp
    · rw [vb_ge h1, List.length_cons]
      have := vb_len_le k (x / 128) (by rw [Nat.div_lt_iff_lt_mul (by omega)]; rw [Nat.pow_succ] at h; exact h)
      omega
theorem vb_len10 {x : Nat} (h : x < 18446744073709551616) : (vb x).length ≤ 10 := vb_len_le 9 x (by omega)
theorem or128 : ∀ m : Nat, m < 256 → bitsV .or .u8 (m : Int) 128 = ((m % 128 + 128 : Nat) : Int) := by decide +kernel
theorem elemU8v : ElemOk Try.prog 111 5 1 1 := ElemOk.mk_ (z := .int .u8 0) Try.underlying111 (by kernel_rfl) rfl (by omega)
theorem bv_one1 (b : List UInt8) : (bv b).all Value.oneCell' = true := List.all_eq_true.2 (bv_one b)
theorem u8_wrap (x : Nat) : IntKind.u8.wrap (x : Int) = ((x % 256 : Nat) : Int) := by simp [IntKind.wrap, IntKind.bits, IntKind.signed]
theorem or_y (y : Nat) : bitsV .or .u8 (IntKind.u8.wrap (y : Int)) 128 = ((y % 128 + 128 : Nat) : Int) := by
  rw [u8_wrap, or128 _ (by omega), Nat.mod_mod_of_dvd y (by decide : 128 ∣ 256)]
theorem fdiv7 (y : Nat) : (y : Int).fdiv (2 ^ (min (7 : Int).toNat IntKind.u64.bits)) = ((y / 128 : Nat) : Int) := by
  show (y : Int).fdiv 128 = _
  rw [Int.fdiv_eq_ediv_of_nonneg _ (by omega)]
  omega
end Go.Proofs.Ytffahimbmpddpaa.V

namespace Go.Proofs.Ytffahimbmpddpaa.V
open Go.RowKit
set_option linter.unusedVariables false
set_option linter.unusedSimpArgs false
def len_rho : Go.Shelf.Ren := ⟨fun n => match n with | 0 => 0 | 1 => 1 | 2 => 2 | 125 => 68 | 128 => 82 | 129 => 83 | 316 => 73 | 329 => 88 | 330 => 89 | 347 => 93 | 348 => 94 | 349 => 95 | 350 => 96 | 351 => 97 | 352 => 98 | 353 => 99 | 354 => 100 | 355 => 101 | 356 => 102 | 357 => 103 | 358 => 104 | 359 => 105 | 360 => 106 | 361 => 107 | 366 => 110 | _ => 0, fun n => match n with | 0 => 0 | 1 => 1 | 2 => 2 | 3 => 3 | 4 => 4 | 5 => 5 | 6 => 6 | 7 => 7 | 8 => 8 | 9 => 9 | 10 => 10 | 11 => 11 | 12 => 12 | 13 => 13 | 14 => 14 | 15 => 15 | 16 => 16 | 17 => 17 | 18 => 18 | 19 => 19 | 20 => 20 | 21 => 21 | 24 => 64 | 28 => 131 | 31 => 94 | 37 => 111 | 46 => 129 | 47 => 128 | 51 => 61 | 52 => 141 | 53 => 46 | 54 => 142 | 69 => 120 | 80 => 87 | 81 => 41 | 127 => 146 | 131 => 102 | 164 => 167 | 182 => 135 | 183 => 136 | 218 => 147 | 219 => 148 | 220 => 101 | 222 => 150 | 228 => 152 | 229 => 153 | 238 => 155 | 239 => 156 | 240 => 157 | 241 => 158 | 242 => 159 | 243 => 160 | 244 => 161 | 245 => 162 | 246 => 163 | 247 => 164 | 248 => 165 | 249 => 166 | _ => 0, fun n => match n with | _ => 0⟩
theorem len0 : Lays.n129 Try.prog len_rho where
  mixed := by kernel_rfl
  f129 := by kernel_rfl
  t3 := by kernel_rfl
  a3 := fun w => by kernel_rfl
  z3 := fun w => by kernel_rfl
  v3 := fun w => by kernel_rfl
  t4 := by kernel_rfl
  a4 := fun w => by kernel_rfl
  z4 := fun w => by kernel_rfl
  v4 := fun w => by kernel_rfl
  t5 := by kernel_rfl
  a5 := fun w => by kernel_rfl
  z5 := fun w => by kernel_rfl
  v5 := fun w => by kernel_rfl
  t9 := by kernel_rfl
  a9 := fun w => by kernel_rfl
  z9 := fun w => by kernel_rfl
  v9 := fun w => by kernel_rfl
  t46 := by kernel_rfl
  a46 := fun w => by kernel_rfl
  z46 := fun w => by kernel_rfl
  v46 := fun w => by kernel_rfl
  t53 := by kernel_rfl
  a53 := fun w => by kernel_rfl
  z53 := fun w => by kernel_rfl
  v53 := fun w => by kernel_rfl
theorem enter_len64 : Enters Try.prog 83 := Enters.mk Try.func83 (by kernel_rfl) (by kernel_rfl)
theorem len64_fn (x : Nat) (hx : x < 18446744073709551616) : Fn Try.prog 83 [uq x] [] fun v _ => v = iq (Lib.bitLen x : Nat) :=
  Fn.of_same enter_len64 fun w => (Any.bits_Len64 len0 (x : Int) w (by omega) (by omega)).mono fun e w' ⟨he, hw⟩ => ⟨by rw [he]; rfl, hw.symm⟩
theorem bl_pos {x : Nat} (h0 : x ≠ 0) (h : x < 2 ^ 64) : 1 ≤ Lib.bitLen x := by rw [Lib.bitLen_half x h0 h]; omega
theorem size_eq (x : Nat) : x < 18446744073709551616 → max 1 ((Lib.bitLen x + 6) / 7) = (vb x).length := by
  induction x using Nat.strongRecOn with
  | _ x ih =>
    intro hx
    rcases Nat.lt_or_ge x 128 with h | h
    · rw [vb_lt h]
      have := Lib.bitLen_le x 7 (by omega) (by omega)
      simp only [List.length_singleton]
      omega
    · rw [vb_ge h, List.length_cons, ← ih (x / 128) (by omega) (by omega), Lib.bitLen_shift 7 x (by omega) (by omega)]
      have := bl_pos (x := x / 128) (by omega) (by omega)
      rw [show (2 : Nat) ^ 7 = 128 from rfl]
      omega
def allB (xs : List Nat) : List UInt8 := xs.flatMap vb
theorem allB_len {xs : List Nat} (h : ∀ x ∈ xs, x < 18446744073709551616) : (allB xs).length ≤ 10 * xs.length := by
  induction xs with
  | nil => simp [allB]
  | cons x r ih =>
    have h1 := vb_len10 (h x List.mem_cons_self)
    have h2 := ih fun y hy => h y (List.mem_cons_of_mem _ hy)
    simp only [allB, List.flatMap_cons, List.length_append, List.length_cons] at h2 ⊢
    omega
theorem allB_take {xs : List Nat} {k : Nat} (h : k < xs.length) : allB (xs.take (k + 1)) = allB (xs.take k) ++ vb xs[k] := by
  simp only [allB]
  rw [List.take_succ_eq_append_getElem h, List.flatMap_append]
  simp only [List.flatMap_cons, List.flatMap_nil, List.append_nil]
abbrev uqL (l : List Nat) : List Value := l.map uq
end Go.Proofs.Ytffahimbmpddpaa.V

namespace Go.Proofs.Ytffahimbmpddpaa.V
open Go.RowKit
set_option linter.unusedVariables false
set_option linter.unusedSimpArgs false
def dat (t : List UInt8) (i : Nat) : Nat := (t.getD i 0).toNat
def valL : List UInt8 → Nat
  | [] => 0
  | b :: r => b.toNat % 128 + 128 * valL r
/-- How many bytes say that more follow, at most so many. -/
def cnt : Nat → List UInt8 → Nat
  | 0, _ => 0
  | _ + 1, [] => 0
  | k + 1, b :: r => if 128 ≤ b.toNat then cnt k r + 1 else 0
theorem cnt_le : ∀ (k : Nat) (t : List UInt8), cnt k t ≤ k ∧ cnt k t ≤ t.length
  | 0, t => by simp [cnt]
  | k + 1, [] => by simp [cnt]
  | k + 1, b :: r => by
    have := cnt_le k r
    simp only [cnt, List.length_cons]
    split <;> omega
theorem dat_cons (b : UInt8) (r : List UInt8) (i : Nat) : dat (b :: r) (i + 1) = dat r i := by simp [dat]
theorem cnt_in : ∀ (k : Nat) (t : List UInt8) (i : Nat), i < cnt k t → 128 ≤ dat t i
  | 0, t, i, h => by simp [cnt] at h
  | k + 1, [], i, h => by simp [cnt] at h
  | k + 1, b :: r, i, h => by
    simp only [cnt] at h
    split at h
    · cases i with
      | zero => simpa [dat] using ‹128 ≤ b.toNat›
      | succ i => rw [dat_cons]; exact cnt_in k r i (by omega)
    · omega
theorem cnt_at : ∀ (k : Nat) (t : List UInt8), cnt k t < k → cnt k t < t.length → dat t (cnt k t) < 128
  | 0, t, h, _ => by omega
  | k + 1, [], _, h => by simp [cnt] at h
  | k + 1, b :: r, h1, h2 => by
    simp only [cnt] at h1 h2 ⊢
    split
    · rename_i hb
      rw [if_pos hb] at h1 h2
      rw [dat_cons]
      exact cnt_at k r (by omega) (by simpa using h2)
    · rename_i hb
      simpa [dat] using hb
/-- What is wrong with the number with which a text begins, and how many bytes it has. -/
def wrongQ (t : List UInt8) : Nat × Nat :=
  if cnt 10 t = 10 then (11, 0) else if cnt 10 t = t.length then (3, 0) else if cnt 10 t = 9 ∧ 1 < dat t 9 then (11, 0) else if 0 < cnt 10 t ∧ dat t (cnt 10 t) = 0 then (4, 0) else (0, cnt 10 t + 1)
def getQ (s : List UInt8) (p : Nat) : Nat × Nat × Nat :=
  if (wrongQ (s.drop p)).1 = 0 then (valL ((s.drop p).take (wrongQ (s.drop p)).2), p + (wrongQ (s.drop p)).2, 0) else (0, p, (wrongQ (s.drop p)).1)
def scV (s : List UInt8) (p e : Nat) : Value := .agg #[.string (str s), iq p, iq e]
def getV (g : Nat × Nat × Nat) (s : List UInt8) : Value := .tuple #[uq g.1, scV s g.2.1 g.2.2]
theorem getD_at {t : List UInt8} {i : Nat} (h : i < t.length) : t[i]? = some (t.getD i 0) := by simp [h]
theorem valL_lt : ∀ l : List UInt8, valL l < 128 ^ l.length
  | [] => by simp [valL]
  | b :: r => by
    have := valL_lt r
    rw [List.length_cons, Nat.pow_succ]
    simp only [valL]
    omega
theorem valL_snoc : ∀ (l : List UInt8) (b : UInt8), valL (l ++ [b]) = valL l + b.toNat % 128 * 128 ^ l.length
  | [], b => by simp [valL]
  | a :: r, b => by
    rw [List.cons_append, valL, valL, valL_snoc r b, List.length_cons, Nat.pow_succ, Nat.mul_add, Nat.add_assoc]
    congr 2
    rw [Nat.mul_comm 128, Nat.mul_assoc]
theorem valL_take {t : List UInt8} {i : Nat} (h : i < t.length) : valL (t.take (i + 1)) = valL (t.take i) + dat t i % 128 * 128 ^ i := by
  rw [List.take_succ_eq_append_getElem h, valL_snoc, List.length_take, Nat.min_eq_left (by omega)]
  simp [dat, h]
theorem and127 : ∀ m : Nat, m < 256 → bitsV .and .u8 (m : Int) 127 = ((m % 128 : Nat) : Int) := by decide +kernel
theorem pow7 (i : Nat) : 128 ^ i = 2 ^ (7 * i) := by rw [Nat.pow_mul]
theorem sh_or {x b i : Nat} (hi : i ≤ 9) (hx : x < 128 ^ i) : bitsV .or .u64 (x : Int) (IntKind.u64.wrap ((b : Int) * 2 ^ (min ((7 * i : Nat) : Int).toNat IntKind.u64.bits))) = (((x + b * 128 ^ i) % 18446744073709551616 : Nat) : Int) := by
  have h1 : (min ((7 * i : Nat) : Int).toNat IntKind.u64.bits) = 7 * i := by
    show min (7 * i) 64 = 7 * i
    omega
  have h2 : ((b : Int) * 2 ^ (7 * i)) = ((b * 2 ^ (7 * i) : Nat) : Int) := by push_cast; rfl
  have h64 : (18446744073709551616 : Nat) = 2 ^ (64 - 7 * i) * 2 ^ (7 * i) := by rw [← Nat.pow_add, show 64 - 7 * i + 7 * i = 64 by omega]
  have h3 : b * 2 ^ (7 * i) % 18446744073709551616 = (b % 2 ^ (64 - 7 * i)) * 2 ^ (7 * i) := by
    conv => lhs; rw [h64]
    rw [Nat.mul_mod_mul_right]
  have hw : ∀ m : Nat, IntKind.u64.wrap (m : Int) = ((m % 18446744073709551616 : Nat) : Int) := fun m => by simp [IntKind.wrap, IntKind.bits, IntKind.signed]
  have hb : ∀ m : Nat, m < 18446744073709551616 → (BitVec.ofInt IntKind.u64.bits (m : Int)).toNat = m := fun m hm => by
    show (BitVec.ofInt 64 (m : Int)).toNat = m
    rw [BitVec.toNat_ofInt]
    omega
  rw [pow7] at hx ⊢
  have hxs : x < 18446744073709551616 := Nat.lt_of_lt_of_le hx (by rw [show (18446744073709551616 : Nat) = 2 ^ 64 from rfl]; exact Nat.pow_le_pow_right (by omega) (by omega))
  have hq : b % 2 ^ (64 - 7 * i) < 2 ^ (64 - 7 * i) := Nat.mod_lt _ (Nat.pow_pos (by omega))
  have hsum : b % 2 ^ (64 - 7 * i) * 2 ^ (7 * i) + x < 18446744073709551616 := by
    rw [h64]
    calc b % 2 ^ (64 - 7 * i) * 2 ^ (7 * i) + x < b % 2 ^ (64 - 7 * i) * 2 ^ (7 * i) + 2 ^ (7 * i) := by omega
      _ = (b % 2 ^ (64 - 7 * i) + 1) * 2 ^ (7 * i) := by rw [Nat.add_mul, Nat.one_mul]
      _ ≤ 2 ^ (64 - 7 * i) * 2 ^ (7 * i) := Nat.mul_le_mul_right _ hq
  rw [h1, h2, hw, h3]
  have hm : b % 2 ^ (64 - 7 * i) * 2 ^ (7 * i) < 18446744073709551616 := by omega
  show IntKind.u64.wrap (((BitVec.ofInt IntKind.u64.bits (x : Int)) ||| (BitVec.ofInt IntKind.u64.bits ((b % 2 ^ (64 - 7 * i) * 2 ^ (7 * i) : Nat) : Int))).toNat : Int) = _
  rw [BitVec.toNat_or, hb x hxs, hb _ hm, Nat.or_comm, ← Nat.shiftLeft_eq, ← Nat.shiftLeft_add_eq_or_of_lt hx, Nat.shiftLeft_eq, hw, Nat.mod_eq_of_lt hsum]
  rw [show x + b * 2 ^ (7 * i) = b * 2 ^ (7 * i) + x by omega, Nat.add_mod, h3, Nat.mod_eq_of_lt hxs, Nat.mod_eq_of_lt hsum]
end Go.Proofs.Ytffahimbmpddpaa.V

namespace Go.Proofs.Ytffahimbmpddpaa.V
open Go.RowKit
set_option linter.unusedVariables false
set_option linter.unusedSimpArgs false
theorem dat_lt (t : List UInt8) (i : Nat) : dat t i < 256 := (t.getD i 0).toNat_lt
theorem add7 (i : Nat) (hi : i ≤ 9) : IntKind.i64.wrap ((7 : Int) * (i : Int)) = ((7 * i : Nat) : Int) := by rw [IntWalk.i64_in _ (by omega)]; omega
theorem valL9 {t : List UInt8} {i : Nat} (hi : i ≤ 9) : valL (t.take i) < 128 ^ i :=
  Nat.lt_of_lt_of_le (valL_lt _) (Nat.pow_le_pow_right (by omega) (by rw [List.length_take]; omega))
/-- The value is whole. -/
theorem valL_mod {t : List UInt8} {k : Nat} (hk : k ≤ 9) (hl : k < t.length) (h9 : k = 9 → dat t 9 ≤ 1) : valL (t.take (k + 1)) % 18446744073709551616 = valL (t.take (k + 1)) := by
  have hb := valL9 (t := t) (i := k) hk
  refine Nat.mod_eq_of_lt ?_
  rw [valL_take hl]
  have hp : (128 : Nat) ^ k ≤ 128 ^ 9 := Nat.pow_le_pow_right (by omega) hk
  by_cases h : k = 9
  · subst h
    have := h9 rfl
    have : dat t 9 % 128 ≤ 1 := by omega
    omega
  · have hp : (128 : Nat) ^ (k + 1) ≤ 128 ^ 9 := Nat.pow_le_pow_right (by omega) (by omega)
    rw [Nat.pow_succ] at hp
    have h2 : dat t k % 128 * 128 ^ k ≤ 127 * 128 ^ k := Nat.mul_le_mul_right _ (by omega)
    omega
end Go.Proofs.Ytffahimbmpddpaa.V

namespace Go.Proofs.Ytffahimbmpddpaa.V
open Go.RowKit
set_option linter.unusedVariables false
set_option linter.unusedSimpArgs false
theorem cnt_lt_iff {t : List UInt8} {n : Nat} (h : n ≤ cnt 10 t) : n < cnt 10 t ↔ (n < t.length ∧ n < 10 ∧ 128 ≤ dat t n) := by
  obtain ⟨h1, h2⟩ := cnt_le 10 t
  constructor
  · intro h3
    exact ⟨by omega, by omega, cnt_in 10 t n h3⟩
  · rintro ⟨h3, h4, h5⟩
    rcases Nat.lt_or_ge n (cnt 10 t) with h6 | h6
    · exact h6
    · obtain rfl : n = cnt 10 t := by omega
      have := cnt_at 10 t (by omega) (by omega)
      omega
theorem wrong_ok {t : List UInt8} (h : (wrongQ t).1 = 0) : (wrongQ t).2 = cnt 10 t + 1 ∧ cnt 10 t < 10 ∧ cnt 10 t < t.length ∧ (cnt 10 t = 9 → dat t 9 ≤ 1) := by
  obtain ⟨hc10, hcl⟩ := cnt_le 10 t
  unfold wrongQ at h ⊢
  by_cases h1 : cnt 10 t = 10
  · rw [if_pos h1] at h; cases h
  rw [if_neg h1] at h ⊢
  by_cases h2 : cnt 10 t = t.length
  · rw [if_pos h2] at h; cases h
  rw [if_neg h2] at h ⊢
  by_cases h3 : cnt 10 t = 9 ∧ 1 < dat t 9
  · rw [if_pos h3] at h; cases h
  rw [if_neg h3] at h ⊢
  by_cases h4 : 0 < cnt 10 t ∧ dat t (cnt 10 t) = 0
  · rw [if_pos h4] at h; cases h
  rw [if_neg h4]
  exact ⟨rfl, by omega, by omega, fun h9 => by omega⟩
theorem valL_drop {l : List UInt8} {i : Nat} (h : i < l.length) : valL (l.drop i) = dat l i % 128 + 128 * valL (l.drop (i + 1)) := by
  rw [List.drop_eq_getElem_cons h, valL]
  simp [dat, h]
theorem valL_mono : ∀ (l : List UInt8) (i : Nat), valL (l.drop i) ≤ valL l
  | l, 0 => by simp
  | [], i + 1 => by simp
  | b :: r, i + 1 => by
    have := valL_mono r i
    simp only [List.drop_succ_cons, valL]
    omega
end Go.Proofs.Ytffahimbmpddpaa.V
