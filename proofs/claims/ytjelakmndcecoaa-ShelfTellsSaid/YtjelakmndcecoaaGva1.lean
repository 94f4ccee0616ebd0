/- The walks of package varint: numbers as bytes. No conditions but of lengths. The walks of package varint: lists of numbers, and how long a number's bytes are; the document's bytes. No conditions but of lengths. The walks of package varint: a number taken off a text, in the code and in the document. No conditions but of lengths. The walk of varint.Get. No conditions but of lengths. The walk of the document's Get of numbers. No conditions but of lengths. -/
import Derived.Test.YtjelakmndcecoaaTy
import Derived.Test.YtjelakmndcecoaaGsx5
import Derived.Test.YtjelakmndcecoaaMem
import Derived.Shelf.Strconv.Itoa0
namespace Go.Proofs.Ytjelakmndcecoaa
open Go.RowKit
set_option linter.unusedVariables false
set_option linter.unusedSimpArgs false
/-- A number's bytes. -/
def vb (x : Nat) : List UInt8 := if x < 128 then [UInt8.ofNat x] else UInt8.ofNat (x % 128 + 128) :: vb (x / 128)
end Go.Proofs.Ytjelakmndcecoaa

namespace Go.Proofs.Ytjelakmndcecoaa
open Go.RowKit
set_option linter.unusedVariables false
set_option linter.unusedSimpArgs false

def allB (xs : List Nat) : List UInt8 := xs.flatMap vb
abbrev uqL (l : List Nat) : List Value := l.map uq
end Go.Proofs.Ytjelakmndcecoaa

namespace Go.Proofs.Ytjelakmndcecoaa
open Go.RowKit
set_option linter.unusedVariables false
set_option linter.unusedSimpArgs false
def dat (t : List UInt8) (i : Nat) : Nat := (t.getD i 0).toNat
def valL : List UInt8 → Nat
  | [] => 0
  | b :: r => b.toNat % 128 + 128 * valL r
/-- How many bytes say that more follow, at most so many. -/
def cnt : Nat → List UInt8 → Nat
  | 0, _ => 0
  | _ + 1, [] => 0
  | k + 1, b :: r => if 128 ≤ b.toNat then cnt k r + 1 else 0
theorem cnt_le : ∀ (k : Nat) (t : List UInt8), cnt k t ≤ k ∧ cnt k t ≤ t.length
  | 0, t => by simp [cnt]
  | k + 1, [] => by simp [cnt]
  | k + 1, b :: r => by
    have := cnt_le k r
    simp only [cnt, List.length_cons]
    split <;> omega
theorem dat_cons (b : UInt8) (r : List UInt8) (i : Nat) : dat (b :: r) (i + 1) = dat r i := by simp [dat]
theorem cnt_in : ∀ (k : Nat) (t : List UInt8) (i : Nat), i < cnt k t → 128 ≤ dat t i
  | 0, t, i, h => by simp [cnt] at h
  | k + 1, [], i, h => by simp [cnt] at h
  | k + 1, b :: r, i, h => by
    simp only [cnt] at h
    split at h
    · cases i with
      | zero => simpa [dat] using ‹128 ≤ b.toNat›
      | succ i => rw [dat_cons]; exact cnt_in k r i (by omega)
    · omega
theorem cnt_at : ∀ (k : Nat) (t : List UInt8), cnt k t < k → cnt k t < t.length → dat t (cnt k t) < 128
  | 0, t, h, _ => by omega
  | k + 1, [], _, h => by simp [cnt] at h
  | k + 1, b :: r, h1, h2 => by
    simp only [cnt] at h1 h2 ⊢
    split
    · rename_i hb
      rw [if_pos hb] at h1 h2
      rw [dat_cons]
      exact cnt_at k r (by omega) (by simpa using h2)
    · rename_i hb
      simpa [dat] using hb
/-- What is wrong with the number with which a text begins, and how many bytes it has. -/
def wrongQ (t : List UInt8) : Nat × Nat :=
  if cnt 10 t = 10 then (11, 0) else if cnt 10 t = t.length then (3, 0) else if cnt 10 t = 9 ∧ 1 < dat t 9 then (11, 0) else if 0 < cnt 10 t ∧ dat t (cnt 10 t) = 0 then (4, 0) else (0, cnt 10 t + 1)
def getQ (s : List UInt8) (p : Nat) : Nat × Nat × Nat :=
  if (wrongQ (s.drop p)).1 = 0 then (valL ((s.drop p).take (wrongQ (s.drop p)).2), p + (wrongQ (s.drop p)).2, 0) else (0, p, (wrongQ (s.drop p)).1)
def scV (s : List UInt8) (p e : Nat) : Value := .agg #[.string (str s), iq p, iq e]
def getV (g : Nat × Nat × Nat) (s : List UInt8) : Value := .tuple #[uq g.1, scV s g.2.1 g.2.2]
theorem getD_at {t : List UInt8} {i : Nat} (h : i < t.length) : t[i]? = some (t.getD i 0) := by simp [h]
theorem vbad_fn (s : List UInt8) (p e0 e : Nat) : Fn Try.prog 49 [scV s p e0, iq e] [] fun v _ => v = .tuple #[uq 0, scV s p e] := by
  refine Fn.enter (N := 9) Try.func49 rfl (by kernel_rfl) rfl (fun w0 => ?_)
  refine awp_seq_region (fun Z hZ => ?_)
  refine sx_box rfl rfl rfl (fun g1 => ?_)
  refine sx_assign rfl rfl ?_
  refine sx_alloc tyZ81 rfl (fun g2 => ?_)
  refine sx_nil (hZ _ _ ?_)
  refine awp_forget [(1, _), (2, _), (5, _)] (Kn.cons rfl (Kn.cons rfl (Kn.cons rfl (Kn.nil)))) ?_
  refine awp_seq_region (fun Z hZ => ?_)
  refine sx_move rfl rfl ?_
  refine sx_fieldAddr rfl tyF81_2 (by first | (simp only [Nat.reduceAdd, Nat.add_zero, Nat.zero_add]; first | done | rfl) | rfl) rfl ?_
  refine sx_store1 1 rfl rfl rfl tyS24 rfl (by first | (simp only [List.length_cons, List.length_nil, Nat.reduceAdd, Nat.zero_add, Nat.add_zero]; first | done | rfl) | rfl) (by first | (simp only [List.set_cons_succ, List.set_cons_zero, Nat.reduceAdd, Nat.add_zero, Nat.zero_add]; first | done | rfl) | rfl) (by first | (simp only [List.set_cons_succ, List.set_cons_zero]; first | done | rfl) | rfl) ?_
  refine sx_nil (hZ _ _ ?_)
  refine awp_forget [(2, _), (5, _)] (Kn.cons rfl (Kn.cons rfl (Kn.nil))) ?_
  refine awd_seq_region [0, 1, 2] mixed (by kernel_rfl) rfl (fun Z hZ => ?_)
  refine sx_loadA 1 rfl rfl tyA81 tyS81 (by first | (simp only [List.length_cons, List.length_nil, Nat.reduceAdd, Nat.zero_add, Nat.add_zero]; first | done | rfl) | rfl) (by first | (simp only [List.take_succ_cons, List.take_zero, List.drop_succ_cons, List.drop_zero, List.cons_append, List.nil_append, List.append_nil, List.length_cons, List.length_nil, Nat.reduceAdd, Nat.zero_add, Nat.add_zero, Value.cells, wrV]; first | done | rfl) | rfl) rfl ?_
  refine sx_assign rfl rfl ?_
  refine sx_store 0 rfl rfl rfl tyS81 (by first | (simp only [Value.cells]; first | done | rfl) | rfl) rfl rfl (by first | (simp only [List.length_cons, List.length_nil, Nat.reduceAdd, Nat.zero_add, Nat.add_zero]; first | done | rfl) | rfl) (by first | (simp only [List.take_succ_cons, List.take_zero, List.drop_succ_cons, List.drop_zero, List.cons_append, List.nil_append, List.append_nil, List.length_cons, List.length_nil, Nat.reduceAdd, Nat.zero_add, Nat.add_zero, Value.cells, wrV]; first | done | rfl) | rfl) (by first | (simp only [List.set_cons_succ, List.set_cons_zero]; first | done | rfl) | rfl) ?_
  refine sx_nil (hZ _ _ ?_)
  refine awp_forget [(4, _), (5, _)] (Kn.cons rfl (Kn.cons rfl (Kn.nil))) ?_
  refine awp_ret ?_
  exact nx_ret2 rfl rfl (ResOk.cell 0 rfl rfl tyA81 tyS81 rfl) rfl
theorem valL_lt : ∀ l : List UInt8, valL l < 128 ^ l.length
  | [] => by simp [valL]
  | b :: r => by
    have := valL_lt r
    rw [List.length_cons, Nat.pow_succ]
    simp only [valL]
    omega
theorem valL_snoc : ∀ (l : List UInt8) (b : UInt8), valL (l ++ [b]) = valL l + b.toNat % 128 * 128 ^ l.length
  | [], b => by simp [valL]
  | a :: r, b => by
    rw [List.cons_append, valL, valL, valL_snoc r b, List.length_cons, Nat.pow_succ, Nat.mul_add, Nat.add_assoc]
    congr 2
    rw [Nat.mul_comm 128, Nat.mul_assoc]
theorem valL_take {t : List UInt8} {i : Nat} (h : i < t.length) : valL (t.take (i + 1)) = valL (t.take i) + dat t i % 128 * 128 ^ i := by
  rw [List.take_succ_eq_append_getElem h, valL_snoc, List.length_take, Nat.min_eq_left (by omega)]
  simp [dat, h]
theorem and127 : ∀ m : Nat, m < 256 → bitsV .and .u8 (m : Int) 127 = ((m % 128 : Nat) : Int) := by decide +kernel
theorem pow7 (i : Nat) : 128 ^ i = 2 ^ (7 * i) := by rw [Nat.pow_mul]
theorem sh_or {x b i : Nat} (hi : i ≤ 9) (hx : x < 128 ^ i) : bitsV .or .u64 (x : Int) (IntKind.u64.wrap ((b : Int) * 2 ^ (min ((7 * i : Nat) : Int).toNat IntKind.u64.bits))) = (((x + b * 128 ^ i) % 18446744073709551616 : Nat) : Int) := by
  have h1 : (min ((7 * i : Nat) : Int).toNat IntKind.u64.bits) = 7 * i := by
    show min (7 * i) 64 = 7 * i
    omega
  have h2 : ((b : Int) * 2 ^ (7 * i)) = ((b * 2 ^ (7 * i) : Nat) : Int) := by push_cast; rfl
  have h64 : (18446744073709551616 : Nat) = 2 ^ (64 - 7 * i) * 2 ^ (7 * i) := by rw [← Nat.pow_add, show 64 - 7 * i + 7 * i = 64 by omega]
  have h3 : b * 2 ^ (7 * i) % 18446744073709551616 = (b % 2 ^ (64 - 7 * i)) * 2 ^ (7 * i) := by
    conv => lhs; rw [h64]
    rw [Nat.mul_mod_mul_right]
  have hw : ∀ m : Nat, IntKind.u64.wrap (m : Int) = ((m % 18446744073709551616 : Nat) : Int) := fun m => by simp [IntKind.wrap, IntKind.bits, IntKind.signed]
  have hb : ∀ m : Nat, m < 18446744073709551616 → (BitVec.ofInt IntKind.u64.bits (m : Int)).toNat = m := fun m hm => by
    show (BitVec.ofInt 64 (m : Int)).toNat = m
    rw [BitVec.toNat_ofInt]
    omega
  rw [pow7] at hx ⊢
  have hxs : x < 18446744073709551616 := Nat.lt_of_lt_of_le hx (by rw [show (18446744073709551616 : Nat) = 2 ^ 64 from rfl]; exact Nat.pow_le_pow_right (by omega) (by omega))
  have hq : b % 2 ^ (64 - 7 * i) < 2 ^ (64 - 7 * i) := Nat.mod_lt _ (Nat.pow_pos (by omega))
  have hsum : b % 2 ^ (64 - 7 * i) * 2 ^ (7 * i) + x < 18446744073709551616 := by
    rw [h64]
    calc b % 2 ^ (64 - 7 * i) * 2 ^ (7 * i) + x < b % 2 ^ (64 - 7 * i) * 2 ^ (7 * i) + 2 ^ (7 * i) := by omega
      _ = (b % 2 ^ (64 - 7 * i) + 1) * 2 ^ (7 * i) := by rw [Nat.add_mul, Nat.one_mul]
      _ ≤ 2 ^ (64 - 7 * i) * 2 ^ (7 * i) := Nat.mul_le_mul_right _ hq
  rw [h1, h2, hw, h3]
  have hm : b % 2 ^ (64 - 7 * i) * 2 ^ (7 * i) < 18446744073709551616 := by omega
  show IntKind.u64.wrap (((BitVec.ofInt IntKind.u64.bits (x : Int)) ||| (BitVec.ofInt IntKind.u64.bits ((b % 2 ^ (64 - 7 * i) * 2 ^ (7 * i) : Nat) : Int))).toNat : Int) = _
  rw [BitVec.toNat_or, hb x hxs, hb _ hm, Nat.or_comm, ← Nat.shiftLeft_eq, ← Nat.shiftLeft_add_eq_or_of_lt hx, Nat.shiftLeft_eq, hw, Nat.mod_eq_of_lt hsum]
  rw [show x + b * 2 ^ (7 * i) = b * 2 ^ (7 * i) + x by omega, Nat.add_mod, h3, Nat.mod_eq_of_lt hxs, Nat.mod_eq_of_lt hsum]
end Go.Proofs.Ytjelakmndcecoaa

namespace Go.Proofs.Ytjelakmndcecoaa
open Go.RowKit
set_option linter.unusedVariables false
set_option linter.unusedSimpArgs false
theorem dat_lt (t : List UInt8) (i : Nat) : dat t i < 256 := (t.getD i 0).toNat_lt
theorem add7 (i : Nat) (hi : i ≤ 9) : IntKind.i64.wrap ((7 : Int) * (i : Int)) = ((7 * i : Nat) : Int) := by rw [IntWalk.i64_in _ (by omega)]; omega
theorem valL9 {t : List UInt8} {i : Nat} (hi : i ≤ 9) : valL (t.take i) < 128 ^ i :=
  Nat.lt_of_lt_of_le (valL_lt _) (Nat.pow_le_pow_right (by omega) (by rw [List.length_take]; omega))
/-- The value is whole. -/
theorem valL_mod {t : List UInt8} {k : Nat} (hk : k ≤ 9) (hl : k < t.length) (h9 : k = 9 → dat t 9 ≤ 1) : valL (t.take (k + 1)) % 18446744073709551616 = valL (t.take (k + 1)) := by
  have hb := valL9 (t := t) (i := k) hk
  refine Nat.mod_eq_of_lt ?_
  rw [valL_take hl]
  have hp : (128 : Nat) ^ k ≤ 128 ^ 9 := Nat.pow_le_pow_right (by omega) hk
  by_cases h : k = 9
  · subst h
    have := h9 rfl
    have : dat t 9 % 128 ≤ 1 := by omega
    omega
  · have hp : (128 : Nat) ^ (k + 1) ≤ 128 ^ 9 := Nat.pow_le_pow_right (by omega) (by omega)
    rw [Nat.pow_succ] at hp
    have h2 : dat t k % 128 * 128 ^ k ≤ 127 * 128 ^ k := Nat.mul_le_mul_right _ (by omega)
    omega
theorem vget_fn (s : List UInt8) (p : Nat) (hp : p ≤ s.length) (hs : s.length ≤ 1000000) : Fn Try.prog 33 [scV s p 0] [] fun v _ => v = getV (getQ s p) s := by
  obtain ⟨t, ht⟩ : ∃ t, s.drop p = t := ⟨_, rfl⟩
  have htl : t.length + p = s.length := by rw [← ht, List.length_drop]; omega
  obtain ⟨hc10, hcl⟩ := cnt_le 10 t
  refine Fn.enter (N := 121) Try.func33 rfl (by kernel_rfl) rfl (fun w0 => ?_)
  refine awp_seq_region (fun Z hZ => ?_)
  refine sx_box rfl rfl rfl (fun g1 => ?_)
  refine sx_assign rfl rfl ?_
  refine sx_alloc tyZ81 rfl (fun g2 => ?_)
  refine sx_nil (hZ _ _ ?_)
  refine awp_forget [(1, _), (3, _)] (Kn.cons rfl (Kn.cons rfl (Kn.nil))) ?_
  refine awp_scope ?_
  refine awp_seq ?_
  refine awp_seq_region (fun Z hZ => ?_)
  refine sx_fieldAddr rfl tyF81_2 (by first | (simp only [Nat.reduceAdd, Nat.add_zero, Nat.zero_add]; first | done | rfl) | rfl) rfl ?_
  refine sx_load 1 rfl rfl tyA24 tyS24 rfl rfl ?_
  refine sx_neq rfl rfl rfl ?_
  refine sx_nil (hZ _ _ ?_)
  refine awp_forget [(1, _), (3, _), (12, _)] (Kn.cons rfl (Kn.cons rfl (Kn.cons rfl (Kn.nil)))) ?_
  refine awp_cond rfl (fun h => ?_) (fun h => ?_)
  · cases h
  refine awp_skip ?_
  with_reducible refine nx_normal ?_
  refine awp_seq ?_
  refine awp_seq_meet [(1, ptr g1 0), (3, ptr g2 0), (24, .bool false)] [.own g2 81 [.string (str []), iq 0, iq 0], .own g1 81 [.string (str s), iq p, iq 0]] (fun Z hZ => ?_) ?_
  · refine sx_fieldAddr rfl tyF81_1 (by first | (simp only [Nat.reduceAdd, Nat.add_zero, Nat.zero_add]; first | done | rfl) | rfl) rfl ?_
    refine sx_load 1 rfl rfl tyA3 tyS3 rfl rfl ?_
    refine sx_lss rfl rfl rfl ?_
    refine sx_move rfl rfl ?_
    refine sx_force 17 rfl false (by simp) ?_
    refine sx_on rfl rfl rfl ?_
    refine sx_fieldAddr rfl tyF81_1 (by first | (simp only [Nat.reduceAdd, Nat.add_zero, Nat.zero_add]; first | done | rfl) | rfl) rfl ?_
    refine sx_on rfl rfl rfl ?_
    refine sx_load 1 rfl rfl tyA3 tyS3 rfl rfl ?_
    refine sx_on rfl rfl rfl ?_
    refine sx_fieldAddr rfl tyF81_0 (by first | (simp only [Nat.reduceAdd, Nat.add_zero, Nat.zero_add]; first | done | rfl) | rfl) rfl ?_
    refine sx_on rfl rfl rfl ?_
    refine sx_load 1 rfl rfl tyA9 tyS9 rfl rfl ?_
    refine sx_on rfl rfl rfl ?_
    refine sx_lenS Try.underlying9 rfl rfl ?_
    refine sx_on rfl rfl rfl ?_
    refine sx_gtr rfl rfl rfl ?_
    refine sx_pick rfl rfl rfl ?_
    refine sx_nil (hZ _ _ ?_ ?_)
    · exact Kn.cons rfl (Kn.cons rfl (Kn.cons (congrArg some (congrArg Value.bool (by simp; omega))) Kn.nil))
    · exact HLe.refl _
  refine awp_cond rfl (fun h => ?_) (fun h => ?_)
  · cases h
  refine awp_skip ?_
  with_reducible refine nx_normal ?_
  refine awp_seq_region (fun Z hZ => ?_)
  refine sx_assign rfl rfl ?_
  refine sx_assign rfl rfl ?_
  refine sx_assign rfl rfl ?_
  refine sx_nil (hZ _ _ ?_)
  refine awp_forget [(1, _), (3, _), (4, _), (5, _), (6, _)] (Kn.cons rfl (Kn.cons rfl (Kn.cons rfl (Kn.cons rfl (Kn.cons rfl (Kn.nil)))))) ?_
  refine awp_seq_region (fun Z hZ => ?_)
  refine sx_fieldAddr rfl tyF81_0 (by first | (simp only [Nat.reduceAdd, Nat.add_zero, Nat.zero_add]; first | done | rfl) | rfl) rfl ?_
  refine sx_load 1 rfl rfl tyA9 tyS9 rfl rfl ?_
  refine sx_fieldAddr rfl tyF81_1 (by first | (simp only [Nat.reduceAdd, Nat.add_zero, Nat.zero_add]; first | done | rfl) | rfl) rfl ?_
  refine sx_load 1 rfl rfl tyA3 tyS3 rfl rfl ?_
  refine sx_sliceS t Try.underlying9 rfl rfl rfl (by omega) (by omega) (by omega) (by rw [← ht]; exact List.take_of_length_le (by rw [List.length_drop]; omega)) rfl ?_
  refine sx_assign rfl rfl ?_
  refine sx_nil (hZ _ _ ?_)
  refine awp_forget [(1, _), (3, _), (4, _), (5, _), (6, _), (7, _)] (Kn.cons rfl (Kn.cons rfl (Kn.cons rfl (Kn.cons rfl (Kn.cons rfl (Kn.cons rfl (Kn.nil))))))) ?_
  refine awp_seq (awp_label ?_)
  with_reducible refine nx_normal ?_
  refine awp_seq ?_
  refine awp_seq_region (fun Z hZ => ?_)
  refine sx_move rfl rfl ?_
  refine sx_lenS Try.underlying9 rfl rfl ?_
  refine sx_move rfl rfl ?_
  refine sx_nil (hZ _ _ ?_)
  refine awp_forget [(1, _), (3, _), (4, _), (5, _), (6, _), (7, _), (35, _), (36, _)] (Kn.cons rfl (Kn.cons rfl (Kn.cons rfl (Kn.cons rfl (Kn.cons rfl (Kn.cons rfl (Kn.cons rfl (Kn.cons rfl (Kn.nil))))))))) ?_
  refine awp_meet (ι := Nat × Nat × Bool) (fun j => [(1, ptr g1 0), (3, ptr g2 0), (4, uq j.1), (5, iq j.2.1), (6, .bool j.2.2), (7, .string (str t))]) (fun _ => [.own g2 81 [.string (str []), iq 0, iq 0], .own g1 81 [.string (str s), iq p, iq 0]])
    (fun j => (j.2.2 = false ∧ j.2.1 = cnt 10 t ∧ (j.2.1 = 10 ∨ j.2.1 = t.length)) ∨ (j.2.2 = true ∧ j.2.1 = cnt 10 t + 1 ∧ cnt 10 t < 10 ∧ cnt 10 t < t.length ∧ j.1 = valL (t.take j.2.1) % 18446744073709551616)) ?_ ?_
  · refine awp_block ?_
    refine awp_loop (ι := Nat × Nat) (fun i => [(1, ptr g1 0), (3, ptr g2 0), (4, uq i.2), (5, iq (i.1 : Nat)), (6, .bool false), (7, .string (str t)), (35, iq (t.length : Nat)), (36, iq (i.1 : Nat))]) (fun _ => [.own g2 81 [.string (str []), iq 0, iq 0], .own g1 81 [.string (str s), iq p, iq 0]])
      (fun i => i.1 ≤ cnt 10 t ∧ (i.1 ≤ 9 → i.2 = valL (t.take i.1))) (fun i => t.length - i.1) (0, 0) ⟨by omega, fun _ => rfl⟩ (Kn.cons rfl (Kn.cons rfl (Kn.cons rfl (Kn.cons rfl (Kn.cons rfl (Kn.cons rfl (Kn.cons rfl (Kn.cons rfl Kn.nil)))))))) (HLe.refl _) ?_
    rintro ⟨i, x⟩ ⟨hi, hx⟩
    simp only at hi hx
    refine awp_seq_region (fun Z hZ => ?_)
    refine sx_lss rfl rfl rfl ?_
    refine sx_nil (hZ _ _ ?_)
    refine awp_forget [(1, _), (3, _), (4, _), (5, _), (6, _), (7, _), (35, _), (36, _), (37, _)] (Kn.cons rfl (Kn.cons rfl (Kn.cons rfl (Kn.cons rfl (Kn.cons rfl (Kn.cons rfl (Kn.cons rfl (Kn.cons rfl (Kn.cons rfl (Kn.nil)))))))))) ?_
    refine awp_seq (awp_cond rfl (fun h => ?_) (fun h => ?_))
    · have hlt : i < t.length := by simpa using h
      have hd := getD_at hlt
      refine awp_skip ?_
      with_reducible refine nx_normal ?_
      refine awp_seq (awp_block ?_)
      refine awp_seq_region (fun Z hZ => ?_)
      refine sx_move rfl rfl ?_
      refine sx_assign rfl rfl ?_
      refine sx_nil (hZ _ _ ?_)
      refine awp_forget [(1, _), (3, _), (4, _), (5, _), (6, _), (7, _), (8, _), (35, _), (36, _)] (Kn.cons rfl (Kn.cons rfl (Kn.cons rfl (Kn.cons rfl (Kn.cons rfl (Kn.cons rfl (Kn.cons rfl (Kn.cons rfl (Kn.cons rfl (Kn.nil)))))))))) ?_
      refine awp_seq_region (fun Z hZ => ?_)
      refine sx_move rfl rfl ?_
      refine sx_move rfl rfl ?_
      refine sx_indexS (l := t) (c := t.getD i 0) Try.underlying9 rfl rfl (by omega) hd rfl ?_
      refine sx_assign rfl rfl ?_
      refine sx_nil (hZ _ _ ?_)
      refine awp_forget [(1, _), (3, _), (4, _), (5, _), (6, _), (7, _), (8, _), (9, _), (35, _), (36, _)] (Kn.cons rfl (Kn.cons rfl (Kn.cons rfl (Kn.cons rfl (Kn.cons rfl (Kn.cons rfl (Kn.cons rfl (Kn.cons rfl (Kn.cons rfl (Kn.cons rfl (Kn.nil))))))))))) ?_
      refine awp_block ?_
      refine awp_seq_region (fun Z hZ => ?_)
      refine sx_move rfl rfl ?_
      refine sx_eql rfl rfl rfl ?_
      refine sx_assign rfl rfl ?_
      refine sx_nil (hZ _ _ ?_)
      refine awp_forget [(1, _), (3, _), (4, _), (5, _), (6, _), (7, _), (8, _), (9, _), (35, _), (36, _), (52, _)] (Kn.cons rfl (Kn.cons rfl (Kn.cons rfl (Kn.cons rfl (Kn.cons rfl (Kn.cons rfl (Kn.cons rfl (Kn.cons rfl (Kn.cons rfl (Kn.cons rfl (Kn.cons rfl (Kn.nil)))))))))))) ?_
      refine awp_cond rfl (fun h2 => ?_) (fun h2 => ?_)
      · have hi10 : i = 10 := by simp at h2; omega
        refine awp_exit ?_
        repeat (with_reducible (first | refine nx_then_exit ?_ | refine nx_block_other (by decide) ?_))
        with_reducible refine nx_block_exit ?_
        exact nx_cut (x, i, false) (.inl ⟨rfl, by show i = _; omega, .inl hi10⟩) (Kn.cons rfl (Kn.cons rfl (Kn.cons rfl (Kn.cons rfl (Kn.cons rfl (Kn.cons rfl Kn.nil)))))) (HLe.refl _)
      have hi9 : i ≤ 9 := by simp at h2; omega
      have hx := hx hi9
      have hb := valL9 (t := t) (i := i) hi9
      have hdd : dat t i < 256 := dat_lt t i
      refine awp_seq_region (fun Z hZ => ?_)
      refine sx_move rfl rfl ?_
      refine sx_lss rfl rfl rfl ?_
      refine sx_assign rfl rfl ?_
      refine sx_nil (hZ _ _ ?_)
      refine awp_forget [(1, _), (3, _), (4, _), (6, _), (7, _), (8, _), (9, _), (35, _), (36, _), (55, _)] (Kn.cons rfl (Kn.cons rfl (Kn.cons rfl (Kn.cons rfl (Kn.cons rfl (Kn.cons rfl (Kn.cons rfl (Kn.cons rfl (Kn.cons rfl (Kn.cons rfl (Kn.nil))))))))))) ?_
      refine awp_cond rfl (fun h3 => ?_) (fun h3 => ?_)
      · have hd1 : dat t i < 128 := by
          have : (((t.getD i 0).toNat : Int)) < 128 := by simpa using h3
          simp only [dat]
          omega
        have hic : i = cnt 10 t := by
          rcases Nat.lt_or_ge i (cnt 10 t) with h4 | h4
          · have := cnt_in 10 t i h4
            omega
          · omega
        refine awp_seq_region (fun Z hZ => ?_)
        refine sx_move rfl rfl ?_
        refine sx_move rfl rfl ?_
        refine sx_conv Try.underlying5 Try.underlying35 rfl ((dat t i : Nat) : Int) (by rw [IntWalk.u64_in _ (by have := (t.getD i 0).toNat_lt; omega)]; rfl) rfl ?_
        refine sx_move rfl rfl ?_
        refine sx_mul rfl rfl ((7 * i : Nat) : Int) (add7 i hi9) rfl ?_
        refine sx_shl rfl rfl (by omega) _ rfl rfl ?_
        refine sx_bits (.inr (.inl rfl)) rfl rfl ((valL (t.take (i + 1)) % 18446744073709551616 : Nat) : Int) (by rw [hx, sh_or hi9 hb, valL_take hlt, Nat.mod_eq_of_lt hd1]) rfl ?_
        refine sx_assign rfl rfl ?_
        refine sx_nil (hZ _ _ ?_)
        refine awp_forget [(1, _), (3, _), (4, _), (7, _), (8, _)] (Kn.cons rfl (Kn.cons rfl (Kn.cons rfl (Kn.cons rfl (Kn.cons rfl (Kn.nil)))))) ?_
        refine awp_seq_region (fun Z hZ => ?_)
        refine sx_move rfl rfl ?_
        refine sx_add rfl rfl ((i + 1 : Nat) : Int) (by rw [IntWalk.i64_in _ (by omega)]; omega) rfl ?_
        refine sx_assign rfl rfl ?_
        refine sx_assign rfl rfl ?_
        refine sx_nil (hZ _ _ ?_)
        refine awp_forget [(1, _), (3, _), (4, _), (5, _), (6, _), (7, _)] (Kn.cons rfl (Kn.cons rfl (Kn.cons rfl (Kn.cons rfl (Kn.cons rfl (Kn.cons rfl (Kn.nil))))))) ?_
        refine awp_exit ?_
        repeat (with_reducible (first | refine nx_then_exit ?_ | refine nx_block_other (by decide) ?_))
        with_reducible refine nx_block_exit ?_
        exact nx_cut (valL (t.take (i + 1)) % 18446744073709551616, i + 1, true) (.inr ⟨rfl, by show i + 1 = _; omega, by omega, by omega, rfl⟩) (Kn.cons rfl (Kn.cons rfl (Kn.cons rfl (Kn.cons rfl (Kn.cons rfl (Kn.cons rfl Kn.nil)))))) (HLe.refl _)
      have hd1 : 128 ≤ dat t i := by
        have : ¬ (((t.getD i 0).toNat : Int)) < 128 := by simpa using h3
        simp only [dat]
        omega
      have hic : i < cnt 10 t := by
        rcases Nat.lt_or_ge i (cnt 10 t) with h4 | h4
        · exact h4
        · obtain rfl : i = cnt 10 t := by omega
          have := cnt_at 10 t (by omega) hlt
          omega
      refine awp_seq_region (fun Z hZ => ?_)
      refine sx_move rfl rfl ?_
      refine sx_move rfl rfl ?_
      refine sx_bits (.inl rfl) rfl rfl ((dat t i % 128 : Nat) : Int) (and127 _ (t.getD i 0).toNat_lt) rfl ?_
      refine sx_conv Try.underlying5 Try.underlying35 rfl ((dat t i % 128 : Nat) : Int) (by rw [IntWalk.u64_in _ (by omega)]) rfl ?_
      refine sx_move rfl rfl ?_
      refine sx_mul rfl rfl ((7 * i : Nat) : Int) (add7 i hi9) rfl ?_
      refine sx_shl rfl rfl (by omega) _ rfl rfl ?_
      refine sx_bits (.inr (.inl rfl)) rfl rfl ((valL (t.take (i + 1)) % 18446744073709551616 : Nat) : Int) (by rw [hx, sh_or hi9 hb, valL_take hlt]) rfl ?_
      refine sx_assign rfl rfl ?_
      refine sx_nil (hZ _ _ ?_)
      refine awp_forget [(1, _), (3, _), (4, _), (6, _), (7, _), (8, _), (35, _), (36, _)] (Kn.cons rfl (Kn.cons rfl (Kn.cons rfl (Kn.cons rfl (Kn.cons rfl (Kn.cons rfl (Kn.cons rfl (Kn.cons rfl (Kn.nil))))))))) ?_
      refine awp_region (fun Z hZ => ?_)
      refine sx_move rfl rfl ?_
      refine sx_add rfl rfl ((i + 1 : Nat) : Int) (by rw [IntWalk.i64_in _ (by omega)]; omega) rfl ?_
      refine sx_assign rfl rfl ?_
      refine sx_nil (hZ _ _ ?_)
      refine nx_forget [(1, _), (3, _), (4, _), (5, _), (6, _), (7, _), (35, _), (36, _)] (Kn.cons rfl (Kn.cons rfl (Kn.cons rfl (Kn.cons rfl (Kn.cons rfl (Kn.cons rfl (Kn.cons rfl (Kn.cons rfl (Kn.nil))))))))) ?_
      repeat (with_reducible refine nx_block_normal ?_)
      with_reducible refine nx_normal ?_
      refine awp_region (fun Z hZ => ?_)
      refine sx_add rfl rfl ((i + 1 : Nat) : Int) (by rw [IntWalk.i64_in _ (by omega)]; omega) rfl ?_
      refine sx_move rfl rfl ?_
      refine sx_nil (hZ _ _ ?_)
      refine nx_forget [(1, _), (3, _), (4, _), (5, _), (6, _), (7, _), (35, _), (36, _)] (Kn.cons rfl (Kn.cons rfl (Kn.cons rfl (Kn.cons rfl (Kn.cons rfl (Kn.cons rfl (Kn.cons rfl (Kn.cons rfl (Kn.nil))))))))) ?_
      refine nx_round (i + 1, valL (t.take (i + 1)) % 18446744073709551616) ⟨by show i + 1 ≤ _; omega, fun h9 => ?_⟩ (by simp; omega) (Kn.cons rfl (Kn.cons rfl (Kn.cons rfl (Kn.cons rfl (Kn.cons rfl (Kn.cons rfl (Kn.cons rfl (Kn.cons rfl Kn.nil)))))))) (HLe.refl _)
      exact valL_mod (by omega) hlt (fun h => by simp at h9; omega)
    · have hge : i = t.length := by simp at h; omega
      refine awp_exit ?_
      repeat (with_reducible refine nx_then_exit ?_)
      with_reducible refine nx_block_exit ?_
      exact nx_cut (x, i, false) (.inl ⟨rfl, by show i = _; omega, .inr hge⟩) (Kn.cons rfl (Kn.cons rfl (Kn.cons rfl (Kn.cons rfl (Kn.cons rfl (Kn.cons rfl Kn.nil)))))) (HLe.refl _)
  rintro ⟨x, n, b⟩ hj
  simp only at hj
  with_reducible refine nx_normal ?_
  show awp _ _ _ _ _ [(1, ptr g1 0), (3, ptr g2 0), (4, uq x), (5, iq n), (6, .bool b), (7, .string (str t))] _ _
  have done : ∀ e : Nat, wrongQ t = (e, 0) → e ≠ 0 → getQ s p = (0, p, e) := fun e he h0 => by
    unfold getQ
    rw [ht, he, if_neg h0]
  refine awp_seq (awp_block ?_)
  rcases hj with ⟨hb, hn, hor⟩ | ⟨hb, hn, h10, hcl2, hx⟩
  · subst hb hn
    refine awp_seq_meet [(1, ptr g1 0), (3, ptr g2 0), (4, uq x), (5, iq (cnt 10 t : Nat)), (6, .bool false), (7, .string (str t)), (68, .bool (decide (cnt 10 t = 10)))] [.own g2 81 [.string (str []), iq 0, iq 0], .own g1 81 [.string (str s), iq p, iq 0]] (fun Z hZ => ?_) ?_
    · refine sx_move rfl rfl ?_
      refine sx_not rfl rfl ?_
      refine sx_move rfl rfl ?_
      refine sx_force 71 rfl true (by rfl) ?_
      refine sx_on rfl rfl rfl ?_
      refine sx_move rfl rfl ?_
      refine sx_on rfl rfl rfl ?_
      refine sx_eql rfl rfl rfl ?_
      refine sx_pick rfl rfl rfl ?_
      refine sx_assign rfl rfl ?_
      refine sx_nil (hZ _ _ ?_ ?_)
      · exact Kn.cons rfl (Kn.cons rfl (Kn.cons rfl (Kn.cons rfl (Kn.cons rfl (Kn.cons rfl (Kn.cons (congrArg some (congrArg Value.bool (by rw [Bool.eq_iff_iff]; simp; omega))) Kn.nil))))))
      · exact HLe.refl _
    refine awp_cond rfl (fun h => ?_) (fun h => ?_)
    · have h10 : cnt 10 t = 10 := by simpa using h
      rw [done 11 (by unfold wrongQ; rw [if_pos h10]) (by decide)]
      refine awp_seq_region (fun Z hZ => ?_)
      refine sx_loadA 1 rfl rfl tyA81 tyS81 (by first | (simp only [List.length_cons, List.length_nil, Nat.reduceAdd, Nat.zero_add, Nat.add_zero]; first | done | rfl) | rfl) (by first | (simp only [List.take_succ_cons, List.take_zero, List.drop_succ_cons, List.drop_zero, List.cons_append, List.nil_append, List.append_nil, List.length_cons, List.length_nil, Nat.reduceAdd, Nat.zero_add, Nat.add_zero, Value.cells, wrV]; first | done | rfl) | rfl) rfl ?_
      refine sx_callP (vbad_fn s p 0 11) rfl rfl ?_
      refine sx_extract rfl rfl rfl ?_
      refine sx_extract rfl rfl rfl ?_
      refine sx_assign rfl rfl ?_
      refine sx_store 0 rfl rfl rfl tyS81 (by first | (simp only [Value.cells]; first | done | rfl) | rfl) rfl rfl (by first | (simp only [List.length_cons, List.length_nil, Nat.reduceAdd, Nat.zero_add, Nat.add_zero]; first | done | rfl) | rfl) (by first | (simp only [List.take_succ_cons, List.take_zero, List.drop_succ_cons, List.drop_zero, List.cons_append, List.nil_append, List.append_nil, List.length_cons, List.length_nil, Nat.reduceAdd, Nat.zero_add, Nat.add_zero, Value.cells, wrV]; first | done | rfl) | rfl) (by first | (simp only [List.set_cons_succ, List.set_cons_zero]; first | done | rfl) | rfl) ?_
      refine sx_nil (hZ _ _ ?_)
      refine awp_forget [(2, _), (3, _)] (Kn.cons rfl (Kn.cons rfl (Kn.nil))) ?_
      refine awp_ret ?_
      repeat (with_reducible (first | refine nx_then_ret ?_ | refine nx_block_ret ?_ | refine nx_scope_ret ?_))
      exact nx_ret2 rfl rfl (ResOk.cell 0 rfl rfl tyA81 tyS81 rfl) rfl
    · have h10 : cnt 10 t ≠ 10 := by simpa using h
      rw [done 3 (by unfold wrongQ; rw [if_neg h10, if_pos (hor.resolve_left h10)]) (by decide)]
      refine awp_seq_region (fun Z hZ => ?_)
      refine sx_move rfl rfl ?_
      refine sx_not rfl rfl ?_
      refine sx_assign rfl rfl ?_
      refine sx_nil (hZ _ _ ?_)
      refine awp_forget [(1, _), (3, _), (4, _), (5, _), (7, _), (79, _)] (Kn.cons rfl (Kn.cons rfl (Kn.cons rfl (Kn.cons rfl (Kn.cons rfl (Kn.cons rfl (Kn.nil))))))) ?_
      refine awp_cond rfl (fun h2 => ?_) (fun h2 => ?_)
      · refine awp_seq_region (fun Z hZ => ?_)
        refine sx_loadA 1 rfl rfl tyA81 tyS81 (by first | (simp only [List.length_cons, List.length_nil, Nat.reduceAdd, Nat.zero_add, Nat.add_zero]; first | done | rfl) | rfl) (by first | (simp only [List.take_succ_cons, List.take_zero, List.drop_succ_cons, List.drop_zero, List.cons_append, List.nil_append, List.append_nil, List.length_cons, List.length_nil, Nat.reduceAdd, Nat.zero_add, Nat.add_zero, Value.cells, wrV]; first | done | rfl) | rfl) rfl ?_
        refine sx_callP (vbad_fn s p 0 3) rfl rfl ?_
        refine sx_extract rfl rfl rfl ?_
        refine sx_extract rfl rfl rfl ?_
        refine sx_assign rfl rfl ?_
        refine sx_store 0 rfl rfl rfl tyS81 (by first | (simp only [Value.cells]; first | done | rfl) | rfl) rfl rfl (by first | (simp only [List.length_cons, List.length_nil, Nat.reduceAdd, Nat.zero_add, Nat.add_zero]; first | done | rfl) | rfl) (by first | (simp only [List.take_succ_cons, List.take_zero, List.drop_succ_cons, List.drop_zero, List.cons_append, List.nil_append, List.append_nil, List.length_cons, List.length_nil, Nat.reduceAdd, Nat.zero_add, Nat.add_zero, Value.cells, wrV]; first | done | rfl) | rfl) (by first | (simp only [List.set_cons_succ, List.set_cons_zero]; first | done | rfl) | rfl) ?_
        refine sx_nil (hZ _ _ ?_)
        refine awp_forget [(2, _), (3, _)] (Kn.cons rfl (Kn.cons rfl (Kn.nil))) ?_
        refine awp_ret ?_
        repeat (with_reducible (first | refine nx_then_ret ?_ | refine nx_block_ret ?_ | refine nx_scope_ret ?_))
        exact nx_ret2 rfl rfl (ResOk.cell 0 rfl rfl tyA81 tyS81 rfl) rfl
      · cases h2
  · subst hb hn
    have hdk := cnt_at 10 t h10 hcl2
    have hdx := getD_at hcl2
    have hdd : (t.getD (cnt 10 t) 0).toNat = dat t (cnt 10 t) := rfl
    have e9 : cnt 10 t = 9 → dat t 9 = dat t (cnt 10 t) := fun h => by rw [h]
    refine awp_seq_meet [(1, ptr g1 0), (3, ptr g2 0), (4, uq x), (5, iq (cnt 10 t + 1 : Nat)), (6, .bool true), (7, .string (str t)), (68, .bool false)] [.own g2 81 [.string (str []), iq 0, iq 0], .own g1 81 [.string (str s), iq p, iq 0]] (fun Z hZ => ?_) ?_
    · refine sx_move rfl rfl ?_
      refine sx_not rfl rfl ?_
      refine sx_move rfl rfl ?_
      refine sx_split 71 rfl (fun hb2 => ?_) (fun hb2 => ?_)
      · refine sx_on rfl rfl rfl ?_
        refine sx_move rfl rfl ?_
        refine sx_on rfl rfl rfl ?_
        refine sx_eql rfl rfl rfl ?_
        refine sx_pick rfl rfl rfl ?_
        refine sx_assign rfl rfl ?_
        refine sx_nil (hZ _ _ ?_ ?_)
        · (exfalso; revert hb2; decide)
        · exact HLe.refl _
      · refine sx_off rfl rfl rfl rfl rfl ?_
        refine sx_off rfl rfl rfl rfl rfl ?_
        refine sx_pick rfl rfl rfl ?_
        refine sx_assign rfl rfl ?_
        refine sx_nil (hZ _ _ ?_ ?_)
        · exact Kn.cons rfl (Kn.cons rfl (Kn.cons rfl (Kn.cons rfl (Kn.cons rfl (Kn.cons rfl (Kn.cons rfl Kn.nil))))))
        · exact HLe.refl _
    refine awp_cond rfl (fun h => ?_) (fun h => ?_)
    · cases h
    refine awp_seq_region (fun Z hZ => ?_)
    refine sx_move rfl rfl ?_
    refine sx_not rfl rfl ?_
    refine sx_assign rfl rfl ?_
    refine sx_nil (hZ _ _ ?_)
    refine awp_forget [(1, _), (3, _), (4, _), (5, _), (7, _), (79, _)] (Kn.cons rfl (Kn.cons rfl (Kn.cons rfl (Kn.cons rfl (Kn.cons rfl (Kn.cons rfl (Kn.nil))))))) ?_
    refine awp_cond rfl (fun h2 => ?_) (fun h2 => ?_)
    · cases h2
    refine awp_seq_meet [(1, ptr g1 0), (3, ptr g2 0), (4, uq x), (5, iq (cnt 10 t + 1 : Nat)), (7, .string (str t)), (86, .bool (decide (cnt 10 t = 9 ∧ 1 < dat t 9)))] [.own g2 81 [.string (str []), iq 0, iq 0], .own g1 81 [.string (str s), iq p, iq 0]] (fun Z hZ => ?_) ?_
    · refine sx_move rfl rfl ?_
      refine sx_eql rfl rfl rfl ?_
      refine sx_move rfl rfl ?_
      refine sx_split 89 rfl (fun hb2 => ?_) (fun hb2 => ?_)
      · refine sx_on rfl rfl rfl ?_
        refine sx_move rfl rfl ?_
        refine sx_on rfl rfl rfl ?_
        refine sx_move rfl rfl ?_
        refine sx_on rfl rfl rfl ?_
        refine sx_sub rfl rfl ((cnt 10 t : Nat) : Int) (by rw [IntWalk.i64_in _ (by omega)]; omega) rfl ?_
        refine sx_on rfl rfl rfl ?_
        refine sx_indexS (l := t) (c := t.getD (cnt 10 t) 0) Try.underlying9 rfl rfl (by omega) hdx rfl ?_
        refine sx_on rfl rfl rfl ?_
        refine sx_gtr rfl rfl rfl ?_
        refine sx_pick rfl rfl rfl ?_
        refine sx_assign rfl rfl ?_
        refine sx_nil (hZ _ _ ?_ ?_)
        · exact Kn.cons rfl (Kn.cons rfl (Kn.cons rfl (Kn.cons rfl (Kn.cons rfl (Kn.cons (congrArg some (congrArg Value.bool (by simp at hb2; rw [Bool.eq_iff_iff]; simp only [beq_iff_eq, decide_eq_true_eq, hdd, Bool.false_eq_true, false_iff]; omega))) Kn.nil)))))
        · exact HLe.refl _
      · refine sx_off rfl rfl rfl rfl rfl ?_
        refine sx_off rfl rfl rfl rfl rfl ?_
        refine sx_off rfl rfl rfl rfl rfl ?_
        refine sx_off rfl rfl rfl rfl rfl ?_
        refine sx_off rfl rfl rfl rfl rfl ?_
        refine sx_pick rfl rfl rfl ?_
        refine sx_assign rfl rfl ?_
        refine sx_nil (hZ _ _ ?_ ?_)
        · exact Kn.cons rfl (Kn.cons rfl (Kn.cons rfl (Kn.cons rfl (Kn.cons rfl (Kn.cons (congrArg some (congrArg Value.bool (by simp at hb2; rw [Bool.eq_iff_iff]; simp only [beq_iff_eq, decide_eq_true_eq, hdd, Bool.false_eq_true, false_iff]; omega))) Kn.nil)))))
        · exact HLe.refl _
    refine awp_cond rfl (fun h3 => ?_) (fun h3 => ?_)
    · have h9 : cnt 10 t = 9 ∧ 1 < dat t 9 := by simpa using h3
      rw [done 11 (by unfold wrongQ; rw [if_neg (by omega), if_neg (by omega), if_pos h9]) (by decide)]
      refine awp_seq_region (fun Z hZ => ?_)
      refine sx_loadA 1 rfl rfl tyA81 tyS81 (by first | (simp only [List.length_cons, List.length_nil, Nat.reduceAdd, Nat.zero_add, Nat.add_zero]; first | done | rfl) | rfl) (by first | (simp only [List.take_succ_cons, List.take_zero, List.drop_succ_cons, List.drop_zero, List.cons_append, List.nil_append, List.append_nil, List.length_cons, List.length_nil, Nat.reduceAdd, Nat.zero_add, Nat.add_zero, Value.cells, wrV]; first | done | rfl) | rfl) rfl ?_
      refine sx_callP (vbad_fn s p 0 11) rfl rfl ?_
      refine sx_extract rfl rfl rfl ?_
      refine sx_extract rfl rfl rfl ?_
      refine sx_assign rfl rfl ?_
      refine sx_store 0 rfl rfl rfl tyS81 (by first | (simp only [Value.cells]; first | done | rfl) | rfl) rfl rfl (by first | (simp only [List.length_cons, List.length_nil, Nat.reduceAdd, Nat.zero_add, Nat.add_zero]; first | done | rfl) | rfl) (by first | (simp only [List.take_succ_cons, List.take_zero, List.drop_succ_cons, List.drop_zero, List.cons_append, List.nil_append, List.append_nil, List.length_cons, List.length_nil, Nat.reduceAdd, Nat.zero_add, Nat.add_zero, Value.cells, wrV]; first | done | rfl) | rfl) (by first | (simp only [List.set_cons_succ, List.set_cons_zero]; first | done | rfl) | rfl) ?_
      refine sx_nil (hZ _ _ ?_)
      refine awp_forget [(2, _), (3, _)] (Kn.cons rfl (Kn.cons rfl (Kn.nil))) ?_
      refine awp_ret ?_
      repeat (with_reducible (first | refine nx_then_ret ?_ | refine nx_block_ret ?_ | refine nx_scope_ret ?_))
      exact nx_ret2 rfl rfl (ResOk.cell 0 rfl rfl tyA81 tyS81 rfl) rfl
    have h9 : ¬ (cnt 10 t = 9 ∧ 1 < dat t 9) := by simpa using h3
    refine awp_seq_meet [(1, ptr g1 0), (3, ptr g2 0), (4, uq x), (5, iq (cnt 10 t + 1 : Nat)), (100, .bool (decide (0 < cnt 10 t ∧ dat t (cnt 10 t) = 0)))] [.own g2 81 [.string (str []), iq 0, iq 0], .own g1 81 [.string (str s), iq p, iq 0]] (fun Z hZ => ?_) ?_
    · refine sx_move rfl rfl ?_
      refine sx_gtr rfl rfl rfl ?_
      refine sx_move rfl rfl ?_
      refine sx_split 103 rfl (fun hb2 => ?_) (fun hb2 => ?_)
      · refine sx_on rfl rfl rfl ?_
        refine sx_move rfl rfl ?_
        refine sx_on rfl rfl rfl ?_
        refine sx_move rfl rfl ?_
        refine sx_on rfl rfl rfl ?_
        refine sx_sub rfl rfl ((cnt 10 t : Nat) : Int) (by rw [IntWalk.i64_in _ (by omega)]; omega) rfl ?_
        refine sx_on rfl rfl rfl ?_
        refine sx_indexS (l := t) (c := t.getD (cnt 10 t) 0) Try.underlying9 rfl rfl (by omega) hdx rfl ?_
        refine sx_on rfl rfl rfl ?_
        refine sx_eql rfl rfl rfl ?_
        refine sx_pick rfl rfl rfl ?_
        refine sx_assign rfl rfl ?_
        refine sx_nil (hZ _ _ ?_ ?_)
        · exact Kn.cons rfl (Kn.cons rfl (Kn.cons rfl (Kn.cons rfl (Kn.cons (congrArg some (congrArg Value.bool (by simp at hb2; rw [Bool.eq_iff_iff]; simp only [beq_iff_eq, decide_eq_true_eq, hdd, Bool.false_eq_true, false_iff]; omega))) Kn.nil))))
        · exact HLe.refl _
      · refine sx_off rfl rfl rfl rfl rfl ?_
        refine sx_off rfl rfl rfl rfl rfl ?_
        refine sx_off rfl rfl rfl rfl rfl ?_
        refine sx_off rfl rfl rfl rfl rfl ?_
        refine sx_off rfl rfl rfl rfl rfl ?_
        refine sx_pick rfl rfl rfl ?_
        refine sx_assign rfl rfl ?_
        refine sx_nil (hZ _ _ ?_ ?_)
        · exact Kn.cons rfl (Kn.cons rfl (Kn.cons rfl (Kn.cons rfl (Kn.cons (congrArg some (congrArg Value.bool (by simp at hb2; rw [Bool.eq_iff_iff]; simp only [beq_iff_eq, decide_eq_true_eq, hdd, Bool.false_eq_true, false_iff]; omega))) Kn.nil))))
        · exact HLe.refl _
    refine awp_cond rfl (fun h4 => ?_) (fun h4 => ?_)
    · have h0 : 0 < cnt 10 t ∧ dat t (cnt 10 t) = 0 := by simpa using h4
      rw [done 4 (by unfold wrongQ; rw [if_neg (by omega), if_neg (by omega), if_neg h9, if_pos h0]) (by decide)]
      refine awp_seq_region (fun Z hZ => ?_)
      refine sx_loadA 1 rfl rfl tyA81 tyS81 (by first | (simp only [List.length_cons, List.length_nil, Nat.reduceAdd, Nat.zero_add, Nat.add_zero]; first | done | rfl) | rfl) (by first | (simp only [List.take_succ_cons, List.take_zero, List.drop_succ_cons, List.drop_zero, List.cons_append, List.nil_append, List.append_nil, List.length_cons, List.length_nil, Nat.reduceAdd, Nat.zero_add, Nat.add_zero, Value.cells, wrV]; first | done | rfl) | rfl) rfl ?_
      refine sx_callP (vbad_fn s p 0 4) rfl rfl ?_
      refine sx_extract rfl rfl rfl ?_
      refine sx_extract rfl rfl rfl ?_
      refine sx_assign rfl rfl ?_
      refine sx_store 0 rfl rfl rfl tyS81 (by first | (simp only [Value.cells]; first | done | rfl) | rfl) rfl rfl (by first | (simp only [List.length_cons, List.length_nil, Nat.reduceAdd, Nat.zero_add, Nat.add_zero]; first | done | rfl) | rfl) (by first | (simp only [List.take_succ_cons, List.take_zero, List.drop_succ_cons, List.drop_zero, List.cons_append, List.nil_append, List.append_nil, List.length_cons, List.length_nil, Nat.reduceAdd, Nat.zero_add, Nat.add_zero, Value.cells, wrV]; first | done | rfl) | rfl) (by first | (simp only [List.set_cons_succ, List.set_cons_zero]; first | done | rfl) | rfl) ?_
      refine sx_nil (hZ _ _ ?_)
      refine awp_forget [(2, _), (3, _)] (Kn.cons rfl (Kn.cons rfl (Kn.nil))) ?_
      refine awp_ret ?_
      repeat (with_reducible (first | refine nx_then_ret ?_ | refine nx_block_ret ?_ | refine nx_scope_ret ?_))
      exact nx_ret2 rfl rfl (ResOk.cell 0 rfl rfl tyA81 tyS81 rfl) rfl
    have h0 : ¬ (0 < cnt 10 t ∧ dat t (cnt 10 t) = 0) := by simpa using h4
    refine awp_skip ?_
    repeat (with_reducible refine nx_block_normal ?_)
    with_reducible refine nx_normal ?_
    have hw : wrongQ t = (0, cnt 10 t + 1) := by unfold wrongQ; rw [if_neg (by omega), if_neg (by omega), if_neg h9, if_neg h0]
    have hg : getQ s p = (x, p + (cnt 10 t + 1), 0) := by
      unfold getQ
      rw [ht, hw, if_pos rfl, hx, valL_mod (by omega) hcl2 (fun h => by have : ¬ 1 < dat t 9 := fun h' => h9 ⟨h, h'⟩; omega)]
    rw [hg]
    refine awp_seq_region (fun Z hZ => ?_)
    refine sx_fieldAddr rfl tyF81_1 (by first | (simp only [Nat.reduceAdd, Nat.add_zero, Nat.zero_add]; first | done | rfl) | rfl) rfl ?_
    refine sx_load 1 rfl rfl tyA3 tyS3 rfl rfl ?_
    refine sx_move rfl rfl ?_
    refine sx_add rfl rfl ((p + (cnt 10 t + 1) : Nat) : Int) (by rw [IntWalk.i64_in _ (by omega)]; omega) rfl ?_
    refine sx_fieldAddr rfl tyF81_1 (by first | (simp only [Nat.reduceAdd, Nat.add_zero, Nat.zero_add]; first | done | rfl) | rfl) rfl ?_
    refine sx_store1 1 rfl rfl rfl tyS3 rfl (by first | (simp only [List.length_cons, List.length_nil, Nat.reduceAdd, Nat.zero_add, Nat.add_zero]; first | done | rfl) | rfl) (by first | (simp only [List.set_cons_succ, List.set_cons_zero, Nat.reduceAdd, Nat.add_zero, Nat.zero_add]; first | done | rfl) | rfl) (by first | (simp only [List.set_cons_succ, List.set_cons_zero]; first | done | rfl) | rfl) ?_
    refine sx_nil (hZ _ _ ?_)
    refine awp_forget [(1, _), (3, _), (4, _)] (Kn.cons rfl (Kn.cons rfl (Kn.cons rfl (Kn.nil)))) ?_
    refine awd_seq_region [0, 1, 2, 3] mixed (by kernel_rfl) rfl (fun Z hZ => ?_)
    refine sx_move rfl rfl ?_
    refine sx_loadA 1 rfl rfl tyA81 tyS81 (by first | (simp only [List.length_cons, List.length_nil, Nat.reduceAdd, Nat.zero_add, Nat.add_zero]; first | done | rfl) | rfl) (by first | (simp only [List.take_succ_cons, List.take_zero, List.drop_succ_cons, List.drop_zero, List.cons_append, List.nil_append, List.append_nil, List.length_cons, List.length_nil, Nat.reduceAdd, Nat.zero_add, Nat.add_zero, Value.cells, wrV]; first | done | rfl) | rfl) rfl ?_
    refine sx_assign rfl rfl ?_
    refine sx_store 0 rfl rfl rfl tyS81 (by first | (simp only [Value.cells]; first | done | rfl) | rfl) rfl rfl (by first | (simp only [List.length_cons, List.length_nil, Nat.reduceAdd, Nat.zero_add, Nat.add_zero]; first | done | rfl) | rfl) (by first | (simp only [List.take_succ_cons, List.take_zero, List.drop_succ_cons, List.drop_zero, List.cons_append, List.nil_append, List.append_nil, List.length_cons, List.length_nil, Nat.reduceAdd, Nat.zero_add, Nat.add_zero, Value.cells, wrV]; first | done | rfl) | rfl) (by first | (simp only [List.set_cons_succ, List.set_cons_zero]; first | done | rfl) | rfl) ?_
    refine sx_nil (hZ _ _ ?_)
    refine awp_forget [(2, _), (3, _)] (Kn.cons rfl (Kn.cons rfl (Kn.nil))) ?_
    refine awp_ret ?_
    repeat (with_reducible refine nx_scope_ret ?_)
    exact nx_ret2 rfl rfl (ResOk.cell 0 rfl rfl tyA81 tyS81 rfl) rfl
end Go.Proofs.Ytjelakmndcecoaa

namespace Go.Proofs.Ytjelakmndcecoaa
open Go.RowKit
set_option linter.unusedVariables false
set_option linter.unusedSimpArgs false
theorem cnt_lt_iff {t : List UInt8} {n : Nat} (h : n ≤ cnt 10 t) : n < cnt 10 t ↔ (n < t.length ∧ n < 10 ∧ 128 ≤ dat t n) := by
  obtain ⟨h1, h2⟩ := cnt_le 10 t
  constructor
  · intro h3
    exact ⟨by omega, by omega, cnt_in 10 t n h3⟩
  · rintro ⟨h3, h4, h5⟩
    rcases Nat.lt_or_ge n (cnt 10 t) with h6 | h6
    · exact h6
    · obtain rfl : n = cnt 10 t := by omega
      have := cnt_at 10 t (by omega) (by omega)
      omega
theorem rwrong_fn (t : List UInt8) (ht : t.length ≤ 1000000) : Fn Try.prog 64 [.string (str t)] [] fun v _ => v = .tuple #[iq (wrongQ t).1, iq (wrongQ t).2] := by
  obtain ⟨hc10, hcl⟩ := cnt_le 10 t
  refine Fn.enter (N := 45) Try.func64 rfl (by kernel_rfl) rfl (fun w0 => ?_)
  refine awp_seq_region (fun Z hZ => ?_)
  refine sx_assign rfl rfl ?_
  refine sx_assign rfl rfl ?_
  refine sx_nil (hZ _ _ ?_)
  refine awp_forget [(0, _)] (Kn.cons rfl (Kn.nil)) ?_
  refine awp_seq_region (fun Z hZ => ?_)
  refine sx_assign rfl rfl ?_
  refine sx_nil (hZ _ _ ?_)
  refine awp_forget [(0, _), (4, _)] (Kn.cons rfl (Kn.cons rfl (Kn.nil))) ?_
  refine awp_seq (awp_block ?_)
  refine awp_loop (ι := Nat) (fun n => [(0, .string (str t)), (4, iq (n : Nat))]) (fun _ => []) (fun n => n ≤ cnt 10 t) (fun n => 10 - n) 0 (by omega) (Kn.cons rfl (Kn.cons rfl Kn.nil)) (HLe.refl _) ?_
  intro n hn
  have key := cnt_lt_iff hn
  have hdd : (t.getD n 0).toNat = dat t n := rfl
  refine awp_seq ?_
  refine awp_seq_meet [(0, .string (str t)), (4, iq (n : Nat)), (18, .bool (decide (n < cnt 10 t)))] [] (fun Z hZ => ?_) ?_
  · refine sx_move rfl rfl ?_
    refine sx_move rfl rfl ?_
    refine sx_lenS Try.underlying9 rfl rfl ?_
    refine sx_lss rfl rfl rfl ?_
    refine sx_move rfl rfl ?_
    refine sx_split 9 rfl (fun hb4 => ?_) (fun hb4 => ?_)
    · refine sx_on rfl rfl rfl ?_
      refine sx_move rfl rfl ?_
      refine sx_on rfl rfl rfl ?_
      refine sx_lss rfl rfl rfl ?_
      refine sx_pick rfl rfl rfl ?_
      refine sx_move rfl rfl ?_
      refine sx_split 13 rfl (fun hb8 => ?_) (fun hb8 => ?_)
      · refine sx_on rfl rfl rfl ?_
        refine sx_move rfl rfl ?_
        refine sx_on rfl rfl rfl ?_
        refine sx_move rfl rfl ?_
        refine sx_on rfl rfl rfl ?_
        refine sx_indexS (l := t) (c := t.getD n 0) Try.underlying9 rfl rfl (by omega) (getD_at (by simp at hb4; omega)) rfl ?_
        refine sx_on rfl rfl rfl ?_
        refine sx_geq rfl rfl rfl ?_
        refine sx_pick rfl rfl rfl ?_
        refine sx_nil (hZ _ _ ?_ ?_)
        · exact Kn.cons rfl (Kn.cons rfl (Kn.cons (congrArg some (congrArg Value.bool (by (try simp at hb4); (try simp at hb8); rw [Bool.eq_iff_iff]; simp only [decide_eq_true_eq, hdd, Bool.false_eq_true, false_iff]; omega))) Kn.nil))
        · exact HLe.refl _
      · refine sx_off rfl rfl rfl rfl rfl ?_
        refine sx_off rfl rfl rfl rfl rfl ?_
        refine sx_off rfl rfl rfl rfl rfl ?_
        refine sx_off rfl rfl rfl rfl rfl ?_
        refine sx_pick rfl rfl rfl ?_
        refine sx_nil (hZ _ _ ?_ ?_)
        · exact Kn.cons rfl (Kn.cons rfl (Kn.cons (congrArg some (congrArg Value.bool (by (try simp at hb4); (try simp at hb8); rw [Bool.eq_iff_iff]; simp only [decide_eq_true_eq, hdd, Bool.false_eq_true, false_iff]; omega))) Kn.nil))
        · exact HLe.refl _
    · refine sx_off rfl rfl rfl rfl rfl ?_
      refine sx_off rfl rfl rfl rfl rfl ?_
      refine sx_pick rfl rfl rfl ?_
      refine sx_move rfl rfl ?_
      refine sx_off rfl rfl rfl rfl rfl ?_
      refine sx_off rfl rfl rfl rfl rfl ?_
      refine sx_off rfl rfl rfl rfl rfl ?_
      refine sx_off rfl rfl rfl rfl rfl ?_
      refine sx_pick rfl rfl rfl ?_
      refine sx_nil (hZ _ _ ?_ ?_)
      · exact Kn.cons rfl (Kn.cons rfl (Kn.cons (congrArg some (congrArg Value.bool (by (try simp at hb4); (try simp at hb8); rw [Bool.eq_iff_iff]; simp only [decide_eq_true_eq, hdd, Bool.false_eq_true, false_iff]; omega))) Kn.nil))
      · exact HLe.refl _
  refine awp_cond rfl (fun h => ?_) (fun h => ?_)
  · have hlt : n < cnt 10 t := by simpa using h
    refine awp_skip ?_
    with_reducible refine nx_normal ?_
    refine awp_block ?_
    refine awp_region (fun Z hZ => ?_)
    refine sx_move rfl rfl ?_
    refine sx_add rfl rfl ((n + 1 : Nat) : Int) (by rw [IntWalk.i64_in _ (by omega)]; omega) rfl ?_
    refine sx_assign rfl rfl ?_
    refine sx_nil (hZ _ _ ?_)
    refine nx_forget [(0, _), (4, _)] (Kn.cons rfl (Kn.cons rfl (Kn.nil))) ?_
    repeat (with_reducible refine nx_block_normal ?_)
    exact nx_round (n + 1) (by omega) (by omega) (Kn.cons rfl (Kn.cons rfl Kn.nil)) (HLe.refl _)
  have hge : n = cnt 10 t := by simp at h; omega
  subst hge
  refine awp_exit ?_
  repeat (with_reducible refine nx_then_exit ?_)
  with_reducible refine nx_block_exit ?_
  with_reducible refine nx_normal ?_
  refine awp_seq ?_
  refine awp_seq_region (fun Z hZ => ?_)
  refine sx_move rfl rfl ?_
  refine sx_eql rfl rfl rfl ?_
  refine sx_nil (hZ _ _ ?_)
  refine awp_forget [(0, _), (4, _), (22, _)] (Kn.cons rfl (Kn.cons rfl (Kn.cons rfl (Kn.nil)))) ?_
  refine awp_cond rfl (fun h1 => ?_) (fun h1 => ?_)
  · have h10 : cnt 10 t = 10 := by simp at h1; omega
    rw [show wrongQ t = (11, 0) by unfold wrongQ; rw [if_pos h10]]
    refine awp_seq_region (fun Z hZ => ?_)
    refine sx_assign rfl rfl ?_
    refine sx_assign rfl rfl ?_
    refine sx_nil (hZ _ _ ?_)
    refine awp_forget [(2, _), (3, _)] (Kn.cons rfl (Kn.cons rfl (Kn.nil))) ?_
    refine awp_ret ?_
    repeat (with_reducible refine nx_then_ret ?_)
    exact nx_ret2 rfl rfl rfl rfl
  have h10 : cnt 10 t ≠ 10 := by simp at h1; omega
  refine awp_skip ?_
  with_reducible refine nx_normal ?_
  refine awp_seq ?_
  refine awp_seq_region (fun Z hZ => ?_)
  refine sx_move rfl rfl ?_
  refine sx_move rfl rfl ?_
  refine sx_lenS Try.underlying9 rfl rfl ?_
  refine sx_eql rfl rfl rfl ?_
  refine sx_nil (hZ _ _ ?_)
  refine awp_forget [(0, _), (4, _), (26, _)] (Kn.cons rfl (Kn.cons rfl (Kn.cons rfl (Kn.nil)))) ?_
  refine awp_cond rfl (fun h2 => ?_) (fun h2 => ?_)
  · have hl : cnt 10 t = t.length := by simp at h2; omega
    rw [show wrongQ t = (3, 0) by unfold wrongQ; rw [if_neg h10, if_pos hl]]
    refine awp_seq_region (fun Z hZ => ?_)
    refine sx_assign rfl rfl ?_
    refine sx_assign rfl rfl ?_
    refine sx_nil (hZ _ _ ?_)
    refine awp_forget [(2, _), (3, _)] (Kn.cons rfl (Kn.cons rfl (Kn.nil))) ?_
    refine awp_ret ?_
    repeat (with_reducible refine nx_then_ret ?_)
    exact nx_ret2 rfl rfl rfl rfl
  have hl : cnt 10 t ≠ t.length := by simp at h2; omega
  have hcl2 : cnt 10 t < t.length := by omega
  have hdx := getD_at hcl2
  have e9 : cnt 10 t = 9 → dat t 9 = dat t (cnt 10 t) := fun h => by rw [h]
  refine awp_skip ?_
  with_reducible refine nx_normal ?_
  refine awp_seq ?_
  refine awp_seq_meet [(0, .string (str t)), (4, iq (cnt 10 t : Nat)), (34, .bool (decide (cnt 10 t = 9 ∧ 1 < dat t 9)))] [] (fun Z hZ => ?_) ?_
  · refine sx_move rfl rfl ?_
    refine sx_eql rfl rfl rfl ?_
    refine sx_move rfl rfl ?_
    refine sx_split 29 rfl (fun hb2 => ?_) (fun hb2 => ?_)
    · refine sx_on rfl rfl rfl ?_
      refine sx_move rfl rfl ?_
      refine sx_on rfl rfl rfl ?_
      refine sx_move rfl rfl ?_
      refine sx_on rfl rfl rfl ?_
      refine sx_indexS (l := t) (c := t.getD (cnt 10 t) 0) Try.underlying9 rfl rfl (by omega) hdx rfl ?_
      refine sx_on rfl rfl rfl ?_
      refine sx_gtr rfl rfl rfl ?_
      refine sx_pick rfl rfl rfl ?_
      refine sx_nil (hZ _ _ ?_ ?_)
      · exact Kn.cons rfl (Kn.cons rfl (Kn.cons (congrArg some (congrArg Value.bool (by simp at hb2; rw [Bool.eq_iff_iff]; simp only [beq_iff_eq, decide_eq_true_eq, hdd, Bool.false_eq_true, false_iff]; omega))) Kn.nil))
      · exact HLe.refl _
    · refine sx_off rfl rfl rfl rfl rfl ?_
      refine sx_off rfl rfl rfl rfl rfl ?_
      refine sx_off rfl rfl rfl rfl rfl ?_
      refine sx_off rfl rfl rfl rfl rfl ?_
      refine sx_pick rfl rfl rfl ?_
      refine sx_nil (hZ _ _ ?_ ?_)
      · exact Kn.cons rfl (Kn.cons rfl (Kn.cons (congrArg some (congrArg Value.bool (by simp at hb2; rw [Bool.eq_iff_iff]; simp only [beq_iff_eq, decide_eq_true_eq, hdd, Bool.false_eq_true, false_iff]; omega))) Kn.nil))
      · exact HLe.refl _
  refine awp_cond rfl (fun h3 => ?_) (fun h3 => ?_)
  · have h9 : cnt 10 t = 9 ∧ 1 < dat t 9 := by simpa using h3
    rw [show wrongQ t = (11, 0) by unfold wrongQ; rw [if_neg h10, if_neg hl, if_pos h9]]
    refine awp_seq_region (fun Z hZ => ?_)
    refine sx_assign rfl rfl ?_
    refine sx_assign rfl rfl ?_
    refine sx_nil (hZ _ _ ?_)
    refine awp_forget [(2, _), (3, _)] (Kn.cons rfl (Kn.cons rfl (Kn.nil))) ?_
    refine awp_ret ?_
    repeat (with_reducible refine nx_then_ret ?_)
    exact nx_ret2 rfl rfl rfl rfl
  have h9 : ¬ (cnt 10 t = 9 ∧ 1 < dat t 9) := by simpa using h3
  refine awp_skip ?_
  with_reducible refine nx_normal ?_
  refine awp_seq ?_
  refine awp_seq_meet [(4, iq (cnt 10 t : Nat)), (42, .bool (decide (0 < cnt 10 t ∧ dat t (cnt 10 t) = 0)))] [] (fun Z hZ => ?_) ?_
  · refine sx_move rfl rfl ?_
    refine sx_gtr rfl rfl rfl ?_
    refine sx_move rfl rfl ?_
    refine sx_split 37 rfl (fun hb2 => ?_) (fun hb2 => ?_)
    · refine sx_on rfl rfl rfl ?_
      refine sx_move rfl rfl ?_
      refine sx_on rfl rfl rfl ?_
      refine sx_move rfl rfl ?_
      refine sx_on rfl rfl rfl ?_
      refine sx_indexS (l := t) (c := t.getD (cnt 10 t) 0) Try.underlying9 rfl rfl (by omega) hdx rfl ?_
      refine sx_on rfl rfl rfl ?_
      refine sx_eql rfl rfl rfl ?_
      refine sx_pick rfl rfl rfl ?_
      refine sx_nil (hZ _ _ ?_ ?_)
      · exact Kn.cons rfl (Kn.cons (congrArg some (congrArg Value.bool (by simp at hb2; rw [Bool.eq_iff_iff]; simp only [beq_iff_eq, decide_eq_true_eq, hdd, Bool.false_eq_true, false_iff]; omega))) Kn.nil)
      · exact HLe.refl _
    · refine sx_off rfl rfl rfl rfl rfl ?_
      refine sx_off rfl rfl rfl rfl rfl ?_
      refine sx_off rfl rfl rfl rfl rfl ?_
      refine sx_off rfl rfl rfl rfl rfl ?_
      refine sx_pick rfl rfl rfl ?_
      refine sx_nil (hZ _ _ ?_ ?_)
      · exact Kn.cons rfl (Kn.cons (congrArg some (congrArg Value.bool (by simp at hb2; rw [Bool.eq_iff_iff]; simp only [beq_iff_eq, decide_eq_true_eq, hdd, Bool.false_eq_true, false_iff]; omega))) Kn.nil)
      · exact HLe.refl _
  refine awp_cond rfl (fun h4 => ?_) (fun h4 => ?_)
  · have h0 : 0 < cnt 10 t ∧ dat t (cnt 10 t) = 0 := by simpa using h4
    rw [show wrongQ t = (4, 0) by unfold wrongQ; rw [if_neg h10, if_neg hl, if_neg h9, if_pos h0]]
    refine awp_seq_region (fun Z hZ => ?_)
    refine sx_assign rfl rfl ?_
    refine sx_assign rfl rfl ?_
    refine sx_nil (hZ _ _ ?_)
    refine awp_forget [(2, _), (3, _)] (Kn.cons rfl (Kn.cons rfl (Kn.nil))) ?_
    refine awp_ret ?_
    repeat (with_reducible refine nx_then_ret ?_)
    exact nx_ret2 rfl rfl rfl rfl
  have h0 : ¬ (0 < cnt 10 t ∧ dat t (cnt 10 t) = 0) := by simpa using h4
  rw [show wrongQ t = (0, cnt 10 t + 1) by unfold wrongQ; rw [if_neg h10, if_neg hl, if_neg h9, if_neg h0]]
  refine awp_skip ?_
  with_reducible refine nx_normal ?_
  refine awp_seq_region (fun Z hZ => ?_)
  refine sx_move rfl rfl ?_
  refine sx_add rfl rfl ((cnt 10 t + 1 : Nat) : Int) (by rw [IntWalk.i64_in _ (by omega)]; omega) rfl ?_
  refine sx_assign rfl rfl ?_
  refine sx_assign rfl rfl ?_
  refine sx_nil (hZ _ _ ?_)
  refine awp_forget [(2, _), (3, _)] (Kn.cons rfl (Kn.cons rfl (Kn.nil))) ?_
  refine awp_ret ?_
  exact nx_ret2 rfl rfl rfl rfl
theorem wrong_ok {t : List UInt8} (h : (wrongQ t).1 = 0) : (wrongQ t).2 = cnt 10 t + 1 ∧ cnt 10 t < 10 ∧ cnt 10 t < t.length ∧ (cnt 10 t = 9 → dat t 9 ≤ 1) := by
  obtain ⟨hc10, hcl⟩ := cnt_le 10 t
  unfold wrongQ at h ⊢
  by_cases h1 : cnt 10 t = 10
  · rw [if_pos h1] at h; cases h
  rw [if_neg h1] at h ⊢
  by_cases h2 : cnt 10 t = t.length
  · rw [if_pos h2] at h; cases h
  rw [if_neg h2] at h ⊢
  by_cases h3 : cnt 10 t = 9 ∧ 1 < dat t 9
  · rw [if_pos h3] at h; cases h
  rw [if_neg h3] at h ⊢
  by_cases h4 : 0 < cnt 10 t ∧ dat t (cnt 10 t) = 0
  · rw [if_pos h4] at h; cases h
  rw [if_neg h4]
  exact ⟨rfl, by omega, by omega, fun h9 => by omega⟩
theorem valL_drop {l : List UInt8} {i : Nat} (h : i < l.length) : valL (l.drop i) = dat l i % 128 + 128 * valL (l.drop (i + 1)) := by
  rw [List.drop_eq_getElem_cons h, valL]
  simp [dat, h]
theorem valL_mono : ∀ (l : List UInt8) (i : Nat), valL (l.drop i) ≤ valL l
  | l, 0 => by simp
  | [], i + 1 => by simp
  | b :: r, i + 1 => by
    have := valL_mono r i
    simp only [List.drop_succ_cons, valL]
    omega
theorem rget_fn (s : List UInt8) (p : Nat) (hp : p ≤ s.length) (hs : s.length ≤ 1000000) : Fn Try.prog 54 [scV s p 0] [] fun v _ => v = getV (getQ s p) s := by
  obtain ⟨t, ht⟩ : ∃ t, s.drop p = t := ⟨_, rfl⟩
  have htl : t.length + p = s.length := by rw [← ht, List.length_drop]; omega
  refine Fn.enter (N := 64) Try.func54 rfl (by kernel_rfl) rfl (fun w0 => ?_)
  refine awp_seq_region (fun Z hZ => ?_)
  refine sx_box rfl rfl rfl (fun g1 => ?_)
  refine sx_assign rfl rfl ?_
  refine sx_alloc tyZ113 rfl (fun g2 => ?_)
  refine sx_nil (hZ _ _ ?_)
  refine awp_forget [(1, _), (3, _)] (Kn.cons rfl (Kn.cons rfl (Kn.nil))) ?_
  refine awp_seq ?_
  refine awp_seq_region (fun Z hZ => ?_)
  refine sx_fieldAddr rfl tyF113_2 (by first | (simp only [Nat.reduceAdd, Nat.add_zero, Nat.zero_add]; first | done | rfl) | rfl) rfl ?_
  refine sx_load 1 rfl rfl tyA3 tyS3 rfl rfl ?_
  refine sx_neq rfl rfl rfl ?_
  refine sx_nil (hZ _ _ ?_)
  refine awp_forget [(1, _), (3, _), (10, _)] (Kn.cons rfl (Kn.cons rfl (Kn.cons rfl (Kn.nil)))) ?_
  refine awp_cond rfl (fun h => ?_) (fun h => ?_)
  · cases h
  refine awp_skip ?_
  with_reducible refine nx_normal ?_
  refine awp_seq ?_
  refine awp_seq_meet [(1, ptr g1 0), (3, ptr g2 0), (22, .bool false)] [.own g2 113 [.string (str []), iq 0, iq 0], .own g1 113 [.string (str s), iq p, iq 0]] (fun Z hZ => ?_) ?_
  · refine sx_fieldAddr rfl tyF113_1 (by first | (simp only [Nat.reduceAdd, Nat.add_zero, Nat.zero_add]; first | done | rfl) | rfl) rfl ?_
    refine sx_load 1 rfl rfl tyA3 tyS3 rfl rfl ?_
    refine sx_lss rfl rfl rfl ?_
    refine sx_move rfl rfl ?_
    refine sx_force 15 rfl false (by simp) ?_
    refine sx_on rfl rfl rfl ?_
    refine sx_fieldAddr rfl tyF113_1 (by first | (simp only [Nat.reduceAdd, Nat.add_zero, Nat.zero_add]; first | done | rfl) | rfl) rfl ?_
    refine sx_on rfl rfl rfl ?_
    refine sx_load 1 rfl rfl tyA3 tyS3 rfl rfl ?_
    refine sx_on rfl rfl rfl ?_
    refine sx_fieldAddr rfl tyF113_0 (by first | (simp only [Nat.reduceAdd, Nat.add_zero, Nat.zero_add]; first | done | rfl) | rfl) rfl ?_
    refine sx_on rfl rfl rfl ?_
    refine sx_load 1 rfl rfl tyA9 tyS9 rfl rfl ?_
    refine sx_on rfl rfl rfl ?_
    refine sx_lenS Try.underlying9 rfl rfl ?_
    refine sx_on rfl rfl rfl ?_
    refine sx_gtr rfl rfl rfl ?_
    refine sx_pick rfl rfl rfl ?_
    refine sx_nil (hZ _ _ ?_ ?_)
    · exact Kn.cons rfl (Kn.cons rfl (Kn.cons (congrArg some (congrArg Value.bool (by simp; omega))) Kn.nil))
    · exact HLe.refl _
  refine awp_cond rfl (fun h => ?_) (fun h => ?_)
  · cases h
  refine awp_skip ?_
  with_reducible refine nx_normal ?_
  refine awp_seq_region (fun Z hZ => ?_)
  refine sx_fieldAddr rfl tyF113_0 (by first | (simp only [Nat.reduceAdd, Nat.add_zero, Nat.zero_add]; first | done | rfl) | rfl) rfl ?_
  refine sx_load 1 rfl rfl tyA9 tyS9 rfl rfl ?_
  refine sx_fieldAddr rfl tyF113_1 (by first | (simp only [Nat.reduceAdd, Nat.add_zero, Nat.zero_add]; first | done | rfl) | rfl) rfl ?_
  refine sx_load 1 rfl rfl tyA3 tyS3 rfl rfl ?_
  refine sx_sliceS t Try.underlying9 rfl rfl rfl (by omega) (by omega) (by omega) (by rw [← ht]; exact List.take_of_length_le (by rw [List.length_drop]; omega)) rfl ?_
  refine sx_callP (rwrong_fn t (by omega)) rfl rfl ?_
  refine sx_move rfl rfl ?_
  refine sx_extract rfl rfl rfl ?_
  refine sx_extract rfl rfl rfl ?_
  refine sx_assign rfl rfl ?_
  refine sx_assign rfl rfl ?_
  refine sx_nil (hZ _ _ ?_)
  refine awp_forget [(1, _), (3, _), (4, _), (5, _)] (Kn.cons rfl (Kn.cons rfl (Kn.cons rfl (Kn.cons rfl (Kn.nil))))) ?_
  refine awp_seq ?_
  refine awp_seq_region (fun Z hZ => ?_)
  refine sx_move rfl rfl ?_
  refine sx_neq rfl rfl rfl ?_
  refine sx_nil (hZ _ _ ?_)
  refine awp_forget [(1, _), (3, _), (4, _), (5, _), (35, _)] (Kn.cons rfl (Kn.cons rfl (Kn.cons rfl (Kn.cons rfl (Kn.cons rfl (Kn.nil)))))) ?_
  refine awp_cond rfl (fun h1 => ?_) (fun h1 => ?_)
  · have hne : (wrongQ t).1 ≠ 0 := by simp at h1; omega
    rw [show getQ s p = (0, p, (wrongQ t).1) by unfold getQ; rw [ht, if_neg hne]]
    refine awp_seq_region (fun Z hZ => ?_)
    refine sx_move rfl rfl ?_
    refine sx_fieldAddr rfl tyF113_2 (by first | (simp only [Nat.reduceAdd, Nat.add_zero, Nat.zero_add]; first | done | rfl) | rfl) rfl ?_
    refine sx_store1 1 rfl rfl rfl tyS3 rfl (by first | (simp only [List.length_cons, List.length_nil, Nat.reduceAdd, Nat.zero_add, Nat.add_zero]; first | done | rfl) | rfl) (by first | (simp only [List.set_cons_succ, List.set_cons_zero, Nat.reduceAdd, Nat.add_zero, Nat.zero_add]; first | done | rfl) | rfl) (by first | (simp only [List.set_cons_succ, List.set_cons_zero]; first | done | rfl) | rfl) ?_
    refine sx_nil (hZ _ _ ?_)
    refine awp_forget [(1, _), (3, _)] (Kn.cons rfl (Kn.cons rfl (Kn.nil))) ?_
    refine awd_seq_region [0, 1, 2] mixed (by kernel_rfl) rfl (fun Z hZ => ?_)
    refine sx_loadA 1 rfl rfl tyA113 tyS113 (by first | (simp only [List.length_cons, List.length_nil, Nat.reduceAdd, Nat.zero_add, Nat.add_zero]; first | done | rfl) | rfl) (by first | (simp only [List.take_succ_cons, List.take_zero, List.drop_succ_cons, List.drop_zero, List.cons_append, List.nil_append, List.append_nil, List.length_cons, List.length_nil, Nat.reduceAdd, Nat.zero_add, Nat.add_zero, Value.cells, wrV]; first | done | rfl) | rfl) rfl ?_
    refine sx_assign rfl rfl ?_
    refine sx_store 0 rfl rfl rfl tyS113 (by first | (simp only [Value.cells]; first | done | rfl) | rfl) rfl rfl (by first | (simp only [List.length_cons, List.length_nil, Nat.reduceAdd, Nat.zero_add, Nat.add_zero]; first | done | rfl) | rfl) (by first | (simp only [List.take_succ_cons, List.take_zero, List.drop_succ_cons, List.drop_zero, List.cons_append, List.nil_append, List.append_nil, List.length_cons, List.length_nil, Nat.reduceAdd, Nat.zero_add, Nat.add_zero, Value.cells, wrV]; first | done | rfl) | rfl) (by first | (simp only [List.set_cons_succ, List.set_cons_zero]; first | done | rfl) | rfl) ?_
    refine sx_nil (hZ _ _ ?_)
    refine awp_forget [(2, _), (3, _)] (Kn.cons rfl (Kn.cons rfl (Kn.nil))) ?_
    refine awp_ret ?_
    repeat (with_reducible refine nx_then_ret ?_)
    exact nx_ret2 rfl rfl (ResOk.cell 0 rfl rfl tyA113 tyS113 rfl) rfl
  have he : (wrongQ t).1 = 0 := by simp at h1; omega
  obtain ⟨hn, hk, hkl, h9⟩ := wrong_ok he
  obtain ⟨n, hnn⟩ : ∃ n, (wrongQ t).2 = n := ⟨_, rfl⟩
  have hg : getQ s p = (valL (t.take n), p + n, 0) := by unfold getQ; rw [ht, if_pos he, hnn]
  rw [hg]
  simp only [hnn]
  rw [hnn] at hn
  have hbig : valL (t.take n) < 18446744073709551616 := by
    have := valL_mod (t := t) (k := cnt 10 t) (by omega) hkl h9
    rw [hn]
    omega
  refine awp_skip ?_
  with_reducible refine nx_normal ?_
  refine awp_seq_region (fun Z hZ => ?_)
  refine sx_assign rfl rfl ?_
  refine sx_nil (hZ _ _ ?_)
  refine awp_forget [(1, _), (3, _), (5, _), (6, _)] (Kn.cons rfl (Kn.cons rfl (Kn.cons rfl (Kn.cons rfl (Kn.nil))))) ?_
  refine awp_seq ?_
  refine awp_seq_region (fun Z hZ => ?_)
  refine sx_move rfl rfl ?_
  refine sx_sub rfl rfl (((n : Nat) : Int) - 1) (by rw [IntWalk.i64_in _ (by omega)]) rfl ?_
  refine sx_assign rfl rfl ?_
  refine sx_nil (hZ _ _ ?_)
  refine awp_forget [(1, _), (3, _), (5, _), (6, _), (7, _)] (Kn.cons rfl (Kn.cons rfl (Kn.cons rfl (Kn.cons rfl (Kn.cons rfl (Kn.nil)))))) ?_
  refine awp_block ?_
  refine awp_loop (ι := Nat) (fun i => [(1, ptr g1 0), (3, ptr g2 0), (5, iq (n : Nat)), (6, uq (valL ((t.take n).drop i))), (7, iq ((i : Int) - 1))]) (fun _ => [.own g2 113 [.string (str []), iq 0, iq 0], .own g1 113 [.string (str s), iq p, iq 0]])
    (fun i => i ≤ n) (fun i => i) n (by omega) (Kn.cons rfl (Kn.cons rfl (Kn.cons rfl (Kn.cons (by rw [List.drop_eq_nil_of_le (by rw [List.length_take]; omega)]; rfl) (Kn.cons rfl Kn.nil))))) (HLe.refl _) ?_
  intro i hi
  refine awp_seq ?_
  refine awp_seq_region (fun Z hZ => ?_)
  refine sx_move rfl rfl ?_
  refine sx_geq rfl rfl rfl ?_
  refine sx_nil (hZ _ _ ?_)
  refine awp_forget [(1, _), (3, _), (5, _), (6, _), (7, _), (42, _)] (Kn.cons rfl (Kn.cons rfl (Kn.cons rfl (Kn.cons rfl (Kn.cons rfl (Kn.cons rfl (Kn.nil))))))) ?_
  refine awp_cond rfl (fun h2 => ?_) (fun h2 => ?_)
  · obtain ⟨i, rfl⟩ : ∃ k, i = k + 1 := ⟨i - 1, by simp at h2; omega⟩
    have hil : i < t.length := by omega
    have hsd : s[p + i]? = some (t.getD i 0) := by
      rw [← getD_at hil, ← ht, List.getElem?_drop]
    have hd : dat (t.take n) i = dat t i := by simp [dat, List.getElem?_take, show i < n by omega]
    have hvd := valL_drop (l := t.take n) (i := i) (by rw [List.length_take]; omega)
    have hvm := valL_mono (t.take n) i
    refine awp_skip ?_
    with_reducible refine nx_normal ?_
    refine awp_seq (awp_block ?_)
    refine awp_region (fun Z hZ => ?_)
    refine sx_move rfl rfl ?_
    refine sx_mul rfl rfl ((128 * valL ((t.take n).drop (i + 1)) : Nat) : Int) (by rw [IntWalk.u64_in _ (by omega)]; omega) rfl ?_
    refine sx_fieldAddr rfl tyF113_0 (by first | (simp only [Nat.reduceAdd, Nat.add_zero, Nat.zero_add]; first | done | rfl) | rfl) rfl ?_
    refine sx_load 1 rfl rfl tyA9 tyS9 rfl rfl ?_
    refine sx_fieldAddr rfl tyF113_1 (by first | (simp only [Nat.reduceAdd, Nat.add_zero, Nat.zero_add]; first | done | rfl) | rfl) rfl ?_
    refine sx_load 1 rfl rfl tyA3 tyS3 rfl rfl ?_
    refine sx_move rfl rfl ?_
    refine sx_add rfl rfl ((p + i : Nat) : Int) (by rw [IntWalk.i64_in _ (by omega)]; omega) rfl ?_
    refine sx_indexS (l := s) (c := t.getD i 0) Try.underlying9 rfl rfl (by omega) hsd rfl ?_
    refine sx_rem rfl rfl (by decide) ((dat t i % 128 : Nat) : Int) (by rw [Int.tmod_eq_emod_of_nonneg (by omega)]; simp only [dat]; omega) rfl ?_
    refine sx_conv Try.underlying5 Try.underlying35 rfl ((dat t i % 128 : Nat) : Int) (by rw [IntWalk.u64_in _ (by omega)]) rfl ?_
    refine sx_add rfl rfl ((valL ((t.take n).drop i) : Nat) : Int) (by rw [IntWalk.u64_in _ (by omega)]; omega) rfl ?_
    refine sx_assign rfl rfl ?_
    refine sx_nil (hZ _ _ ?_)
    refine nx_forget [(1, _), (3, _), (5, _), (6, _), (7, _)] (Kn.cons rfl (Kn.cons rfl (Kn.cons rfl (Kn.cons rfl (Kn.cons rfl (Kn.nil)))))) ?_
    repeat (with_reducible refine nx_block_normal ?_)
    with_reducible refine nx_normal ?_
    refine awp_region (fun Z hZ => ?_)
    refine sx_move rfl rfl ?_
    refine sx_sub rfl rfl ((i : Int) - 1) (by rw [IntWalk.i64_in _ (by omega)]; omega) rfl ?_
    refine sx_assign rfl rfl ?_
    refine sx_nil (hZ _ _ ?_)
    refine nx_forget [(1, _), (3, _), (5, _), (6, _), (7, _)] (Kn.cons rfl (Kn.cons rfl (Kn.cons rfl (Kn.cons rfl (Kn.cons rfl (Kn.nil)))))) ?_
    exact nx_round i (by omega) (by omega) (Kn.cons rfl (Kn.cons rfl (Kn.cons rfl (Kn.cons rfl (Kn.cons rfl Kn.nil))))) (HLe.refl _)
  have hi0 : i = 0 := by simp at h2; omega
  subst hi0
  refine awp_exit ?_
  repeat (with_reducible refine nx_then_exit ?_)
  with_reducible refine nx_block_exit ?_
  with_reducible refine nx_normal ?_
  refine awp_seq_region (fun Z hZ => ?_)
  refine sx_fieldAddr rfl tyF113_1 (by first | (simp only [Nat.reduceAdd, Nat.add_zero, Nat.zero_add]; first | done | rfl) | rfl) rfl ?_
  refine sx_load 1 rfl rfl tyA3 tyS3 rfl rfl ?_
  refine sx_move rfl rfl ?_
  refine sx_add rfl rfl ((p + n : Nat) : Int) (by rw [IntWalk.i64_in _ (by omega)]; omega) rfl ?_
  refine sx_fieldAddr rfl tyF113_1 (by first | (simp only [Nat.reduceAdd, Nat.add_zero, Nat.zero_add]; first | done | rfl) | rfl) rfl ?_
  refine sx_store1 1 rfl rfl rfl tyS3 rfl (by first | (simp only [List.length_cons, List.length_nil, Nat.reduceAdd, Nat.zero_add, Nat.add_zero]; first | done | rfl) | rfl) (by first | (simp only [List.set_cons_succ, List.set_cons_zero, Nat.reduceAdd, Nat.add_zero, Nat.zero_add]; first | done | rfl) | rfl) (by first | (simp only [List.set_cons_succ, List.set_cons_zero]; first | done | rfl) | rfl) ?_
  refine sx_nil (hZ _ _ ?_)
  refine awp_forget [(1, _), (3, _), (6, _)] (Kn.cons rfl (Kn.cons rfl (Kn.cons rfl (Kn.nil)))) ?_
  refine awd_seq_region [0, 1, 2, 3] mixed (by kernel_rfl) rfl (fun Z hZ => ?_)
  refine sx_move rfl rfl ?_
  refine sx_loadA 1 rfl rfl tyA113 tyS113 (by first | (simp only [List.length_cons, List.length_nil, Nat.reduceAdd, Nat.zero_add, Nat.add_zero]; first | done | rfl) | rfl) (by first | (simp only [List.take_succ_cons, List.take_zero, List.drop_succ_cons, List.drop_zero, List.cons_append, List.nil_append, List.append_nil, List.length_cons, List.length_nil, Nat.reduceAdd, Nat.zero_add, Nat.add_zero, Value.cells, wrV]; first | done | rfl) | rfl) rfl ?_
  refine sx_assign rfl rfl ?_
  refine sx_store 0 rfl rfl rfl tyS113 (by first | (simp only [Value.cells]; first | done | rfl) | rfl) rfl rfl (by first | (simp only [List.length_cons, List.length_nil, Nat.reduceAdd, Nat.zero_add, Nat.add_zero]; first | done | rfl) | rfl) (by first | (simp only [List.take_succ_cons, List.take_zero, List.drop_succ_cons, List.drop_zero, List.cons_append, List.nil_append, List.append_nil, List.length_cons, List.length_nil, Nat.reduceAdd, Nat.zero_add, Nat.add_zero, Value.cells, wrV]; first | done | rfl) | rfl) (by first | (simp only [List.set_cons_succ, List.set_cons_zero]; first | done | rfl) | rfl) ?_
  refine sx_nil (hZ _ _ ?_)
  refine awp_forget [(2, _), (3, _)] (Kn.cons rfl (Kn.cons rfl (Kn.nil))) ?_
  refine awp_ret ?_
  exact nx_ret2 rfl rfl (ResOk.cell 0 rfl rfl tyA113 tyS113 rfl) rfl
end Go.Proofs.Ytjelakmndcecoaa
