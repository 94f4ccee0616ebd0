/- The walks of package varint: a number taken off a text, in the code and in the document. No conditions but of lengths. -/
import Derived.Test.YtfffhnefjaomnaaVa2
namespace Go.Proofs.Ytfffhnefjaomnaa
open Go.RowKit
set_option linter.unusedVariables false
set_option linter.unusedSimpArgs false
def dat (t : List UInt8) (i : Nat) : Nat := (t.getD i 0).toNat
def valL : List UInt8 → Nat
  | [] => 0
  | b :: r => b.toNat % 128 + 128 * valL r
/-- How many bytes say that more follow, at most so many. -/
def cnt : Nat → List UInt8 → Nat
  | 0, _ => 0
  | _ + 1, [] => 0
  | k + 1, b :: r => if 128 ≤ b.toNat then cnt k r + 1 else 0
theorem cnt_le : ∀ (k : Nat) (t : List UInt8), cnt k t ≤ k ∧ cnt k t ≤ t.length
  | 0, t => by simp [cnt]
  | k + 1, [] => by simp [cnt]
  | k + 1, b :: r => by
    have := cnt_le k r
    simp only [cnt, List.length_cons]
    split <;> omega
theorem dat_cons (b : UInt8) (r : List UInt8) (i : Nat) : dat (b :: r) (i + 1) = dat r i := by simp [dat]
theorem cnt_in : ∀ (k : Nat) (t : List UInt8) (i : Nat), i < cnt k t → 128 ≤ dat t i
  | 0, t, i, h => by simp [cnt] at h
  | k + 1, [], i, h => by simp [cnt] at h
  | k + 1, b :: r, i, h => by
    simp only [cnt] at h
    split at h
    · cases i with
      | zero => simpa [dat] using ‹128 ≤ b.toNat›
      | succ i => rw [dat_cons]; exact cnt_in k r i (by omega)
    · omega
theorem cnt_at : ∀ (k : Nat) (t : List UInt8), cnt k t < k → cnt k t < t.length → dat t (cnt k t) < 128
  | 0, t, h, _ => by omega
  | k + 1, [], _, h => by simp [cnt] at h
  | k + 1, b :: r, h1, h2 => by
    simp only [cnt] at h1 h2 ⊢
    split
    · rename_i hb
      rw [if_pos hb] at h1 h2
      rw [dat_cons]
      exact cnt_at k r (by omega) (by simpa using h2)
    · rename_i hb
      simpa [dat] using hb
/-- What is wrong with the number with which a text begins, and how many bytes it has. -/
def wrongQ (t : List UInt8) : Nat × Nat :=
  if cnt 10 t = 10 then (11, 0) else if cnt 10 t = t.length then (3, 0) else if cnt 10 t = 9 ∧ 1 < dat t 9 then (11, 0) else if 0 < cnt 10 t ∧ dat t (cnt 10 t) = 0 then (4, 0) else (0, cnt 10 t + 1)
def getQ (s : List UInt8) (p : Nat) : Nat × Nat × Nat :=
  if (wrongQ (s.drop p)).1 = 0 then (valL ((s.drop p).take (wrongQ (s.drop p)).2), p + (wrongQ (s.drop p)).2, 0) else (0, p, (wrongQ (s.drop p)).1)
def scV (s : List UInt8) (p e : Nat) : Value := .agg #[.string (str s), iq p, iq e]
def getV (g : Nat × Nat × Nat) (s : List UInt8) : Value := .tuple #[uq g.1, scV s g.2.1 g.2.2]
theorem getD_at {t : List UInt8} {i : Nat} (h : i < t.length) : t[i]? = some (t.getD i 0) := by simp [h]
theorem vbad_fn (s : List UInt8) (p e0 e : Nat) : Fn Try.prog 49 [scV s p e0, iq e] [] fun v _ => v = .tuple #[uq 0, scV s p e] := by
  refine Fn.enter (N := 9) Try.func49 rfl (by kernel_rfl) rfl (fun w0 => ?_)
  refine awp_seq_region (fun Z hZ => ?_)
  refine sx_box rfl rfl rfl (fun g1 => ?_)
  refine sx_assign rfl rfl ?_
  refine sx_alloc tyZ65 rfl (fun g2 => ?_)
  refine sx_nil (hZ _ _ ?_)
  refine awp_forget [(1, _), (2, _), (5, _)] (Kn.cons rfl (Kn.cons rfl (Kn.cons rfl (Kn.nil)))) ?_
  refine awp_seq_region (fun Z hZ => ?_)
  refine sx_move rfl rfl ?_
  refine sx_fieldAddr rfl tyF65_2 (by first | (simp only [Nat.reduceAdd, Nat.add_zero, Nat.zero_add]; first | done | rfl) | rfl) rfl ?_
  first | refine sx_store1 0 rfl rfl rfl tyS24 rfl (by first | (simp only [List.length_cons, List.length_nil, Nat.reduceAdd, Nat.zero_add, Nat.add_zero]; first | done | rfl) | rfl) (by first | (simp only [List.set_cons_succ, List.set_cons_zero, Nat.reduceAdd, Nat.add_zero, Nat.zero_add]; first | done | rfl) | rfl) (by first | (simp only [List.set_cons_succ, List.set_cons_zero]; first | done | rfl) | rfl) ?_ | refine sx_store1 1 rfl rfl rfl tyS24 rfl (by first | (simp only [List.length_cons, List.length_nil, Nat.reduceAdd, Nat.zero_add, Nat.add_zero]; first | done | rfl) | rfl) (by first | (simp only [List.set_cons_succ, List.set_cons_zero, Nat.reduceAdd, Nat.add_zero, Nat.zero_add]; first | done | rfl) | rfl) (by first | (simp only [List.set_cons_succ, List.set_cons_zero]; first | done | rfl) | rfl) ?_
  refine sx_nil (hZ _ _ ?_)
  refine awp_forget [(2, _), (5, _)] (Kn.cons rfl (Kn.cons rfl (Kn.nil))) ?_
  refine awd_seq_region [0, 1, 2] mixed (by kernel_rfl) rfl (fun Z hZ => ?_)
  first | refine sx_loadA 0 rfl rfl tyA65 tyS65 (by first | (simp only [List.length_cons, List.length_nil, Nat.reduceAdd, Nat.zero_add, Nat.add_zero]; first | done | rfl) | rfl) (by first | (simp only [List.take_succ_cons, List.take_zero, List.drop_succ_cons, List.drop_zero, List.cons_append, List.nil_append, List.append_nil, List.length_cons, List.length_nil, Nat.reduceAdd, Nat.zero_add, Nat.add_zero, Value.cells, wrV]; first | done | rfl) | rfl) rfl ?_ | refine sx_loadA 1 rfl rfl tyA65 tyS65 (by first | (simp only [List.length_cons, List.length_nil, Nat.reduceAdd, Nat.zero_add, Nat.add_zero]; first | done | rfl) | rfl) (by first | (simp only [List.take_succ_cons, List.take_zero, List.drop_succ_cons, List.drop_zero, List.cons_append, List.nil_append, List.append_nil, List.length_cons, List.length_nil, Nat.reduceAdd, Nat.zero_add, Nat.add_zero, Value.cells, wrV]; first | done | rfl) | rfl) rfl ?_
  refine sx_assign rfl rfl ?_
  first | refine sx_store 0 rfl rfl rfl tyS65 (by first | (simp only [Value.cells]; first | done | rfl) | rfl) rfl rfl (by first | (simp only [List.length_cons, List.length_nil, Nat.reduceAdd, Nat.zero_add, Nat.add_zero]; first | done | rfl) | rfl) (by first | (simp only [List.take_succ_cons, List.take_zero, List.drop_succ_cons, List.drop_zero, List.cons_append, List.nil_append, List.append_nil, List.length_cons, List.length_nil, Nat.reduceAdd, Nat.zero_add, Nat.add_zero, Value.cells, wrV]; first | done | rfl) | rfl) (by first | (simp only [List.set_cons_succ, List.set_cons_zero]; first | done | rfl) | rfl) ?_ | refine sx_store 1 rfl rfl rfl tyS65 (by first | (simp only [Value.cells]; first | done | rfl) | rfl) rfl rfl (by first | (simp only [List.length_cons, List.length_nil, Nat.reduceAdd, Nat.zero_add, Nat.add_zero]; first | done | rfl) | rfl) (by first | (simp only [List.take_succ_cons, List.take_zero, List.drop_succ_cons, List.drop_zero, List.cons_append, List.nil_append, List.append_nil, List.length_cons, List.length_nil, Nat.reduceAdd, Nat.zero_add, Nat.add_zero, Value.cells, wrV]; first | done | rfl) | rfl) (by first | (simp only [List.set_cons_succ, List.set_cons_zero]; first | done | rfl) | rfl) ?_
  refine sx_nil (hZ _ _ ?_)
  refine awp_forget [(4, _), (5, _)] (Kn.cons rfl (Kn.cons rfl (Kn.nil))) ?_
  refine awp_ret ?_
  repeat (with_reducible (first | refine nx_then_ret ?_ | refine nx_block_ret ?_ | refine nx_scope_ret ?_))
  exact nx_ret2 rfl rfl (ResOk.cell 0 rfl rfl tyA65 tyS65 rfl) rfl
theorem valL_lt : ∀ l : List UInt8, valL l < 128 ^ l.length
  | [] => by simp [valL]
  | b :: r => by
    have := valL_lt r
    rw [List.length_cons, Nat.pow_succ]
    simp only [valL]
    omega
theorem valL_snoc : ∀ (l : List UInt8) (b : UInt8), valL (l ++ [b]) = valL l + b.toNat % 128 * 128 ^ l.length
  | [], b => by simp [valL]
  | a :: r, b => by
    rw [List.cons_append, valL, valL, valL_snoc r b, List.length_cons, Nat.pow_succ, Nat.mul_add, Nat.add_assoc]
    congr 2
    rw [Nat.mul_comm 128, Nat.mul_assoc]
theorem valL_take {t : List UInt8} {i : Nat} (h : i < t.length) : valL (t.take (i + 1)) = valL (t.take i) + dat t i % 128 * 128 ^ i := by
  rw [List.take_succ_eq_append_getElem h, valL_snoc, List.length_take, Nat.min_eq_left (by omega)]
  simp [dat, h]
theorem and127 : ∀ m : Nat, m < 256 → bitsV .and .u8 (m : Int) 127 = ((m % 128 : Nat) : Int) := by decide +kernel
theorem pow7 (i : Nat) : 128 ^ i = 2 ^ (7 * i) := by rw [Nat.pow_mul]
theorem sh_or {x b i : Nat} (hi : i ≤ 9) (hx : x < 128 ^ i) : bitsV .or .u64 (x : Int) (IntKind.u64.wrap ((b : Int) * 2 ^ (min ((7 * i : Nat) : Int).toNat IntKind.u64.bits))) = (((x + b * 128 ^ i) % 18446744073709551616 : Nat) : Int) := by
  have h1 : (min ((7 * i : Nat) : Int).toNat IntKind.u64.bits) = 7 * i := by
    show min (7 * i) 64 = 7 * i
    omega
  have h2 : ((b : Int) * 2 ^ (7 * i)) = ((b * 2 ^ (7 * i) : Nat) : Int) := by push_cast; rfl
  have h64 : (18446744073709551616 : Nat) = 2 ^ (64 - 7 * i) * 2 ^ (7 * i) := by rw [← Nat.pow_add, show 64 - 7 * i + 7 * i = 64 by omega]
  have h3 : b * 2 ^ (7 * i) % 18446744073709551616 = (b % 2 ^ (64 - 7 * i)) * 2 ^ (7 * i) := by
    conv => lhs; rw [h64]
    rw [Nat.mul_mod_mul_right]
  have hw : ∀ m : Nat, IntKind.u64.wrap (m : Int) = ((m % 18446744073709551616 : Nat) : Int) := fun m => by simp [IntKind.wrap, IntKind.bits, IntKind.signed]
  have hb : ∀ m : Nat, m < 18446744073709551616 → (BitVec.ofInt IntKind.u64.bits (m : Int)).toNat = m := fun m hm => by
    show (BitVec.ofInt 64 (m : Int)).toNat = m
    rw [BitVec.toNat_ofInt]
    omega
  rw [pow7] at hx ⊢
  have hxs : x < 18446744073709551616 := Nat.lt_of_lt_of_le hx (by rw [show (18446744073709551616 : Nat) = 2 ^ 64 from rfl]; exact Nat.pow_le_pow_right (by omega) (by omega))
  have hq : b % 2 ^ (64 - 7 * i) < 2 ^ (64 - 7 * i) := Nat.mod_lt _ (Nat.pow_pos (by omega))
  have hsum : b % 2 ^ (64 - 7 * i) * 2 ^ (7 * i) + x < 18446744073709551616 := by
    rw [h64]
    calc b % 2 ^ (64 - 7 * i) * 2 ^ (7 * i) + x < b % 2 ^ (64 - 7 * i) * 2 ^ (7 * i) + 2 ^ (7 * i) := by omega
      _ = (b % 2 ^ (64 - 7 * i) + 1) * 2 ^ (7 * i) := by rw [Nat.add_mul, Nat.one_mul]
      _ ≤ 2 ^ (64 - 7 * i) * 2 ^ (7 * i) := Nat.mul_le_mul_right _ hq
  rw [h1, h2, hw, h3]
  have hm : b % 2 ^ (64 - 7 * i) * 2 ^ (7 * i) < 18446744073709551616 := by omega
  show IntKind.u64.wrap (((BitVec.ofInt IntKind.u64.bits (x : Int)) ||| (BitVec.ofInt IntKind.u64.bits ((b % 2 ^ (64 - 7 * i) * 2 ^ (7 * i) : Nat) : Int))).toNat : Int) = _
  rw [BitVec.toNat_or, hb x hxs, hb _ hm, Nat.or_comm, ← Nat.shiftLeft_eq, ← Nat.shiftLeft_add_eq_or_of_lt hx, Nat.shiftLeft_eq, hw, Nat.mod_eq_of_lt hsum]
  rw [show x + b * 2 ^ (7 * i) = b * 2 ^ (7 * i) + x by omega, Nat.add_mod, h3, Nat.mod_eq_of_lt hxs, Nat.mod_eq_of_lt hsum]
end Go.Proofs.Ytfffhnefjaomnaa
