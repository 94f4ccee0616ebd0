/- Walks and plain laws for this claim (texts Gcu1, joined). Each theorem states its own conditions. -/
import Derived.Test.YtkojkeabelckjaaGreatDoorJ26

set_option linter.all false
namespace Go.Proofs.YtkojkeabelckjaaGreatDoor
open Go.RowKit
set_option maxRecDepth 100000
theorem wr64 (m : Nat) (h : m < 18446744073709551616) : IntKind.u64.wrap (m : Int) = (m : Int) := IntWalk.u64_in _ (by omega)
theorem bv64 (m : Nat) (h : m < 18446744073709551616) : (BitVec.ofInt IntKind.u64.bits (m : Int)).toNat = m := by
  show (BitVec.ofInt 64 (m : Int)).toNat = m
  rw [BitVec.toNat_ofInt]
  omega
theorem and64 (m n : Nat) (hm : m < 18446744073709551616) (hn : n < 18446744073709551616) : bitsV .and .u64 (m : Int) (n : Int) = ((m &&& n : Nat) : Int) := by
  show IntKind.u64.wrap (((BitVec.ofInt IntKind.u64.bits (m : Int)) &&& (BitVec.ofInt IntKind.u64.bits (n : Int))).toNat : Int) = _
  rw [BitVec.toNat_and, bv64 m hm, bv64 n hn, wr64]
  exact Nat.lt_of_le_of_lt Nat.and_le_left hm
theorem or64 (m n : Nat) (hm : m < 18446744073709551616) (hn : n < 18446744073709551616) : bitsV .or .u64 (m : Int) (n : Int) = ((m ||| n : Nat) : Int) := by
  show IntKind.u64.wrap (((BitVec.ofInt IntKind.u64.bits (m : Int)) ||| (BitVec.ofInt IntKind.u64.bits (n : Int))).toNat : Int) = _
  rw [BitVec.toNat_or, bv64 m hm, bv64 n hn, wr64]
  exact Nat.or_lt_two_pow (n := 64) hm hn
theorem and_low (m i : Nat) (hm : m < 18446744073709551616) (hi : i ≤ 60) : bitsV .and .u64 (m : Int) ((2 ^ i - 1 : Nat) : Int) = ((m % 2 ^ i : Nat) : Int) := by
  have h : 2 ^ i ≤ 2 ^ 60 := Nat.pow_le_pow_right (by decide) hi
  rw [and64 _ _ hm (by omega), Nat.and_two_pow_sub_one_eq_mod]
theorem and_one (m : Nat) (hm : m < 18446744073709551616) : bitsV .and .u64 (m : Int) 1 = ((m % 2 : Nat) : Int) := and_low m 1 hm (by decide)
theorem and_3 (m : Nat) (hm : m < 18446744073709551616) : bitsV .and .u64 (m : Int) 3 = ((m % 4 : Nat) : Int) := and_low m 2 hm (by decide)
theorem or_at (m b i : Nat) (hb : b < 2 ^ i) (h : m * 2 ^ i + b < 18446744073709551616) : bitsV .or .u64 ((m * 2 ^ i : Nat) : Int) (b : Int) = ((m * 2 ^ i + b : Nat) : Int) := by
  rw [or64 _ _ (by omega) (by omega), Nat.mul_comm m, ← Nat.two_pow_add_eq_or_of_lt hb]
theorem or_at' (m b i : Nat) (hb : b < 2 ^ i) (h : m * 2 ^ i + b < 18446744073709551616) : bitsV .or .u64 (b : Int) ((m * 2 ^ i : Nat) : Int) = ((m * 2 ^ i + b : Nat) : Int) := by
  rw [or64 _ _ (by omega) (by omega), Nat.or_comm, Nat.mul_comm m, ← Nat.two_pow_add_eq_or_of_lt hb]
theorem shr_at (m i : Nat) (hi : i ≤ 64) : (m : Int).fdiv (2 ^ (min ((i : Nat) : Int).toNat IntKind.u64.bits)) = ((m / 2 ^ i : Nat) : Int) := by
  have h1 : min ((i : Nat) : Int).toNat IntKind.u64.bits = i := by show min i 64 = i; omega
  have h2 : ((2 : Int) ^ i) = ((2 ^ i : Nat) : Int) := by push_cast; rfl
  rw [h1, h2, Int.fdiv_eq_ediv_of_nonneg _ (Int.natCast_nonneg _), Int.natCast_ediv]
theorem shl_at (k : IntKind) (m i : Nat) (hk : k.bits = 64) (hi : i ≤ 64) (hw : ∀ x : Nat, x = m * 2 ^ i → k.wrap (x : Int) = (x : Int)) : k.wrap ((m : Int) * 2 ^ (min ((i : Nat) : Int).toNat k.bits)) = ((m * 2 ^ i : Nat) : Int) := by
  have h1 : min ((i : Nat) : Int).toNat k.bits = i := by rw [hk]; show min i 64 = i; omega
  have h2 : ((m : Int) * 2 ^ i) = ((m * 2 ^ i : Nat) : Int) := by push_cast; rfl
  rw [h1, h2]
  exact hw _ rfl
theorem cside_fn (z : Nat) (hz : z ≤ 26) : Fn Tryz.prog 74 [iq z] [] fun v _ => v = iq ((2 ^ z : Nat) : Int) := by
  have hb := pow2_le26 hz
  refine Fn.enter (N := 11) Tryz.func74 rfl (by kernel_rfl) rfl (fun w0 => ?_)
  refine aR fun Z hZ => sA rfl rfl <| sN (hZ _ _ ?_)
  refine aF [(0, _)] (Kn.cons rfl (Kn.nil)) ?_
  refine aS ?_
  refine jA1 [(0, iq (z : Nat)), (8, .bool false)] [] (fun Z hZ => ?_) ?_
  · refine sM rfl rfl ?_
    refine jC3 rfl rfl rfl ?_
    refine sM rfl rfl ?_
    refine jB6 5 rfl (fun hb2 => ?_) (fun hb2 => ?_)
    · refine sO rfl rfl rfl rfl rfl ?_
      refine sO rfl rfl rfl rfl rfl ?_
      refine sP rfl rfl rfl ?_
      refine sN (hZ _ _ ?_ ?_)
      · exact Kn.cons rfl (Kn.cons (congrArg some (congrArg Value.bool (by first | rfl | (simp at *; done) | (simp at *; omega)))) Kn.nil)
      · exact HLe.refl _
    · refine sOn rfl rfl rfl ?_
      refine sM rfl rfl ?_
      refine sOn rfl rfl rfl ?_
      refine jE3 rfl rfl rfl ?_
      refine sP rfl rfl rfl ?_
      refine sN (hZ _ _ ?_ ?_)
      · exact Kn.cons rfl (Kn.cons (congrArg some (congrArg Value.bool (by first | rfl | (simp at *; done) | (simp at *; omega)))) Kn.nil)
      · exact HLe.refl _
  refine aC rfl (fun h => ?_) (fun h => ?_)
  · cases h
  refine aK ?_
  with_reducible refine nN ?_
  refine aR fun Z hZ => sM rfl rfl ?_
  refine sx_shl rfl rfl (by omega) ((1 * 2 ^ z : Nat) : Int) (shl_at .i64 1 z rfl (by omega) fun x hx => IntWalk.i64_in _ (by omega)) rfl ?_
  refine sA rfl rfl <| sN (hZ _ _ ?_)
  refine aF [(2, _)] (Kn.cons rfl (Kn.nil)) ?_
  refine aE ?_
  exact nR1 rfl rfl (by rw [Nat.one_mul])
theorem cside_no (z : Int) (hz : z < 0 ∨ 26 < z) : Fn Tryz.prog 74 [iq z] [] fun v _ => v = iq (0 : Int) := by
  refine Fn.enter (N := 11) Tryz.func74 rfl (by kernel_rfl) rfl (fun w0 => ?_)
  refine aR fun Z hZ => sA rfl rfl <| sN (hZ _ _ ?_)
  refine aF [(0, _)] (Kn.cons rfl (Kn.nil)) ?_
  refine aS ?_
  refine jA1 [(8, .bool true)] [] (fun Z hZ => ?_) ?_
  · refine sM rfl rfl ?_
    refine jC3 rfl rfl rfl ?_
    refine sM rfl rfl ?_
    refine jB6 5 rfl (fun hb2 => ?_) (fun hb2 => ?_)
    · refine sO rfl rfl rfl rfl rfl ?_
      refine sO rfl rfl rfl rfl rfl ?_
      refine sP rfl rfl rfl ?_
      refine sN (hZ _ _ ?_ ?_)
      · exact Kn.cons (congrArg some (congrArg Value.bool (by first | rfl | (simp at *; done) | (simp at *; omega)))) Kn.nil
      · exact HLe.refl _
    · refine sOn rfl rfl rfl ?_
      refine sM rfl rfl ?_
      refine sOn rfl rfl rfl ?_
      refine jE3 rfl rfl rfl ?_
      refine sP rfl rfl rfl ?_
      refine sN (hZ _ _ ?_ ?_)
      · exact Kn.cons (congrArg some (congrArg Value.bool (by first | rfl | (simp at *; done) | (simp at *; omega)))) Kn.nil
      · exact HLe.refl _
  refine aC rfl (fun h => ?_) (fun h => ?_)
  · refine aR (fun Z hZ => ?_)
    refine sA rfl rfl <| sN (hZ _ _ ?_)
    refine aF [(2, _)] (Kn.cons rfl (Kn.nil)) ?_
    refine aE ?_
    repeat (with_reducible refine nTR ?_)
    exact nR1 rfl rfl rfl
  cases h
def quQ (p q : Nat) : Nat := if p = 0 then q else 3 - q
theorem cnum_fn (p q : Nat) (hp : p < 2) (hq : q < 2) : Fn Tryz.prog 118 [uq p, uq q] [] fun v _ => v = uq (quQ p q) := by
  obtain ⟨rfl, rfl⟩ | ⟨rfl, rfl⟩ | ⟨rfl, rfl⟩ | ⟨rfl, rfl⟩ : (p = 0 ∧ q = 0) ∨ (p = 0 ∧ q = 1) ∨ (p = 1 ∧ q = 0) ∨ (p = 1 ∧ q = 1) := by omega
  · refine Fn.enter (N := 14) Tryz.func118 rfl (by kernel_rfl) rfl (fun w0 => ?_)
    refine aR fun Z hZ => sA rfl rfl <| sN (hZ _ _ ?_)
    refine aF [(0, _), (1, _)] (Kn.cons rfl (Kn.cons rfl (Kn.nil))) ?_
    refine aR (fun Z hZ => ?_)
    refine jE5 tyZ264 Tryz.underlying264 tyS45 rfl rfl (by simp only [List.take_succ_cons, List.take_zero, List.drop_succ_cons, List.drop_zero, List.cons_append, List.nil_append, List.append_nil, List.length_cons, List.length_nil, Nat.reduceAdd, Nat.zero_add, Value.cells, wrV, Nat.reduceMul, Nat.zero_mul]; rfl) rfl ?_
    refine jE5 tyZ264 Tryz.underlying264 tyS45 rfl rfl (by simp only [List.take_succ_cons, List.take_zero, List.drop_succ_cons, List.drop_zero, List.cons_append, List.nil_append, List.append_nil, List.length_cons, List.length_nil, Nat.reduceAdd, Nat.zero_add, Value.cells, wrV, Nat.reduceMul, Nat.zero_mul]; rfl) rfl ?_
    refine jE5 tyZ265 Tryz.underlying265 tyS264 rfl rfl (by simp only [List.take_succ_cons, List.take_zero, List.drop_succ_cons, List.drop_zero, List.cons_append, List.nil_append, List.append_nil, List.length_cons, List.length_nil, Nat.reduceAdd, Nat.zero_add, Value.cells, wrV, Nat.reduceMul, Nat.zero_mul]; rfl) rfl ?_
    refine sAl tyZ265 rfl (fun g1 => ?_)
    first | refine sS 0 rfl rfl rfl tyS265 (by simp only [Value.cells]; rfl) rfl rfl rfl (by simp only [List.take_zero, List.drop_succ_cons, List.drop_zero, List.nil_append, List.append_nil, List.length_cons, List.length_nil, Nat.reduceAdd, Nat.zero_add, wrV]; rfl) (by simp only [List.set_cons_zero]; rfl) ?_
    refine sN (hZ _ _ ?_)
    refine aF [(0, _), (1, _), (5, _)] (Kn.cons rfl (Kn.cons rfl (Kn.cons rfl (Kn.nil)))) ?_
    refine aR fun Z hZ => sM rfl rfl <| sM rfl rfl ?_
    refine jC4 0 Tryz.underlying265 tyS264 rfl rfl (by decide) rfl rfl ?_
    refine jC4 0 Tryz.underlying264 tyS45 rfl rfl (by decide) rfl rfl ?_
    first | refine sL 0 rfl rfl tyA45 tyS45 rfl rfl ?_
    refine sA rfl rfl <| sN (hZ _ _ ?_)
    refine aF [(4, _)] (Kn.cons rfl (Kn.nil)) ?_
    refine aE ?_
    exact nR1 rfl rfl rfl
  · refine Fn.enter (N := 14) Tryz.func118 rfl (by kernel_rfl) rfl (fun w0 => ?_)
    refine aR fun Z hZ => sA rfl rfl <| sN (hZ _ _ ?_)
    refine aF [(0, _), (1, _)] (Kn.cons rfl (Kn.cons rfl (Kn.nil))) ?_
    refine aR (fun Z hZ => ?_)
    refine jE5 tyZ264 Tryz.underlying264 tyS45 rfl rfl (by simp only [List.take_succ_cons, List.take_zero, List.drop_succ_cons, List.drop_zero, List.cons_append, List.nil_append, List.append_nil, List.length_cons, List.length_nil, Nat.reduceAdd, Nat.zero_add, Value.cells, wrV, Nat.reduceMul, Nat.zero_mul]; rfl) rfl ?_
    refine jE5 tyZ264 Tryz.underlying264 tyS45 rfl rfl (by simp only [List.take_succ_cons, List.take_zero, List.drop_succ_cons, List.drop_zero, List.cons_append, List.nil_append, List.append_nil, List.length_cons, List.length_nil, Nat.reduceAdd, Nat.zero_add, Value.cells, wrV, Nat.reduceMul, Nat.zero_mul]; rfl) rfl ?_
    refine jE5 tyZ265 Tryz.underlying265 tyS264 rfl rfl (by simp only [List.take_succ_cons, List.take_zero, List.drop_succ_cons, List.drop_zero, List.cons_append, List.nil_append, List.append_nil, List.length_cons, List.length_nil, Nat.reduceAdd, Nat.zero_add, Value.cells, wrV, Nat.reduceMul, Nat.zero_mul]; rfl) rfl ?_
    refine sAl tyZ265 rfl (fun g1 => ?_)
    first | refine sS 0 rfl rfl rfl tyS265 (by simp only [Value.cells]; rfl) rfl rfl rfl (by simp only [List.take_zero, List.drop_succ_cons, List.drop_zero, List.nil_append, List.append_nil, List.length_cons, List.length_nil, Nat.reduceAdd, Nat.zero_add, wrV]; rfl) (by simp only [List.set_cons_zero]; rfl) ?_
    refine sN (hZ _ _ ?_)
    refine aF [(0, _), (1, _), (5, _)] (Kn.cons rfl (Kn.cons rfl (Kn.cons rfl (Kn.nil)))) ?_
    refine aR fun Z hZ => sM rfl rfl <| sM rfl rfl ?_
    refine jC4 0 Tryz.underlying265 tyS264 rfl rfl (by decide) rfl rfl ?_
    refine jC4 1 Tryz.underlying264 tyS45 rfl rfl (by decide) rfl rfl ?_
    first | refine sL 0 rfl rfl tyA45 tyS45 rfl rfl ?_
    refine sA rfl rfl <| sN (hZ _ _ ?_)
    refine aF [(4, _)] (Kn.cons rfl (Kn.nil)) ?_
    refine aE ?_
    exact nR1 rfl rfl rfl
  · refine Fn.enter (N := 14) Tryz.func118 rfl (by kernel_rfl) rfl (fun w0 => ?_)
    refine aR fun Z hZ => sA rfl rfl <| sN (hZ _ _ ?_)
    refine aF [(0, _), (1, _)] (Kn.cons rfl (Kn.cons rfl (Kn.nil))) ?_
    refine aR (fun Z hZ => ?_)
    refine jE5 tyZ264 Tryz.underlying264 tyS45 rfl rfl (by simp only [List.take_succ_cons, List.take_zero, List.drop_succ_cons, List.drop_zero, List.cons_append, List.nil_append, List.append_nil, List.length_cons, List.length_nil, Nat.reduceAdd, Nat.zero_add, Value.cells, wrV, Nat.reduceMul, Nat.zero_mul]; rfl) rfl ?_
    refine jE5 tyZ264 Tryz.underlying264 tyS45 rfl rfl (by simp only [List.take_succ_cons, List.take_zero, List.drop_succ_cons, List.drop_zero, List.cons_append, List.nil_append, List.append_nil, List.length_cons, List.length_nil, Nat.reduceAdd, Nat.zero_add, Value.cells, wrV, Nat.reduceMul, Nat.zero_mul]; rfl) rfl ?_
    refine jE5 tyZ265 Tryz.underlying265 tyS264 rfl rfl (by simp only [List.take_succ_cons, List.take_zero, List.drop_succ_cons, List.drop_zero, List.cons_append, List.nil_append, List.append_nil, List.length_cons, List.length_nil, Nat.reduceAdd, Nat.zero_add, Value.cells, wrV, Nat.reduceMul, Nat.zero_mul]; rfl) rfl ?_
    refine sAl tyZ265 rfl (fun g1 => ?_)
    first | refine sS 0 rfl rfl rfl tyS265 (by simp only [Value.cells]; rfl) rfl rfl rfl (by simp only [List.take_zero, List.drop_succ_cons, List.drop_zero, List.nil_append, List.append_nil, List.length_cons, List.length_nil, Nat.reduceAdd, Nat.zero_add, wrV]; rfl) (by simp only [List.set_cons_zero]; rfl) ?_
    refine sN (hZ _ _ ?_)
    refine aF [(0, _), (1, _), (5, _)] (Kn.cons rfl (Kn.cons rfl (Kn.cons rfl (Kn.nil)))) ?_
    refine aR fun Z hZ => sM rfl rfl <| sM rfl rfl ?_
    refine jC4 2 Tryz.underlying265 tyS264 rfl rfl (by decide) rfl rfl ?_
    refine jC4 2 Tryz.underlying264 tyS45 rfl rfl (by decide) rfl rfl ?_
    first | refine sL 0 rfl rfl tyA45 tyS45 rfl rfl ?_
    refine sA rfl rfl <| sN (hZ _ _ ?_)
    refine aF [(4, _)] (Kn.cons rfl (Kn.nil)) ?_
    refine aE ?_
    exact nR1 rfl rfl rfl
  · refine Fn.enter (N := 14) Tryz.func118 rfl (by kernel_rfl) rfl (fun w0 => ?_)
    refine aR fun Z hZ => sA rfl rfl <| sN (hZ _ _ ?_)
    refine aF [(0, _), (1, _)] (Kn.cons rfl (Kn.cons rfl (Kn.nil))) ?_
    refine aR (fun Z hZ => ?_)
    refine jE5 tyZ264 Tryz.underlying264 tyS45 rfl rfl (by simp only [List.take_succ_cons, List.take_zero, List.drop_succ_cons, List.drop_zero, List.cons_append, List.nil_append, List.append_nil, List.length_cons, List.length_nil, Nat.reduceAdd, Nat.zero_add, Value.cells, wrV, Nat.reduceMul, Nat.zero_mul]; rfl) rfl ?_
    refine jE5 tyZ264 Tryz.underlying264 tyS45 rfl rfl (by simp only [List.take_succ_cons, List.take_zero, List.drop_succ_cons, List.drop_zero, List.cons_append, List.nil_append, List.append_nil, List.length_cons, List.length_nil, Nat.reduceAdd, Nat.zero_add, Value.cells, wrV, Nat.reduceMul, Nat.zero_mul]; rfl) rfl ?_
    refine jE5 tyZ265 Tryz.underlying265 tyS264 rfl rfl (by simp only [List.take_succ_cons, List.take_zero, List.drop_succ_cons, List.drop_zero, List.cons_append, List.nil_append, List.append_nil, List.length_cons, List.length_nil, Nat.reduceAdd, Nat.zero_add, Value.cells, wrV, Nat.reduceMul, Nat.zero_mul]; rfl) rfl ?_
    refine sAl tyZ265 rfl (fun g1 => ?_)
    first | refine sS 0 rfl rfl rfl tyS265 (by simp only [Value.cells]; rfl) rfl rfl rfl (by simp only [List.take_zero, List.drop_succ_cons, List.drop_zero, List.nil_append, List.append_nil, List.length_cons, List.length_nil, Nat.reduceAdd, Nat.zero_add, wrV]; rfl) (by simp only [List.set_cons_zero]; rfl) ?_
    refine sN (hZ _ _ ?_)
    refine aF [(0, _), (1, _), (5, _)] (Kn.cons rfl (Kn.cons rfl (Kn.cons rfl (Kn.nil)))) ?_
    refine aR fun Z hZ => sM rfl rfl <| sM rfl rfl ?_
    refine jC4 2 Tryz.underlying265 tyS264 rfl rfl (by decide) rfl rfl ?_
    refine jC4 3 Tryz.underlying264 tyS45 rfl rfl (by decide) rfl rfl ?_
    first | refine sL 0 rfl rfl tyA45 tyS45 rfl rfl ?_
    refine sA rfl rfl <| sN (hZ _ _ ?_)
    refine aF [(4, _)] (Kn.cons rfl (Kn.nil)) ?_
    refine aE ?_
    exact nR1 rfl rfl rfl
abbrev quarters : List Value := [uq 0, uq 0, .bool true, .bool false, uq 0, uq 1, .bool false, .bool false, uq 1, uq 1, .bool false, .bool false, uq 1, uq 0, .bool true, .bool true]
def qval (k : Nat) : Value := .agg ((quarters.drop (k * 4)).take 4).toArray
theorem quarters_at {k : Nat} (hk : k < 4) : rdV true 4 quarters (k * 4) = some (qval k) := by
  obtain rfl | rfl | rfl | rfl : k = 0 ∨ k = 1 ∨ k = 2 ∨ k = 3 := by omega
  all_goals rfl
theorem cquarters_fn : Fn Tryz.prog 117 [] [] fun v _ => v = .agg quarters.toArray := by
  refine Fn.enter (N := 6) Tryz.func117 rfl (by kernel_rfl) rfl (fun w0 => ?_)
  refine aR (fun Z hZ => ?_)
  refine sAl tyZ229 rfl (fun g1 => ?_)
  refine sN (hZ _ _ ?_)
  refine aF [(0, _)] (Kn.cons rfl (Kn.nil)) ?_
  refine aR (fun Z hZ => ?_)
  refine jB3 tyZ228 tyP228 rfl rfl (by simp only [List.take_succ_cons, List.take_zero, List.drop_succ_cons, List.drop_zero, List.cons_append, List.nil_append, List.length_cons, List.length_nil, Nat.reduceAdd, Nat.zero_add, Value.cells, wrV]; rfl) rfl ?_
  refine jB3 tyZ228 tyP228 rfl rfl (by simp only [List.take_succ_cons, List.take_zero, List.drop_succ_cons, List.drop_zero, List.cons_append, List.nil_append, List.length_cons, List.length_nil, Nat.reduceAdd, Nat.zero_add, Value.cells, wrV]; rfl) rfl ?_
  refine jB3 tyZ228 tyP228 rfl rfl (by simp only [List.take_succ_cons, List.take_zero, List.drop_succ_cons, List.drop_zero, List.cons_append, List.nil_append, List.length_cons, List.length_nil, Nat.reduceAdd, Nat.zero_add, Value.cells, wrV]; rfl) rfl ?_
  refine jB3 tyZ228 tyP228 rfl rfl (by simp only [List.take_succ_cons, List.take_zero, List.drop_succ_cons, List.drop_zero, List.cons_append, List.nil_append, List.append_nil, List.length_cons, List.length_nil, Nat.reduceAdd, Nat.zero_add, Value.cells, wrV]; rfl) rfl ?_
  refine jE5 tyZ229 Tryz.underlying229 tyS228 rfl rfl (by simp only [List.take_succ_cons, List.take_zero, List.drop_succ_cons, List.drop_zero, List.cons_append, List.nil_append, List.append_nil, List.length_cons, List.length_nil, Nat.reduceAdd, Nat.zero_add, Value.cells, wrV, Nat.reduceMul, Nat.zero_mul]; rfl) rfl ?_
  first | refine sS 0 rfl rfl rfl tyS229 (by simp only [Value.cells]; rfl) rfl rfl rfl (by simp only [List.take_zero, List.drop_succ_cons, List.drop_zero, List.nil_append, List.append_nil, List.length_cons, List.length_nil, Nat.reduceAdd, Nat.zero_add, wrV]; rfl) (by simp only [List.set_cons_zero]; rfl) ?_
  refine sN (hZ _ _ ?_)
  refine aF [(0, _)] (Kn.cons rfl (Kn.nil)) ?_
  refine aE ?_
  exact nR1 rfl (ResOk.cell 0 rfl rfl tyA229 tyS229 rfl) rfl
def turnQ (k a b n : Nat) : Nat × Nat :=
  if k = 0 then (b % 2 ^ n, a % 2 ^ n) else if k = 3 then (2 ^ n - 1 - b % 2 ^ n, 2 ^ n - 1 - a % 2 ^ n) else (a % 2 ^ n, b % 2 ^ n)
theorem cturn_fn (k a b n : Nat) (hk : k < 4) (ha : a ≤ 67108864) (hb : b ≤ 67108864) (hn : n ≤ 26) : Fn Tryz.prog 119 [qval k, uq a, uq b, iq n] [] fun v _ => v = .tuple #[uq (turnQ k a b n).1, uq (turnQ k a b n).2] := by
  have hl := pow2_le26 hn
  have hp0 := jG3 n
  have h1 := and_low a n (by omega) (by omega)
  have h2 := and_low b n (by omega) (by omega)
  have hs := shl_at .u64 1 n rfl (by omega) (fun x hx => IntWalk.u64_in _ (by omega))
  have hra := Nat.mod_lt a hp0
  have hrb := Nat.mod_lt b hp0
  rw [Nat.one_mul] at hs
  obtain ⟨ra, hra0⟩ : ∃ r, a % 2 ^ n = r := ⟨_, rfl⟩
  obtain ⟨rb, hrb0⟩ : ∃ r, b % 2 ^ n = r := ⟨_, rfl⟩
  unfold turnQ
  rw [hra0] at h1 hra ⊢
  rw [hrb0] at h2 hrb ⊢
  obtain ⟨p, hp⟩ : ∃ p, 2 ^ n = p := ⟨_, rfl⟩
  rw [hp] at h1 h2 hs hra hrb hl hp0 ⊢
  obtain rfl | rfl | rfl | rfl : k = 0 ∨ k = 1 ∨ k = 2 ∨ k = 3 := by omega
  · show Fn Tryz.prog 119 [.agg #[uq 0, uq 0, .bool true, .bool false], uq a, uq b, iq n] [] fun v _ => v = .tuple #[uq rb, uq ra]
    refine Fn.enter (N := 34) Tryz.func119 rfl (by kernel_rfl) rfl (fun w0 => ?_)
    refine aR (fun Z hZ => ?_)
    refine jA5 rfl rfl rfl (fun g1 => ?_)
    refine sA rfl rfl <| sA rfl rfl <| sN (hZ _ _ ?_)
    refine aF [(1, _), (2, _), (3, _), (4, _)] (Kn.cons rfl (Kn.cons rfl (Kn.cons rfl (Kn.cons rfl (Kn.nil))))) ?_
    refine aR fun Z hZ => sM rfl rfl ?_
    refine sx_shl rfl rfl (by omega) ((p : Nat) : Int) hs rfl ?_
    refine jG4 rfl rfl ((p - 1 : Nat) : Int) (by rw [IntWalk.u64_in _ (by omega)]; omega) rfl ?_
    refine sA rfl rfl <| sN (hZ _ _ ?_)
    refine aF [(1, _), (2, _), (4, _), (10, _)] (Kn.cons rfl (Kn.cons rfl (Kn.cons rfl (Kn.cons rfl (Kn.nil))))) ?_
    refine aR fun Z hZ => sM rfl rfl <| sM rfl rfl ?_
    refine sx_bits (.inl rfl) rfl rfl ((ra : Nat) : Int) h1 rfl ?_
    refine sM rfl rfl <| sM rfl rfl ?_
    refine sx_bits (.inl rfl) rfl rfl ((rb : Nat) : Int) h2 rfl ?_
    refine sA rfl rfl <| sA rfl rfl <| sN (hZ _ _ ?_)
    refine aF [(1, _), (2, _), (4, _), (10, _)] (Kn.cons rfl (Kn.cons rfl (Kn.cons rfl (Kn.cons rfl (Kn.nil))))) ?_
    refine aS ?_
    refine aR (fun Z hZ => ?_)
    refine sFA rfl tyF228_3 (by simp only [Nat.zero_add]; rfl) rfl ?_
    first | refine sL 0 rfl rfl tyA4 tyS4 rfl rfl ?_
    refine sN (hZ _ _ ?_)
    refine aF [(1, _), (2, _), (4, _), (10, _), (21, _)] (Kn.cons rfl (Kn.cons rfl (Kn.cons rfl (Kn.cons rfl (Kn.cons rfl (Kn.nil)))))) ?_
    refine aC rfl (fun h3 => ?_) (fun h3 => ?_)
    · cases h3
    refine aK ?_
    with_reducible refine nN ?_
    refine aS ?_
    refine aR (fun Z hZ => ?_)
    refine sFA rfl tyF228_2 (by simp only [Nat.zero_add]; rfl) rfl ?_
    first | refine sL 0 rfl rfl tyA4 tyS4 rfl rfl ?_
    refine sN (hZ _ _ ?_)
    refine aF [(1, _), (2, _), (29, _)] (Kn.cons rfl (Kn.cons rfl (Kn.cons rfl (Kn.nil)))) ?_
    refine aC rfl (fun h5 => ?_) (fun h5 => ?_)
    · refine aG (fun Z hZ => ?_)
      refine sM rfl rfl <| sM rfl rfl <| sA rfl rfl <| sA rfl rfl <| sN (hZ _ _ ?_)
      refine nF [(1, _), (2, _)] (Kn.cons rfl (Kn.cons rfl (Kn.nil))) ?_
      with_reducible refine nN ?_
      refine aR fun Z hZ => sM rfl rfl <| sM rfl rfl <| sA rfl rfl <| sA rfl rfl <| sN (hZ _ _ ?_)
      refine aF [(8, _), (9, _)] (Kn.cons rfl (Kn.cons rfl (Kn.nil))) ?_
      refine aE ?_
      exact jE1 rfl rfl rfl rfl
    cases h5
  · show Fn Tryz.prog 119 [.agg #[uq 0, uq 1, .bool false, .bool false], uq a, uq b, iq n] [] fun v _ => v = .tuple #[uq ra, uq rb]
    refine Fn.enter (N := 34) Tryz.func119 rfl (by kernel_rfl) rfl (fun w0 => ?_)
    refine aR (fun Z hZ => ?_)
    refine jA5 rfl rfl rfl (fun g1 => ?_)
    refine sA rfl rfl <| sA rfl rfl <| sN (hZ _ _ ?_)
    refine aF [(1, _), (2, _), (3, _), (4, _)] (Kn.cons rfl (Kn.cons rfl (Kn.cons rfl (Kn.cons rfl (Kn.nil))))) ?_
    refine aR fun Z hZ => sM rfl rfl ?_
    refine sx_shl rfl rfl (by omega) ((p : Nat) : Int) hs rfl ?_
    refine jG4 rfl rfl ((p - 1 : Nat) : Int) (by rw [IntWalk.u64_in _ (by omega)]; omega) rfl ?_
    refine sA rfl rfl <| sN (hZ _ _ ?_)
    refine aF [(1, _), (2, _), (4, _), (10, _)] (Kn.cons rfl (Kn.cons rfl (Kn.cons rfl (Kn.cons rfl (Kn.nil))))) ?_
    refine aR fun Z hZ => sM rfl rfl <| sM rfl rfl ?_
    refine sx_bits (.inl rfl) rfl rfl ((ra : Nat) : Int) h1 rfl ?_
    refine sM rfl rfl <| sM rfl rfl ?_
    refine sx_bits (.inl rfl) rfl rfl ((rb : Nat) : Int) h2 rfl ?_
    refine sA rfl rfl <| sA rfl rfl <| sN (hZ _ _ ?_)
    refine aF [(1, _), (2, _), (4, _), (10, _)] (Kn.cons rfl (Kn.cons rfl (Kn.cons rfl (Kn.cons rfl (Kn.nil))))) ?_
    refine aS ?_
    refine aR (fun Z hZ => ?_)
    refine sFA rfl tyF228_3 (by simp only [Nat.zero_add]; rfl) rfl ?_
    first | refine sL 0 rfl rfl tyA4 tyS4 rfl rfl ?_
    refine sN (hZ _ _ ?_)
    refine aF [(1, _), (2, _), (4, _), (10, _), (21, _)] (Kn.cons rfl (Kn.cons rfl (Kn.cons rfl (Kn.cons rfl (Kn.cons rfl (Kn.nil)))))) ?_
    refine aC rfl (fun h3 => ?_) (fun h3 => ?_)
    · cases h3
    refine aK ?_
    with_reducible refine nN ?_
    refine aS ?_
    refine aR (fun Z hZ => ?_)
    refine sFA rfl tyF228_2 (by simp only [Nat.zero_add]; rfl) rfl ?_
    first | refine sL 0 rfl rfl tyA4 tyS4 rfl rfl ?_
    refine sN (hZ _ _ ?_)
    refine aF [(1, _), (2, _), (29, _)] (Kn.cons rfl (Kn.cons rfl (Kn.cons rfl (Kn.nil)))) ?_
    refine aC rfl (fun h5 => ?_) (fun h5 => ?_)
    · cases h5
    refine aK ?_
    with_reducible refine nN ?_
    refine aR fun Z hZ => sM rfl rfl <| sM rfl rfl <| sA rfl rfl <| sA rfl rfl <| sN (hZ _ _ ?_)
    refine aF [(8, _), (9, _)] (Kn.cons rfl (Kn.cons rfl (Kn.nil))) ?_
    refine aE ?_
    exact jE1 rfl rfl rfl rfl
  · show Fn Tryz.prog 119 [.agg #[uq 1, uq 1, .bool false, .bool false], uq a, uq b, iq n] [] fun v _ => v = .tuple #[uq ra, uq rb]
    refine Fn.enter (N := 34) Tryz.func119 rfl (by kernel_rfl) rfl (fun w0 => ?_)
    refine aR (fun Z hZ => ?_)
    refine jA5 rfl rfl rfl (fun g1 => ?_)
    refine sA rfl rfl <| sA rfl rfl <| sN (hZ _ _ ?_)
    refine aF [(1, _), (2, _), (3, _), (4, _)] (Kn.cons rfl (Kn.cons rfl (Kn.cons rfl (Kn.cons rfl (Kn.nil))))) ?_
    refine aR fun Z hZ => sM rfl rfl ?_
    refine sx_shl rfl rfl (by omega) ((p : Nat) : Int) hs rfl ?_
    refine jG4 rfl rfl ((p - 1 : Nat) : Int) (by rw [IntWalk.u64_in _ (by omega)]; omega) rfl ?_
    refine sA rfl rfl <| sN (hZ _ _ ?_)
    refine aF [(1, _), (2, _), (4, _), (10, _)] (Kn.cons rfl (Kn.cons rfl (Kn.cons rfl (Kn.cons rfl (Kn.nil))))) ?_
    refine aR fun Z hZ => sM rfl rfl <| sM rfl rfl ?_
    refine sx_bits (.inl rfl) rfl rfl ((ra : Nat) : Int) h1 rfl ?_
    refine sM rfl rfl <| sM rfl rfl ?_
    refine sx_bits (.inl rfl) rfl rfl ((rb : Nat) : Int) h2 rfl ?_
    refine sA rfl rfl <| sA rfl rfl <| sN (hZ _ _ ?_)
    refine aF [(1, _), (2, _), (4, _), (10, _)] (Kn.cons rfl (Kn.cons rfl (Kn.cons rfl (Kn.cons rfl (Kn.nil))))) ?_
    refine aS ?_
    refine aR (fun Z hZ => ?_)
    refine sFA rfl tyF228_3 (by simp only [Nat.zero_add]; rfl) rfl ?_
    first | refine sL 0 rfl rfl tyA4 tyS4 rfl rfl ?_
    refine sN (hZ _ _ ?_)
    refine aF [(1, _), (2, _), (4, _), (10, _), (21, _)] (Kn.cons rfl (Kn.cons rfl (Kn.cons rfl (Kn.cons rfl (Kn.cons rfl (Kn.nil)))))) ?_
    refine aC rfl (fun h3 => ?_) (fun h3 => ?_)
    · cases h3
    refine aK ?_
    with_reducible refine nN ?_
    refine aS ?_
    refine aR (fun Z hZ => ?_)
    refine sFA rfl tyF228_2 (by simp only [Nat.zero_add]; rfl) rfl ?_
    first | refine sL 0 rfl rfl tyA4 tyS4 rfl rfl ?_
    refine sN (hZ _ _ ?_)
    refine aF [(1, _), (2, _), (29, _)] (Kn.cons rfl (Kn.cons rfl (Kn.cons rfl (Kn.nil)))) ?_
    refine aC rfl (fun h5 => ?_) (fun h5 => ?_)
    · cases h5
    refine aK ?_
    with_reducible refine nN ?_
    refine aR fun Z hZ => sM rfl rfl <| sM rfl rfl <| sA rfl rfl <| sA rfl rfl <| sN (hZ _ _ ?_)
    refine aF [(8, _), (9, _)] (Kn.cons rfl (Kn.cons rfl (Kn.nil))) ?_
    refine aE ?_
    exact jE1 rfl rfl rfl rfl
  · show Fn Tryz.prog 119 [.agg #[uq 1, uq 0, .bool true, .bool true], uq a, uq b, iq n] [] fun v _ => v = .tuple #[uq (p - 1 - rb), uq (p - 1 - ra)]
    refine Fn.enter (N := 34) Tryz.func119 rfl (by kernel_rfl) rfl (fun w0 => ?_)
    refine aR (fun Z hZ => ?_)
    refine jA5 rfl rfl rfl (fun g1 => ?_)
    refine sA rfl rfl <| sA rfl rfl <| sN (hZ _ _ ?_)
    refine aF [(1, _), (2, _), (3, _), (4, _)] (Kn.cons rfl (Kn.cons rfl (Kn.cons rfl (Kn.cons rfl (Kn.nil))))) ?_
    refine aR fun Z hZ => sM rfl rfl ?_
    refine sx_shl rfl rfl (by omega) ((p : Nat) : Int) hs rfl ?_
    refine jG4 rfl rfl ((p - 1 : Nat) : Int) (by rw [IntWalk.u64_in _ (by omega)]; omega) rfl ?_
    refine sA rfl rfl <| sN (hZ _ _ ?_)
    refine aF [(1, _), (2, _), (4, _), (10, _)] (Kn.cons rfl (Kn.cons rfl (Kn.cons rfl (Kn.cons rfl (Kn.nil))))) ?_
    refine aR fun Z hZ => sM rfl rfl <| sM rfl rfl ?_
    refine sx_bits (.inl rfl) rfl rfl ((ra : Nat) : Int) h1 rfl ?_
    refine sM rfl rfl <| sM rfl rfl ?_
    refine sx_bits (.inl rfl) rfl rfl ((rb : Nat) : Int) h2 rfl ?_
    refine sA rfl rfl <| sA rfl rfl <| sN (hZ _ _ ?_)
    refine aF [(1, _), (2, _), (4, _), (10, _)] (Kn.cons rfl (Kn.cons rfl (Kn.cons rfl (Kn.cons rfl (Kn.nil))))) ?_
    refine aS ?_
    refine aR (fun Z hZ => ?_)
    refine sFA rfl tyF228_3 (by simp only [Nat.zero_add]; rfl) rfl ?_
    first | refine sL 0 rfl rfl tyA4 tyS4 rfl rfl ?_
    refine sN (hZ _ _ ?_)
    refine aF [(1, _), (2, _), (4, _), (10, _), (21, _)] (Kn.cons rfl (Kn.cons rfl (Kn.cons rfl (Kn.cons rfl (Kn.cons rfl (Kn.nil)))))) ?_
    refine aC rfl (fun h3 => ?_) (fun h3 => ?_)
    · refine aG (fun Z hZ => ?_)
      refine sM rfl rfl <| sM rfl rfl ?_
      refine jG4 rfl rfl ((p - 1 - ra : Nat) : Int) (by rw [IntWalk.u64_in _ (by omega)]; omega) rfl ?_
      refine sM rfl rfl <| sM rfl rfl ?_
      refine jG4 rfl rfl ((p - 1 - rb : Nat) : Int) (by rw [IntWalk.u64_in _ (by omega)]; omega) rfl ?_
      refine sA rfl rfl <| sA rfl rfl <| sN (hZ _ _ ?_)
      refine nF [(1, _), (2, _), (4, _)] (Kn.cons rfl (Kn.cons rfl (Kn.cons rfl (Kn.nil)))) ?_
      with_reducible refine nN ?_
      refine aS ?_
      refine aR (fun Z hZ => ?_)
      refine sFA rfl tyF228_2 (by simp only [Nat.zero_add]; rfl) rfl ?_
      first | refine sL 0 rfl rfl tyA4 tyS4 rfl rfl ?_
      refine sN (hZ _ _ ?_)
      refine aF [(1, _), (2, _), (29, _)] (Kn.cons rfl (Kn.cons rfl (Kn.cons rfl (Kn.nil)))) ?_
      refine aC rfl (fun h5 => ?_) (fun h5 => ?_)
      · refine aG (fun Z hZ => ?_)
        refine sM rfl rfl <| sM rfl rfl <| sA rfl rfl <| sA rfl rfl <| sN (hZ _ _ ?_)
        refine nF [(1, _), (2, _)] (Kn.cons rfl (Kn.cons rfl (Kn.nil))) ?_
        with_reducible refine nN ?_
        refine aR fun Z hZ => sM rfl rfl <| sM rfl rfl <| sA rfl rfl <| sA rfl rfl <| sN (hZ _ _ ?_)
        refine aF [(8, _), (9, _)] (Kn.cons rfl (Kn.cons rfl (Kn.nil))) ?_
        refine aE ?_
        exact jE1 rfl rfl rfl rfl
      cases h5
    cases h3
end Go.Proofs.YtkojkeabelckjaaGreatDoor
namespace Go.Proofs.YtkojkeabelckjaaGreatDoor
open Go.RowKit
set_option maxRecDepth 100000
theorem dig_ways {n a : Nat} (ha : a < 2 ^ (n + 1)) : (a < 2 ^ n ∧ a / 2 ^ n = 0 ∧ a % 2 ^ n = a) ∨ (¬ a < 2 ^ n ∧ a / 2 ^ n = 1 ∧ a % 2 ^ n = a - 2 ^ n) := by
  have hp := jG3 n
  rw [Nat.pow_succ] at ha
  by_cases h : a < 2 ^ n
  · exact .inl ⟨h, Nat.div_eq_of_lt h, Nat.mod_eq_of_lt h⟩
  · refine .inr ⟨h, ?_⟩
    obtain ⟨p, hpn⟩ : ∃ p, 2 ^ n = p := ⟨_, rfl⟩
    rw [hpn] at ha h hp ⊢
    obtain ⟨b, rfl⟩ : ∃ b, a = p + b := ⟨a - p, by omega⟩
    have hb : b < p := by omega
    rw [Nat.add_mod_left, Nat.mod_eq_of_lt hb, Nat.add_div_left _ hp, Nat.div_eq_of_lt hb]
    exact ⟨rfl, by omega⟩
theorem hp_turn {n a b : Nat} (ha : a < 2 ^ (n + 1)) (hb : b < 2 ^ (n + 1)) : a / 2 ^ n < 2 ∧ b / 2 ^ n < 2 ∧ quQ (a / 2 ^ n) (b / 2 ^ n) < 4 ∧ (turnQ (quQ (a / 2 ^ n) (b / 2 ^ n)) a b n).1 < 2 ^ n ∧ (turnQ (quQ (a / 2 ^ n) (b / 2 ^ n)) a b n).2 < 2 ^ n ∧ hp (n + 1) a b = quQ (a / 2 ^ n) (b / 2 ^ n) * 4 ^ n + hp n (turnQ (quQ (a / 2 ^ n) (b / 2 ^ n)) a b n).1 (turnQ (quQ (a / 2 ^ n) (b / 2 ^ n)) a b n).2 := by
  have hp0 := jG3 n
  have h4 : (2 : Nat) ^ (n + 1) = 2 ^ n * 2 := Nat.pow_succ ..
  rw [hp]
  rcases dig_ways ha with ⟨h1, h2, h3⟩ | ⟨h1, h2, h3⟩
  · rcases dig_ways hb with ⟨g1, g2, g3⟩ | ⟨g1, g2, g3⟩
    · rw [if_pos h1, if_pos g1, h2, g2, show quQ 0 0 = 0 from rfl, show turnQ 0 a b n = (b % 2 ^ n, a % 2 ^ n) from rfl, h3, g3]
      exact ⟨by omega, by omega, by omega, g1, h1, by rw [Nat.zero_mul, Nat.zero_add]⟩
    · rw [if_pos h1, if_neg g1, h2, g2, show quQ 0 1 = 1 from rfl, show turnQ 1 a b n = (a % 2 ^ n, b % 2 ^ n) from rfl, h3, g3]
      exact ⟨by omega, by omega, by omega, h1, by show b - 2 ^ n < 2 ^ n; omega, by rw [Nat.one_mul]⟩
  · rcases dig_ways hb with ⟨g1, g2, g3⟩ | ⟨g1, g2, g3⟩
    · rw [if_neg h1, if_pos g1, h2, g2, show quQ 1 0 = 3 from rfl, show turnQ 3 a b n = (2 ^ n - 1 - b % 2 ^ n, 2 ^ n - 1 - a % 2 ^ n) from rfl, h3, g3]
      exact ⟨by omega, by omega, by omega, by show 2 ^ n - 1 - b < 2 ^ n; omega, by show 2 ^ n - 1 - (a - 2 ^ n) < 2 ^ n; omega, rfl⟩
    · rw [if_neg h1, if_neg g1, h2, g2, show quQ 1 1 = 2 from rfl, show turnQ 2 a b n = (a % 2 ^ n, b % 2 ^ n) from rfl, h3, g3]
      exact ⟨by omega, by omega, by omega, by show a - 2 ^ n < 2 ^ n; omega, by show b - 2 ^ n < 2 ^ n; omega, rfl⟩
theorem cPlace_fn (z x y : Int) : Fn Tryz.prog 73 [iq z, iq x, iq y] [] fun v _ => v = .tuple #[uq (placeV z x y), iq (jH8 z x y)] := by
  refine Fn.enter (N := 76) Tryz.func73 rfl (by kernel_rfl) rfl (fun w0 => ?_)
  rcases place_ways z x y with h | ⟨n, rfl, hn, h⟩ | ⟨n, a0, b0, rfl, rfl, rfl, hn, ha0, hb0⟩
  · rw [(place_e2 h x y).1, (place_e2 h x y).2]
    refine aR fun Z hZ => sA rfl rfl <| sA rfl rfl <| sN (hZ _ _ ?_)
    refine aF [(0, _), (1, _), (2, _)] (Kn.cons rfl (Kn.cons rfl (Kn.cons rfl (Kn.nil)))) ?_
    refine aR fun Z hZ => sM rfl rfl ?_
    refine sCP (cside_no z h) rfl rfl ?_
    refine sA rfl rfl <| sN (hZ _ _ ?_)
    refine aF [(0, _), (1, _), (2, _), (8, _)] (Kn.cons rfl (Kn.cons rfl (Kn.cons rfl (Kn.cons rfl (Kn.nil))))) ?_
    refine aS (aB ?_)
    refine aR fun Z hZ => sM rfl rfl ?_
    refine jD7 rfl rfl rfl ?_
    refine sA rfl rfl <| sN (hZ _ _ ?_)
    refine aF [(0, _), (1, _), (2, _), (8, _), (18, _)] (Kn.cons rfl (Kn.cons rfl (Kn.cons rfl (Kn.cons rfl (Kn.cons rfl (Kn.nil)))))) ?_
    refine aC rfl (fun h1 => ?_) (fun h1 => ?_)
    · refine aR (fun Z hZ => ?_)
      refine sA rfl rfl <| sA rfl rfl <| sN (hZ _ _ ?_)
      refine aF [(6, _), (7, _)] (Kn.cons rfl (Kn.cons rfl (Kn.nil))) ?_
      refine aE ?_
      repeat (with_reducible (first | refine nTR ?_ | refine nBR ?_))
      exact jE1 rfl rfl rfl rfl
    cases h1
  · rw [(place_e8 hn h).1, (place_e8 hn h).2]
    have hs := cside_fn n hn
    have hp0 := jG3 n
    obtain ⟨p, hp⟩ : ∃ p, 2 ^ n = p := ⟨_, rfl⟩
    rw [hp] at hs h hp0
    refine aR fun Z hZ => sA rfl rfl <| sA rfl rfl <| sN (hZ _ _ ?_)
    refine aF [(0, _), (1, _), (2, _)] (Kn.cons rfl (Kn.cons rfl (Kn.cons rfl (Kn.nil)))) ?_
    refine aR fun Z hZ => sM rfl rfl ?_
    refine sCP (hs) rfl rfl ?_
    refine sA rfl rfl <| sN (hZ _ _ ?_)
    refine aF [(0, _), (1, _), (2, _), (8, _)] (Kn.cons rfl (Kn.cons rfl (Kn.cons rfl (Kn.cons rfl (Kn.nil))))) ?_
    refine aS (aB ?_)
    refine aR fun Z hZ => sM rfl rfl ?_
    refine jD7 rfl rfl rfl ?_
    refine sA rfl rfl <| sN (hZ _ _ ?_)
    refine aF [(0, _), (1, _), (2, _), (8, _), (18, _)] (Kn.cons rfl (Kn.cons rfl (Kn.cons rfl (Kn.cons rfl (Kn.cons rfl (Kn.nil)))))) ?_
    refine aC rfl (fun h1 => ?_) (fun h1 => ?_)
    · exfalso
      simp at h1
      omega
    refine jA1 [(21, .bool true)] [] (fun Z hZ => ?_) ?_
    · refine sM rfl rfl ?_
      refine jC3 rfl rfl rfl ?_
      refine sM rfl rfl ?_
      refine jB6 24 rfl (fun hb2 => ?_) (fun hb2 => ?_)
      · refine sO rfl rfl rfl rfl rfl ?_
        refine sO rfl rfl rfl rfl rfl ?_
        refine sP rfl rfl rfl <| sM rfl rfl ?_
        refine sO rfl rfl rfl rfl rfl ?_
        refine sO rfl rfl rfl rfl rfl ?_
        refine sO rfl rfl rfl rfl rfl ?_
        refine sP rfl rfl rfl <| sM rfl rfl ?_
        refine sO rfl rfl rfl rfl rfl ?_
        refine sO rfl rfl rfl rfl rfl ?_
        refine sO rfl rfl rfl rfl rfl ?_
        refine sP rfl rfl rfl <| sA rfl rfl ?_
        refine sN (hZ _ _ ?_ ?_)
        · exact Kn.cons (congrArg some (congrArg Value.bool (by first | rfl | (simp at *; done) | (simp at *; omega)))) Kn.nil
        · exact HLe.refl _
      · refine sOn rfl rfl rfl ?_
        refine sM rfl rfl ?_
        refine sOn rfl rfl rfl ?_
        refine jC3 rfl rfl rfl ?_
        refine sP rfl rfl rfl <| sM rfl rfl ?_
        refine jB6 28 rfl (fun hb6 => ?_) (fun hb6 => ?_)
        · refine sO rfl rfl rfl rfl rfl ?_
          refine sO rfl rfl rfl rfl rfl ?_
          refine sO rfl rfl rfl rfl rfl ?_
          refine sP rfl rfl rfl <| sM rfl rfl ?_
          refine sO rfl rfl rfl rfl rfl ?_
          refine sO rfl rfl rfl rfl rfl ?_
          refine sO rfl rfl rfl rfl rfl ?_
          refine sP rfl rfl rfl <| sA rfl rfl ?_
          refine sN (hZ _ _ ?_ ?_)
          · exact Kn.cons (congrArg some (congrArg Value.bool (by first | rfl | (simp at *; done) | (simp at *; omega)))) Kn.nil
          · exact HLe.refl _
        · refine sOn rfl rfl rfl ?_
          refine sM rfl rfl ?_
          refine sOn rfl rfl rfl ?_
          refine sM rfl rfl ?_
          refine sOn rfl rfl rfl ?_
          refine sx_geq rfl rfl rfl ?_
          refine sP rfl rfl rfl <| sM rfl rfl ?_
          refine jB6 33 rfl (fun hb11 => ?_) (fun hb11 => ?_)
          · refine sO rfl rfl rfl rfl rfl ?_
            refine sO rfl rfl rfl rfl rfl ?_
            refine sO rfl rfl rfl rfl rfl ?_
            refine sP rfl rfl rfl <| sA rfl rfl ?_
            refine sN (hZ _ _ ?_ ?_)
            · exact Kn.cons (congrArg some (congrArg Value.bool (by first | rfl | (simp at *; done) | (simp at *; omega)))) Kn.nil
            · exact HLe.refl _
          · refine sOn rfl rfl rfl ?_
            refine sM rfl rfl ?_
            refine sOn rfl rfl rfl ?_
            refine sM rfl rfl ?_
            refine sOn rfl rfl rfl ?_
            refine sx_geq rfl rfl rfl ?_
            refine sP rfl rfl rfl <| sA rfl rfl ?_
            refine sN (hZ _ _ ?_ ?_)
            · exact Kn.cons (congrArg some (congrArg Value.bool (by first | rfl | (simp at *; done) | (simp at *; omega)))) Kn.nil
            · exact HLe.refl _
    refine aC rfl (fun h2 => ?_) (fun h2 => ?_)
    · refine aR (fun Z hZ => ?_)
      refine sA rfl rfl <| sA rfl rfl <| sN (hZ _ _ ?_)
      refine aF [(6, _), (7, _)] (Kn.cons rfl (Kn.cons rfl (Kn.nil))) ?_
      refine aE ?_
      repeat (with_reducible (first | refine nTR ?_ | refine nBR ?_))
      exact jE1 rfl rfl rfl rfl
    cases h2
  · rw [(place_e0 hn ha0 hb0).1, (place_e0 hn ha0 hb0).2]
    have hs := cside_fn n hn
    have hp0 := jG3 n
    have hpl := pow2_le26 hn
    have hal : a0 < 67108864 := by omega
    have hbl : b0 < 67108864 := by omega
    have hhl := hp_lt n a0 b0 ha0 hb0
    have hq4 : 4 ^ n ≤ 4 ^ 26 := Nat.pow_le_pow_right (by decide) hn
    have hA : a0 < 2 ^ (n - 0) := ha0
    have hB : b0 < 2 ^ (n - 0) := hb0
    obtain ⟨p, hpn⟩ : ∃ p, 2 ^ n = p := ⟨_, rfl⟩
    rw [hpn] at hs hp0 ha0 hb0
    refine aR fun Z hZ => sA rfl rfl <| sA rfl rfl <| sN (hZ _ _ ?_)
    refine aF [(0, _), (1, _), (2, _)] (Kn.cons rfl (Kn.cons rfl (Kn.cons rfl (Kn.nil)))) ?_
    refine aR fun Z hZ => sM rfl rfl ?_
    refine sCP (hs) rfl rfl ?_
    refine sA rfl rfl <| sN (hZ _ _ ?_)
    refine aF [(0, _), (1, _), (2, _), (8, _)] (Kn.cons rfl (Kn.cons rfl (Kn.cons rfl (Kn.cons rfl (Kn.nil))))) ?_
    refine aS (aB ?_)
    refine aR fun Z hZ => sM rfl rfl ?_
    refine jD7 rfl rfl rfl ?_
    refine sA rfl rfl <| sN (hZ _ _ ?_)
    refine aF [(0, _), (1, _), (2, _), (8, _), (18, _)] (Kn.cons rfl (Kn.cons rfl (Kn.cons rfl (Kn.cons rfl (Kn.cons rfl (Kn.nil)))))) ?_
    refine aC rfl (fun h1 => ?_) (fun h1 => ?_)
    · exfalso
      simp at h1
      omega
    refine jA1 [(0, iq n), (1, iq a0), (2, iq b0), (21, .bool false)] [] (fun Z hZ => ?_) ?_
    · refine sM rfl rfl ?_
      refine jC3 rfl rfl rfl ?_
      refine sM rfl rfl ?_
      refine jB6 24 rfl (fun hb2 => ?_) (fun hb2 => ?_)
      · refine sO rfl rfl rfl rfl rfl ?_
        refine sO rfl rfl rfl rfl rfl ?_
        refine sP rfl rfl rfl <| sM rfl rfl ?_
        refine sO rfl rfl rfl rfl rfl ?_
        refine sO rfl rfl rfl rfl rfl ?_
        refine sO rfl rfl rfl rfl rfl ?_
        refine sP rfl rfl rfl <| sM rfl rfl ?_
        refine sO rfl rfl rfl rfl rfl ?_
        refine sO rfl rfl rfl rfl rfl ?_
        refine sO rfl rfl rfl rfl rfl ?_
        refine sP rfl rfl rfl <| sA rfl rfl ?_
        refine sN (hZ _ _ ?_ ?_)
        · exact Kn.cons rfl (Kn.cons rfl (Kn.cons rfl (Kn.cons (congrArg some (congrArg Value.bool (by first | rfl | (simp at *; done) | (simp at *; omega)))) Kn.nil)))
        · exact HLe.refl _
      · refine sOn rfl rfl rfl ?_
        refine sM rfl rfl ?_
        refine sOn rfl rfl rfl ?_
        refine jC3 rfl rfl rfl ?_
        refine sP rfl rfl rfl <| sM rfl rfl ?_
        refine jB6 28 rfl (fun hb6 => ?_) (fun hb6 => ?_)
        · refine sO rfl rfl rfl rfl rfl ?_
          refine sO rfl rfl rfl rfl rfl ?_
          refine sO rfl rfl rfl rfl rfl ?_
          refine sP rfl rfl rfl <| sM rfl rfl ?_
          refine sO rfl rfl rfl rfl rfl ?_
          refine sO rfl rfl rfl rfl rfl ?_
          refine sO rfl rfl rfl rfl rfl ?_
          refine sP rfl rfl rfl <| sA rfl rfl ?_
          refine sN (hZ _ _ ?_ ?_)
          · exact Kn.cons rfl (Kn.cons rfl (Kn.cons rfl (Kn.cons (congrArg some (congrArg Value.bool (by first | rfl | (simp at *; done) | (simp at *; omega)))) Kn.nil)))
          · exact HLe.refl _
        · refine sOn rfl rfl rfl ?_
          refine sM rfl rfl ?_
          refine sOn rfl rfl rfl ?_
          refine sM rfl rfl ?_
          refine sOn rfl rfl rfl ?_
          refine sx_geq rfl rfl rfl ?_
          refine sP rfl rfl rfl <| sM rfl rfl ?_
          refine jB6 33 rfl (fun hb11 => ?_) (fun hb11 => ?_)
          · refine sO rfl rfl rfl rfl rfl ?_
            refine sO rfl rfl rfl rfl rfl ?_
            refine sO rfl rfl rfl rfl rfl ?_
            refine sP rfl rfl rfl <| sA rfl rfl ?_
            refine sN (hZ _ _ ?_ ?_)
            · exact Kn.cons rfl (Kn.cons rfl (Kn.cons rfl (Kn.cons (congrArg some (congrArg Value.bool (by first | rfl | (simp at *; done) | (simp at *; omega)))) Kn.nil)))
            · exact HLe.refl _
          · refine sOn rfl rfl rfl ?_
            refine sM rfl rfl ?_
            refine sOn rfl rfl rfl ?_
            refine sM rfl rfl ?_
            refine sOn rfl rfl rfl ?_
            refine sx_geq rfl rfl rfl ?_
            refine sP rfl rfl rfl <| sA rfl rfl ?_
            refine sN (hZ _ _ ?_ ?_)
            · exact Kn.cons rfl (Kn.cons rfl (Kn.cons rfl (Kn.cons (congrArg some (congrArg Value.bool (by first | rfl | (simp at *; done) | (simp at *; omega)))) Kn.nil)))
            · exact HLe.refl _
    refine aC rfl (fun h2 => ?_) (fun h2 => ?_)
    · cases h2
    refine aK ?_
    repeat (with_reducible refine nBN ?_)
    with_reducible refine nN ?_
    refine aR (fun Z hZ => ?_)
    refine sCP (cquarters_fn) rfl rfl ?_
    refine sAl tyZ229 rfl (fun g1 => ?_)
    first | refine sS 0 rfl rfl rfl tyS229 (by simp only [Value.cells]; rfl) rfl rfl rfl (by simp only [List.take_zero, List.drop_succ_cons, List.drop_zero, List.nil_append, List.append_nil, List.length_cons, List.length_nil, Nat.reduceAdd, Nat.zero_add, wrV]; rfl) (by simp only [List.set_cons_zero]; rfl) ?_
    refine sN (hZ _ _ ?_)
    refine aF [(0, _), (1, _), (2, _), (9, _)] (Kn.cons rfl (Kn.cons rfl (Kn.cons rfl (Kn.cons rfl (Kn.nil))))) ?_
    refine aR fun Z hZ => sM rfl rfl ?_
    refine jA6 Tryz.underlying3 Tryz.underlying45 rfl ((a0 : Nat) : Int) (by rw [IntWalk.u64_in _ (by omega)]) rfl ?_
    refine sM rfl rfl ?_
    refine jA6 Tryz.underlying3 Tryz.underlying45 rfl ((b0 : Nat) : Int) (by rw [IntWalk.u64_in _ (by omega)]) rfl ?_
    refine sA rfl rfl <| sA rfl rfl <| sA rfl rfl <| sN (hZ _ _ ?_)
    refine aF [(0, _), (9, _), (10, _), (11, _), (12, _)] (Kn.cons rfl (Kn.cons rfl (Kn.cons rfl (Kn.cons rfl (Kn.cons rfl (Kn.nil)))))) ?_
    refine aS ?_
    refine aR fun Z hZ => sM rfl rfl <| sM rfl rfl <| sN (hZ _ _ ?_)
    refine aF [(0, _), (9, _), (10, _), (11, _), (12, _), (43, _), (44, _)] (Kn.cons rfl (Kn.cons rfl (Kn.cons rfl (Kn.cons rfl (Kn.cons rfl (Kn.cons rfl (Kn.cons rfl (Kn.nil)))))))) ?_
    refine aB ?_
    refine jC2 (ι := Nat × Nat × Nat × Nat) (fun s => [(0, iq n), (9, ptr g1 0), (10, uq s.1), (11, uq s.2.1), (12, uq s.2.2.1), (43, iq n), (44, iq (s.2.2.2 : Nat))]) (fun _ => [.own g1 229 quarters]) (fun s => s.2.2.2 ≤ n ∧ s.1 < 2 ^ (n - s.2.2.2) ∧ s.2.1 < 2 ^ (n - s.2.2.2) ∧ hp n a0 b0 = s.2.2.1 * 4 ^ (n - s.2.2.2) + hp (n - s.2.2.2) s.1 s.2.1) (fun s => n - s.2.2.2) (a0, b0, 0, 0) ⟨Nat.zero_le _, hA, hB, by show hp n a0 b0 = 0 * 4 ^ (n - 0) + hp (n - 0) a0 b0; rw [Nat.zero_mul, Nat.zero_add, Nat.sub_zero]⟩ (Kn.cons rfl (Kn.cons rfl (Kn.cons rfl (Kn.cons rfl (Kn.cons rfl (Kn.cons rfl (Kn.cons rfl Kn.nil))))))) (HLe.refl _) ?_
    rintro ⟨a, b, d, i⟩ ⟨hi, ha, hb, hd⟩
    replace hi : i ≤ n := hi
    replace ha : a < 2 ^ (n - i) := ha
    replace hb : b < 2 ^ (n - i) := hb
    replace hd : hp n a0 b0 = d * 4 ^ (n - i) + hp (n - i) a b := hd
    refine aF [(0, iq n), (9, ptr g1 0), (10, uq a), (11, uq b), (12, uq d), (43, iq n), (44, iq i)] (Kn.cons rfl (Kn.cons rfl (Kn.cons rfl (Kn.cons rfl (Kn.cons rfl (Kn.cons rfl (Kn.cons rfl Kn.nil))))))) ?_
    refine aR (fun Z hZ => ?_)
    refine jC3 rfl rfl rfl ?_
    refine sN (hZ _ _ ?_)
    refine aF [(0, _), (9, _), (10, _), (11, _), (12, _), (43, _), (44, _), (45, _)] (Kn.cons rfl (Kn.cons rfl (Kn.cons rfl (Kn.cons rfl (Kn.cons rfl (Kn.cons rfl (Kn.cons rfl (Kn.cons rfl (Kn.nil))))))))) ?_
    refine aS (aC rfl (fun h9 => ?_) (fun h9 => ?_))
    · have hlt : i < n := by simpa using h9
      obtain ⟨m, hm⟩ : ∃ m, n - i = m + 1 := ⟨n - i - 1, by omega⟩
      have hm1 : n - 1 - i = m := by omega
      have hm2 : n - (i + 1) = m := by omega
      rw [hm] at ha hb hd
      have hml := pow2_le26 (show m + 1 ≤ 26 by omega)
      obtain ⟨e1, e2, e3, e4, e5, e6⟩ := hp_turn ha hb
      have h7 := shr_at a m (by omega)
      have h8 := shr_at b m (by omega)
      have hct := cturn_fn (quQ (a / 2 ^ m) (b / 2 ^ m)) a b m e3 (by omega) (by omega) (by omega)
      have hcn := cnum_fn (a / 2 ^ m) (b / 2 ^ m) e1 e2
      obtain ⟨pa, hpa⟩ : ∃ x, a / 2 ^ m = x := ⟨_, rfl⟩
      obtain ⟨pb, hpb⟩ : ∃ x, b / 2 ^ m = x := ⟨_, rfl⟩
      rw [hpa] at e1 e3 e4 e5 e6 h7 hct hcn
      rw [hpb] at e2 e3 e4 e5 e6 h8 hct hcn
      obtain ⟨k, hk⟩ : ∃ k, quQ pa pb = k := ⟨_, rfl⟩
      rw [hk] at e3 e4 e5 e6 hct hcn
      obtain ⟨t, ht⟩ : ∃ t, turnQ k a b m = t := ⟨_, rfl⟩
      rw [ht] at e4 e5 e6 hct
      obtain ⟨ta, tb⟩ := t
      replace e4 : ta < 2 ^ m := e4
      replace e5 : tb < 2 ^ m := e5
      replace e6 : hp (m + 1) a b = k * 4 ^ m + hp m ta tb := e6
      replace hct : Fn Tryz.prog 119 [qval k, uq a, uq b, iq m] [] fun v _ => v = .tuple #[uq ta, uq tb] := hct
      have hd2 : hp n a0 b0 = (d * 2 ^ 2 + k) * 4 ^ m + hp m ta tb := by
        rw [hd, e6, Nat.pow_succ, Nat.add_mul, Nat.mul_assoc d (2 ^ 2), show (2 : Nat) ^ 2 * 4 ^ m = 4 ^ m * 4 from Nat.mul_comm _ _]
        omega
      have hdl : d * 2 ^ 2 + k ≤ hp n a0 b0 := by
        rw [hd2]
        have := Nat.le_mul_of_pos_right (d * 2 ^ 2 + k) (pow4_pos m)
        omega
      have hbig : d * 2 ^ 2 + k < 18446744073709551616 := by
        have : (4 : Nat) ^ 26 < 18446744073709551616 := by decide
        omega
      have hsh := shl_at .u64 d 2 rfl (by decide) (fun x hx => IntWalk.u64_in _ (by omega))
      have hor := or_at d k 2 (by omega) hbig
      have ha1 := and_one pa (by omega)
      have hb1 := and_one pb (by omega)
      rw [Nat.mod_eq_of_lt e1] at ha1
      rw [Nat.mod_eq_of_lt e2] at hb1
      have hqa := quarters_at e3
      clear hd e6 hs hA hB hpn
      refine aK ?_
      with_reducible refine nN ?_
      refine aS (aB ?_)
      refine aR fun Z hZ => sM rfl rfl <| sA rfl rfl <| sN (hZ _ _ ?_)
      refine aF [(0, _), (9, _), (10, _), (11, _), (12, _), (13, _), (43, _), (44, _)] (Kn.cons rfl (Kn.cons rfl (Kn.cons rfl (Kn.cons rfl (Kn.cons rfl (Kn.cons rfl (Kn.cons rfl (Kn.cons rfl (Kn.nil))))))))) ?_
      refine aR fun Z hZ => sM rfl rfl ?_
      refine jG4 rfl rfl ((n - 1 : Nat) : Int) (by rw [IntWalk.i64_in _ (by omega)]; omega) rfl ?_
      refine sM rfl rfl ?_
      refine jG4 rfl rfl ((m : Nat) : Int) (by rw [IntWalk.i64_in _ (by omega)]; omega) rfl ?_
      refine sA rfl rfl <| sN (hZ _ _ ?_)
      refine aF [(0, _), (9, _), (10, _), (11, _), (12, _), (14, _), (43, _), (44, _)] (Kn.cons rfl (Kn.cons rfl (Kn.cons rfl (Kn.cons rfl (Kn.cons rfl (Kn.cons rfl (Kn.cons rfl (Kn.cons rfl (Kn.nil))))))))) ?_
      refine jC1 mixed (by kernel_rfl) (fun Z hZ => ?_)
      refine qM rfl rfl ?_
      refine qM rfl rfl ?_
      refine sq_shr rfl rfl (by omega) ((pa : Nat) : Int) h7 rfl ?_
      refine sq_bits (.inl rfl) rfl rfl ((pa : Nat) : Int) ha1 rfl ?_
      refine qM rfl rfl ?_
      refine qM rfl rfl ?_
      refine sq_shr rfl rfl (by omega) ((pb : Nat) : Int) h8 rfl ?_
      refine sq_bits (.inl rfl) rfl rfl ((pb : Nat) : Int) hb1 rfl ?_
      refine jH7 (hcn) rfl rfl ?_
      refine jA3 rfl rfl ?_
      refine jD0 (hZ _ _ ?_)
      refine aF [(0, _), (9, _), (10, _), (11, _), (12, _), (14, _), (15, _), (43, _), (44, _)] (Kn.cons rfl (Kn.cons rfl (Kn.cons rfl (Kn.cons rfl (Kn.cons rfl (Kn.cons rfl (Kn.cons rfl (Kn.cons rfl (Kn.cons rfl (Kn.nil)))))))))) ?_
      refine aR fun Z hZ => sM rfl rfl ?_
      refine sx_shl rfl rfl (by decide) ((d * 2 ^ 2 : Nat) : Int) hsh rfl ?_
      refine sM rfl rfl ?_
      refine sx_bits (.inr (.inl rfl)) rfl rfl ((d * 2 ^ 2 + k : Nat) : Int) hor rfl ?_
      refine sA rfl rfl <| sN (hZ _ _ ?_)
      refine aF [(0, _), (9, _), (10, _), (11, _), (12, _), (14, _), (15, _), (43, _), (44, _)] (Kn.cons rfl (Kn.cons rfl (Kn.cons rfl (Kn.cons rfl (Kn.cons rfl (Kn.cons rfl (Kn.cons rfl (Kn.cons rfl (Kn.cons rfl (Kn.nil)))))))))) ?_
      refine aG (fun Z hZ => ?_)
      refine sM rfl rfl ?_
      refine jC4 (k * 4) Tryz.underlying229 tyS228 rfl rfl (by omega) (by simp) rfl ?_
      refine sL 0 rfl rfl tyA228 tyS228 hqa rfl ?_
      refine sM rfl rfl <| sM rfl rfl <| sM rfl rfl ?_
      refine sCP (hct) rfl rfl ?_
      refine sM rfl rfl <| sX rfl rfl rfl <| sX rfl rfl rfl <| sA rfl rfl <| sA rfl rfl <| sN (hZ _ _ ?_)
      refine nF [(0, _), (9, _), (10, _), (11, _), (12, _), (43, _), (44, _)] (Kn.cons rfl (Kn.cons rfl (Kn.cons rfl (Kn.cons rfl (Kn.cons rfl (Kn.cons rfl (Kn.cons rfl (Kn.nil)))))))) ?_
      repeat (with_reducible refine nBN ?_)
      with_reducible refine nN ?_
      refine aG (fun Z hZ => ?_)
      refine jA7 rfl rfl ((i + 1 : Nat) : Int) (by rw [IntWalk.i64_in _ (by omega)]; omega) rfl ?_
      refine sM rfl rfl <| sN (hZ _ _ ?_)
      refine nF [(0, _), (9, _), (10, _), (11, _), (12, _), (43, _), (44, _)] (Kn.cons rfl (Kn.cons rfl (Kn.cons rfl (Kn.cons rfl (Kn.cons rfl (Kn.cons rfl (Kn.cons rfl (Kn.nil)))))))) ?_
      exact jB4 (ta, tb, d * 2 ^ 2 + k, i + 1) ⟨hlt, by show ta < 2 ^ (n - (i + 1)); rw [hm2]; exact e4, by show tb < 2 ^ (n - (i + 1)); rw [hm2]; exact e5, by show hp n a0 b0 = (d * 2 ^ 2 + k) * 4 ^ (n - (i + 1)) + hp (n - (i + 1)) ta tb; rw [hm2]; exact hd2⟩ (show n - (i + 1) < n - i by omega) (Kn.cons rfl (Kn.cons rfl (Kn.cons rfl (Kn.cons rfl (Kn.cons rfl (Kn.cons rfl (Kn.cons rfl Kn.nil))))))) (HLe.refl _)
    · refine jA8 ?_
      repeat (with_reducible refine nTE ?_)
      with_reducible refine nBE ?_
      with_reducible refine nN ?_
      obtain rfl : i = n := by simp at h9; omega
      rw [Nat.sub_self] at hd
      rw [show hp i a0 b0 = d by rw [hd]; simp [hp]]
      refine aR fun Z hZ => sM rfl rfl <| sA rfl rfl <| sA rfl rfl <| sN (hZ _ _ ?_)
      refine aF [(6, _), (7, _)] (Kn.cons rfl (Kn.cons rfl (Kn.nil))) ?_
      refine aE ?_
      exact jE1 rfl rfl rfl rfl
end Go.Proofs.YtkojkeabelckjaaGreatDoor
namespace Go.Proofs.YtkojkeabelckjaaGreatDoor
open Go.RowKit
set_option maxRecDepth 100000
def qx (k : Nat) : Nat := if k = 2 ∨ k = 3 then 1 else 0
def qy (k : Nat) : Nat := if k = 1 ∨ k = 2 then 1 else 0
theorem pt_turn {i k a b d : Nat} (hk : d / 4 ^ i % 4 = k) (hab : pt i (d % 4 ^ i) = (a, b)) (ha : a < 2 ^ i) (hb : b < 2 ^ i) : pt (i + 1) (d % 4 ^ (i + 1)) = (qx k * 2 ^ i + (turnQ k a b i).1, qy k * 2 ^ i + (turnQ k a b i).2) ∧ (turnQ k a b i).1 < 2 ^ i ∧ (turnQ k a b i).2 < 2 ^ i := by
  have h4 : k < 4 := by rw [← hk]; exact Nat.mod_lt _ (by decide)
  have hp0 := jG3 i
  rw [pt, Nat.pow_succ, Nat.mod_mul_right_div_self, Nat.mod_mul_right_mod, hk, hab]
  have h1 := Nat.mod_eq_of_lt ha
  have h2 := Nat.mod_eq_of_lt hb
  obtain rfl | rfl | rfl | rfl : k = 0 ∨ k = 1 ∨ k = 2 ∨ k = 3 := by omega
  · rw [show turnQ 0 a b i = (b % 2 ^ i, a % 2 ^ i) from rfl, h1, h2, show qx 0 = 0 from rfl, show qy 0 = 0 from rfl, if_pos rfl, Nat.zero_mul, Nat.zero_add, Nat.zero_add]
    exact ⟨rfl, hb, ha⟩
  · rw [show turnQ 1 a b i = (a % 2 ^ i, b % 2 ^ i) from rfl, h1, h2, show qx 1 = 0 from rfl, show qy 1 = 1 from rfl, if_neg (by decide), if_pos rfl, Nat.zero_mul, Nat.zero_add, Nat.one_mul, Nat.add_comm (2 ^ i)]
    exact ⟨rfl, ha, hb⟩
  · rw [show turnQ 2 a b i = (a % 2 ^ i, b % 2 ^ i) from rfl, h1, h2, show qx 2 = 1 from rfl, show qy 2 = 1 from rfl, if_neg (by decide), if_neg (by decide), if_pos rfl, Nat.one_mul, Nat.add_comm (2 ^ i), Nat.add_comm (2 ^ i)]
    exact ⟨rfl, ha, hb⟩
  · rw [show turnQ 3 a b i = (2 ^ i - 1 - b % 2 ^ i, 2 ^ i - 1 - a % 2 ^ i) from rfl, h1, h2, show qx 3 = 1 from rfl, show qy 3 = 0 from rfl, if_neg (by decide), if_neg (by decide), if_neg (by decide), Nat.one_mul, Nat.zero_mul, Nat.zero_add, Nat.add_comm (2 ^ i)]
    exact ⟨rfl, by show 2 ^ i - 1 - b < 2 ^ i; omega, by show 2 ^ i - 1 - a < 2 ^ i; omega⟩
theorem qx_le (k m : Nat) : qx k * m ≤ m := by
  unfold qx
  split
  · rw [Nat.one_mul]; exact Nat.le_refl _
  · rw [Nat.zero_mul]; exact Nat.zero_le _
theorem qy_le (k m : Nat) : qy k * m ≤ m := by
  unfold qy
  split
  · rw [Nat.one_mul]; exact Nat.le_refl _
  · rw [Nat.zero_mul]; exact Nat.zero_le _
theorem four_two (i : Nat) : (2 : Nat) ^ (2 * i) = 4 ^ i := by rw [Nat.pow_mul]
theorem cPoint_fn (n d : Nat) (hn : n ≤ 26) (hd : d < 4 ^ n) : Fn Tryz.prog 158 [iq (n : Nat), uq d] [] fun v _ => v = .tuple #[iq ((pt n d).1 : Nat), iq ((pt n d).2 : Nat), iq (0 : Int)] := by
  have hs := cside_fn n hn
  have hp0 := jG3 n
  have hq4 : 4 ^ n ≤ 4 ^ 26 := Nat.pow_le_pow_right (by decide) hn
  have hdl : d < 18446744073709551616 := by
    have : (4 : Nat) ^ 26 < 18446744073709551616 := by decide
    omega
  have hsh := shr_at d (2 * n) (by omega)
  rw [four_two, Nat.div_eq_of_lt hd] at hsh
  obtain ⟨p, hpn⟩ : ∃ p, 2 ^ n = p := ⟨_, rfl⟩
  rw [hpn] at hs hp0
  refine Fn.enter (N := 61) Tryz.func158 rfl (by kernel_rfl) rfl (fun w0 => ?_)
  refine aR fun Z hZ => sA rfl rfl <| sA rfl rfl <| sA rfl rfl <| sN (hZ _ _ ?_)
  refine aF [(0, _), (1, _)] (Kn.cons rfl (Kn.cons rfl (Kn.nil))) ?_
  refine aR fun Z hZ => sM rfl rfl ?_
  refine sCP (hs) rfl rfl ?_
  refine sA rfl rfl <| sN (hZ _ _ ?_)
  refine aF [(0, _), (1, _), (7, _)] (Kn.cons rfl (Kn.cons rfl (Kn.cons rfl (Kn.nil)))) ?_
  refine aS (aB ?_)
  refine aR fun Z hZ => sM rfl rfl ?_
  refine jD7 rfl rfl rfl ?_
  refine sA rfl rfl <| sN (hZ _ _ ?_)
  refine aF [(0, _), (1, _), (15, _)] (Kn.cons rfl (Kn.cons rfl (Kn.cons rfl (Kn.nil)))) ?_
  refine aC rfl (fun h1 => ?_) (fun h1 => ?_)
  · exfalso
    simp at h1
    omega
  refine aR fun Z hZ => sM rfl rfl <| sM rfl rfl ?_
  refine sx_mul rfl rfl ((2 * n : Nat) : Int) (by rw [IntWalk.i64_in _ (by omega)]; omega) rfl ?_
  refine sx_shr rfl rfl (by omega) ((0 : Nat) : Int) hsh rfl ?_
  refine jC9 rfl rfl rfl ?_
  refine sA rfl rfl <| sN (hZ _ _ ?_)
  refine aF [(0, _), (1, _), (18, _)] (Kn.cons rfl (Kn.cons rfl (Kn.cons rfl (Kn.nil)))) ?_
  refine aC rfl (fun h2 => ?_) (fun h2 => ?_)
  · cases h2
  refine aK ?_
  repeat (with_reducible refine nBN ?_)
  with_reducible refine nN ?_
  refine aR (fun Z hZ => ?_)
  refine sCP (cquarters_fn) rfl rfl ?_
  refine sAl tyZ229 rfl (fun g1 => ?_)
  first | refine sS 0 rfl rfl rfl tyS229 (by simp only [Value.cells]; rfl) rfl rfl rfl (by simp only [List.take_zero, List.drop_succ_cons, List.drop_zero, List.nil_append, List.append_nil, List.length_cons, List.length_nil, Nat.reduceAdd, Nat.zero_add, wrV]; rfl) (by simp only [List.set_cons_zero]; rfl) ?_
  refine sN (hZ _ _ ?_)
  refine aF [(0, _), (1, _), (8, _)] (Kn.cons rfl (Kn.cons rfl (Kn.cons rfl (Kn.nil)))) ?_
  refine aR fun Z hZ => sA rfl rfl <| sA rfl rfl <| sN (hZ _ _ ?_)
  refine aF [(0, _), (1, _), (8, _), (9, _), (10, _)] (Kn.cons rfl (Kn.cons rfl (Kn.cons rfl (Kn.cons rfl (Kn.cons rfl (Kn.nil)))))) ?_
  refine aS ?_
  refine aR fun Z hZ => sM rfl rfl <| sM rfl rfl <| sN (hZ _ _ ?_)
  refine aF [(1, _), (8, _), (9, _), (10, _), (25, _), (26, _)] (Kn.cons rfl (Kn.cons rfl (Kn.cons rfl (Kn.cons rfl (Kn.cons rfl (Kn.cons rfl (Kn.nil))))))) ?_
  refine aB ?_
  refine jC2 (ι := Nat × Nat × Nat) (fun s => [(1, uq d), (8, ptr g1 0), (9, uq s.1), (10, uq s.2.1), (25, iq n), (26, iq (s.2.2 : Nat))]) (fun _ => [.own g1 229 quarters]) (fun s => s.2.2 ≤ n ∧ pt s.2.2 (d % 4 ^ s.2.2) = (s.1, s.2.1)) (fun s => n - s.2.2) (0, 0, 0) ⟨Nat.zero_le _, rfl⟩ (Kn.cons rfl (Kn.cons rfl (Kn.cons rfl (Kn.cons rfl (Kn.cons rfl (Kn.cons rfl Kn.nil)))))) (HLe.refl _) ?_
  rintro ⟨a, b, i⟩ ⟨hi, hab⟩
  replace hi : i ≤ n := hi
  replace hab : pt i (d % 4 ^ i) = (a, b) := hab
  refine aF [(1, uq d), (8, ptr g1 0), (9, uq a), (10, uq b), (25, iq n), (26, iq i)] (Kn.cons rfl (Kn.cons rfl (Kn.cons rfl (Kn.cons rfl (Kn.cons rfl (Kn.cons rfl Kn.nil)))))) ?_
  have hlt2 := pt_lt i (d % 4 ^ i) (Nat.mod_lt _ (pow4_pos i))
  rw [hab] at hlt2
  obtain ⟨ha, hb⟩ : a < 2 ^ i ∧ b < 2 ^ i := hlt2
  have hil := pow2_le26 (show i ≤ 26 by omega)
  refine aR (fun Z hZ => ?_)
  refine jC3 rfl rfl rfl ?_
  refine sN (hZ _ _ ?_)
  refine aF [(1, _), (8, _), (9, _), (10, _), (25, _), (26, _), (27, _)] (Kn.cons rfl (Kn.cons rfl (Kn.cons rfl (Kn.cons rfl (Kn.cons rfl (Kn.cons rfl (Kn.cons rfl (Kn.nil)))))))) ?_
  refine aS (aC rfl (fun h9 => ?_) (fun h9 => ?_))
  · have hlt : i < n := by simpa using h9
    obtain ⟨k, hk⟩ : ∃ k, d / 4 ^ i % 4 = k := ⟨_, rfl⟩
    have hk4 : k < 4 := by rw [← hk]; exact Nat.mod_lt _ (by decide)
    obtain ⟨e1, e2, e3⟩ := pt_turn hk hab ha hb
    have hct := cturn_fn k a b i hk4 (by omega) (by omega) (by omega)
    obtain ⟨t, ht⟩ : ∃ t, turnQ k a b i = t := ⟨_, rfl⟩
    obtain ⟨ta, tb⟩ := t
    rw [ht] at e1 e2 e3 hct
    replace e1 : pt (i + 1) (d % 4 ^ (i + 1)) = (qx k * 2 ^ i + ta, qy k * 2 ^ i + tb) := e1
    replace e2 : ta < 2 ^ i := e2
    replace e3 : tb < 2 ^ i := e3
    have h7 := shr_at d (2 * i) (by omega)
    rw [four_two] at h7
    have h8 := and_3 (d / 4 ^ i) (Nat.lt_of_le_of_lt (Nat.div_le_self _ _) hdl)
    rw [hk] at h8
    have hqa := quarters_at hk4
    have hsx := shl_at .u64 (qx k) i rfl (by omega) (fun x hx => IntWalk.u64_in _ (by have := qx_le k (2 ^ i); omega))
    have hsy := shl_at .u64 (qy k) i rfl (by omega) (fun x hx => IntWalk.u64_in _ (by have := qy_le k (2 ^ i); omega))
    have hox := or_at' (qx k) ta i e2 (by have := qx_le k (2 ^ i); omega)
    have hoy := or_at' (qy k) tb i e3 (by have := qy_le k (2 ^ i); omega)
    obtain ⟨nx, hnx⟩ : ∃ x, qx k * 2 ^ i + ta = x := ⟨_, rfl⟩
    obtain ⟨ny, hny⟩ : ∃ x, qy k * 2 ^ i + tb = x := ⟨_, rfl⟩
    obtain ⟨sx, hsx0⟩ : ∃ x, qx k * 2 ^ i = x := ⟨_, rfl⟩
    obtain ⟨sy, hsy0⟩ : ∃ x, qy k * 2 ^ i = x := ⟨_, rfl⟩
    obtain ⟨dd, hdd⟩ : ∃ x, d / 4 ^ i = x := ⟨_, rfl⟩
    rw [hnx] at e1 hox
    rw [hny] at e1 hoy
    rw [hsx0] at hsx hox
    rw [hsy0] at hsy hoy
    rw [hdd] at h7 h8
    refine aK ?_
    with_reducible refine nN ?_
    refine aS (aB ?_)
    refine aR fun Z hZ => sM rfl rfl <| sA rfl rfl <| sN (hZ _ _ ?_)
    refine aF [(1, _), (8, _), (9, _), (10, _), (11, _), (25, _), (26, _)] (Kn.cons rfl (Kn.cons rfl (Kn.cons rfl (Kn.cons rfl (Kn.cons rfl (Kn.cons rfl (Kn.cons rfl (Kn.nil)))))))) ?_
    clear hk hnx hny hsx0 hsy0 ht hd hdd
    obtain rfl | rfl | rfl | rfl : k = 0 ∨ k = 1 ∨ k = 2 ∨ k = 3 := by omega
    · replace hct : Fn Tryz.prog 119 [.agg #[uq 0, uq 0, .bool true, .bool false], uq a, uq b, iq i] [] fun v _ => v = .tuple #[uq ta, uq tb] := hct
      refine aR fun Z hZ => sM rfl rfl <| sM rfl rfl ?_
      refine sx_mul rfl rfl ((2 * i : Nat) : Int) (by rw [IntWalk.i64_in _ (by omega)]; omega) rfl ?_
      refine sx_shr rfl rfl (by omega) ((dd : Nat) : Int) h7 rfl ?_
      refine sx_bits (.inl rfl) rfl rfl ((0 : Nat) : Int) h8 rfl ?_
      refine jC4 0 Tryz.underlying229 tyS228 rfl rfl (by decide) rfl rfl ?_
      first | refine sLA 0 rfl rfl tyA228 tyS228 rfl (by simp only [List.take_succ_cons, List.take_zero, List.drop_zero]; rfl) rfl ?_
      refine sAl tyZ228 rfl (fun g2 => ?_)
      refine sS 0 rfl rfl rfl tyS228 (by simp only [Value.cells]; rfl) rfl rfl rfl (by simp only [List.take_zero, List.drop_succ_cons, List.drop_zero, List.nil_append, List.append_nil, List.length_cons, List.length_nil, Nat.reduceAdd, Nat.zero_add, wrV]; rfl) (by simp only [List.set_cons_zero]; rfl) ?_
      refine sN (hZ _ _ ?_)
      refine aF [(1, _), (8, _), (9, _), (10, _), (11, _), (12, _), (25, _), (26, _)] (Kn.cons rfl (Kn.cons rfl (Kn.cons rfl (Kn.cons rfl (Kn.cons rfl (Kn.cons rfl (Kn.cons rfl (Kn.cons rfl (Kn.nil))))))))) ?_
      refine aR (fun Z hZ => ?_)
      refine sLA 0 rfl rfl tyA228 tyS228 rfl (by simp only [List.take_succ_cons, List.take_zero, List.drop_zero]; rfl) rfl ?_
      refine sM rfl rfl <| sM rfl rfl <| sM rfl rfl ?_
      refine sCP (hct) rfl rfl ?_
      refine sM rfl rfl <| sX rfl rfl rfl <| sX rfl rfl rfl <| sA rfl rfl <| sA rfl rfl <| sN (hZ _ _ ?_)
      refine aF [(1, _), (8, _), (9, _), (10, _), (11, _), (12, _), (25, _), (26, _)] (Kn.cons rfl (Kn.cons rfl (Kn.cons rfl (Kn.cons rfl (Kn.cons rfl (Kn.cons rfl (Kn.cons rfl (Kn.cons rfl (Kn.nil))))))))) ?_
      refine awq_region mixed (by kernel_rfl) (fun Z hZ => ?_)
      refine qM rfl rfl ?_
      refine qFA rfl tyF228_0 (by simp only [Nat.add_zero]; rfl) rfl ?_
      refine jA2 0 rfl rfl tyA45 tyS45 rfl rfl ?_
      refine qM rfl rfl ?_
      refine sq_shl rfl rfl (by omega) ((sx : Nat) : Int) hsx rfl ?_
      refine sq_bits (.inr (.inl rfl)) rfl rfl ((nx : Nat) : Int) hox rfl ?_
      refine qM rfl rfl ?_
      refine qFA rfl tyF228_1 (by simp only [Nat.zero_add]; rfl) rfl ?_
      refine jA2 0 rfl rfl tyA45 tyS45 rfl rfl ?_
      refine qM rfl rfl ?_
      refine sq_shl rfl rfl (by omega) ((sy : Nat) : Int) hsy rfl ?_
      refine sq_bits (.inr (.inl rfl)) rfl rfl ((ny : Nat) : Int) hoy rfl ?_
      refine jA3 rfl rfl ?_
      refine jA3 rfl rfl ?_
      refine jD0 (hZ _ _ ?_)
      refine nF [(1, _), (8, _), (9, _), (10, _), (25, _), (26, _)] (Kn.cons rfl (Kn.cons rfl (Kn.cons rfl (Kn.cons rfl (Kn.cons rfl (Kn.cons rfl (Kn.nil))))))) ?_
      repeat (with_reducible refine nBN ?_)
      with_reducible refine nN ?_
      refine aG (fun Z hZ => ?_)
      refine jA7 rfl rfl ((i + 1 : Nat) : Int) (by rw [IntWalk.i64_in _ (by omega)]; omega) rfl ?_
      refine sM rfl rfl <| sN (hZ _ _ ?_)
      refine nF [(1, _), (8, _), (9, _), (10, _), (25, _), (26, _)] (Kn.cons rfl (Kn.cons rfl (Kn.cons rfl (Kn.cons rfl (Kn.cons rfl (Kn.cons rfl (Kn.nil))))))) ?_
      exact jB4 (nx, ny, i + 1) ⟨hlt, e1⟩ (show n - (i + 1) < n - i by omega) (Kn.cons rfl (Kn.cons rfl (Kn.cons rfl (Kn.cons rfl (Kn.cons rfl (Kn.cons rfl Kn.nil)))))) (HLe.drop 1 rfl)
    · replace hct : Fn Tryz.prog 119 [.agg #[uq 0, uq 1, .bool false, .bool false], uq a, uq b, iq i] [] fun v _ => v = .tuple #[uq ta, uq tb] := hct
      refine aR fun Z hZ => sM rfl rfl <| sM rfl rfl ?_
      refine sx_mul rfl rfl ((2 * i : Nat) : Int) (by rw [IntWalk.i64_in _ (by omega)]; omega) rfl ?_
      refine sx_shr rfl rfl (by omega) ((dd : Nat) : Int) h7 rfl ?_
      refine sx_bits (.inl rfl) rfl rfl ((1 : Nat) : Int) h8 rfl ?_
      refine jC4 4 Tryz.underlying229 tyS228 rfl rfl (by decide) rfl rfl ?_
      first | refine sLA 0 rfl rfl tyA228 tyS228 rfl (by simp only [List.take_succ_cons, List.take_zero, List.drop_succ_cons, List.drop_zero]; rfl) rfl ?_
      refine sAl tyZ228 rfl (fun g3 => ?_)
      refine sS 0 rfl rfl rfl tyS228 (by simp only [Value.cells]; rfl) rfl rfl rfl (by simp only [List.take_zero, List.drop_succ_cons, List.drop_zero, List.nil_append, List.append_nil, List.length_cons, List.length_nil, Nat.reduceAdd, Nat.zero_add, wrV]; rfl) (by simp only [List.set_cons_zero]; rfl) ?_
      refine sN (hZ _ _ ?_)
      refine aF [(1, _), (8, _), (9, _), (10, _), (11, _), (12, _), (25, _), (26, _)] (Kn.cons rfl (Kn.cons rfl (Kn.cons rfl (Kn.cons rfl (Kn.cons rfl (Kn.cons rfl (Kn.cons rfl (Kn.cons rfl (Kn.nil))))))))) ?_
      refine aR (fun Z hZ => ?_)
      refine sLA 0 rfl rfl tyA228 tyS228 rfl (by simp only [List.take_succ_cons, List.take_zero, List.drop_zero]; rfl) rfl ?_
      refine sM rfl rfl <| sM rfl rfl <| sM rfl rfl ?_
      refine sCP (hct) rfl rfl ?_
      refine sM rfl rfl <| sX rfl rfl rfl <| sX rfl rfl rfl <| sA rfl rfl <| sA rfl rfl <| sN (hZ _ _ ?_)
      refine aF [(1, _), (8, _), (9, _), (10, _), (11, _), (12, _), (25, _), (26, _)] (Kn.cons rfl (Kn.cons rfl (Kn.cons rfl (Kn.cons rfl (Kn.cons rfl (Kn.cons rfl (Kn.cons rfl (Kn.cons rfl (Kn.nil))))))))) ?_
      refine awq_region mixed (by kernel_rfl) (fun Z hZ => ?_)
      refine qM rfl rfl ?_
      refine qFA rfl tyF228_0 (by simp only [Nat.add_zero]; rfl) rfl ?_
      refine jA2 0 rfl rfl tyA45 tyS45 rfl rfl ?_
      refine qM rfl rfl ?_
      refine sq_shl rfl rfl (by omega) ((sx : Nat) : Int) hsx rfl ?_
      refine sq_bits (.inr (.inl rfl)) rfl rfl ((nx : Nat) : Int) hox rfl ?_
      refine qM rfl rfl ?_
      refine qFA rfl tyF228_1 (by simp only [Nat.zero_add]; rfl) rfl ?_
      refine jA2 0 rfl rfl tyA45 tyS45 rfl rfl ?_
      refine qM rfl rfl ?_
      refine sq_shl rfl rfl (by omega) ((sy : Nat) : Int) hsy rfl ?_
      refine sq_bits (.inr (.inl rfl)) rfl rfl ((ny : Nat) : Int) hoy rfl ?_
      refine jA3 rfl rfl ?_
      refine jA3 rfl rfl ?_
      refine jD0 (hZ _ _ ?_)
      refine nF [(1, _), (8, _), (9, _), (10, _), (25, _), (26, _)] (Kn.cons rfl (Kn.cons rfl (Kn.cons rfl (Kn.cons rfl (Kn.cons rfl (Kn.cons rfl (Kn.nil))))))) ?_
      repeat (with_reducible refine nBN ?_)
      with_reducible refine nN ?_
      refine aG (fun Z hZ => ?_)
      refine jA7 rfl rfl ((i + 1 : Nat) : Int) (by rw [IntWalk.i64_in _ (by omega)]; omega) rfl ?_
      refine sM rfl rfl <| sN (hZ _ _ ?_)
      refine nF [(1, _), (8, _), (9, _), (10, _), (25, _), (26, _)] (Kn.cons rfl (Kn.cons rfl (Kn.cons rfl (Kn.cons rfl (Kn.cons rfl (Kn.cons rfl (Kn.nil))))))) ?_
      exact jB4 (nx, ny, i + 1) ⟨hlt, e1⟩ (show n - (i + 1) < n - i by omega) (Kn.cons rfl (Kn.cons rfl (Kn.cons rfl (Kn.cons rfl (Kn.cons rfl (Kn.cons rfl Kn.nil)))))) (HLe.drop 1 rfl)
    · replace hct : Fn Tryz.prog 119 [.agg #[uq 1, uq 1, .bool false, .bool false], uq a, uq b, iq i] [] fun v _ => v = .tuple #[uq ta, uq tb] := hct
      refine aR fun Z hZ => sM rfl rfl <| sM rfl rfl ?_
      refine sx_mul rfl rfl ((2 * i : Nat) : Int) (by rw [IntWalk.i64_in _ (by omega)]; omega) rfl ?_
      refine sx_shr rfl rfl (by omega) ((dd : Nat) : Int) h7 rfl ?_
      refine sx_bits (.inl rfl) rfl rfl ((2 : Nat) : Int) h8 rfl ?_
      refine jC4 8 Tryz.underlying229 tyS228 rfl rfl (by decide) rfl rfl ?_
      first | refine sLA 0 rfl rfl tyA228 tyS228 rfl (by simp only [List.take_succ_cons, List.take_zero, List.drop_succ_cons, List.drop_zero]; rfl) rfl ?_
      refine sAl tyZ228 rfl (fun g4 => ?_)
      refine sS 0 rfl rfl rfl tyS228 (by simp only [Value.cells]; rfl) rfl rfl rfl (by simp only [List.take_zero, List.drop_succ_cons, List.drop_zero, List.nil_append, List.append_nil, List.length_cons, List.length_nil, Nat.reduceAdd, Nat.zero_add, wrV]; rfl) (by simp only [List.set_cons_zero]; rfl) ?_
      refine sN (hZ _ _ ?_)
      refine aF [(1, _), (8, _), (9, _), (10, _), (11, _), (12, _), (25, _), (26, _)] (Kn.cons rfl (Kn.cons rfl (Kn.cons rfl (Kn.cons rfl (Kn.cons rfl (Kn.cons rfl (Kn.cons rfl (Kn.cons rfl (Kn.nil))))))))) ?_
      refine aR (fun Z hZ => ?_)
      refine sLA 0 rfl rfl tyA228 tyS228 rfl (by simp only [List.take_succ_cons, List.take_zero, List.drop_zero]; rfl) rfl ?_
      refine sM rfl rfl <| sM rfl rfl <| sM rfl rfl ?_
      refine sCP (hct) rfl rfl ?_
      refine sM rfl rfl <| sX rfl rfl rfl <| sX rfl rfl rfl <| sA rfl rfl <| sA rfl rfl <| sN (hZ _ _ ?_)
      refine aF [(1, _), (8, _), (9, _), (10, _), (11, _), (12, _), (25, _), (26, _)] (Kn.cons rfl (Kn.cons rfl (Kn.cons rfl (Kn.cons rfl (Kn.cons rfl (Kn.cons rfl (Kn.cons rfl (Kn.cons rfl (Kn.nil))))))))) ?_
      refine awq_region mixed (by kernel_rfl) (fun Z hZ => ?_)
      refine qM rfl rfl ?_
      refine qFA rfl tyF228_0 (by simp only [Nat.add_zero]; rfl) rfl ?_
      refine jA2 0 rfl rfl tyA45 tyS45 rfl rfl ?_
      refine qM rfl rfl ?_
      refine sq_shl rfl rfl (by omega) ((sx : Nat) : Int) hsx rfl ?_
      refine sq_bits (.inr (.inl rfl)) rfl rfl ((nx : Nat) : Int) hox rfl ?_
      refine qM rfl rfl ?_
      refine qFA rfl tyF228_1 (by simp only [Nat.zero_add]; rfl) rfl ?_
      refine jA2 0 rfl rfl tyA45 tyS45 rfl rfl ?_
      refine qM rfl rfl ?_
      refine sq_shl rfl rfl (by omega) ((sy : Nat) : Int) hsy rfl ?_
      refine sq_bits (.inr (.inl rfl)) rfl rfl ((ny : Nat) : Int) hoy rfl ?_
      refine jA3 rfl rfl ?_
      refine jA3 rfl rfl ?_
      refine jD0 (hZ _ _ ?_)
      refine nF [(1, _), (8, _), (9, _), (10, _), (25, _), (26, _)] (Kn.cons rfl (Kn.cons rfl (Kn.cons rfl (Kn.cons rfl (Kn.cons rfl (Kn.cons rfl (Kn.nil))))))) ?_
      repeat (with_reducible refine nBN ?_)
      with_reducible refine nN ?_
      refine aG (fun Z hZ => ?_)
      refine jA7 rfl rfl ((i + 1 : Nat) : Int) (by rw [IntWalk.i64_in _ (by omega)]; omega) rfl ?_
      refine sM rfl rfl <| sN (hZ _ _ ?_)
      refine nF [(1, _), (8, _), (9, _), (10, _), (25, _), (26, _)] (Kn.cons rfl (Kn.cons rfl (Kn.cons rfl (Kn.cons rfl (Kn.cons rfl (Kn.cons rfl (Kn.nil))))))) ?_
      exact jB4 (nx, ny, i + 1) ⟨hlt, e1⟩ (show n - (i + 1) < n - i by omega) (Kn.cons rfl (Kn.cons rfl (Kn.cons rfl (Kn.cons rfl (Kn.cons rfl (Kn.cons rfl Kn.nil)))))) (HLe.drop 1 rfl)
    · replace hct : Fn Tryz.prog 119 [.agg #[uq 1, uq 0, .bool true, .bool true], uq a, uq b, iq i] [] fun v _ => v = .tuple #[uq ta, uq tb] := hct
      refine aR fun Z hZ => sM rfl rfl <| sM rfl rfl ?_
      refine sx_mul rfl rfl ((2 * i : Nat) : Int) (by rw [IntWalk.i64_in _ (by omega)]; omega) rfl ?_
      refine sx_shr rfl rfl (by omega) ((dd : Nat) : Int) h7 rfl ?_
      refine sx_bits (.inl rfl) rfl rfl ((3 : Nat) : Int) h8 rfl ?_
      refine jC4 12 Tryz.underlying229 tyS228 rfl rfl (by decide) rfl rfl ?_
      first | refine sLA 0 rfl rfl tyA228 tyS228 rfl (by simp only [List.take_succ_cons, List.take_zero, List.drop_succ_cons, List.drop_zero]; rfl) rfl ?_
      refine sAl tyZ228 rfl (fun g5 => ?_)
      refine sS 0 rfl rfl rfl tyS228 (by simp only [Value.cells]; rfl) rfl rfl (by simp only [List.length_cons, List.length_nil, Nat.reduceAdd, Nat.zero_add]; rfl) (by simp only [List.take_zero, List.drop_succ_cons, List.drop_zero, List.nil_append, List.append_nil, List.length_cons, List.length_nil, Nat.reduceAdd, Nat.zero_add, wrV]; rfl) (by simp only [List.set_cons_zero]; rfl) ?_
      refine sN (hZ _ _ ?_)
      refine aF [(1, _), (8, _), (9, _), (10, _), (11, _), (12, _), (25, _), (26, _)] (Kn.cons rfl (Kn.cons rfl (Kn.cons rfl (Kn.cons rfl (Kn.cons rfl (Kn.cons rfl (Kn.cons rfl (Kn.cons rfl (Kn.nil))))))))) ?_
      refine aR (fun Z hZ => ?_)
      refine sLA 0 rfl rfl tyA228 tyS228 (by simp only [List.length_cons, List.length_nil, Nat.reduceAdd, Nat.zero_add]; rfl) (by simp only [List.take_succ_cons, List.take_zero, List.drop_zero]; rfl) rfl ?_
      refine sM rfl rfl <| sM rfl rfl <| sM rfl rfl ?_
      refine sCP (hct) rfl rfl ?_
      refine sM rfl rfl <| sX rfl rfl rfl <| sX rfl rfl rfl <| sA rfl rfl <| sA rfl rfl <| sN (hZ _ _ ?_)
      refine aF [(1, _), (8, _), (9, _), (10, _), (11, _), (12, _), (25, _), (26, _)] (Kn.cons rfl (Kn.cons rfl (Kn.cons rfl (Kn.cons rfl (Kn.cons rfl (Kn.cons rfl (Kn.cons rfl (Kn.cons rfl (Kn.nil))))))))) ?_
      refine awq_region mixed (by kernel_rfl) (fun Z hZ => ?_)
      refine qM rfl rfl ?_
      refine qFA rfl tyF228_0 (by simp only [Nat.add_zero]; rfl) rfl ?_
      refine jA2 0 rfl rfl tyA45 tyS45 rfl rfl ?_
      refine qM rfl rfl ?_
      refine sq_shl rfl rfl (by omega) ((sx : Nat) : Int) hsx rfl ?_
      refine sq_bits (.inr (.inl rfl)) rfl rfl ((nx : Nat) : Int) hox rfl ?_
      refine qM rfl rfl ?_
      refine qFA rfl tyF228_1 (by simp only [Nat.zero_add]; rfl) rfl ?_
      refine jA2 0 rfl rfl tyA45 tyS45 rfl rfl ?_
      refine qM rfl rfl ?_
      refine sq_shl rfl rfl (by omega) ((sy : Nat) : Int) hsy rfl ?_
      refine sq_bits (.inr (.inl rfl)) rfl rfl ((ny : Nat) : Int) hoy rfl ?_
      refine jA3 rfl rfl ?_
      refine jA3 rfl rfl ?_
      refine jD0 (hZ _ _ ?_)
      refine nF [(1, _), (8, _), (9, _), (10, _), (25, _), (26, _)] (Kn.cons rfl (Kn.cons rfl (Kn.cons rfl (Kn.cons rfl (Kn.cons rfl (Kn.cons rfl (Kn.nil))))))) ?_
      repeat (with_reducible refine nBN ?_)
      with_reducible refine nN ?_
      refine aG (fun Z hZ => ?_)
      refine jA7 rfl rfl ((i + 1 : Nat) : Int) (by rw [IntWalk.i64_in _ (by omega)]; omega) rfl ?_
      refine sM rfl rfl <| sN (hZ _ _ ?_)
      refine nF [(1, _), (8, _), (9, _), (10, _), (25, _), (26, _)] (Kn.cons rfl (Kn.cons rfl (Kn.cons rfl (Kn.cons rfl (Kn.cons rfl (Kn.cons rfl (Kn.nil))))))) ?_
      exact jB4 (nx, ny, i + 1) ⟨hlt, e1⟩ (show n - (i + 1) < n - i by omega) (Kn.cons rfl (Kn.cons rfl (Kn.cons rfl (Kn.cons rfl (Kn.cons rfl (Kn.cons rfl Kn.nil)))))) (HLe.drop 1 rfl)
  · refine jA8 ?_
    repeat (with_reducible refine nTE ?_)
    with_reducible refine nBE ?_
    with_reducible refine nN ?_
    obtain rfl : i = n := by simp at h9; omega
    rw [Nat.mod_eq_of_lt hd] at hab
    rw [hab]
    refine aR fun Z hZ => sM rfl rfl ?_
    refine jA6 Tryz.underlying45 Tryz.underlying3 rfl ((a : Nat) : Int) (by rw [IntWalk.i64_in _ (by omega)]) rfl ?_
    refine sM rfl rfl ?_
    refine jA6 Tryz.underlying45 Tryz.underlying3 rfl ((b : Nat) : Int) (by rw [IntWalk.i64_in _ (by omega)]) rfl ?_
    refine sA rfl rfl <| sA rfl rfl <| sA rfl rfl <| sN (hZ _ _ ?_)
    refine aF [(4, _), (5, _), (6, _)] (Kn.cons rfl (Kn.cons rfl (Kn.cons rfl (Kn.nil)))) ?_
    refine aE ?_
    exact nx_ret3 rfl rfl rfl rfl rfl
end Go.Proofs.YtkojkeabelckjaaGreatDoor
