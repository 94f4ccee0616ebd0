/- The walks of package varint: numbers as bytes. No conditions but of lengths. -/
import Derived.Test.YtfffhnefjaomnaaTy
import Derived.Test.YtfffhnefjaomnaaSxG
import Derived.Test.YtfffhnefjaomnaaMem
import Derived.Shelf.Strconv.Itoa0
namespace Go.Proofs.Ytfffhnefjaomnaa
open Go.RowKit
set_option linter.unusedVariables false
set_option linter.unusedSimpArgs false
/-- A number's bytes. -/
def vb (x : Nat) : List UInt8 := if x < 128 then [UInt8.ofNat x] else UInt8.ofNat (x % 128 + 128) :: vb (x / 128)
theorem vb_lt {x : Nat} (h : x < 128) : vb x = [UInt8.ofNat x] := by rw [vb, if_pos h]
theorem vb_ge {x : Nat} (h : 128 ≤ x) : vb x = UInt8.ofNat (x % 128 + 128) :: vb (x / 128) := by rw [vb, if_neg (by omega)]
theorem vb_pos (x : Nat) : 0 < (vb x).length := by
  rw [vb]; split <;> simp
theorem vb_len_le : ∀ (k x : Nat), x < 128 ^ (k + 1) → (vb x).length ≤ k + 1
  | 0, x, h => by rw [vb_lt (by simpa using h)]; simp
  | k + 1, x, h => by
    rcases Nat.lt_or_ge x 128 with h1 | h1
    · rw [vb_lt h1]; simp
    · rw [vb_ge h1, List.length_cons]
      have := vb_len_le k (x / 128) (by rw [Nat.div_lt_iff_lt_mul (by omega)]; rw [Nat.pow_succ] at h; exact h)
      omega
theorem vb_len10 {x : Nat} (h : x < 18446744073709551616) : (vb x).length ≤ 10 := vb_len_le 9 x (by omega)
theorem or128 : ∀ m : Nat, m < 256 → bitsV .or .u8 (m : Int) 128 = ((m % 128 + 128 : Nat) : Int) := by decide +kernel
theorem elemU8v : ElemOk Try.prog 59 5 1 1 := ElemOk.mk_ (z := .int .u8 0) Try.underlying59 (by kernel_rfl) rfl (by omega)
theorem bv_one1 (b : List UInt8) : (bv b).all Value.oneCell' = true := List.all_eq_true.2 (bv_one b)
theorem u8_wrap (x : Nat) : IntKind.u8.wrap (x : Int) = ((x % 256 : Nat) : Int) := by simp [IntKind.wrap, IntKind.bits, IntKind.signed]
theorem or_y (y : Nat) : bitsV .or .u8 (IntKind.u8.wrap (y : Int)) 128 = ((y % 128 + 128 : Nat) : Int) := by
  rw [u8_wrap, or128 _ (by omega), Nat.mod_mod_of_dvd y (by decide : 128 ∣ 256)]
theorem fdiv7 (y : Nat) : (y : Int).fdiv (2 ^ (min (7 : Int).toNat IntKind.u64.bits)) = ((y / 128 : Nat) : Int) := by
  show (y : Int).fdiv 128 = _
  rw [Int.fdiv_eq_ediv_of_nonneg _ (by omega)]
  omega
theorem lay_fn (v : Value) (b : List UInt8) (x : Nat) (hv : RowOk v b.length) (hx : x < 18446744073709551616) (hb : b.length ≤ 1000000) :
    Fn Try.prog 44 [v, uq x] (rowE v 5 1 (bv b)) fun u H' => RowOk u (b ++ vb x).length ∧ H' = rowE u 5 1 (bv (b ++ vb x)) := by
  refine Fn.enter (N := 20) Try.func44 rfl (by kernel_rfl) rfl (fun w0 => ?_)

  refine awp_seq_region (fun Z hZ => ?_)
  refine sx_assign rfl rfl ?_
  refine sx_nil (hZ _ _ ?_)
  refine awp_forget [(0, _), (1, _)] (Kn.cons rfl (Kn.cons rfl (Kn.nil))) ?_
  refine awp_seq (awp_block ?_)
  refine awp_loop (ι := Value × List UInt8 × Nat) (fun i => [(0, i.1), (1, uq i.2.2)]) (fun i => rowE i.1 5 1 (bv i.2.1))
    (fun i => RowOk i.1 i.2.1.length ∧ i.2.2 < 18446744073709551616 ∧ i.2.1 ++ vb i.2.2 = b ++ vb x) (fun i => i.2.2) (v, b, x) ⟨hv, hx, rfl⟩ (Kn.cons rfl (Kn.cons rfl Kn.nil)) (HLe.refl _) ?_
  rintro ⟨u, c, y⟩ ⟨hu, hy, hc⟩
  simp only at hu hy hc
  have hcl : c.length ≤ 1000010 := by
    have h1 := congrArg List.length hc
    have h2 := vb_len10 hx
    simp at h1
    omega

  refine awp_seq ?_
  refine awp_seq_region (fun Z hZ => ?_)
  refine sx_move rfl rfl ?_
  first | refine sx_gtr rfl rfl rfl ?_ | refine sx_sgtr rfl rfl rfl ?_
  refine sx_nil (hZ _ _ ?_)
  refine awp_forget [(0, _), (1, _), (6, _)] (Kn.cons rfl (Kn.cons rfl (Kn.cons rfl (Kn.nil)))) ?_
  first | refine awp_cond rfl (fun h => ?_) (fun h => ?_) | refine awp_seq (awp_cond rfl (fun h => ?_) (fun h => ?_))
  · have hge : 128 ≤ y := by simp at h; omega
    refine awp_skip ?_
    repeat (with_reducible (first | refine nx_block_normal ?_ | refine nx_scope_normal ?_))
    with_reducible first | refine nx_normal ?_ | refine nx_normalM ?_
    refine awp_block ?_

    refine awp_seq_region (fun Z hZ => ?_)
    refine sx_move rfl rfl ?_
    refine sx_move rfl rfl ?_
    refine sx_conv Try.underlying48 Try.underlying5 rfl _ rfl rfl ?_
    refine sx_bits (.inr (.inl rfl)) rfl rfl ((y % 128 + 128 : Nat) : Int) (or_y y) rfl ?_
    refine sx_buildSlice Try.underlying59 tyS5 tyZ5 rfl rfl rfl rfl (by first | (simp only [List.take_succ_cons, List.take_zero, List.drop_succ_cons, List.drop_zero, List.cons_append, List.nil_append, List.append_nil, List.length_cons, List.length_nil, Nat.reduceAdd, Nat.zero_add, Nat.add_zero, Value.cells, wrV, zrep_one, List.replicate_succ, List.replicate_zero, Nat.reduceMul, Nat.zero_mul]; first | done | rfl) | rfl) rfl (fun g1 => ?_)
    refine sx_appendE [_] elemU8v rfl hu (by simp [bv_length]) rfl (fun w hw => rd_own (i := 0) (xs := bv [UInt8.ofNat (y % 128 + 128)]) (by show some (Ent.own _ _ [Value.int .u8 _]) = some (Ent.own _ _ [Value.int .u8 _]); rw [show (UInt8.ofNat (y % 128 + 128)).toNat = y % 128 + 128 by simp; omega]) (by rw [bv_length]; rfl) hw) (bv_one1 _) (by show _ ≤ 9223372036854775807; omega) (by omega) (HLe.refl _) rfl (fun v2 hv2 => ?_)
    rw [← bv_append]
    refine sx_assign rfl rfl ?_
    refine sx_nil (hZ _ _ ?_)
    refine awp_forget [(0, _), (1, _)] (Kn.cons rfl (Kn.cons rfl (Kn.nil))) ?_
    refine awp_region (fun Z hZ => ?_)
    refine sx_move rfl rfl ?_
    refine sx_shr rfl rfl (by decide) ((y / 128 : Nat) : Int) (fdiv7 y) rfl ?_
    refine sx_assign rfl rfl ?_
    refine sx_nil (hZ _ _ ?_)
    refine nx_forget [(0, _), (1, _)] (Kn.cons rfl (Kn.cons rfl (Kn.nil))) ?_
    repeat (with_reducible refine nx_block_normal ?_)
    refine nx_round (v2, c ++ [UInt8.ofNat (y % 128 + 128)], y / 128) ⟨by simpa using hv2, by show y / 128 < _; omega, ?_⟩ (by simp; omega) (Kn.cons rfl (Kn.cons rfl Kn.nil)) (HLe.sub (List.sublist_append_right _ _))
    rw [← hc, vb_ge hge]; simp
  · refine awp_exit ?_
    repeat (with_reducible (first | refine nx_then_exit ?_ | refine nx_block_other (by decide) ?_ | refine nx_scope_exit ?_))
    with_reducible refine nx_block_exit ?_
    repeat (with_reducible (first | refine nx_block_normal ?_ | refine nx_scope_normal ?_))
    with_reducible first | refine nx_normal ?_ | refine nx_normalM ?_
    have hlt : y < 128 := by simp at h; omega
    rw [vb_lt hlt] at hc

    refine awp_seq_region (fun Z hZ => ?_)
    refine sx_move rfl rfl ?_
    refine sx_move rfl rfl ?_
    refine sx_conv Try.underlying48 Try.underlying5 rfl _ rfl rfl ?_
    refine sx_buildSlice Try.underlying59 tyS5 tyZ5 rfl rfl rfl rfl (by first | (simp only [List.take_succ_cons, List.take_zero, List.drop_succ_cons, List.drop_zero, List.cons_append, List.nil_append, List.append_nil, List.length_cons, List.length_nil, Nat.reduceAdd, Nat.zero_add, Nat.add_zero, Value.cells, wrV, zrep_one, List.replicate_succ, List.replicate_zero, Nat.reduceMul, Nat.zero_mul]; first | done | rfl) | rfl) rfl (fun g2 => ?_)
    refine sx_appendE [_] elemU8v rfl hu (by simp [bv_length]) rfl (fun w hw => rd_own (i := 0) (xs := bv [UInt8.ofNat y]) (by show some (Ent.own _ _ [Value.int .u8 _]) = some (Ent.own _ _ [Value.int .u8 _]); rw [show (UInt8.ofNat y).toNat = y % 256 by simp, u8_wrap]) (by rw [bv_length]; rfl) hw) (bv_one1 _) (by show _ ≤ 9223372036854775807; omega) (by omega) (HLe.refl _) rfl (fun v2 hv2 => ?_)
    rw [← bv_append, hc]
    refine sx_assign rfl rfl ?_
    refine sx_nil (hZ _ _ ?_)
    refine awp_forget [(4, _)] (Kn.cons rfl (Kn.nil)) ?_
    refine awp_ret ?_
    repeat (with_reducible (first | refine nx_then_ret ?_ | refine nx_block_ret ?_ | refine nx_scope_ret ?_))
    refine nx_ret1h _ rfl rfl (HLe.sub (List.sublist_append_right _ _)) ⟨by rw [← hc]; simpa using hv2, rfl⟩
end Go.Proofs.Ytfffhnefjaomnaa
