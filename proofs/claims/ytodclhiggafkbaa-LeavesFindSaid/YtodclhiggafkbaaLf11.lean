/- The walks of the document's Cut and try for leaves. Conditions: the lists are not too long. -/
import Derived.Test.YtodclhiggafkbaaLf10
namespace Go.Proofs.Ytodclhiggafkbaa
open Go.RowKit
set_option linter.unusedVariables false
set_option linter.unusedSimpArgs false
theorem elemSlR : ElemOk Try.prog 35 22 1 24 := ElemOk.mk_ (z := .slice none 0 0) Try.underlying35 (by kernel_rfl) rfl (by omega)
def rcV (A : Option Addr) (n c z i : Nat) : Value := .slice (pAddr A (i * z * 4)) (min z (n - i * z)) (c - i * z)
def rcVs (A : Option Addr) (n c z i : Nat) : List Value := (List.range i).map (rcV A n c z)
theorem rcVs_succ (A : Option Addr) (n c z i : Nat) : rcVs A n c z (i + 1) = rcVs A n c z i ++ [rcV A n c z i] := by simp [rcVs, List.range_succ]
theorem pAddr_0 (A : Option Addr) : pAddr A 0 = A := by cases A <;> rfl
theorem cntP_le {n z : Nat} (hz : 0 < z) : cntP n z ≤ n := by
  rcases Nat.lt_or_ge n (cntP n z) with h | h
  · have h1 := (cntP_iff hz).1 h
    have := Nat.le_mul_of_pos_right n hz
    omega
  · exact h
theorem rcut0_fn (A : Option Addr) (n c : Nat) (z : Int) (hz : z < 1) : Fn Try.prog 14 [.slice A n c, iq z] [] fun v _ => v = .slice none 0 0 := by
  refine Fn.enter (N := 30) Try.func14 rfl (by kernel_rfl) rfl (fun w0 => ?_)

  refine awp_seq_region (fun Z hZ => ?_)
  refine sx_assign rfl rfl ?_
  refine sx_nil (hZ _ _ ?_)
  refine awp_forget [(0, _), (1, _)] (Kn.cons rfl (Kn.cons rfl (Kn.nil))) ?_
  refine awp_seq_region (fun Z hZ => ?_)
  refine sx_assign rfl rfl ?_
  refine sx_nil (hZ _ _ ?_)
  refine awp_forget [(0, _), (1, _), (5, _)] (Kn.cons rfl (Kn.cons rfl (Kn.cons rfl (Kn.nil)))) ?_
  refine awp_seq ?_
  refine awp_seq_region (fun Z hZ => ?_)
  refine sx_move rfl rfl ?_
  first | refine sx_lss rfl rfl rfl ?_ | refine sx_slss rfl rfl rfl ?_
  refine sx_nil (hZ _ _ ?_)
  refine awp_forget [(0, _), (1, _), (5, _), (7, _)] (Kn.cons rfl (Kn.cons rfl (Kn.cons rfl (Kn.cons rfl (Kn.nil))))) ?_
  first | refine awp_cond rfl (fun h => ?_) (fun h => ?_) | refine awp_seq (awp_cond rfl (fun h => ?_) (fun h => ?_))
  · refine awp_seq_region (fun Z hZ => ?_)
    refine sx_move rfl rfl ?_
    refine sx_assign rfl rfl ?_
    refine sx_nil (hZ _ _ ?_)
    refine awp_forget [(4, _)] (Kn.cons rfl (Kn.nil)) ?_
    refine awp_ret ?_
    repeat (with_reducible (first | refine nx_then_ret ?_ | refine nx_block_ret ?_ | refine nx_scope_ret ?_))
    exact nx_ret1 rfl rfl rfl
  · simp at h
    omega
theorem rcut_fn (A : Option Addr) (n c z : Nat) (hA : ArgOk A n) (hn : n ≤ 10000) (hc : n ≤ c) (hcm : c ≤ maxLen) (hz : 0 < z) (hzm : z ≤ maxLen) :
    Fn Try.prog 14 [.slice A n c, iq z] [] fun v H' => RowOk v (cntP n z) ∧ H' = rowE v 22 1 (rcVs A n c z (cntP n z)) := by
  have hzm' : z ≤ 9223372036854775807 := hzm
  have hcm' : c ≤ 9223372036854775807 := hcm
  have hcn := cntP_le (n := n) hz
  refine Fn.enter (N := 30) Try.func14 rfl (by kernel_rfl) rfl (fun w0 => ?_)

  refine awp_seq_region (fun Z hZ => ?_)
  refine sx_assign rfl rfl ?_
  refine sx_nil (hZ _ _ ?_)
  refine awp_forget [(0, _), (1, _)] (Kn.cons rfl (Kn.cons rfl (Kn.nil))) ?_
  refine awp_seq_region (fun Z hZ => ?_)
  refine sx_assign rfl rfl ?_
  refine sx_nil (hZ _ _ ?_)
  refine awp_forget [(0, _), (1, _), (5, _)] (Kn.cons rfl (Kn.cons rfl (Kn.cons rfl (Kn.nil)))) ?_
  refine awp_seq ?_
  refine awp_seq_region (fun Z hZ => ?_)
  refine sx_move rfl rfl ?_
  first | refine sx_lss rfl rfl rfl ?_ | refine sx_slss rfl rfl rfl ?_
  refine sx_nil (hZ _ _ ?_)
  refine awp_forget [(0, _), (1, _), (5, _), (7, _)] (Kn.cons rfl (Kn.cons rfl (Kn.cons rfl (Kn.cons rfl (Kn.nil))))) ?_
  first | refine awp_cond rfl (fun h => ?_) (fun h => ?_) | refine awp_seq (awp_cond rfl (fun h => ?_) (fun h => ?_))
  · simp at h
    omega
  refine awp_skip ?_
  repeat (with_reducible (first | refine nx_block_normal ?_ | refine nx_scope_normal ?_))
  with_reducible first | refine nx_normal ?_ | refine nx_normalM ?_
  refine awp_cut (ι := Nat × Value) (fun i => [(0, .slice (pAddr A (i.1 * z * 4)) (n - i.1 * z) (c - i.1 * z)), (1, iq z), (5, i.2)]) (fun i => rowE i.2 22 1 (rcVs A n c z i.1)) (fun i => i.1 * z ≤ n ∧ n - i.1 * z ≤ z ∧ RowOk i.2 i.1) ?_ ?_
  · refine awp_block ?_
    refine awp_loop (ι := Nat × Value) (fun i => [(0, .slice (pAddr A (i.1 * z * 4)) (n - i.1 * z) (c - i.1 * z)), (1, iq z), (5, i.2)]) (fun i => rowE i.2 22 1 (rcVs A n c z i.1)) (fun i => i.1 * z ≤ n ∧ RowOk i.2 i.1) (fun i => n - i.1 * z) (0, .slice none 0 0) ⟨by simp, RowOk.nil⟩ (Kn.cons (by simp only [Nat.zero_mul, pAddr_0]; rfl) (Kn.cons rfl (Kn.cons rfl Kn.nil))) (HLe.refl _) ?_
    rintro ⟨i, v⟩ ⟨hi, hv⟩
    simp only at hi hv
    obtain ⟨k, hk⟩ : ∃ k, i * z = k := ⟨_, rfl⟩
    have hk1 : (i + 1) * z = k + z := by rw [Nat.succ_mul, hk]
    rw [hk] at hi
    refine awp_forget [(0, .slice (pAddr A (k * 4)) (n - k) (c - k)), (1, iq z), (5, v)] (Kn.cons (by show some (Value.slice (pAddr A (i * z * 4)) (n - i * z) (c - i * z)) = _; rw [hk]) (Kn.cons rfl (Kn.cons rfl Kn.nil))) ?_
    refine awp_seq ?_
    refine awp_seq_region (fun Z hZ => ?_)
    refine sx_move rfl rfl ?_
    first | refine sx_len Try.underlying22 rfl rfl ?_ | refine sx_lenS Try.underlying22 rfl rfl ?_
    refine sx_move rfl rfl ?_
    first | refine sx_gtr rfl rfl rfl ?_ | refine sx_sgtr rfl rfl rfl ?_
    refine sx_nil (hZ _ _ ?_)
    refine awp_forget [(0, _), (1, _), (5, _), (12, _)] (Kn.cons rfl (Kn.cons rfl (Kn.cons rfl (Kn.cons rfl (Kn.nil))))) ?_
    first | refine awp_cond rfl (fun h1 => ?_) (fun h1 => ?_) | refine awp_seq (awp_cond rfl (fun h1 => ?_) (fun h1 => ?_))
    · have hlt : z < n - k := by simp at h1; omega
      have hik : i ≤ k := by rw [← hk]; exact Nat.le_mul_of_pos_right i hz
      obtain ⟨ga, o, rfl⟩ := hA (by omega)
      have hval : rcV (some ⟨ga, o, none⟩) n c z i = .slice (some ⟨ga, o + k * 4, none⟩) z (c - k) := by simp only [rcV, pAddr, hk, Option.map_some]; congr 1; omega
      refine awp_skip ?_
      repeat (with_reducible (first | refine nx_block_normal ?_ | refine nx_scope_normal ?_))
      with_reducible first | refine nx_normal ?_ | refine nx_normalM ?_
      refine awp_block ?_
      refine awp_seq_region (fun Z hZ => ?_)
      refine sx_move rfl rfl ?_
      refine sx_move rfl rfl ?_
      refine sx_move rfl rfl ?_
      refine sx_slice Try.underlying22 tyS58 rfl rfl rfl (by omega) (by omega) (by omega) rfl (fun o' ho => ?_)
      have ho := ho (by omega)
      subst ho
      rw [show (Value.slice (some ⟨ga, o + k * 4 + (0 : Int).toNat * 4, none⟩) ((z : Int).toNat - (0 : Int).toNat) (c - k - (0 : Int).toNat)) = .slice (some ⟨ga, o + k * 4, none⟩) z (c - k) from rfl]
      refine sx_buildSlice Try.underlying35 tyS22 tyZ22 rfl rfl rfl rfl (by first | (simp only [List.take_succ_cons, List.take_zero, List.drop_succ_cons, List.drop_zero, List.cons_append, List.nil_append, List.append_nil, List.length_cons, List.length_nil, Nat.reduceAdd, Nat.zero_add, Nat.add_zero, Value.cells, wrV, zrep_one, List.replicate_succ, List.replicate_zero, Nat.reduceMul, Nat.zero_mul]; first | done | rfl) | rfl) rfl (fun g1 => ?_)
      refine sx_appendE [_] elemSlR rfl hv (by simp [rcVs]) rfl (fun w hw => rd_own (i := 0) (xs := [.slice (some ⟨ga, o + k * 4, none⟩) z (c - k)]) rfl rfl hw) rfl (by show _ ≤ 9223372036854775807; omega) (by omega) (HLe.refl _) rfl (fun v2 hv2 => ?_)
      rw [← hval, ← rcVs_succ]
      refine sx_assign rfl rfl ?_
      refine sx_nil (hZ _ _ ?_)
      refine awp_forget [(0, _), (1, _), (5, _)] (Kn.cons rfl (Kn.cons rfl (Kn.cons rfl (Kn.nil)))) ?_
      refine awp_region (fun Z hZ => ?_)
      refine sx_move rfl rfl ?_
      refine sx_move rfl rfl ?_
      refine sx_slice Try.underlying22 tyS58 rfl rfl rfl (by omega) (by omega) (by omega) rfl (fun o' ho => ?_)
      have ho := ho (by omega)
      subst ho
      refine sx_assign rfl rfl ?_
      refine sx_nil (hZ _ _ ?_)
      refine nx_forget [(0, _), (1, _), (5, _)] (Kn.cons rfl (Kn.cons rfl (Kn.cons rfl (Kn.nil)))) ?_
      repeat (with_reducible refine nx_block_normal ?_)
      refine nx_round (i + 1, v2) ⟨by show (i + 1) * z ≤ n; rw [hk1]; omega, hv2⟩ (by show n - (i + 1) * z < n - i * z; rw [hk1, hk]; omega) (Kn.cons ?_ (Kn.cons rfl (Kn.cons rfl Kn.nil))) (HLe.drop 1 rfl)
      show some (Value.slice (some ⟨ga, o + k * 4 + (z : Int).toNat * 4, none⟩) (((n - k : Nat) : Int).toNat - (z : Int).toNat) (c - k - (z : Int).toNat)) = some (Value.slice (some ⟨ga, o + (i + 1) * z * 4, none⟩) (n - (i + 1) * z) (c - (i + 1) * z))
      rw [hk1]
      simp only [Int.toNat_natCast]
      rw [show o + k * 4 + z * 4 = o + (k + z) * 4 by omega, show n - k - z = n - (k + z) by omega, show c - k - z = c - (k + z) by omega]
    · have hge : n - k ≤ z := by simp at h1; omega
      refine awp_exit ?_
      repeat (with_reducible (first | refine nx_then_exit ?_ | refine nx_block_other (by decide) ?_ | refine nx_scope_exit ?_))
      with_reducible refine nx_block_exit ?_
      repeat (with_reducible (first | refine nx_block_normal ?_ | refine nx_scope_normal ?_))
      exact nx_cut (i, v) ⟨by rw [hk]; exact hi, by rw [hk]; exact hge, hv⟩ (Kn.cons (by show some (Value.slice (pAddr A (k * 4)) (n - k) (c - k)) = _; rw [hk]) (Kn.cons rfl (Kn.cons rfl Kn.nil))) (HLe.refl _)
  rintro ⟨i, v⟩ ⟨hi, hge, hv⟩
  simp only at hi hge hv
  obtain ⟨k, hk⟩ : ∃ k, i * z = k := ⟨_, rfl⟩
  have hik : i ≤ k := by rw [← hk]; exact Nat.le_mul_of_pos_right i hz
  have hiff := cntP_iff (n := n) (q := i) hz
  have hiff1 := cntP_iff (n := n) (q := i + 1) hz
  rw [Nat.succ_mul] at hiff1
  rw [hk] at hi hge hiff hiff1
  refine awp_forget [(0, .slice (pAddr A (k * 4)) (n - k) (c - k)), (1, iq z), (5, v)] (Kn.cons (by show some (Value.slice (pAddr A (i * z * 4)) (n - i * z) (c - i * z)) = _; rw [hk]) (Kn.cons rfl (Kn.cons rfl Kn.nil))) ?_
  refine awp_seq ?_
  refine awp_seq_region (fun Z hZ => ?_)
  refine sx_move rfl rfl ?_
  first | refine sx_len Try.underlying22 rfl rfl ?_ | refine sx_lenS Try.underlying22 rfl rfl ?_
  first | refine sx_gtr rfl rfl rfl ?_ | refine sx_sgtr rfl rfl rfl ?_
  refine sx_nil (hZ _ _ ?_)
  refine awp_forget [(0, _), (5, _), (24, _)] (Kn.cons rfl (Kn.cons rfl (Kn.cons rfl (Kn.nil)))) ?_
  first | refine awp_cond rfl (fun h2 => ?_) (fun h2 => ?_) | refine awp_seq (awp_cond rfl (fun h2 => ?_) (fun h2 => ?_))
  · have hpos : k < n := by simp at h2; omega
    have hce : cntP n z = i + 1 := by
      have h1 := hiff.2 hpos
      have h2 : ¬ i + 1 < cntP n z := fun h => by have := hiff1.1 h; omega
      omega
    have hval : rcV A n c z i = .slice (pAddr A (k * 4)) (n - k) (c - k) := by simp only [rcV, hk]; congr 1; omega
    refine awp_region (fun Z hZ => ?_)
    refine sx_move rfl rfl ?_
    refine sx_move rfl rfl ?_
    refine sx_buildSlice Try.underlying35 tyS22 tyZ22 rfl rfl rfl rfl (by first | (simp only [List.take_succ_cons, List.take_zero, List.drop_succ_cons, List.drop_zero, List.cons_append, List.nil_append, List.append_nil, List.length_cons, List.length_nil, Nat.reduceAdd, Nat.zero_add, Nat.add_zero, Value.cells, wrV, zrep_one, List.replicate_succ, List.replicate_zero, Nat.reduceMul, Nat.zero_mul]; first | done | rfl) | rfl) rfl (fun g2 => ?_)
    refine sx_appendE [_] elemSlR rfl hv (by simp [rcVs]) rfl (fun w hw => rd_own (i := 0) (xs := [.slice (pAddr A (k * 4)) (n - k) (c - k)]) rfl rfl hw) rfl (by show _ ≤ 9223372036854775807; omega) (by omega) (HLe.refl _) rfl (fun v2 hv2 => ?_)
    rw [← hval, ← rcVs_succ, ← hce]
    rw [← hce] at hv2
    refine sx_assign rfl rfl ?_
    refine sx_nil (hZ _ _ ?_)
    refine nx_forget [(5, _)] (Kn.cons rfl (Kn.nil)) ?_
    repeat (with_reducible (first | refine nx_block_normal ?_ | refine nx_scope_normal ?_))
    with_reducible first | refine nx_normal ?_ | refine nx_normalM ?_
    refine awp_seq_region (fun Z hZ => ?_)
    refine sx_move rfl rfl ?_
    refine sx_assign rfl rfl ?_
    refine sx_nil (hZ _ _ ?_)
    refine awp_forget [(4, _)] (Kn.cons rfl (Kn.nil)) ?_
    refine awp_ret ?_
    repeat (with_reducible (first | refine nx_then_ret ?_ | refine nx_block_ret ?_ | refine nx_scope_ret ?_))
    exact nx_ret1h _ rfl rfl (HLe.drop 1 rfl) ⟨hv2, rfl⟩
  · have hpos : ¬ k < n := by simp at h2; omega
    have hce : cntP n z = i := by
      have h1 : ¬ i < cntP n z := fun h => hpos (hiff.1 h)
      rcases Nat.eq_zero_or_pos i with h0 | h0
      · omega
      · obtain ⟨j, rfl⟩ : ∃ j, i = j + 1 := ⟨i - 1, by omega⟩
        have hj := cntP_iff (n := n) (q := j) hz
        rw [Nat.succ_mul] at hk
        have := hj.2 (by omega)
        omega
    rw [hce]
    refine awp_skip ?_
    repeat (with_reducible (first | refine nx_block_normal ?_ | refine nx_scope_normal ?_))
    with_reducible first | refine nx_normal ?_ | refine nx_normalM ?_
    refine awp_seq_region (fun Z hZ => ?_)
    refine sx_move rfl rfl ?_
    refine sx_assign rfl rfl ?_
    refine sx_nil (hZ _ _ ?_)
    refine awp_forget [(4, _)] (Kn.cons rfl (Kn.nil)) ?_
    refine awp_ret ?_
    repeat (with_reducible (first | refine nx_then_ret ?_ | refine nx_block_ret ?_ | refine nx_scope_ret ?_))
    exact nx_ret1h _ rfl rfl (HLe.refl _) ⟨hv, rfl⟩
end Go.Proofs.Ytodclhiggafkbaa
