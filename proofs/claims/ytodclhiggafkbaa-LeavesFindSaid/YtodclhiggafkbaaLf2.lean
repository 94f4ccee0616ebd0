/- The walks of package leaves: rows cut into pieces. Conditions: the lists are not too long. -/
import Derived.Test.YtodclhiggafkbaaLf1
namespace Go.Proofs.Ytodclhiggafkbaa
open Go.RowKit
set_option linter.unusedVariables false
set_option linter.unusedSimpArgs false
def cntP (n z : Nat) : Nat := (n + z - 1) / z
theorem cntP_iff {n z q : Nat} (hz : 0 < z) : q < cntP n z ↔ q * z < n := by
  unfold cntP
  rw [← Nat.succ_le_iff, Nat.le_div_iff_mul_le hz, Nat.succ_mul]
  omega
def pAddr (A : Option Addr) (k : Nat) : Option Addr := A.map fun a => ⟨a.block, a.off + k, a.spot⟩
def pcL (L : List En) (z q : Nat) : List En := (L.drop (q * z)).take z
theorem pcL_len (L : List En) (z q : Nat) : (pcL L z q).length = min z (L.length - q * z) := by simp [pcL]
def pcV (A : Option Addr) (n z q : Nat) : Value := .slice (pAddr A (q * z * 4)) (min z (n - q * z)) (min z (n - q * z))
theorem chunk_fn (A : Option Addr) (n c z : Nat) (hz : 0 < z) : Fn Try.prog 32 [.slice A n c, iq z] [] fun v H' => ∃ gs gn, v = .func (.func 52) #[] #[ptr gs 0, ptr gn 0] ∧ H' = [.own gn 3 [iq z], .own gs 24 [.slice A n c]] := by
  refine Fn.enter (N := 9) Try.func32 rfl (by kernel_rfl) rfl (fun w0 => ?_)

  refine awp_seq_region (fun Z hZ => ?_)
  refine sx_box rfl rfl rfl (fun g1 => ?_)
  refine sx_box rfl rfl rfl (fun g2 => ?_)
  refine sx_assign rfl rfl ?_
  refine sx_nil (hZ _ _ ?_)
  refine awp_forget [(2, _), (3, _)] (Kn.cons rfl (Kn.cons rfl (Kn.nil))) ?_

  refine awp_seq ?_
  refine awp_seq_region (fun Z hZ => ?_)
  first | refine sx_load 0 rfl rfl tyA3 tyS3 rfl rfl ?_ | refine sx_load 1 rfl rfl tyA3 tyS3 rfl rfl ?_
  first | refine sx_lss rfl rfl rfl ?_ | refine sx_slss rfl rfl rfl ?_
  refine sx_nil (hZ _ _ ?_)
  refine awp_forget [(2, _), (3, _), (6, _)] (Kn.cons rfl (Kn.cons rfl (Kn.cons rfl (Kn.nil)))) ?_
  first | refine awp_cond rfl (fun h => ?_) (fun h => ?_) | refine awp_seq (awp_cond rfl (fun h => ?_) (fun h => ?_))
  · simp at h
    omega
  refine awp_skip ?_
  repeat (with_reducible (first | refine nx_block_normal ?_ | refine nx_scope_normal ?_))
  with_reducible first | refine nx_normal ?_ | refine nx_normalM ?_
  refine awp_seq_region (fun Z hZ => ?_)
  refine sx_makeFunc rfl rfl ?_
  refine sx_assign rfl rfl ?_
  refine sx_nil (hZ _ _ ?_)
  refine awp_forget [(4, _)] (Kn.cons rfl (Kn.nil)) ?_
  refine awp_ret ?_
  repeat (with_reducible (first | refine nx_then_ret ?_ | refine nx_block_ret ?_ | refine nx_scope_ret ?_))
  exact nx_ret1h _ rfl rfl (HLe.refl _) ⟨g1, g2, rfl, rfl⟩
theorem chunk_it (gs gn : Nat) (A : Option Addr) (n c z : Nat) (hz : 0 < z) (hzm : z ≤ maxLen) (hA : ArgOk A n) (hc : n ≤ c) (hn : n ≤ 100000) :
    Iter Try.prog 52 [ptr gs 0, ptr gn 0] [.ro gs 0 [.slice A n c], .ro gn 0 [iq z]] ((List.range (cntP n z)).map fun q => [pcV A n z q]) := by
  intro l J Jr S hJ hS hJr hY T0 hT0
  have hzm' : z ≤ 9223372036854775807 := hzm
  have hlen : ((List.range (cntP n z)).map fun q => [pcV A n z q]).length = cntP n z := by simp
  rw [hlen]
  refine Fn.enter (N := 31) Try.func52 rfl (by kernel_rfl) rfl (fun w0 => ?_)

  refine awp_heap (.ro gs 0 [.slice A n c] :: .ro gn 0 [iq z] :: (T0 ++ Jr)) (HLe.refl _) ?_
  refine awp_seq_region (fun Z hZ => ?_)
  refine sx_assign rfl rfl ?_
  refine sx_nil (hZ _ _ ?_)
  refine awp_forget [(0, _), (1, _), (2, _), (4, _)] (Kn.cons rfl (Kn.cons rfl (Kn.cons rfl (Kn.cons rfl (Kn.nil))))) ?_
  refine awp_block ?_
  refine awp_loop (ι := Nat × Heap) (fun i => [(0, .func (.yield l) #[] #[]), (1, ptr gs 0), (2, ptr gn 0), (4, iq (i.1 * z : Nat))]) (fun i => .ro gs 0 [.slice A n c] :: .ro gn 0 [iq z] :: (i.2 ++ Jr))
    (fun i => i.1 ≤ cntP n z ∧ J i.1 i.2) (fun i => cntP n z - i.1) (0, T0) ⟨by simp, hT0⟩ (Kn.cons rfl (Kn.cons rfl (Kn.cons rfl (Kn.cons (by rw [Nat.zero_mul]; rfl) Kn.nil)))) (HLe.refl _) ?_
  rintro ⟨q, T3⟩ ⟨hi, hT3⟩
  simp only at hi hT3
  have hiff := cntP_iff (n := n) (q := q) hz
  obtain ⟨i, hqz⟩ : ∃ i, q * z = i := ⟨_, rfl⟩
  have hnext : (q + 1) * z = i + z := by rw [Nat.succ_mul, hqz]
  rw [hqz] at hiff
  refine awp_forget [(0, .func (.yield l) #[] #[]), (1, ptr gs 0), (2, ptr gn 0), (4, iq (i : Nat))] (Kn.cons rfl (Kn.cons rfl (Kn.cons rfl (Kn.cons (by show some (iq ((q * z : Nat) : Int)) = _; rw [hqz]) Kn.nil)))) ?_
  refine awp_seq ?_
  refine awp_seq_region (fun Z hZ => ?_)
  refine sx_move rfl rfl ?_
  refine sx_loadRo 0 rfl rfl 0 rfl tyA24 tyS24 rfl rfl ?_
  first | refine sx_len Try.underlying24 rfl rfl ?_ | refine sx_lenS Try.underlying24 rfl rfl ?_
  first | refine sx_lss rfl rfl rfl ?_ | refine sx_slss rfl rfl rfl ?_
  refine sx_nil (hZ _ _ ?_)
  refine awp_forget [(0, _), (1, _), (2, _), (4, _), (9, _)] (Kn.cons rfl (Kn.cons rfl (Kn.cons rfl (Kn.cons rfl (Kn.cons rfl (Kn.nil)))))) ?_
  first | refine awp_cond rfl (fun hh => ?_) (fun hh => ?_) | refine awp_seq (awp_cond rfl (fun hh => ?_) (fun hh => ?_))
  · have hlt : i < n := by simpa using hh
    have hq : q < cntP n z := hiff.2 hlt
    have hsum : i + z ≤ 9223372036854775807 := by
      rcases Nat.eq_zero_or_pos q with h0 | h0
      · subst h0; omega
      · have : z ≤ q * z := Nat.le_mul_of_pos_left z h0
        omega
    obtain ⟨ga, o, rfl⟩ := hA (by omega)
    obtain ⟨e, he⟩ : ∃ e, min z (n - i) = e := ⟨_, rfl⟩
    have he1 : 0 < e ∧ e ≤ n - i := by omega
    have hitem : ((List.range (cntP n z)).map fun q => [pcV (some ⟨ga, o, none⟩) n z q])[q]? = some [.slice (some ⟨ga, o + i * 4, none⟩) e e] := by
      rw [List.getElem?_map, List.getElem?_range hq]
      simp only [Option.map_some, pcV, pAddr, hqz, he]
    refine awp_skip ?_
    repeat (with_reducible (first | refine nx_block_normal ?_ | refine nx_scope_normal ?_))
    with_reducible first | refine nx_normal ?_ | refine nx_normalM ?_
    refine awp_seq (awp_block ?_)
    refine awq_seq_region mixed (by kernel_rfl) (fun Z hZ => ?_)
    refine sq_loadRo 1 rfl rfl 0 rfl tyA3 tyS3 rfl rfl ?_
    refine sq_loadRo 0 rfl rfl 0 rfl tyA24 tyS24 rfl rfl ?_
    refine sq_move rfl rfl ?_
    refine sq_slice Try.underlying24 tyS52 rfl rfl rfl (by omega) (by omega) (by omega) rfl (fun o' ho => ?_)
    first | refine sq_len Try.underlying24 rfl rfl ?_ | refine sq_lenS Try.underlying24 rfl rfl ?_
    refine sq_min rfl rfl ((e : Nat) : Int) (by rw [← he]; simp only [Int.toNat_natCast]; omega) rfl ?_
    refine sq_assign rfl rfl ?_
    refine sq_nil (hZ _ _ ?_)
    refine awp_forget [(0, _), (1, _), (2, _), (4, _), (5, _)] (Kn.cons rfl (Kn.cons rfl (Kn.cons rfl (Kn.cons rfl (Kn.cons rfl (Kn.nil)))))) ?_
    refine awy_seq_region (fun Z hZ => ?_)
    refine sy_x rfl ?_
    refine sx_move rfl rfl ?_
    refine sx_nil ?_
    refine sy_x rfl ?_
    refine sx_loadRo 0 rfl rfl 0 rfl tyA24 tyS24 rfl rfl ?_
    refine sx_nil ?_
    refine sy_x rfl ?_
    refine sx_move rfl rfl ?_
    refine sx_nil ?_
    refine sy_x rfl ?_
    refine sx_move rfl rfl ?_
    refine sx_nil ?_
    refine sy_x rfl ?_
    refine sx_move rfl rfl ?_
    refine sx_nil ?_
    refine sy_x rfl ?_
    refine sx_add rfl rfl ((i + e : Nat) : Int) (by rw [IntWalk.i64_in _ (by omega)]; omega) rfl ?_
    refine sx_nil ?_
    refine sy_x rfl ?_
    refine sx_move rfl rfl ?_
    refine sx_nil ?_
    refine sy_x rfl ?_
    refine sx_move rfl rfl ?_
    refine sx_nil ?_
    refine sy_x rfl ?_
    refine sx_add rfl rfl ((i + e : Nat) : Int) (by rw [IntWalk.i64_in _ (by omega)]; omega) rfl ?_
    refine sx_nil ?_
    refine sy_x rfl ?_
    refine sx_slice3 (o + i * 4) Try.underlying24 tyS52 rfl rfl rfl rfl (by omega) (by omega) (Nat.le_refl _) (by omega) rfl rfl ?_
    rw [Nat.add_sub_cancel_left]
    refine sx_nil ?_
    refine sy_yield [_, _] T3 Jr Jr (hY q _ T3 hitem hT3) rfl rfl rfl (List.Sublist.refl _) hJr rfl ?_
    rintro v T4 ⟨b, rfl, hb1, hb2⟩
    refine sy_x rfl ?_
    refine sx_not rfl rfl ?_
    refine sx_nil ?_
    refine sy_nil (hZ _ _ ?_)
    refine awp_forget [(0, _), (1, _), (2, _), (4, _), (30, _)] (Kn.cons rfl (Kn.cons rfl (Kn.cons rfl (Kn.cons rfl (Kn.cons rfl (Kn.nil)))))) ?_
    first | refine awp_cond rfl (fun h3 => ?_) (fun h3 => ?_) | refine awp_seq (awp_cond rfl (fun h3 => ?_) (fun h3 => ?_))
    · have hb : b = false := by simpa using h3
      refine awp_ret ?_
      repeat (with_reducible (first | refine nx_then_ret ?_ | refine nx_block_ret ?_ | refine nx_scope_ret ?_))
      exact nx_ret0h T4 rfl (wrs_flt (A := [_, _]) (hS T4 (hb2 hb))) (.inr (hb2 hb))
    have hb : b = true := by simpa using h3
    have hT4 := hb1 hb
    rw [(hJ _ T4 hT4).filter]
    refine awp_skip ?_
    repeat (with_reducible (first | refine nx_block_normal ?_ | refine nx_scope_normal ?_))
    with_reducible first | refine nx_normal ?_ | refine nx_normalM ?_
    refine awp_region (fun Z hZ => ?_)
    refine sx_move rfl rfl ?_
    refine sx_loadRo 1 rfl rfl 0 rfl tyA3 tyS3 rfl rfl ?_
    refine sx_add rfl rfl (((q + 1) * z : Nat) : Int) (by rw [hnext, IntWalk.i64_in _ (by omega)]; omega) rfl ?_
    refine sx_assign rfl rfl ?_
    refine sx_nil (hZ _ _ ?_)
    refine nx_forget [(0, _), (1, _), (2, _), (4, _)] (Kn.cons rfl (Kn.cons rfl (Kn.cons rfl (Kn.cons rfl (Kn.nil))))) ?_
    exact nx_round (q + 1, T4) ⟨by show q + 1 ≤ _; omega, hT4⟩ (by simp; omega) (Kn.cons rfl (Kn.cons rfl (Kn.cons rfl (Kn.cons rfl Kn.nil)))) (HLe.refl _)
  · have hge : ¬ i < n := by simpa using hh
    have hqe : q = cntP n z := by
      have : ¬ q < cntP n z := fun h => hge (hiff.1 h)
      omega
    subst hqe
    refine awp_exit ?_
    repeat (with_reducible (first | refine nx_then_exit ?_ | refine nx_block_other (by decide) ?_ | refine nx_scope_exit ?_))
    with_reducible refine nx_block_exit ?_
    repeat (with_reducible (first | refine nx_block_normal ?_ | refine nx_scope_normal ?_))
    exact nx_end0h T3 rfl (HLe.sub ((List.sublist_append_left T3 Jr).trans ((List.sublist_cons_self _ _).trans (List.sublist_cons_self _ _)))) (.inl hT3)
end Go.Proofs.Ytodclhiggafkbaa
