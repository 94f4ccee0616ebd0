/- The walks of the document's answer for directories: wrong and put. Conditions: the list is not too long. -/
import Derived.Test.YtfffhnefjaomnaaDr6
namespace Go.Proofs.Ytfffhnefjaomnaa
open Go.RowKit
set_option linter.unusedVariables false
set_option linter.unusedSimpArgs false
theorem prevE_at {M : List En} {k : Nat} (h0 : 0 < k) (hk : k < M.length) : M[k - 1]? = some (prevE M k) := by
  rw [atE_at (show k - 1 < M.length by omega)]
  simp [prevE, atE, Nat.ne_of_gt h0]
theorem prevE_0 {M : List En} {k : Nat} (h0 : k = 0) : prevE M k = zeroEn := by simp [prevE, h0]
theorem u64_add (a x : Nat) : IntKind.u64.wrap ((a : Int) + (x : Int)) = (((a + x) % 18446744073709551616 : Nat) : Int) := by rw [← Int.natCast_add, u64_w]
theorem dwrong_fn (c k g cp x : Nat) (M : List En) (hc : c < 4) (hx : x < 18446744073709551616) (hk : k < M.length) (hM : M.length ≤ 100000) (hE : EnsOk M) :
    Fn Try.prog 30 [.slice (some ⟨g, 0, none⟩) M.length cp, iq c, iq k, uq x] [.ro g 0 (ecells M)] fun v _ => v = iq (errQ c k (prevE M k) x) := by
  have hpo := prevE_ok hE k
  have hpl := fun h0 => prevE_at (M := M) (k := k) h0 hk
  have hp0 : k = 0 → (prevE M k).id = 0 := fun h0 => by rw [prevE_0 h0]; rfl
  obtain ⟨p, hpe⟩ : ∃ p, prevE M k = p := ⟨_, rfl⟩
  rw [hpe] at hpl hp0 hpo ⊢
  obtain ⟨p1, p2, p3, p4⟩ := hpo
  have hn := next_lt p
  refine Fn.enter (N := 76) Try.func30 rfl (by kernel_rfl) rfl (fun w0 => ?_)

  refine awp_seq_region (fun Z hZ => ?_)
  refine sx_assign rfl rfl ?_
  refine sx_nil (hZ _ _ ?_)
  refine awp_forget [(0, _), (1, _), (2, _), (3, _)] (Kn.cons rfl (Kn.cons rfl (Kn.cons rfl (Kn.cons rfl (Kn.nil))))) ?_
  refine awp_seq ?_
  refine awp_seq_meet [(0, .slice (some ⟨g, 0, none⟩) M.length cp), (1, iq c), (2, iq k), (3, uq x), (26, .bool (decide (c = 0 ∧ 0 < k ∧ (p.id + x) % 18446744073709551616 < x)))] [.ro g 0 (ecells M)] (fun Z hZ => ?_) ?_
  · refine sx_move rfl rfl ?_
    first | refine sx_eql rfl rfl rfl ?_ | refine sx_seql rfl rfl rfl ?_
    refine sx_move rfl rfl ?_
    refine sx_split 11 rfl (fun hb2 => ?_) (fun hb2 => ?_)
    · refine sx_on rfl rfl rfl ?_
      refine sx_move rfl rfl ?_
      refine sx_on rfl rfl rfl ?_
      first | refine sx_gtr rfl rfl rfl ?_ | refine sx_sgtr rfl rfl rfl ?_
      refine sx_pick rfl rfl rfl ?_
      refine sx_move rfl rfl ?_
      refine sx_split 15 rfl (fun hb6 => ?_) (fun hb6 => ?_)
      · refine sx_on rfl rfl rfl ?_
        refine sx_move rfl rfl ?_
        refine sx_on rfl rfl rfl ?_
        refine sx_move rfl rfl ?_
        refine sx_on rfl rfl rfl ?_
        refine sx_sub rfl rfl ((k - 1 : Nat) : Int) (by simp at hb6; rw [IntWalk.i64_in _ (by omega)]; omega) rfl ?_
        refine sx_on rfl rfl rfl ?_
        refine sx_indexAddr ((k - 1) * 4) Try.underlying22 tyS61 rfl rfl (by omega) (by simp) rfl ?_
        refine sx_on rfl rfl rfl ?_
        refine sx_fieldAddr rfl tyF61_0 (by first | (simp only [Nat.reduceAdd, Nat.add_zero, Nat.zero_add]; first | done | rfl) | rfl) rfl ?_
        refine sx_on rfl rfl rfl ?_
        refine sx_loadRo 0 rfl rfl ((k - 1) * 4) (by simp) tyA48 tyS48 (rd_id (hpl (by simpa using hb6))) rfl ?_
        refine sx_on rfl rfl rfl ?_
        refine sx_move rfl rfl ?_
        refine sx_on rfl rfl rfl ?_
        refine sx_add rfl rfl (((p.id + x) % 18446744073709551616 : Nat) : Int) (u64_add p.id x) rfl ?_
        refine sx_on rfl rfl rfl ?_
        refine sx_move rfl rfl ?_
        refine sx_on rfl rfl rfl ?_
        first | refine sx_lss rfl rfl rfl ?_ | refine sx_slss rfl rfl rfl ?_
        refine sx_pick rfl rfl rfl ?_
        refine sx_nil (hZ _ _ ?_ ?_)
        · exact Kn.cons rfl (Kn.cons rfl (Kn.cons rfl (Kn.cons rfl (Kn.cons (congrArg some (congrArg Value.bool (by first | (simp at *; done) | (simp at *; omega) | (simp at *; rw [Bool.eq_iff_iff]; simp; omega)))) Kn.nil))))
        · exact HLe.refl _
      · refine sx_off rfl rfl rfl rfl rfl ?_
        refine sx_off rfl rfl rfl rfl rfl ?_
        refine sx_off rfl rfl rfl rfl rfl ?_
        refine sx_off rfl rfl rfl rfl rfl ?_
        refine sx_off rfl rfl rfl rfl rfl ?_
        refine sx_off rfl rfl rfl rfl rfl ?_
        refine sx_off rfl rfl rfl rfl rfl ?_
        refine sx_off rfl rfl rfl rfl rfl ?_
        refine sx_off rfl rfl rfl rfl rfl ?_
        refine sx_off rfl rfl rfl rfl rfl ?_
        refine sx_pick rfl rfl rfl ?_
        refine sx_nil (hZ _ _ ?_ ?_)
        · exact Kn.cons rfl (Kn.cons rfl (Kn.cons rfl (Kn.cons rfl (Kn.cons (congrArg some (congrArg Value.bool (by first | (simp at *; done) | (simp at *; omega) | (simp at *; rw [Bool.eq_iff_iff]; simp; omega)))) Kn.nil))))
        · exact HLe.refl _
    · refine sx_off rfl rfl rfl rfl rfl ?_
      refine sx_off rfl rfl rfl rfl rfl ?_
      refine sx_pick rfl rfl rfl ?_
      refine sx_move rfl rfl ?_
      refine sx_off rfl rfl rfl rfl rfl ?_
      refine sx_off rfl rfl rfl rfl rfl ?_
      refine sx_off rfl rfl rfl rfl rfl ?_
      refine sx_off rfl rfl rfl rfl rfl ?_
      refine sx_off rfl rfl rfl rfl rfl ?_
      refine sx_off rfl rfl rfl rfl rfl ?_
      refine sx_off rfl rfl rfl rfl rfl ?_
      refine sx_off rfl rfl rfl rfl rfl ?_
      refine sx_off rfl rfl rfl rfl rfl ?_
      refine sx_off rfl rfl rfl rfl rfl ?_
      refine sx_pick rfl rfl rfl ?_
      refine sx_nil (hZ _ _ ?_ ?_)
      · exact Kn.cons rfl (Kn.cons rfl (Kn.cons rfl (Kn.cons rfl (Kn.cons (congrArg some (congrArg Value.bool (by first | (simp at *; done) | (simp at *; omega) | (simp at *; rw [Bool.eq_iff_iff]; simp; omega)))) Kn.nil))))
      · exact HLe.refl _
  first | refine awp_cond rfl (fun h => ?_) (fun h => ?_) | refine awp_seq (awp_cond rfl (fun h => ?_) (fun h => ?_))
  · obtain ⟨h1, h2, h3⟩ : c = 0 ∧ 0 < k ∧ (p.id + x) % 18446744073709551616 < x := by simpa using h
    rw [show errQ c k p x = 11 by unfold errQ; rw [if_pos h1, if_pos h3]]
    refine awp_seq_region (fun Z hZ => ?_)
    refine sx_assign rfl rfl ?_
    refine sx_nil (hZ _ _ ?_)
    refine awp_forget [(8, _)] (Kn.cons rfl (Kn.nil)) ?_
    refine awp_ret ?_
    repeat (with_reducible (first | refine nx_then_ret ?_ | refine nx_block_ret ?_ | refine nx_scope_ret ?_))
    exact nx_ret1 rfl rfl rfl
  have h' : ¬ (c = 0 ∧ 0 < k ∧ (p.id + x) % 18446744073709551616 < x) := by simpa using h
  refine awp_skip ?_
  repeat (with_reducible (first | refine nx_block_normal ?_ | refine nx_scope_normal ?_))
  with_reducible first | refine nx_normal ?_ | refine nx_normalM ?_
  refine awp_seq ?_
  refine awp_seq_meet [(0, .slice (some ⟨g, 0, none⟩) M.length cp), (1, iq c), (2, iq k), (3, uq x), (36, .bool (decide ((c = 1 ∨ c = 2) ∧ 4294967295 < x)))] [.ro g 0 (ecells M)] (fun Z hZ => ?_) ?_
  · refine sx_move rfl rfl ?_
    first | refine sx_eql rfl rfl rfl ?_ | refine sx_seql rfl rfl rfl ?_
    refine sx_move rfl rfl ?_
    refine sx_split 29 rfl (fun hb2 => ?_) (fun hb2 => ?_)
    · refine sx_off rfl rfl rfl rfl rfl ?_
      refine sx_off rfl rfl rfl rfl rfl ?_
      refine sx_pick rfl rfl rfl ?_
      refine sx_move rfl rfl ?_
      refine sx_on rfl rfl rfl ?_
      refine sx_move rfl rfl ?_
      refine sx_on rfl rfl rfl ?_
      first | refine sx_gtr rfl rfl rfl ?_ | refine sx_sgtr rfl rfl rfl ?_
      refine sx_pick rfl rfl rfl ?_
      refine sx_nil (hZ _ _ ?_ ?_)
      · exact Kn.cons rfl (Kn.cons rfl (Kn.cons rfl (Kn.cons rfl (Kn.cons (congrArg some (congrArg Value.bool (by first | (simp at *; done) | (simp at *; omega) | (simp at *; rw [Bool.eq_iff_iff]; simp; omega)))) Kn.nil))))
      · exact HLe.refl _
    · refine sx_on rfl rfl rfl ?_
      refine sx_move rfl rfl ?_
      refine sx_on rfl rfl rfl ?_
      first | refine sx_eql rfl rfl rfl ?_ | refine sx_seql rfl rfl rfl ?_
      refine sx_pick rfl rfl rfl ?_
      refine sx_move rfl rfl ?_
      refine sx_split 33 rfl (fun hb6 => ?_) (fun hb6 => ?_)
      · refine sx_on rfl rfl rfl ?_
        refine sx_move rfl rfl ?_
        refine sx_on rfl rfl rfl ?_
        first | refine sx_gtr rfl rfl rfl ?_ | refine sx_sgtr rfl rfl rfl ?_
        refine sx_pick rfl rfl rfl ?_
        refine sx_nil (hZ _ _ ?_ ?_)
        · exact Kn.cons rfl (Kn.cons rfl (Kn.cons rfl (Kn.cons rfl (Kn.cons (congrArg some (congrArg Value.bool (by first | (simp at *; done) | (simp at *; omega) | (simp at *; rw [Bool.eq_iff_iff]; simp; omega)))) Kn.nil))))
        · exact HLe.refl _
      · refine sx_off rfl rfl rfl rfl rfl ?_
        refine sx_off rfl rfl rfl rfl rfl ?_
        refine sx_pick rfl rfl rfl ?_
        refine sx_nil (hZ _ _ ?_ ?_)
        · exact Kn.cons rfl (Kn.cons rfl (Kn.cons rfl (Kn.cons rfl (Kn.cons (congrArg some (congrArg Value.bool (by first | (simp at *; done) | (simp at *; omega) | (simp at *; rw [Bool.eq_iff_iff]; simp; omega)))) Kn.nil))))
        · exact HLe.refl _
  first | refine awp_cond rfl (fun h1 => ?_) (fun h1 => ?_) | refine awp_seq (awp_cond rfl (fun h1 => ?_) (fun h1 => ?_))
  · obtain ⟨h2, h3⟩ : (c = 1 ∨ c = 2) ∧ 4294967295 < x := by simpa using h1
    rw [show errQ c k p x = 11 by unfold errQ; rw [if_neg (by omega), if_pos h2, if_pos (by omega)]]
    refine awp_seq_region (fun Z hZ => ?_)
    refine sx_assign rfl rfl ?_
    refine sx_nil (hZ _ _ ?_)
    refine awp_forget [(8, _)] (Kn.cons rfl (Kn.nil)) ?_
    refine awp_ret ?_
    repeat (with_reducible (first | refine nx_then_ret ?_ | refine nx_block_ret ?_ | refine nx_scope_ret ?_))
    exact nx_ret1 rfl rfl rfl
  have h1' : ¬ ((c = 1 ∨ c = 2) ∧ 4294967295 < x) := by simpa using h1
  refine awp_skip ?_
  repeat (with_reducible (first | refine nx_block_normal ?_ | refine nx_scope_normal ?_))
  with_reducible first | refine nx_normal ?_ | refine nx_normalM ?_
  refine awp_seq ?_
  refine awp_seq_meet [(0, .slice (some ⟨g, 0, none⟩) M.length cp), (1, iq c), (2, iq k), (3, uq x), (46, .bool (decide (c = 3 ∧ k = 0 ∧ x = 0)))] [.ro g 0 (ecells M)] (fun Z hZ => ?_) ?_
  · refine sx_move rfl rfl ?_
    first | refine sx_eql rfl rfl rfl ?_ | refine sx_seql rfl rfl rfl ?_
    refine sx_move rfl rfl ?_
    refine sx_split 39 rfl (fun hb2 => ?_) (fun hb2 => ?_)
    · refine sx_on rfl rfl rfl ?_
      refine sx_move rfl rfl ?_
      refine sx_on rfl rfl rfl ?_
      first | refine sx_eql rfl rfl rfl ?_ | refine sx_seql rfl rfl rfl ?_
      refine sx_pick rfl rfl rfl ?_
      refine sx_move rfl rfl ?_
      refine sx_split 43 rfl (fun hb6 => ?_) (fun hb6 => ?_)
      · refine sx_on rfl rfl rfl ?_
        refine sx_move rfl rfl ?_
        refine sx_on rfl rfl rfl ?_
        first | refine sx_eql rfl rfl rfl ?_ | refine sx_seql rfl rfl rfl ?_
        refine sx_pick rfl rfl rfl ?_
        refine sx_nil (hZ _ _ ?_ ?_)
        · exact Kn.cons rfl (Kn.cons rfl (Kn.cons rfl (Kn.cons rfl (Kn.cons (congrArg some (congrArg Value.bool (by first | (simp at *; done) | (simp at *; omega) | (simp at *; rw [Bool.eq_iff_iff]; simp; omega)))) Kn.nil))))
        · exact HLe.refl _
      · refine sx_off rfl rfl rfl rfl rfl ?_
        refine sx_off rfl rfl rfl rfl rfl ?_
        refine sx_pick rfl rfl rfl ?_
        refine sx_nil (hZ _ _ ?_ ?_)
        · exact Kn.cons rfl (Kn.cons rfl (Kn.cons rfl (Kn.cons rfl (Kn.cons (congrArg some (congrArg Value.bool (by first | (simp at *; done) | (simp at *; omega) | (simp at *; rw [Bool.eq_iff_iff]; simp; omega)))) Kn.nil))))
        · exact HLe.refl _
    · refine sx_off rfl rfl rfl rfl rfl ?_
      refine sx_off rfl rfl rfl rfl rfl ?_
      refine sx_pick rfl rfl rfl ?_
      refine sx_move rfl rfl ?_
      refine sx_off rfl rfl rfl rfl rfl ?_
      refine sx_off rfl rfl rfl rfl rfl ?_
      refine sx_pick rfl rfl rfl ?_
      refine sx_nil (hZ _ _ ?_ ?_)
      · exact Kn.cons rfl (Kn.cons rfl (Kn.cons rfl (Kn.cons rfl (Kn.cons (congrArg some (congrArg Value.bool (by first | (simp at *; done) | (simp at *; omega) | (simp at *; rw [Bool.eq_iff_iff]; simp; omega)))) Kn.nil))))
      · exact HLe.refl _
  first | refine awp_cond rfl (fun h2 => ?_) (fun h2 => ?_) | refine awp_seq (awp_cond rfl (fun h2 => ?_) (fun h2 => ?_))
  · obtain ⟨h3, h4, h5⟩ : c = 3 ∧ k = 0 ∧ x = 0 := by simpa using h2
    rw [show errQ c k p x = 4 by unfold errQ; rw [if_neg (by omega), if_neg (by omega), if_pos (.inl ⟨h4, h5⟩)]]
    refine awp_seq_region (fun Z hZ => ?_)
    refine sx_assign rfl rfl ?_
    refine sx_nil (hZ _ _ ?_)
    refine awp_forget [(8, _)] (Kn.cons rfl (Kn.nil)) ?_
    refine awp_ret ?_
    repeat (with_reducible (first | refine nx_then_ret ?_ | refine nx_block_ret ?_ | refine nx_scope_ret ?_))
    exact nx_ret1 rfl rfl rfl
  have h2' : ¬ (c = 3 ∧ k = 0 ∧ x = 0) := by simpa using h2
  have hnx : (p.off + p.len) % 18446744073709551616 = p.next := rfl
  refine awp_skip ?_
  repeat (with_reducible (first | refine nx_block_normal ?_ | refine nx_scope_normal ?_))
  with_reducible first | refine nx_normal ?_ | refine nx_normalM ?_
  refine awp_seq ?_
  refine awq_seq_meet [(75, .bool (decide (c = 3 ∧ 0 < k ∧ 0 < x ∧ x - 1 = p.next)))] [] mixed (by kernel_rfl) (fun Z hZ => ?_) ?_
  · refine sq_move rfl rfl ?_
    first | refine sq_eql rfl rfl rfl ?_ | refine sq_seql rfl rfl rfl ?_
    refine sq_move rfl rfl ?_
    refine sq_split 49 rfl (fun hb2 => ?_) (fun hb2 => ?_)
    · refine sq_on rfl rfl rfl ?_
      refine sq_move rfl rfl ?_
      refine sq_on rfl rfl rfl ?_
      first | refine sq_gtr rfl rfl rfl ?_ | refine sq_sgtr rfl rfl rfl ?_
      refine sq_pick rfl rfl rfl ?_
      refine sq_move rfl rfl ?_
      refine sq_split 53 rfl (fun hb6 => ?_) (fun hb6 => ?_)
      · refine sq_on rfl rfl rfl ?_
        refine sq_move rfl rfl ?_
        refine sq_on rfl rfl rfl ?_
        first | refine sq_gtr rfl rfl rfl ?_ | refine sq_sgtr rfl rfl rfl ?_
        refine sq_pick rfl rfl rfl ?_
        refine sq_move rfl rfl ?_
        refine sq_split 57 rfl (fun hb10 => ?_) (fun hb10 => ?_)
        · refine sq_on rfl rfl rfl ?_
          refine sq_move rfl rfl ?_
          refine sq_on rfl rfl rfl ?_
          refine sq_sub rfl rfl ((x - 1 : Nat) : Int) (by simp at hb10; rw [IntWalk.u64_in _ (by omega)]; omega) rfl ?_
          refine sq_on rfl rfl rfl ?_
          refine sq_move rfl rfl ?_
          refine sq_on rfl rfl rfl ?_
          refine sq_move rfl rfl ?_
          refine sq_on rfl rfl rfl ?_
          refine sq_sub rfl rfl ((k - 1 : Nat) : Int) (by simp at hb6; rw [IntWalk.i64_in _ (by omega)]; omega) rfl ?_
          refine sq_on rfl rfl rfl ?_
          refine sq_indexAddr ((k - 1) * 4) Try.underlying22 tyS61 rfl rfl (by omega) (by simp) rfl ?_
          refine sq_on rfl rfl rfl ?_
          refine sq_fieldAddr rfl tyF61_1 (by first | (simp only [Nat.reduceAdd, Nat.add_zero, Nat.zero_add]; first | done | rfl) | rfl) rfl ?_
          refine sq_on rfl rfl rfl ?_
          refine sq_loadRo 0 rfl rfl ((k - 1) * 4 + 1) (by simp) tyA48 tyS48 (rd_off (hpl (by simpa using hb6))) rfl ?_
          refine sq_on rfl rfl rfl ?_
          refine sq_move rfl rfl ?_
          refine sq_on rfl rfl rfl ?_
          refine sq_move rfl rfl ?_
          refine sq_on rfl rfl rfl ?_
          refine sq_sub rfl rfl ((k - 1 : Nat) : Int) (by simp at hb6; rw [IntWalk.i64_in _ (by omega)]; omega) rfl ?_
          refine sq_on rfl rfl rfl ?_
          refine sq_indexAddr ((k - 1) * 4) Try.underlying22 tyS61 rfl rfl (by omega) (by simp) rfl ?_
          refine sq_on rfl rfl rfl ?_
          refine sq_fieldAddr rfl tyF61_2 (by first | (simp only [Nat.reduceAdd, Nat.add_zero, Nat.zero_add]; first | done | rfl) | rfl) rfl ?_
          refine sq_on rfl rfl rfl ?_
          refine sq_loadRo 0 rfl rfl ((k - 1) * 4 + 2) (by simp) tyA49 tyS49 (rd_len (hpl (by simpa using hb6))) rfl ?_
          refine sq_on rfl rfl rfl ?_
          refine sq_conv Try.underlying49 Try.underlying48 rfl ((p.len : Nat) : Int) (by rw [IntWalk.u64_in _ (by omega)]) rfl ?_
          refine sq_on rfl rfl rfl ?_
          refine sq_add rfl rfl ((p.next : Nat) : Int) (by rw [← Int.natCast_add, u64_w]; rfl) rfl ?_
          refine sq_on rfl rfl rfl ?_
          first | refine sq_eql rfl rfl rfl ?_ | refine sq_seql rfl rfl rfl ?_
          refine sq_pick rfl rfl rfl ?_
          refine sq_nil (hZ _ _ ?_ ?_)
          · exact Kn.cons (congrArg some (congrArg Value.bool (by first | (simp at *; done) | (simp at *; omega) | (simp at *; rw [Bool.eq_iff_iff]; simp; omega)))) Kn.nil
          · exact HLe.pick [] (by simp) rfl
        · refine sq_off rfl rfl rfl rfl rfl ?_
          refine sq_off rfl rfl rfl rfl rfl ?_
          refine sq_off rfl rfl rfl rfl rfl ?_
          refine sq_off rfl rfl rfl rfl rfl ?_
          refine sq_off rfl rfl rfl rfl rfl ?_
          refine sq_off rfl rfl rfl rfl rfl ?_
          refine sq_off rfl rfl rfl rfl rfl ?_
          refine sq_off rfl rfl rfl rfl rfl ?_
          refine sq_off rfl rfl rfl rfl rfl ?_
          refine sq_off rfl rfl rfl rfl rfl ?_
          refine sq_off rfl rfl rfl rfl rfl ?_
          refine sq_off rfl rfl rfl rfl rfl ?_
          refine sq_off rfl rfl rfl rfl rfl ?_
          refine sq_off rfl rfl rfl rfl rfl ?_
          refine sq_off rfl rfl rfl rfl rfl ?_
          refine sq_off rfl rfl rfl rfl rfl ?_
          refine sq_off rfl rfl rfl rfl rfl ?_
          refine sq_pick rfl rfl rfl ?_
          refine sq_nil (hZ _ _ ?_ ?_)
          · exact Kn.cons (congrArg some (congrArg Value.bool (by first | (simp at *; done) | (simp at *; omega) | (simp at *; rw [Bool.eq_iff_iff]; simp; omega)))) Kn.nil
          · exact HLe.pick [] (by simp) rfl
      · refine sq_off rfl rfl rfl rfl rfl ?_
        refine sq_off rfl rfl rfl rfl rfl ?_
        refine sq_pick rfl rfl rfl ?_
        refine sq_move rfl rfl ?_
        refine sq_off rfl rfl rfl rfl rfl ?_
        refine sq_off rfl rfl rfl rfl rfl ?_
        refine sq_off rfl rfl rfl rfl rfl ?_
        refine sq_off rfl rfl rfl rfl rfl ?_
        refine sq_off rfl rfl rfl rfl rfl ?_
        refine sq_off rfl rfl rfl rfl rfl ?_
        refine sq_off rfl rfl rfl rfl rfl ?_
        refine sq_off rfl rfl rfl rfl rfl ?_
        refine sq_off rfl rfl rfl rfl rfl ?_
        refine sq_off rfl rfl rfl rfl rfl ?_
        refine sq_off rfl rfl rfl rfl rfl ?_
        refine sq_off rfl rfl rfl rfl rfl ?_
        refine sq_off rfl rfl rfl rfl rfl ?_
        refine sq_off rfl rfl rfl rfl rfl ?_
        refine sq_off rfl rfl rfl rfl rfl ?_
        refine sq_off rfl rfl rfl rfl rfl ?_
        refine sq_off rfl rfl rfl rfl rfl ?_
        refine sq_pick rfl rfl rfl ?_
        refine sq_nil (hZ _ _ ?_ ?_)
        · exact Kn.cons (congrArg some (congrArg Value.bool (by first | (simp at *; done) | (simp at *; omega) | (simp at *; rw [Bool.eq_iff_iff]; simp; omega)))) Kn.nil
        · exact HLe.pick [] (by simp) rfl
    · refine sq_off rfl rfl rfl rfl rfl ?_
      refine sq_off rfl rfl rfl rfl rfl ?_
      refine sq_pick rfl rfl rfl ?_
      refine sq_move rfl rfl ?_
      refine sq_off rfl rfl rfl rfl rfl ?_
      refine sq_off rfl rfl rfl rfl rfl ?_
      refine sq_pick rfl rfl rfl ?_
      refine sq_move rfl rfl ?_
      refine sq_off rfl rfl rfl rfl rfl ?_
      refine sq_off rfl rfl rfl rfl rfl ?_
      refine sq_off rfl rfl rfl rfl rfl ?_
      refine sq_off rfl rfl rfl rfl rfl ?_
      refine sq_off rfl rfl rfl rfl rfl ?_
      refine sq_off rfl rfl rfl rfl rfl ?_
      refine sq_off rfl rfl rfl rfl rfl ?_
      refine sq_off rfl rfl rfl rfl rfl ?_
      refine sq_off rfl rfl rfl rfl rfl ?_
      refine sq_off rfl rfl rfl rfl rfl ?_
      refine sq_off rfl rfl rfl rfl rfl ?_
      refine sq_off rfl rfl rfl rfl rfl ?_
      refine sq_off rfl rfl rfl rfl rfl ?_
      refine sq_off rfl rfl rfl rfl rfl ?_
      refine sq_off rfl rfl rfl rfl rfl ?_
      refine sq_off rfl rfl rfl rfl rfl ?_
      refine sq_off rfl rfl rfl rfl rfl ?_
      refine sq_pick rfl rfl rfl ?_
      refine sq_nil (hZ _ _ ?_ ?_)
      · exact Kn.cons (congrArg some (congrArg Value.bool (by first | (simp at *; done) | (simp at *; omega) | (simp at *; rw [Bool.eq_iff_iff]; simp; omega)))) Kn.nil
      · exact HLe.pick [] (by simp) rfl
  first | refine awp_cond rfl (fun h3 => ?_) (fun h3 => ?_) | refine awp_seq (awp_cond rfl (fun h3 => ?_) (fun h3 => ?_))
  · obtain ⟨h4, h5⟩ : c = 3 ∧ 0 < k ∧ 0 < x ∧ x - 1 = p.next := by simpa using h3
    rw [show errQ c k p x = 4 by unfold errQ; rw [if_neg (by omega), if_neg (by omega), if_pos (.inr h5)]]
    refine awp_seq_region (fun Z hZ => ?_)
    refine sx_assign rfl rfl ?_
    refine sx_nil (hZ _ _ ?_)
    refine awp_forget [(8, _)] (Kn.cons rfl (Kn.nil)) ?_
    refine awp_ret ?_
    repeat (with_reducible (first | refine nx_then_ret ?_ | refine nx_block_ret ?_ | refine nx_scope_ret ?_))
    exact nx_ret1 rfl rfl rfl
  have h3' : ¬ (c = 3 ∧ 0 < k ∧ 0 < x ∧ x - 1 = p.next) := by simpa using h3
  have hee : errQ c k p x = 0 := by
    unfold errQ
    by_cases hc0 : c = 0
    · rw [if_pos hc0]
      by_cases hk0 : k = 0
      · rw [if_neg (by rw [hp0 hk0]; omega)]
      · rw [if_neg (by omega)]
    rw [if_neg hc0]
    by_cases hc1 : c = 1 ∨ c = 2
    · rw [if_pos hc1, if_neg (by omega)]
    rw [if_neg hc1, if_neg (by omega)]
  rw [hee]
  refine awp_skip ?_
  repeat (with_reducible (first | refine nx_block_normal ?_ | refine nx_scope_normal ?_))
  with_reducible first | refine nx_normal ?_ | refine nx_normalM ?_
  refine awp_seq_region (fun Z hZ => ?_)
  refine sx_assign rfl rfl ?_
  refine sx_nil (hZ _ _ ?_)
  refine awp_forget [(8, _)] (Kn.cons rfl (Kn.nil)) ?_
  refine awp_ret ?_
  repeat (with_reducible (first | refine nx_then_ret ?_ | refine nx_block_ret ?_ | refine nx_scope_ret ?_))
  exact nx_ret1 rfl rfl rfl
theorem dput_fn (c k g cp x : Nat) (e : En) (M : List En) (hc : c < 4) (hx : x < 18446744073709551616) (he : M[k]? = some e) (hM : M.length ≤ 100000) (hE : EnsOk M) (h0 : errQ c k (prevE M k) x = 0) :
    Fn Try.prog 31 [.slice (some ⟨g, 0, none⟩) M.length cp, iq c, iq k, uq x] [.own g 61 (ecells M)] fun _ H' => H' = [.own g 61 (ecells (M.set k (putQ c (prevE M k) e x)))] := by
  have hk : k < M.length := (List.getElem?_eq_some_iff.1 he).1
  have hpo := prevE_ok hE k
  have hpl := fun h0 => prevE_at (M := M) (k := k) h0 hk
  have hp0 : k = 0 → (prevE M k).id = 0 := fun h0 => by rw [prevE_0 h0]; rfl
  obtain ⟨p, hpe⟩ : ∃ p, prevE M k = p := ⟨_, rfl⟩
  rw [hpe] at hpl hp0 hpo h0 ⊢
  obtain ⟨p1, p2, p3, p4⟩ := hpo
  have hn := next_lt p
  have hset : ∀ y, 0 < k → (M.set k y)[k - 1]? = some p := fun y h => by rw [List.getElem?_set_ne (by omega)]; exact hpl h
  refine Fn.enter (N := 72) Try.func31 rfl (by kernel_rfl) rfl (fun w0 => ?_)

  refine awp_seq_region (fun Z hZ => ?_)
  refine sx_move rfl rfl ?_
  refine sx_nil (hZ _ _ ?_)
  refine awp_forget [(0, _), (2, _), (3, _), (8, _)] (Kn.cons rfl (Kn.cons rfl (Kn.cons rfl (Kn.cons rfl (Kn.nil))))) ?_
  refine awp_block ?_
  refine awp_seq_region (fun Z hZ => ?_)
  first | refine sx_eql rfl rfl rfl ?_ | refine sx_seql rfl rfl rfl ?_
  refine sx_assign rfl rfl ?_
  refine sx_nil (hZ _ _ ?_)
  refine awp_forget [(0, _), (2, _), (3, _), (8, _), (35, _)] (Kn.cons rfl (Kn.cons rfl (Kn.cons rfl (Kn.cons rfl (Kn.cons rfl (Kn.nil)))))) ?_
  first | refine awp_cond rfl (fun h => ?_) (fun h => ?_) | refine awp_seq (awp_cond rfl (fun h => ?_) (fun h => ?_))
  · have hc0 : c = 0 := by simp at h; omega
    refine awp_seq_region (fun Z hZ => ?_)
    refine sx_move rfl rfl ?_
    refine sx_move rfl rfl ?_
    refine sx_move rfl rfl ?_
    refine sx_indexAddr (k * 4) Try.underlying22 tyS61 rfl rfl (by omega) (by simp) rfl ?_
    refine sx_fieldAddr rfl tyF61_0 (by first | (simp only [Nat.reduceAdd, Nat.add_zero, Nat.zero_add]; first | done | rfl) | rfl) rfl ?_
    refine sx_store1 0 rfl rfl rfl tyS48 rfl (ecells_ble he (j := 0) (by omega)) (set_id he _) rfl ?_
    refine sx_nil (hZ _ _ ?_)
    refine awp_forget [(0, _), (2, _), (3, _)] (Kn.cons rfl (Kn.cons rfl (Kn.cons rfl (Kn.nil)))) ?_
    refine awp_seq_region (fun Z hZ => ?_)
    refine sx_move rfl rfl ?_
    first | refine sx_gtr rfl rfl rfl ?_ | refine sx_sgtr rfl rfl rfl ?_
    refine sx_nil (hZ _ _ ?_)
    refine awp_forget [(0, _), (2, _), (3, _), (43, _)] (Kn.cons rfl (Kn.cons rfl (Kn.cons rfl (Kn.cons rfl (Kn.nil))))) ?_
    first | refine awp_cond rfl (fun h1 => ?_) (fun h1 => ?_) | refine awp_seq (awp_cond rfl (fun h1 => ?_) (fun h1 => ?_))
    · have hkp : 0 < k := by simp at h1; omega
      refine awp_region (fun Z hZ => ?_)
      refine sx_move rfl rfl ?_
      refine sx_move rfl rfl ?_
      refine sx_move rfl rfl ?_
      refine sx_move rfl rfl ?_
      refine sx_sub rfl rfl ((k - 1 : Nat) : Int) (by rw [IntWalk.i64_in _ (by omega)]; omega) rfl ?_
      refine sx_indexAddr ((k - 1) * 4) Try.underlying22 tyS61 rfl rfl (by omega) (by simp) rfl ?_
      refine sx_fieldAddr rfl tyF61_0 (by first | (simp only [Nat.reduceAdd, Nat.add_zero, Nat.zero_add]; first | done | rfl) | rfl) rfl ?_
      refine sx_load 0 rfl rfl tyA48 tyS48 (rd_id (hset _ hkp)) rfl ?_
      refine sx_move rfl rfl ?_
      refine sx_add rfl rfl (((p.id + x) % 18446744073709551616 : Nat) : Int) (u64_add p.id x) rfl ?_
      refine sx_indexAddr (k * 4) Try.underlying22 tyS61 rfl rfl (by omega) (by simp) rfl ?_
      refine sx_fieldAddr rfl tyF61_0 (by first | (simp only [Nat.reduceAdd, Nat.add_zero, Nat.zero_add]; first | done | rfl) | rfl) rfl ?_
      refine sx_store1 0 rfl rfl rfl tyS48 rfl (ecells_ble (at_set he) (j := 0) (by omega)) (set_id (at_set he) _) rfl ?_
      refine sx_nil (hZ _ _ ?_)
      refine nx_forget [] (Kn.nil) ?_
      repeat (with_reducible refine nx_block_normal ?_)
      refine nx_end0h _ rfl (HLe.refl _) ?_
      rw [List.set_set, List.set_set, show putQ c p e x = { e with id := (p.id + x) % 18446744073709551616 } by unfold putQ; rw [if_pos hc0]]
      rfl
    · have hk0 : k = 0 := by simp at h1; omega
      refine awp_skip ?_
      repeat (with_reducible refine nx_block_normal ?_)
      refine nx_end0h _ rfl (HLe.refl _) ?_
      rw [show putQ c p e x = { e with id := x } by unfold putQ; rw [if_pos hc0, hp0 hk0, show (0 + x) % 18446744073709551616 = x by omega]]
      rfl
  have hc0 : c ≠ 0 := by simp at h; omega
  refine awp_seq_region (fun Z hZ => ?_)
  first | refine sx_eql rfl rfl rfl ?_ | refine sx_seql rfl rfl rfl ?_
  refine sx_assign rfl rfl ?_
  refine sx_nil (hZ _ _ ?_)
  refine awp_forget [(0, _), (2, _), (3, _), (8, _), (56, _)] (Kn.cons rfl (Kn.cons rfl (Kn.cons rfl (Kn.cons rfl (Kn.cons rfl (Kn.nil)))))) ?_
  first | refine awp_cond rfl (fun h1 => ?_) (fun h1 => ?_) | refine awp_seq (awp_cond rfl (fun h1 => ?_) (fun h1 => ?_))
  · have hc1 : c = 1 := by simp at h1; omega
    refine awp_region (fun Z hZ => ?_)
    refine sx_move rfl rfl ?_
    refine sx_move rfl rfl ?_
    refine sx_move rfl rfl ?_
    refine sx_conv Try.underlying48 Try.underlying49 rfl ((x % 4294967296 : Nat) : Int) (u32_w x) rfl ?_
    refine sx_indexAddr (k * 4) Try.underlying22 tyS61 rfl rfl (by omega) (by simp) rfl ?_
    refine sx_fieldAddr rfl tyF61_3 (by first | (simp only [Nat.reduceAdd, Nat.add_zero, Nat.zero_add]; first | done | rfl) | rfl) rfl ?_
    refine sx_store1 0 rfl rfl rfl tyS49 rfl (ecells_ble he (j := 3) (by omega)) (set_run he _) rfl ?_
    refine sx_nil (hZ _ _ ?_)
    refine nx_forget [] (Kn.nil) ?_
    repeat (with_reducible refine nx_block_normal ?_)
    refine nx_end0h _ rfl (HLe.refl _) ?_
    rw [show putQ c p e x = { e with run := x % 4294967296 } by unfold putQ; rw [if_neg hc0, if_pos hc1]]
    rfl
  have hc1 : c ≠ 1 := by simp at h1; omega
  refine awp_seq_region (fun Z hZ => ?_)
  first | refine sx_eql rfl rfl rfl ?_ | refine sx_seql rfl rfl rfl ?_
  refine sx_assign rfl rfl ?_
  refine sx_nil (hZ _ _ ?_)
  refine awp_forget [(0, _), (2, _), (3, _), (64, _)] (Kn.cons rfl (Kn.cons rfl (Kn.cons rfl (Kn.cons rfl (Kn.nil))))) ?_
  first | refine awp_cond rfl (fun h2 => ?_) (fun h2 => ?_) | refine awp_seq (awp_cond rfl (fun h2 => ?_) (fun h2 => ?_))
  · have hc2 : c = 2 := by simp at h2; omega
    refine awp_region (fun Z hZ => ?_)
    refine sx_move rfl rfl ?_
    refine sx_move rfl rfl ?_
    refine sx_move rfl rfl ?_
    refine sx_conv Try.underlying48 Try.underlying49 rfl ((x % 4294967296 : Nat) : Int) (u32_w x) rfl ?_
    refine sx_indexAddr (k * 4) Try.underlying22 tyS61 rfl rfl (by omega) (by simp) rfl ?_
    refine sx_fieldAddr rfl tyF61_2 (by first | (simp only [Nat.reduceAdd, Nat.add_zero, Nat.zero_add]; first | done | rfl) | rfl) rfl ?_
    refine sx_store1 0 rfl rfl rfl tyS49 rfl (ecells_ble he (j := 2) (by omega)) (set_len he _) rfl ?_
    refine sx_nil (hZ _ _ ?_)
    refine nx_forget [] (Kn.nil) ?_
    repeat (with_reducible refine nx_block_normal ?_)
    refine nx_end0h _ rfl (HLe.refl _) ?_
    rw [show putQ c p e x = { e with len := x % 4294967296 } by unfold putQ; rw [if_neg hc0, if_neg hc1, if_pos hc2]]
    rfl
  have hc2 : c ≠ 2 := by simp at h2; omega
  have hput : putQ c p e x = { e with off := if x = 0 then p.next else x - 1 } := by unfold putQ; rw [if_neg hc0, if_neg hc1, if_neg hc2]
  have hk0 : x = 0 → 0 < k := fun hx0 => by
    unfold errQ at h0
    rw [if_neg hc0, if_neg (by omega)] at h0
    rcases Nat.eq_zero_or_pos k with hk0 | hk0
    · rw [if_pos (.inl ⟨hk0, hx0⟩)] at h0; cases h0
    · exact hk0
  obtain ⟨z, hz⟩ : ∃ z, (if x = 0 then 18446744073709551615 else x - 1) = z := ⟨_, rfl⟩
  have hzx : x = 0 ∨ z + 1 = x := by rw [← hz]; split <;> omega
  have e1 : (M.set k { e with off := z })[k]? = some { e with off := z } := at_set he
  rw [hput]
  refine awp_seq_region (fun Z hZ => ?_)
  refine sx_move rfl rfl ?_
  refine sx_move rfl rfl ?_
  refine sx_move rfl rfl ?_
  refine sx_sub rfl rfl ((z : Nat) : Int) (by rw [u64_1 hx, hz]) rfl ?_
  refine sx_indexAddr (k * 4) Try.underlying22 tyS61 rfl rfl (by omega) (by simp) rfl ?_
  refine sx_fieldAddr rfl tyF61_1 (by first | (simp only [Nat.reduceAdd, Nat.add_zero, Nat.zero_add]; first | done | rfl) | rfl) rfl ?_
  refine sx_store1 0 rfl rfl rfl tyS48 rfl (ecells_ble he (j := 1) (by omega)) (set_off he _) rfl ?_
  refine sx_nil (hZ _ _ ?_)
  refine awp_forget [(0, _), (2, _), (3, _)] (Kn.cons rfl (Kn.cons rfl (Kn.cons rfl (Kn.nil)))) ?_
  refine awp_seq_region (fun Z hZ => ?_)
  refine sx_move rfl rfl ?_
  first | refine sx_eql rfl rfl rfl ?_ | refine sx_seql rfl rfl rfl ?_
  refine sx_nil (hZ _ _ ?_)
  refine awp_forget [(0, _), (2, _), (16, _)] (Kn.cons rfl (Kn.cons rfl (Kn.cons rfl (Kn.nil)))) ?_
  first | refine awp_cond rfl (fun h3 => ?_) (fun h3 => ?_) | refine awp_seq (awp_cond rfl (fun h3 => ?_) (fun h3 => ?_))
  · have hx0 : x = 0 := by simp at h3; omega
    have hkp := hk0 hx0
    have hq := hset { e with off := z } hkp
    rw [if_pos hx0]
    refine awh_region [0, 1, 2, 3, 4, 5, 6, 7, 8, 9, 10, 11, 12, 13, 14, 15, 16, 17] [18] mixed (by kernel_rfl) rfl rfl (fun Z hZ => ?_)
    refine sq_move rfl rfl ?_
    refine sq_move rfl rfl ?_
    refine sq_move rfl rfl ?_
    refine sq_move rfl rfl ?_
    refine sq_sub rfl rfl ((k - 1 : Nat) : Int) (by rw [IntWalk.i64_in _ (by omega)]; omega) rfl ?_
    refine sq_indexAddr ((k - 1) * 4) Try.underlying22 tyS61 rfl rfl (by omega) (by simp) rfl ?_
    refine sq_fieldAddr rfl tyF61_1 (by first | (simp only [Nat.reduceAdd, Nat.add_zero, Nat.zero_add]; first | done | rfl) | rfl) rfl ?_
    refine sq_load 0 rfl rfl tyA48 tyS48 (rd_off hq) rfl ?_
    refine sq_move rfl rfl ?_
    refine sq_move rfl rfl ?_
    refine sq_sub rfl rfl ((k - 1 : Nat) : Int) (by rw [IntWalk.i64_in _ (by omega)]; omega) rfl ?_
    refine sq_indexAddr ((k - 1) * 4) Try.underlying22 tyS61 rfl rfl (by omega) (by simp) rfl ?_
    refine sq_fieldAddr rfl tyF61_2 (by first | (simp only [Nat.reduceAdd, Nat.add_zero, Nat.zero_add]; first | done | rfl) | rfl) rfl ?_
    refine sq_load 0 rfl rfl tyA49 tyS49 (rd_len hq) rfl ?_
    refine sq_conv Try.underlying49 Try.underlying48 rfl ((p.len : Nat) : Int) (by rw [IntWalk.u64_in _ (by omega)]) rfl ?_
    refine sq_add rfl rfl ((p.next : Nat) : Int) (by rw [← Int.natCast_add, u64_w]; rfl) rfl ?_
    refine sq_indexAddr (k * 4) Try.underlying22 tyS61 rfl rfl (by omega) (by simp) rfl ?_
    refine sq_fieldAddr rfl tyF61_1 (by first | (simp only [Nat.reduceAdd, Nat.add_zero, Nat.zero_add]; first | done | rfl) | rfl) rfl ?_
    refine sq_nil ?_
    refine sx_store1 0 rfl rfl rfl tyS48 rfl (ecells_ble e1 (j := 1) (by omega)) (set_off e1 _) rfl ?_
    refine sx_nil (hZ _ _ ?_)
    refine nx_forget [] (Kn.nil) ?_
    repeat (with_reducible refine nx_block_normal ?_)
    refine nx_end0h _ rfl (HLe.refl _) ?_
    rw [List.set_set, List.set_set]
    rfl
  · have hx0 : x ≠ 0 := by simp at h3; omega
    refine awp_skip ?_
    repeat (with_reducible refine nx_block_normal ?_)
    refine nx_end0h _ rfl (HLe.refl _) ?_
    rw [if_neg hx0, show x - 1 = z by omega]
    rfl
end Go.Proofs.Ytfffhnefjaomnaa
