/- The walk of dirs.set: one number of a directory. Conditions: the list is not too long. -/
import Derived.Test.YtfffhnefjaomnaaDr5
import Derived.Test.YtfffhnefjaomnaaSxY
namespace Go.Proofs.Ytfffhnefjaomnaa
open Go.RowKit
set_option linter.unusedVariables false
set_option linter.unusedSimpArgs false
/-- What is wrong with a number in a column, behind an entry. -/
def errQ (c i : Nat) (a : En) (x : Nat) : Nat :=
  if c = 0 then (if (a.id + x) % 18446744073709551616 < x then 11 else 0)
  else if c = 1 ∨ c = 2 then (if 4294967296 ≤ x then 11 else 0)
  else if i = 0 ∧ x = 0 ∨ 0 < i ∧ 0 < x ∧ x - 1 = a.next then 4 else 0
def putQ (c : Nat) (a e : En) (x : Nat) : En :=
  if c = 0 then { e with id := (a.id + x) % 18446744073709551616 }
  else if c = 1 then { e with run := x % 4294967296 }
  else if c = 2 then { e with len := x % 4294967296 }
  else { e with off := if x = 0 then a.next else x - 1 }
theorem next_lt (e : En) : e.next < 18446744073709551616 := by simp only [En.next]; omega
theorem putQ_ok {c x : Nat} {a e : En} (he : e.ok) (hx : x < 18446744073709551616) : (putQ c a e x).ok := by
  obtain ⟨h1, h2, h3, h4⟩ := he
  have := next_lt a
  unfold putQ
  split
  · exact ⟨by show _ % _ < _; omega, h2, h3, h4⟩
  split
  · exact ⟨h1, h2, h3, by show _ % _ < _; omega⟩
  split
  · exact ⟨h1, h2, by show _ % _ < _; omega, h4⟩
  · exact ⟨h1, by show (if x = 0 then a.next else x - 1) < _; split <;> omega, h3, h4⟩
theorem set_id {M : List En} {k : Nat} {e : En} (h : M[k]? = some e) (y : Nat) : (ecells M).set (k * 4) (uq y) = ecells (M.set k { e with id := y }) := fm_set (x := e) (y := { e with id := y }) (j := 0) en_len rfl (by omega) h
theorem set_off {M : List En} {k : Nat} {e : En} (h : M[k]? = some e) (y : Nat) : (ecells M).set (k * 4 + 1) (uq y) = ecells (M.set k { e with off := y }) := fm_set (x := e) (y := { e with off := y }) (j := 1) en_len rfl (by omega) h
theorem set_len {M : List En} {k : Nat} {e : En} (h : M[k]? = some e) (y : Nat) : (ecells M).set (k * 4 + 2) (wq4 y) = ecells (M.set k { e with len := y }) := fm_set (x := e) (y := { e with len := y }) (j := 2) en_len rfl (by omega) h
theorem set_run {M : List En} {k : Nat} {e : En} (h : M[k]? = some e) (y : Nat) : (ecells M).set (k * 4 + 3) (wq4 y) = ecells (M.set k { e with run := y }) := fm_set (x := e) (y := { e with run := y }) (j := 3) en_len rfl (by omega) h
theorem rd_id {M : List En} {k : Nat} {e : En} (h : M[k]? = some e) : rdV false 1 (ecells M) (k * 4) = some (uq e.id) := by have := fm_rd1 (j := 0) en_len h rfl; simpa using this
theorem rd_off {M : List En} {k : Nat} {e : En} (h : M[k]? = some e) : rdV false 1 (ecells M) (k * 4 + 1) = some (uq e.off) := fm_rd1 (j := 1) en_len h rfl
theorem rd_len {M : List En} {k : Nat} {e : En} (h : M[k]? = some e) : rdV false 1 (ecells M) (k * 4 + 2) = some (wq4 e.len) := fm_rd1 (j := 2) en_len h rfl
theorem rd_run {M : List En} {k : Nat} {e : En} (h : M[k]? = some e) : rdV false 1 (ecells M) (k * 4 + 3) = some (wq4 e.run) := fm_rd1 (j := 3) en_len h rfl
theorem at_set {M : List En} {k : Nat} {e y : En} (h : M[k]? = some e) : (M.set k y)[k]? = some y := by
  have := (List.getElem?_eq_some_iff.1 h).1
  simp [this]
theorem ecells_ble {M : List En} {k : Nat} {e : En} (h : M[k]? = some e) {j : Nat} (hj : j < 4) : Nat.ble (k * 4 + j + 1) (ecells M).length = true := by
  have := (List.getElem?_eq_some_iff.1 h).1
  rw [ecells_len]
  exact ble_of (by omega)
theorem u64_1 {x : Nat} (h : x < 18446744073709551616) : IntKind.u64.wrap ((x : Int) - 1) = ((if x = 0 then 18446744073709551615 else x - 1 : Nat) : Int) := by
  have : IntKind.u64.wrap ((x : Int) - 1) = ((x : Int) - 1) % 18446744073709551616 := by simp [IntKind.wrap, IntKind.bits, IntKind.signed]
  rw [this]
  split <;> omega
theorem u32_w (x : Nat) : IntKind.u32.wrap (x : Int) = ((x % 4294967296 : Nat) : Int) := by simp [IntKind.wrap, IntKind.bits, IntKind.signed]
theorem dset_fn (c i k g : Nat) (a e : En) (x : Nat) (M : List En) (hc : c < 4) (hi : i ≤ 1000000) (ha : a.ok) (hx : x < 18446744073709551616) (he : M[k]? = some e) :
    Fn Try.prog 28 [iq c, iq i, a.val, ptr g (k * 4), uq x] [.own g 51 (ecells M)] fun v H' => v = iq (errQ c i a x) ∧ ∃ M' : List En, H' = [.own g 51 (ecells M')] ∧ (errQ c i a x = 0 → M' = M.set k (putQ c a e x)) := by
  have hao := ha
  obtain ⟨a1, a2, a3, a4⟩ := ha
  have hn := next_lt a
  refine Fn.enter (N := 79) Try.func28 rfl (by kernel_rfl) rfl (fun w0 => ?_)

  refine awp_seq_region (fun Z hZ => ?_)
  refine sx_box rfl rfl rfl (fun g1 => ?_)
  refine sx_assign rfl rfl ?_
  refine sx_nil (hZ _ _ ?_)
  refine awp_forget [(0, _), (1, _), (3, _), (4, _), (7, _)] (Kn.cons rfl (Kn.cons rfl (Kn.cons rfl (Kn.cons rfl (Kn.cons rfl (Kn.nil)))))) ?_
  refine awp_seq ?_
  refine awp_seq_region (fun Z hZ => ?_)
  refine sx_move rfl rfl ?_
  refine sx_nil (hZ _ _ ?_)
  refine awp_forget [(0, _), (1, _), (3, _), (4, _), (7, _), (11, _)] (Kn.cons rfl (Kn.cons rfl (Kn.cons rfl (Kn.cons rfl (Kn.cons rfl (Kn.cons rfl (Kn.nil))))))) ?_
  refine awp_meet (ι := Unit) (fun _ => []) (fun _ => [.own g 51 (ecells (M.set k (putQ c a e x)))]) (fun _ => errQ c i a x = 0) ?_ ?_
  · refine awp_block ?_

    refine awp_seq_region (fun Z hZ => ?_)
    first | refine sx_eql rfl rfl rfl ?_ | refine sx_seql rfl rfl rfl ?_
    refine sx_assign rfl rfl ?_
    refine sx_nil (hZ _ _ ?_)
    refine awp_forget [(0, _), (1, _), (3, _), (4, _), (7, _), (11, _), (47, _)] (Kn.cons rfl (Kn.cons rfl (Kn.cons rfl (Kn.cons rfl (Kn.cons rfl (Kn.cons rfl (Kn.cons rfl (Kn.nil)))))))) ?_
    first | refine awp_cond rfl (fun h => ?_) (fun h => ?_) | refine awp_seq (awp_cond rfl (fun h => ?_) (fun h => ?_))
    · have h0 : c = 0 := by simp at h; omega
      refine awp_seq_region (fun Z hZ => ?_)
      refine sx_move rfl rfl ?_
      refine sx_fieldAddr rfl tyF51_0 (by first | (simp only [Nat.reduceAdd, Nat.add_zero, Nat.zero_add]; first | done | rfl) | rfl) rfl ?_
      first | refine sx_load 0 rfl rfl tyA48 tyS48 rfl rfl ?_ | refine sx_load 1 rfl rfl tyA48 tyS48 rfl rfl ?_
      refine sx_move rfl rfl ?_
      refine sx_add rfl rfl (((a.id + x) % 18446744073709551616 : Nat) : Int) (by rw [← Int.natCast_add, u64_w]) rfl ?_
      refine sx_nilCheck rfl rfl ?_
      refine sx_fieldAddr rfl tyF51_0 (by first | (simp only [Nat.reduceAdd, Nat.add_zero, Nat.zero_add]; first | done | rfl) | rfl) rfl ?_
      refine sx_store1 1 rfl rfl rfl tyS48 rfl (ecells_ble he (j := 0) (by omega)) (set_id he _) rfl ?_
      refine sx_nil (hZ _ _ ?_)
      refine awp_forget [(3, _), (4, _)] (Kn.cons rfl (Kn.cons rfl (Kn.nil))) ?_
      refine awp_seq_region (fun Z hZ => ?_)
      refine sx_move rfl rfl ?_
      refine sx_nilCheck rfl rfl ?_
      refine sx_fieldAddr rfl tyF51_0 (by first | (simp only [Nat.reduceAdd, Nat.add_zero, Nat.zero_add]; first | done | rfl) | rfl) rfl ?_
      refine sx_load 1 rfl rfl tyA48 tyS48 (rd_id (at_set he)) rfl ?_
      refine sx_move rfl rfl ?_
      first | refine sx_lss rfl rfl rfl ?_ | refine sx_slss rfl rfl rfl ?_
      refine sx_nil (hZ _ _ ?_)
      refine awp_forget [(61, _)] (Kn.cons rfl (Kn.nil)) ?_
      first | refine awp_cond rfl (fun h1 => ?_) (fun h1 => ?_) | refine awp_seq (awp_cond rfl (fun h1 => ?_) (fun h1 => ?_))
      · have h1' : (a.id + x) % 18446744073709551616 < x := by simp at h1; omega
        have hee : errQ c i a x = 11 := by unfold errQ; rw [if_pos h0, if_pos h1']
        rw [hee]
        refine awp_seq_region (fun Z hZ => ?_)
        refine sx_assign rfl rfl ?_
        refine sx_nil (hZ _ _ ?_)
        refine awp_forget [(10, _)] (Kn.cons rfl (Kn.nil)) ?_
        refine awp_ret ?_
        repeat (with_reducible (first | refine nx_then_ret ?_ | refine nx_block_ret ?_ | refine nx_scope_ret ?_))
        exact nx_ret1h _ rfl rfl (HLe.pick [1] (by simp) rfl) ⟨rfl, _, rfl, fun h => by cases h⟩
      · have h1' : ¬ (a.id + x) % 18446744073709551616 < x := by simp at h1; omega
        refine awp_skip ?_
        repeat (with_reducible refine nx_block_normal ?_)
        refine nx_cut () (by unfold errQ; rw [if_pos h0, if_neg h1']) Kn.nil ?_
        rw [show putQ c a e x = { e with id := (a.id + x) % 18446744073709551616 } by unfold putQ; rw [if_pos h0]]
        exact HLe.pick [1] (by simp) rfl
    have h0 : c ≠ 0 := by simp at h; omega
    refine awp_cut (ι := Unit) (fun _ => [(0, iq c), (1, iq i), (3, ptr g (k * 4)), (4, uq x), (7, ptr g1 0), (62, .bool (decide (c = 1 ∨ c = 2)))]) (fun _ => [.own g1 51 a.cells, .own g 51 (ecells M)]) (fun _ => True) ?_ ?_
    · refine awp_seq_region (fun Z hZ => ?_)
      first | refine sx_eql rfl rfl rfl ?_ | refine sx_seql rfl rfl rfl ?_
      refine sx_assign rfl rfl ?_
      refine sx_nil (hZ _ _ ?_)
      refine awp_forget [(0, _), (1, _), (3, _), (4, _), (7, _), (11, _), (62, _)] (Kn.cons rfl (Kn.cons rfl (Kn.cons rfl (Kn.cons rfl (Kn.cons rfl (Kn.cons rfl (Kn.cons rfl (Kn.nil)))))))) ?_
      first | refine awp_cond rfl (fun h1 => ?_) (fun h1 => ?_) | refine awp_seq (awp_cond rfl (fun h1 => ?_) (fun h1 => ?_))
      · have h1' : c = 1 := by simp at h1; omega
        refine awp_skip ?_
        exact nx_cut () trivial (Kn.cons rfl (Kn.cons rfl (Kn.cons rfl (Kn.cons rfl (Kn.cons rfl (Kn.cons (congrArg some (congrArg Value.bool (by rw [Bool.eq_iff_iff]; simp; omega))) Kn.nil)))))) (HLe.refl _)
      · have h1' : c ≠ 1 := by simp at h1; omega
        refine awp_region (fun Z hZ => ?_)
        first | refine sx_eql rfl rfl rfl ?_ | refine sx_seql rfl rfl rfl ?_
        refine sx_assign rfl rfl ?_
        refine sx_nil (hZ _ _ ?_)
        refine nx_forget [(0, _), (1, _), (3, _), (4, _), (7, _), (62, _)] (Kn.cons rfl (Kn.cons rfl (Kn.cons rfl (Kn.cons rfl (Kn.cons rfl (Kn.cons rfl (Kn.nil))))))) ?_
        exact nx_cut () trivial (Kn.cons rfl (Kn.cons rfl (Kn.cons rfl (Kn.cons rfl (Kn.cons rfl (Kn.cons (congrArg some (congrArg Value.bool (by rw [Bool.eq_iff_iff]; simp; omega))) Kn.nil)))))) (HLe.refl _)
    rintro ⟨⟩ -
    first | refine awp_cond rfl (fun h2 => ?_) (fun h2 => ?_) | refine awp_seq (awp_cond rfl (fun h2 => ?_) (fun h2 => ?_))
    · have h2' : c = 1 ∨ c = 2 := by simpa using h2
      refine awp_seq ?_
      refine awp_seq_region (fun Z hZ => ?_)
      refine sx_move rfl rfl ?_
      first | refine sx_geq rfl rfl rfl ?_ | refine sx_sgeq rfl rfl rfl ?_
      refine sx_nil (hZ _ _ ?_)
      refine awp_forget [(0, _), (3, _), (4, _), (66, _)] (Kn.cons rfl (Kn.cons rfl (Kn.cons rfl (Kn.cons rfl (Kn.nil))))) ?_
      first | refine awp_cond rfl (fun h3 => ?_) (fun h3 => ?_) | refine awp_seq (awp_cond rfl (fun h3 => ?_) (fun h3 => ?_))
      · have h3' : 4294967296 ≤ x := by simp at h3; omega
        have hee : errQ c i a x = 11 := by unfold errQ; rw [if_neg h0, if_pos h2', if_pos h3']
        rw [hee]
        refine awp_seq_region (fun Z hZ => ?_)
        refine sx_assign rfl rfl ?_
        refine sx_nil (hZ _ _ ?_)
        refine awp_forget [(10, _)] (Kn.cons rfl (Kn.nil)) ?_
        refine awp_ret ?_
        repeat (with_reducible (first | refine nx_then_ret ?_ | refine nx_block_ret ?_ | refine nx_scope_ret ?_))
        exact nx_ret1h _ rfl rfl (HLe.pick [1] (by simp) rfl) ⟨rfl, _, rfl, fun h => by cases h⟩
      have h3' : ¬ 4294967296 ≤ x := by simp at h3; omega
      have hee : errQ c i a x = 0 := by unfold errQ; rw [if_neg h0, if_pos h2', if_neg h3']
      refine awp_skip ?_
      repeat (with_reducible (first | refine nx_block_normal ?_ | refine nx_scope_normal ?_))
      with_reducible first | refine nx_normal ?_ | refine nx_normalM ?_
      refine awp_seq_region (fun Z hZ => ?_)
      refine sx_move rfl rfl ?_
      first | refine sx_eql rfl rfl rfl ?_ | refine sx_seql rfl rfl rfl ?_
      refine sx_nil (hZ _ _ ?_)
      refine awp_forget [(3, _), (4, _), (68, _)] (Kn.cons rfl (Kn.cons rfl (Kn.cons rfl (Kn.nil)))) ?_
      first | refine awp_cond rfl (fun h4 => ?_) (fun h4 => ?_) | refine awp_seq (awp_cond rfl (fun h4 => ?_) (fun h4 => ?_))
      · have h4' : c = 1 := by simp at h4; omega
        refine awp_region (fun Z hZ => ?_)
        refine sx_move rfl rfl ?_
        refine sx_move rfl rfl ?_
        refine sx_conv Try.underlying48 Try.underlying49 rfl ((x % 4294967296 : Nat) : Int) (u32_w x) rfl ?_
        refine sx_nilCheck rfl rfl ?_
        refine sx_fieldAddr rfl tyF51_3 (by first | (simp only [Nat.reduceAdd, Nat.add_zero, Nat.zero_add]; first | done | rfl) | rfl) rfl ?_
        refine sx_store1 1 rfl rfl rfl tyS49 rfl (ecells_ble he (j := 3) (by omega)) (set_run he _) rfl ?_
        refine sx_nil (hZ _ _ ?_)
        refine nx_forget [] (Kn.nil) ?_
        repeat (with_reducible refine nx_block_normal ?_)
        refine nx_cut () hee Kn.nil ?_
        rw [show putQ c a e x = { e with run := x % 4294967296 } by unfold putQ; rw [if_neg h0, if_pos h4']]
        exact HLe.pick [1] (by simp) rfl
      · have h4' : c ≠ 1 := by simp at h4; omega
        refine awp_region (fun Z hZ => ?_)
        refine sx_move rfl rfl ?_
        refine sx_move rfl rfl ?_
        refine sx_conv Try.underlying48 Try.underlying49 rfl ((x % 4294967296 : Nat) : Int) (u32_w x) rfl ?_
        refine sx_nilCheck rfl rfl ?_
        refine sx_fieldAddr rfl tyF51_2 (by first | (simp only [Nat.reduceAdd, Nat.add_zero, Nat.zero_add]; first | done | rfl) | rfl) rfl ?_
        refine sx_store1 1 rfl rfl rfl tyS49 rfl (ecells_ble he (j := 2) (by omega)) (set_len he _) rfl ?_
        refine sx_nil (hZ _ _ ?_)
        refine nx_forget [] (Kn.nil) ?_
        repeat (with_reducible refine nx_block_normal ?_)
        refine nx_cut () hee Kn.nil ?_
        rw [show putQ c a e x = { e with len := x % 4294967296 } by unfold putQ; rw [if_neg h0, if_neg h4', if_pos (by omega)]]
        exact HLe.pick [1] (by simp) rfl
    have h2' : ¬ (c = 1 ∨ c = 2) := by simpa using h2
    have hput : putQ c a e x = { e with off := if x = 0 then a.next else x - 1 } := by unfold putQ; rw [if_neg h0, if_neg (by omega), if_neg (by omega)]
    obtain ⟨z, hz⟩ : ∃ z, (if x = 0 then 18446744073709551615 else x - 1) = z := ⟨_, rfl⟩
    have hzx : x = 0 ∨ z + 1 = x := by rw [← hz]; split <;> omega
    have e1 : (M.set k { e with off := z })[k]? = some { e with off := z } := at_set he
    refine awp_seq_region (fun Z hZ => ?_)
    refine sx_move rfl rfl ?_
    refine sx_move rfl rfl ?_
    refine sx_sub rfl rfl ((z : Nat) : Int) (by rw [u64_1 hx, hz]) rfl ?_
    refine sx_nilCheck rfl rfl ?_
    refine sx_fieldAddr rfl tyF51_1 (by first | (simp only [Nat.reduceAdd, Nat.add_zero, Nat.zero_add]; first | done | rfl) | rfl) rfl ?_
    refine sx_store1 1 rfl rfl rfl tyS48 rfl (ecells_ble he (j := 1) (by omega)) (set_off he _) rfl ?_
    refine sx_nil (hZ _ _ ?_)
    refine awp_forget [(1, _), (3, _), (4, _), (7, _)] (Kn.cons rfl (Kn.cons rfl (Kn.cons rfl (Kn.cons rfl (Kn.nil))))) ?_
    clear hz
    refine awp_seq ?_
    refine awq_seq_meet [(3, ptr g (k * 4)), (4, uq x), (7, ptr g1 0), (39, .bool (decide (i = 0 ∧ x = 0 ∨ 0 < i ∧ 0 < x ∧ x - 1 = a.next)))] [.own g1 51 a.cells, .own g 51 (ecells (M.set k { e with off := z }))] mixed (by kernel_rfl) (fun Z hZ => ?_) ?_
    · refine sq_move rfl rfl ?_
      first | refine sq_eql rfl rfl rfl ?_ | refine sq_seql rfl rfl rfl ?_
      refine sq_move rfl rfl ?_
      refine sq_split 19 rfl (fun hb2 => ?_) (fun hb2 => ?_)
      · refine sq_on rfl rfl rfl ?_
        refine sq_move rfl rfl ?_
        refine sq_on rfl rfl rfl ?_
        first | refine sq_eql rfl rfl rfl ?_ | refine sq_seql rfl rfl rfl ?_
        refine sq_pick rfl rfl rfl ?_
        refine sq_move rfl rfl ?_
        refine sq_split 23 rfl (fun hb6 => ?_) (fun hb6 => ?_)
        · refine sq_off rfl rfl rfl rfl rfl ?_
          refine sq_off rfl rfl rfl rfl rfl ?_
          refine sq_off rfl rfl rfl rfl rfl ?_
          refine sq_offU rfl rfl rfl rfl ?_
          refine sq_offU rfl rfl rfl rfl ?_
          refine sq_off rfl rfl rfl rfl rfl ?_
          refine sq_off rfl rfl rfl rfl rfl ?_
          refine sq_offU rfl rfl rfl rfl ?_
          refine sq_offU rfl rfl rfl rfl ?_
          refine sq_offU rfl rfl rfl rfl ?_
          refine sq_offU rfl rfl rfl rfl ?_
          refine sq_offU rfl rfl rfl rfl ?_
          refine sq_offU rfl rfl rfl rfl ?_
          refine sq_offU rfl rfl rfl rfl ?_
          refine sq_off rfl rfl rfl rfl rfl ?_
          refine sq_pick rfl rfl rfl ?_
          refine sq_nil (hZ _ _ ?_ ?_)
          · exact Kn.cons rfl (Kn.cons rfl (Kn.cons rfl (Kn.cons (congrArg some (congrArg Value.bool (by first | (simp at *; done) | (simp at *; omega) | (simp at *; rw [Bool.eq_iff_iff]; simp; omega)))) Kn.nil)))
          · exact HLe.refl _
        · refine sq_on rfl rfl rfl ?_
          refine sq_move rfl rfl ?_
          refine sq_on rfl rfl rfl ?_
          first | refine sq_gtr rfl rfl rfl ?_ | refine sq_sgtr rfl rfl rfl ?_
          refine sq_on rfl rfl rfl ?_
          refine sq_move rfl rfl ?_
          refine sq_split 26 rfl (fun hb9 => ?_) (fun hb9 => ?_)
          · refine sq_on rfl rfl rfl ?_
            refine sq_move rfl rfl ?_
            refine sq_on rfl rfl rfl ?_
            first | refine sq_gtr rfl rfl rfl ?_ | refine sq_sgtr rfl rfl rfl ?_
            refine sq_on rfl rfl rfl ?_
            refine sq_pick rfl rfl rfl ?_
            refine sq_on rfl rfl rfl ?_
            refine sq_move rfl rfl ?_
            refine sq_split 30 rfl (fun hb13 => ?_) (fun hb13 => ?_)
            · refine sq_on rfl rfl rfl ?_
              refine sq_move rfl rfl ?_
              refine sq_on rfl rfl rfl ?_
              refine sq_nilCheck rfl rfl ?_
              refine sq_on rfl rfl rfl ?_
              refine sq_fieldAddr rfl tyF51_1 (by first | (simp only [Nat.reduceAdd, Nat.add_zero, Nat.zero_add]; first | done | rfl) | rfl) rfl ?_
              refine sq_on rfl rfl rfl ?_
              refine sq_load 1 rfl rfl tyA48 tyS48 (rd_off e1) rfl ?_
              refine sq_on rfl rfl rfl ?_
              first | refine sq_loadA 0 rfl rfl tyA51 tyS51 (by first | (simp only [List.length_cons, List.length_nil, Nat.reduceAdd, Nat.zero_add, Nat.add_zero]; first | done | rfl) | rfl) (by first | (simp only [List.take_succ_cons, List.take_zero, List.drop_succ_cons, List.drop_zero, List.cons_append, List.nil_append, List.append_nil, List.length_cons, List.length_nil, Nat.reduceAdd, Nat.zero_add, Nat.add_zero, Value.cells, wrV]; first | done | rfl) | rfl) rfl ?_ | refine sq_loadA 1 rfl rfl tyA51 tyS51 (by first | (simp only [List.length_cons, List.length_nil, Nat.reduceAdd, Nat.zero_add, Nat.add_zero]; first | done | rfl) | rfl) (by first | (simp only [List.take_succ_cons, List.take_zero, List.drop_succ_cons, List.drop_zero, List.cons_append, List.nil_append, List.append_nil, List.length_cons, List.length_nil, Nat.reduceAdd, Nat.zero_add, Nat.add_zero, Value.cells, wrV]; first | done | rfl) | rfl) rfl ?_
              refine sq_on rfl rfl rfl ?_
              refine sq_callP (dnext_fn a hao) rfl rfl ?_
              refine sq_on rfl rfl rfl ?_
              first | refine sq_eql rfl rfl rfl ?_ | refine sq_seql rfl rfl rfl ?_
              refine sq_on rfl rfl rfl ?_
              refine sq_pick rfl rfl rfl ?_
              refine sq_pick rfl rfl rfl ?_
              refine sq_nil (hZ _ _ ?_ ?_)
              · exact Kn.cons rfl (Kn.cons rfl (Kn.cons rfl (Kn.cons (congrArg some (congrArg Value.bool (by first | (simp at *; done) | (simp at *; omega) | (simp at *; rw [Bool.eq_iff_iff]; simp; omega)))) Kn.nil)))
              · exact HLe.refl _
            · refine sq_off rfl rfl rfl rfl rfl ?_
              refine sq_off rfl rfl rfl rfl rfl ?_
              refine sq_off rfl rfl rfl rfl rfl ?_
              refine sq_off rfl rfl rfl rfl rfl ?_
              refine sq_off rfl rfl rfl rfl rfl ?_
              refine sq_off rfl rfl rfl rfl rfl ?_
              refine sq_off rfl rfl rfl rfl rfl ?_
              refine sq_on rfl rfl rfl ?_
              refine sq_pick rfl rfl rfl ?_
              refine sq_pick rfl rfl rfl ?_
              refine sq_nil (hZ _ _ ?_ ?_)
              · exact Kn.cons rfl (Kn.cons rfl (Kn.cons rfl (Kn.cons (congrArg some (congrArg Value.bool (by first | (simp at *; done) | (simp at *; omega) | (simp at *; rw [Bool.eq_iff_iff]; simp; omega)))) Kn.nil)))
              · exact HLe.refl _
          · refine sq_off rfl rfl rfl rfl rfl ?_
            refine sq_off rfl rfl rfl rfl rfl ?_
            refine sq_on rfl rfl rfl ?_
            refine sq_pick rfl rfl rfl ?_
            refine sq_on rfl rfl rfl ?_
            refine sq_move rfl rfl ?_
            refine sq_off rfl rfl rfl rfl rfl ?_
            refine sq_off rfl rfl rfl rfl rfl ?_
            refine sq_off rfl rfl rfl rfl rfl ?_
            refine sq_off rfl rfl rfl rfl rfl ?_
            refine sq_off rfl rfl rfl rfl rfl ?_
            refine sq_off rfl rfl rfl rfl rfl ?_
            refine sq_off rfl rfl rfl rfl rfl ?_
            refine sq_on rfl rfl rfl ?_
            refine sq_pick rfl rfl rfl ?_
            refine sq_pick rfl rfl rfl ?_
            refine sq_nil (hZ _ _ ?_ ?_)
            · exact Kn.cons rfl (Kn.cons rfl (Kn.cons rfl (Kn.cons (congrArg some (congrArg Value.bool (by first | (simp at *; done) | (simp at *; omega) | (simp at *; rw [Bool.eq_iff_iff]; simp; omega)))) Kn.nil)))
            · exact HLe.refl _
      · refine sq_off rfl rfl rfl rfl rfl ?_
        refine sq_off rfl rfl rfl rfl rfl ?_
        refine sq_pick rfl rfl rfl ?_
        refine sq_move rfl rfl ?_
        refine sq_on rfl rfl rfl ?_
        refine sq_move rfl rfl ?_
        refine sq_on rfl rfl rfl ?_
        first | refine sq_gtr rfl rfl rfl ?_ | refine sq_sgtr rfl rfl rfl ?_
        refine sq_on rfl rfl rfl ?_
        refine sq_move rfl rfl ?_
        refine sq_split 26 rfl (fun hb9 => ?_) (fun hb9 => ?_)
        · refine sq_on rfl rfl rfl ?_
          refine sq_move rfl rfl ?_
          refine sq_on rfl rfl rfl ?_
          first | refine sq_gtr rfl rfl rfl ?_ | refine sq_sgtr rfl rfl rfl ?_
          refine sq_on rfl rfl rfl ?_
          refine sq_pick rfl rfl rfl ?_
          refine sq_on rfl rfl rfl ?_
          refine sq_move rfl rfl ?_
          refine sq_split 30 rfl (fun hb13 => ?_) (fun hb13 => ?_)
          · refine sq_on rfl rfl rfl ?_
            refine sq_move rfl rfl ?_
            refine sq_on rfl rfl rfl ?_
            refine sq_nilCheck rfl rfl ?_
            refine sq_on rfl rfl rfl ?_
            refine sq_fieldAddr rfl tyF51_1 (by first | (simp only [Nat.reduceAdd, Nat.add_zero, Nat.zero_add]; first | done | rfl) | rfl) rfl ?_
            refine sq_on rfl rfl rfl ?_
            refine sq_load 1 rfl rfl tyA48 tyS48 (rd_off e1) rfl ?_
            refine sq_on rfl rfl rfl ?_
            first | refine sq_loadA 0 rfl rfl tyA51 tyS51 (by first | (simp only [List.length_cons, List.length_nil, Nat.reduceAdd, Nat.zero_add, Nat.add_zero]; first | done | rfl) | rfl) (by first | (simp only [List.take_succ_cons, List.take_zero, List.drop_succ_cons, List.drop_zero, List.cons_append, List.nil_append, List.append_nil, List.length_cons, List.length_nil, Nat.reduceAdd, Nat.zero_add, Nat.add_zero, Value.cells, wrV]; first | done | rfl) | rfl) rfl ?_ | refine sq_loadA 1 rfl rfl tyA51 tyS51 (by first | (simp only [List.length_cons, List.length_nil, Nat.reduceAdd, Nat.zero_add, Nat.add_zero]; first | done | rfl) | rfl) (by first | (simp only [List.take_succ_cons, List.take_zero, List.drop_succ_cons, List.drop_zero, List.cons_append, List.nil_append, List.append_nil, List.length_cons, List.length_nil, Nat.reduceAdd, Nat.zero_add, Nat.add_zero, Value.cells, wrV]; first | done | rfl) | rfl) rfl ?_
            refine sq_on rfl rfl rfl ?_
            refine sq_callP (dnext_fn a hao) rfl rfl ?_
            refine sq_on rfl rfl rfl ?_
            first | refine sq_eql rfl rfl rfl ?_ | refine sq_seql rfl rfl rfl ?_
            refine sq_on rfl rfl rfl ?_
            refine sq_pick rfl rfl rfl ?_
            refine sq_pick rfl rfl rfl ?_
            refine sq_nil (hZ _ _ ?_ ?_)
            · exact Kn.cons rfl (Kn.cons rfl (Kn.cons rfl (Kn.cons (congrArg some (congrArg Value.bool (by first | (simp at *; done) | (simp at *; omega) | (simp at *; rw [Bool.eq_iff_iff]; simp; omega)))) Kn.nil)))
            · exact HLe.refl _
          · refine sq_off rfl rfl rfl rfl rfl ?_
            refine sq_off rfl rfl rfl rfl rfl ?_
            refine sq_off rfl rfl rfl rfl rfl ?_
            refine sq_off rfl rfl rfl rfl rfl ?_
            refine sq_off rfl rfl rfl rfl rfl ?_
            refine sq_off rfl rfl rfl rfl rfl ?_
            refine sq_off rfl rfl rfl rfl rfl ?_
            refine sq_on rfl rfl rfl ?_
            refine sq_pick rfl rfl rfl ?_
            refine sq_pick rfl rfl rfl ?_
            refine sq_nil (hZ _ _ ?_ ?_)
            · exact Kn.cons rfl (Kn.cons rfl (Kn.cons rfl (Kn.cons (congrArg some (congrArg Value.bool (by first | (simp at *; done) | (simp at *; omega) | (simp at *; rw [Bool.eq_iff_iff]; simp; omega)))) Kn.nil)))
            · exact HLe.refl _
        · refine sq_off rfl rfl rfl rfl rfl ?_
          refine sq_off rfl rfl rfl rfl rfl ?_
          refine sq_on rfl rfl rfl ?_
          refine sq_pick rfl rfl rfl ?_
          refine sq_on rfl rfl rfl ?_
          refine sq_move rfl rfl ?_
          refine sq_off rfl rfl rfl rfl rfl ?_
          refine sq_off rfl rfl rfl rfl rfl ?_
          refine sq_off rfl rfl rfl rfl rfl ?_
          refine sq_off rfl rfl rfl rfl rfl ?_
          refine sq_off rfl rfl rfl rfl rfl ?_
          refine sq_off rfl rfl rfl rfl rfl ?_
          refine sq_off rfl rfl rfl rfl rfl ?_
          refine sq_on rfl rfl rfl ?_
          refine sq_pick rfl rfl rfl ?_
          refine sq_pick rfl rfl rfl ?_
          refine sq_nil (hZ _ _ ?_ ?_)
          · exact Kn.cons rfl (Kn.cons rfl (Kn.cons rfl (Kn.cons (congrArg some (congrArg Value.bool (by first | (simp at *; done) | (simp at *; omega) | (simp at *; rw [Bool.eq_iff_iff]; simp; omega)))) Kn.nil)))
          · exact HLe.refl _
    first | refine awp_cond rfl (fun h3 => ?_) (fun h3 => ?_) | refine awp_seq (awp_cond rfl (fun h3 => ?_) (fun h3 => ?_))
    · have h3' : i = 0 ∧ x = 0 ∨ 0 < i ∧ 0 < x ∧ x - 1 = a.next := by simpa using h3
      have hee : errQ c i a x = 4 := by unfold errQ; rw [if_neg h0, if_neg h2', if_pos h3']
      rw [hee]
      refine awp_seq_region (fun Z hZ => ?_)
      refine sx_assign rfl rfl ?_
      refine sx_nil (hZ _ _ ?_)
      refine awp_forget [(10, _)] (Kn.cons rfl (Kn.nil)) ?_
      refine awp_ret ?_
      repeat (with_reducible (first | refine nx_then_ret ?_ | refine nx_block_ret ?_ | refine nx_scope_ret ?_))
      exact nx_ret1h _ rfl rfl (HLe.pick [1] (by simp) rfl) ⟨rfl, _, rfl, fun h => by cases h⟩
    have h3' : ¬ (i = 0 ∧ x = 0 ∨ 0 < i ∧ 0 < x ∧ x - 1 = a.next) := by simpa using h3
    have hee : errQ c i a x = 0 := by unfold errQ; rw [if_neg h0, if_neg h2', if_neg h3']
    rw [hput]
    refine awp_skip ?_
    repeat (with_reducible (first | refine nx_block_normal ?_ | refine nx_scope_normal ?_))
    with_reducible first | refine nx_normal ?_ | refine nx_normalM ?_
    refine awp_seq_region (fun Z hZ => ?_)
    refine sx_move rfl rfl ?_
    first | refine sx_eql rfl rfl rfl ?_ | refine sx_seql rfl rfl rfl ?_
    refine sx_nil (hZ _ _ ?_)
    refine awp_forget [(3, _), (7, _), (41, _)] (Kn.cons rfl (Kn.cons rfl (Kn.cons rfl (Kn.nil)))) ?_
    first | refine awp_cond rfl (fun h4 => ?_) (fun h4 => ?_) | refine awp_seq (awp_cond rfl (fun h4 => ?_) (fun h4 => ?_))
    · have h4' : x = 0 := by simp at h4; omega
      rw [if_pos h4']
      refine awp_region (fun Z hZ => ?_)
      refine sx_move rfl rfl ?_
      first | refine sx_loadA 0 rfl rfl tyA51 tyS51 (by first | (simp only [List.length_cons, List.length_nil, Nat.reduceAdd, Nat.zero_add, Nat.add_zero]; first | done | rfl) | rfl) (by first | (simp only [List.take_succ_cons, List.take_zero, List.drop_succ_cons, List.drop_zero, List.cons_append, List.nil_append, List.append_nil, List.length_cons, List.length_nil, Nat.reduceAdd, Nat.zero_add, Nat.add_zero, Value.cells, wrV]; first | done | rfl) | rfl) rfl ?_ | refine sx_loadA 1 rfl rfl tyA51 tyS51 (by first | (simp only [List.length_cons, List.length_nil, Nat.reduceAdd, Nat.zero_add, Nat.add_zero]; first | done | rfl) | rfl) (by first | (simp only [List.take_succ_cons, List.take_zero, List.drop_succ_cons, List.drop_zero, List.cons_append, List.nil_append, List.append_nil, List.length_cons, List.length_nil, Nat.reduceAdd, Nat.zero_add, Nat.add_zero, Value.cells, wrV]; first | done | rfl) | rfl) rfl ?_
      refine sx_callP (dnext_fn a hao) rfl rfl ?_
      refine sx_nilCheck rfl rfl ?_
      refine sx_fieldAddr rfl tyF51_1 (by first | (simp only [Nat.reduceAdd, Nat.add_zero, Nat.zero_add]; first | done | rfl) | rfl) rfl ?_
      refine sx_store1 1 rfl rfl rfl tyS48 rfl (ecells_ble e1 (j := 1) (by omega)) (set_off e1 _) rfl ?_
      refine sx_nil (hZ _ _ ?_)
      refine nx_forget [] (Kn.nil) ?_
      repeat (with_reducible refine nx_block_normal ?_)
      refine nx_cut () hee Kn.nil ?_
      rw [List.set_set]
      exact HLe.pick [1] (by simp) rfl
    · have h4' : x ≠ 0 := by simp at h4; omega
      rw [if_neg h4', show x - 1 = z by omega]
      refine awp_skip ?_
      repeat (with_reducible refine nx_block_normal ?_)
      exact nx_cut () hee Kn.nil (HLe.pick [1] (by simp) rfl)
  · rintro ⟨⟩ hee
    repeat (with_reducible (first | refine nx_block_normal ?_ | refine nx_scope_normal ?_))
    with_reducible first | refine nx_normal ?_ | refine nx_normalM ?_
    rw [hee]

    refine awp_seq_region (fun Z hZ => ?_)
    refine sx_assign rfl rfl ?_
    refine sx_nil (hZ _ _ ?_)
    refine awp_forget [(10, _)] (Kn.cons rfl (Kn.nil)) ?_
    refine awp_ret ?_
    repeat (with_reducible (first | refine nx_then_ret ?_ | refine nx_block_ret ?_ | refine nx_scope_ret ?_))
    exact nx_ret1h _ rfl rfl (HLe.refl _) ⟨rfl, _, rfl, fun _ => rfl⟩
end Go.Proofs.Ytfffhnefjaomnaa
