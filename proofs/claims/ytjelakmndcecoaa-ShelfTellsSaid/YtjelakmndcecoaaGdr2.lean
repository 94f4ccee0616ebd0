/- The walk of dirs.set: one number of a directory. Conditions: the list is not too long. The walks of the document's answer for directories: wrong and put. Conditions: the list is not too long. The walk of dirs.Decode. Conditions: the text is not too long. The walk of the document's Decode for directories. Conditions: the text is not too long. -/
import Derived.Test.YtjelakmndcecoaaGdr1
import Derived.Test.YtjelakmndcecoaaGsx5
namespace Go.Proofs.Ytjelakmndcecoaa
open Go.RowKit
set_option linter.unusedVariables false
set_option linter.unusedSimpArgs false
/-- What is wrong with a number in a column, behind an entry. -/
def errQ (c i : Nat) (a : En) (x : Nat) : Nat :=
  if c = 0 then (if (a.id + x) % 18446744073709551616 < x then 11 else 0)
  else if c = 1 ∨ c = 2 then (if 4294967296 ≤ x then 11 else 0)
  else if i = 0 ∧ x = 0 ∨ 0 < i ∧ 0 < x ∧ x - 1 = a.next then 4 else 0
def putQ (c : Nat) (a e : En) (x : Nat) : En :=
  if c = 0 then { e with id := (a.id + x) % 18446744073709551616 }
  else if c = 1 then { e with run := x % 4294967296 }
  else if c = 2 then { e with len := x % 4294967296 }
  else { e with off := if x = 0 then a.next else x - 1 }
theorem next_lt (e : En) : e.next < 18446744073709551616 := by simp only [En.next]; omega
theorem putQ_ok {c x : Nat} {a e : En} (he : e.ok) (hx : x < 18446744073709551616) : (putQ c a e x).ok := by
  obtain ⟨h1, h2, h3, h4⟩ := he
  have := next_lt a
  unfold putQ
  split
  · exact ⟨by show _ % _ < _; omega, h2, h3, h4⟩
  split
  · exact ⟨h1, h2, h3, by show _ % _ < _; omega⟩
  split
  · exact ⟨h1, h2, by show _ % _ < _; omega, h4⟩
  · exact ⟨h1, by show (if x = 0 then a.next else x - 1) < _; split <;> omega, h3, h4⟩
theorem set_id {M : List En} {k : Nat} {e : En} (h : M[k]? = some e) (y : Nat) : (ecells M).set (k * 4) (uq y) = ecells (M.set k { e with id := y }) := fm_set (x := e) (y := { e with id := y }) (j := 0) en_len rfl (by omega) h
theorem set_off {M : List En} {k : Nat} {e : En} (h : M[k]? = some e) (y : Nat) : (ecells M).set (k * 4 + 1) (uq y) = ecells (M.set k { e with off := y }) := fm_set (x := e) (y := { e with off := y }) (j := 1) en_len rfl (by omega) h
theorem set_len {M : List En} {k : Nat} {e : En} (h : M[k]? = some e) (y : Nat) : (ecells M).set (k * 4 + 2) (wq4 y) = ecells (M.set k { e with len := y }) := fm_set (x := e) (y := { e with len := y }) (j := 2) en_len rfl (by omega) h
theorem set_run {M : List En} {k : Nat} {e : En} (h : M[k]? = some e) (y : Nat) : (ecells M).set (k * 4 + 3) (wq4 y) = ecells (M.set k { e with run := y }) := fm_set (x := e) (y := { e with run := y }) (j := 3) en_len rfl (by omega) h
theorem rd_id {M : List En} {k : Nat} {e : En} (h : M[k]? = some e) : rdV false 1 (ecells M) (k * 4) = some (uq e.id) := by have := fm_rd1 (j := 0) en_len h rfl; simpa using this
theorem rd_off {M : List En} {k : Nat} {e : En} (h : M[k]? = some e) : rdV false 1 (ecells M) (k * 4 + 1) = some (uq e.off) := fm_rd1 (j := 1) en_len h rfl
theorem rd_len {M : List En} {k : Nat} {e : En} (h : M[k]? = some e) : rdV false 1 (ecells M) (k * 4 + 2) = some (wq4 e.len) := fm_rd1 (j := 2) en_len h rfl
theorem at_set {M : List En} {k : Nat} {e y : En} (h : M[k]? = some e) : (M.set k y)[k]? = some y := by
  have := (List.getElem?_eq_some_iff.1 h).1
  simp [this]
theorem ecells_ble {M : List En} {k : Nat} {e : En} (h : M[k]? = some e) {j : Nat} (hj : j < 4) : Nat.ble (k * 4 + j + 1) (ecells M).length = true := by
  have := (List.getElem?_eq_some_iff.1 h).1
  rw [ecells_len]
  exact ble_of (by omega)
theorem u64_1 {x : Nat} (h : x < 18446744073709551616) : IntKind.u64.wrap ((x : Int) - 1) = ((if x = 0 then 18446744073709551615 else x - 1 : Nat) : Int) := by
  have : IntKind.u64.wrap ((x : Int) - 1) = ((x : Int) - 1) % 18446744073709551616 := by simp [IntKind.wrap, IntKind.bits, IntKind.signed]
  rw [this]
  split <;> omega
theorem u32_w (x : Nat) : IntKind.u32.wrap (x : Int) = ((x % 4294967296 : Nat) : Int) := by simp [IntKind.wrap, IntKind.bits, IntKind.signed]
theorem dset_fn (c i k g : Nat) (a e : En) (x : Nat) (M : List En) (hc : c < 4) (hi : i ≤ 1000000) (ha : a.ok) (hx : x < 18446744073709551616) (he : M[k]? = some e) :
    Fn Try.prog 34 [iq c, iq i, a.val, ptr g (k * 4), uq x] [.own g 65 (ecells M)] fun v H' => v = iq (errQ c i a x) ∧ ∃ M' : List En, H' = [.own g 65 (ecells M')] ∧ (errQ c i a x = 0 → M' = M.set k (putQ c a e x)) := by
  have hao := ha
  obtain ⟨a1, a2, a3, a4⟩ := ha
  have hn := next_lt a
  refine Fn.enter (N := 79) Try.func34 rfl (by kernel_rfl) rfl (fun w0 => ?_)

  refine awp_seq_region (fun Z hZ => ?_)
  refine sx_box rfl rfl rfl (fun g1 => ?_)
  refine sx_assign rfl rfl ?_
  refine sx_nil (hZ _ _ ?_)
  refine awp_forget [(0, _), (1, _), (3, _), (4, _), (7, _)] (Kn.cons rfl (Kn.cons rfl (Kn.cons rfl (Kn.cons rfl (Kn.cons rfl (Kn.nil)))))) ?_
  refine awp_seq ?_
  refine awp_seq_region (fun Z hZ => ?_)
  refine sx_move rfl rfl ?_
  refine sx_nil (hZ _ _ ?_)
  refine awp_forget [(0, _), (1, _), (3, _), (4, _), (7, _), (11, _)] (Kn.cons rfl (Kn.cons rfl (Kn.cons rfl (Kn.cons rfl (Kn.cons rfl (Kn.cons rfl (Kn.nil))))))) ?_
  refine awp_meet (ι := Unit) (fun _ => []) (fun _ => [.own g 65 (ecells (M.set k (putQ c a e x)))]) (fun _ => errQ c i a x = 0) ?_ ?_
  · refine awp_block ?_

    refine awp_seq_region (fun Z hZ => ?_)
    refine sx_eql rfl rfl rfl ?_
    refine sx_assign rfl rfl ?_
    refine sx_nil (hZ _ _ ?_)
    refine awp_forget [(0, _), (1, _), (3, _), (4, _), (7, _), (11, _), (47, _)] (Kn.cons rfl (Kn.cons rfl (Kn.cons rfl (Kn.cons rfl (Kn.cons rfl (Kn.cons rfl (Kn.cons rfl (Kn.nil)))))))) ?_
    refine awp_cond rfl (fun h => ?_) (fun h => ?_)
    · have h0 : c = 0 := by simp at h; omega
      refine awp_seq_region (fun Z hZ => ?_)
      refine sx_move rfl rfl ?_
      refine sx_fieldAddr rfl tyF65_0 (by first | (simp only [Nat.reduceAdd, Nat.add_zero, Nat.zero_add]; first | done | rfl) | rfl) rfl ?_
      refine sx_load 0 rfl rfl tyA35 tyS35 rfl rfl ?_
      refine sx_move rfl rfl ?_
      refine sx_add rfl rfl (((a.id + x) % 18446744073709551616 : Nat) : Int) (by rw [← Int.natCast_add, u64_w]) rfl ?_
      refine sx_nilCheck rfl rfl ?_
      refine sx_fieldAddr rfl tyF65_0 (by first | (simp only [Nat.reduceAdd, Nat.add_zero, Nat.zero_add]; first | done | rfl) | rfl) rfl ?_
      refine sx_store1 1 rfl rfl rfl tyS35 rfl (ecells_ble he (j := 0) (by omega)) (set_id he _) rfl ?_
      refine sx_nil (hZ _ _ ?_)
      refine awp_forget [(3, _), (4, _)] (Kn.cons rfl (Kn.cons rfl (Kn.nil))) ?_
      refine awp_seq_region (fun Z hZ => ?_)
      refine sx_move rfl rfl ?_
      refine sx_nilCheck rfl rfl ?_
      refine sx_fieldAddr rfl tyF65_0 (by first | (simp only [Nat.reduceAdd, Nat.add_zero, Nat.zero_add]; first | done | rfl) | rfl) rfl ?_
      refine sx_load 1 rfl rfl tyA35 tyS35 (rd_id (at_set he)) rfl ?_
      refine sx_move rfl rfl ?_
      refine sx_lss rfl rfl rfl ?_
      refine sx_nil (hZ _ _ ?_)
      refine awp_forget [(61, _)] (Kn.cons rfl (Kn.nil)) ?_
      refine awp_cond rfl (fun h1 => ?_) (fun h1 => ?_)
      · have h1' : (a.id + x) % 18446744073709551616 < x := by simp at h1; omega
        have hee : errQ c i a x = 11 := by unfold errQ; rw [if_pos h0, if_pos h1']
        rw [hee]
        refine awp_seq_region (fun Z hZ => ?_)
        refine sx_assign rfl rfl ?_
        refine sx_nil (hZ _ _ ?_)
        refine awp_forget [(10, _)] (Kn.cons rfl (Kn.nil)) ?_
        refine awp_ret ?_
        repeat (with_reducible (first | refine nx_then_ret ?_ | refine nx_block_ret ?_))
        exact nx_ret1h _ rfl rfl (HLe.pick [1] (by simp) rfl) ⟨rfl, _, rfl, fun h => by cases h⟩
      · have h1' : ¬ (a.id + x) % 18446744073709551616 < x := by simp at h1; omega
        refine awp_skip ?_
        repeat (with_reducible refine nx_block_normal ?_)
        refine nx_cut () (by unfold errQ; rw [if_pos h0, if_neg h1']) Kn.nil ?_
        rw [show putQ c a e x = { e with id := (a.id + x) % 18446744073709551616 } by unfold putQ; rw [if_pos h0]]
        exact HLe.pick [1] (by simp) rfl
    have h0 : c ≠ 0 := by simp at h; omega
    refine awp_cut (ι := Unit) (fun _ => [(0, iq c), (1, iq i), (3, ptr g (k * 4)), (4, uq x), (7, ptr g1 0), (62, .bool (decide (c = 1 ∨ c = 2)))]) (fun _ => [.own g1 65 a.cells, .own g 65 (ecells M)]) (fun _ => True) ?_ ?_
    · refine awp_seq_region (fun Z hZ => ?_)
      refine sx_eql rfl rfl rfl ?_
      refine sx_assign rfl rfl ?_
      refine sx_nil (hZ _ _ ?_)
      refine awp_forget [(0, _), (1, _), (3, _), (4, _), (7, _), (11, _), (62, _)] (Kn.cons rfl (Kn.cons rfl (Kn.cons rfl (Kn.cons rfl (Kn.cons rfl (Kn.cons rfl (Kn.cons rfl (Kn.nil)))))))) ?_
      refine awp_cond rfl (fun h1 => ?_) (fun h1 => ?_)
      · have h1' : c = 1 := by simp at h1; omega
        refine awp_skip ?_
        exact nx_cut () trivial (Kn.cons rfl (Kn.cons rfl (Kn.cons rfl (Kn.cons rfl (Kn.cons rfl (Kn.cons (congrArg some (congrArg Value.bool (by rw [Bool.eq_iff_iff]; simp; omega))) Kn.nil)))))) (HLe.refl _)
      · have h1' : c ≠ 1 := by simp at h1; omega
        refine awp_region (fun Z hZ => ?_)
        refine sx_eql rfl rfl rfl ?_
        refine sx_assign rfl rfl ?_
        refine sx_nil (hZ _ _ ?_)
        refine nx_forget [(0, _), (1, _), (3, _), (4, _), (7, _), (62, _)] (Kn.cons rfl (Kn.cons rfl (Kn.cons rfl (Kn.cons rfl (Kn.cons rfl (Kn.cons rfl (Kn.nil))))))) ?_
        exact nx_cut () trivial (Kn.cons rfl (Kn.cons rfl (Kn.cons rfl (Kn.cons rfl (Kn.cons rfl (Kn.cons (congrArg some (congrArg Value.bool (by rw [Bool.eq_iff_iff]; simp; omega))) Kn.nil)))))) (HLe.refl _)
    rintro ⟨⟩ -
    refine awp_cond rfl (fun h2 => ?_) (fun h2 => ?_)
    · have h2' : c = 1 ∨ c = 2 := by simpa using h2
      refine awp_seq ?_
      refine awp_seq_region (fun Z hZ => ?_)
      refine sx_move rfl rfl ?_
      refine sx_geq rfl rfl rfl ?_
      refine sx_nil (hZ _ _ ?_)
      refine awp_forget [(0, _), (3, _), (4, _), (66, _)] (Kn.cons rfl (Kn.cons rfl (Kn.cons rfl (Kn.cons rfl (Kn.nil))))) ?_
      refine awp_cond rfl (fun h3 => ?_) (fun h3 => ?_)
      · have h3' : 4294967296 ≤ x := by simp at h3; omega
        have hee : errQ c i a x = 11 := by unfold errQ; rw [if_neg h0, if_pos h2', if_pos h3']
        rw [hee]
        refine awp_seq_region (fun Z hZ => ?_)
        refine sx_assign rfl rfl ?_
        refine sx_nil (hZ _ _ ?_)
        refine awp_forget [(10, _)] (Kn.cons rfl (Kn.nil)) ?_
        refine awp_ret ?_
        repeat (with_reducible (first | refine nx_then_ret ?_ | refine nx_block_ret ?_))
        exact nx_ret1h _ rfl rfl (HLe.pick [1] (by simp) rfl) ⟨rfl, _, rfl, fun h => by cases h⟩
      have h3' : ¬ 4294967296 ≤ x := by simp at h3; omega
      have hee : errQ c i a x = 0 := by unfold errQ; rw [if_neg h0, if_pos h2', if_neg h3']
      refine awp_skip ?_
      with_reducible refine nx_normal ?_
      refine awp_seq_region (fun Z hZ => ?_)
      refine sx_move rfl rfl ?_
      refine sx_eql rfl rfl rfl ?_
      refine sx_nil (hZ _ _ ?_)
      refine awp_forget [(3, _), (4, _), (68, _)] (Kn.cons rfl (Kn.cons rfl (Kn.cons rfl (Kn.nil)))) ?_
      refine awp_cond rfl (fun h4 => ?_) (fun h4 => ?_)
      · have h4' : c = 1 := by simp at h4; omega
        refine awp_region (fun Z hZ => ?_)
        refine sx_move rfl rfl ?_
        refine sx_move rfl rfl ?_
        refine sx_conv Try.underlying35 Try.underlying63 rfl ((x % 4294967296 : Nat) : Int) (u32_w x) rfl ?_
        refine sx_nilCheck rfl rfl ?_
        refine sx_fieldAddr rfl tyF65_3 (by first | (simp only [Nat.reduceAdd, Nat.add_zero, Nat.zero_add]; first | done | rfl) | rfl) rfl ?_
        refine sx_store1 1 rfl rfl rfl tyS63 rfl (ecells_ble he (j := 3) (by omega)) (set_run he _) rfl ?_
        refine sx_nil (hZ _ _ ?_)
        refine nx_forget [] (Kn.nil) ?_
        repeat (with_reducible refine nx_block_normal ?_)
        refine nx_cut () hee Kn.nil ?_
        rw [show putQ c a e x = { e with run := x % 4294967296 } by unfold putQ; rw [if_neg h0, if_pos h4']]
        exact HLe.pick [1] (by simp) rfl
      · have h4' : c ≠ 1 := by simp at h4; omega
        refine awp_region (fun Z hZ => ?_)
        refine sx_move rfl rfl ?_
        refine sx_move rfl rfl ?_
        refine sx_conv Try.underlying35 Try.underlying63 rfl ((x % 4294967296 : Nat) : Int) (u32_w x) rfl ?_
        refine sx_nilCheck rfl rfl ?_
        refine sx_fieldAddr rfl tyF65_2 (by first | (simp only [Nat.reduceAdd, Nat.add_zero, Nat.zero_add]; first | done | rfl) | rfl) rfl ?_
        refine sx_store1 1 rfl rfl rfl tyS63 rfl (ecells_ble he (j := 2) (by omega)) (set_len he _) rfl ?_
        refine sx_nil (hZ _ _ ?_)
        refine nx_forget [] (Kn.nil) ?_
        repeat (with_reducible refine nx_block_normal ?_)
        refine nx_cut () hee Kn.nil ?_
        rw [show putQ c a e x = { e with len := x % 4294967296 } by unfold putQ; rw [if_neg h0, if_neg h4', if_pos (by omega)]]
        exact HLe.pick [1] (by simp) rfl
    have h2' : ¬ (c = 1 ∨ c = 2) := by simpa using h2
    have hput : putQ c a e x = { e with off := if x = 0 then a.next else x - 1 } := by unfold putQ; rw [if_neg h0, if_neg (by omega), if_neg (by omega)]
    obtain ⟨z, hz⟩ : ∃ z, (if x = 0 then 18446744073709551615 else x - 1) = z := ⟨_, rfl⟩
    have hzx : x = 0 ∨ z + 1 = x := by rw [← hz]; split <;> omega
    have e1 : (M.set k { e with off := z })[k]? = some { e with off := z } := at_set he
    refine awp_seq_region (fun Z hZ => ?_)
    refine sx_move rfl rfl ?_
    refine sx_move rfl rfl ?_
    refine sx_sub rfl rfl ((z : Nat) : Int) (by rw [u64_1 hx, hz]) rfl ?_
    refine sx_nilCheck rfl rfl ?_
    refine sx_fieldAddr rfl tyF65_1 (by first | (simp only [Nat.reduceAdd, Nat.add_zero, Nat.zero_add]; first | done | rfl) | rfl) rfl ?_
    refine sx_store1 1 rfl rfl rfl tyS35 rfl (ecells_ble he (j := 1) (by omega)) (set_off he _) rfl ?_
    refine sx_nil (hZ _ _ ?_)
    refine awp_forget [(1, _), (3, _), (4, _), (7, _)] (Kn.cons rfl (Kn.cons rfl (Kn.cons rfl (Kn.cons rfl (Kn.nil))))) ?_
    clear hz
    refine awp_seq ?_
    refine awq_seq_meet [(3, ptr g (k * 4)), (4, uq x), (7, ptr g1 0), (39, .bool (decide (i = 0 ∧ x = 0 ∨ 0 < i ∧ 0 < x ∧ x - 1 = a.next)))] [.own g1 65 a.cells, .own g 65 (ecells (M.set k { e with off := z }))] mixed (by kernel_rfl) (fun Z hZ => ?_) ?_
    · refine sq_move rfl rfl ?_
      refine sq_eql rfl rfl rfl ?_
      refine sq_move rfl rfl ?_
      refine sq_split 19 rfl (fun hb2 => ?_) (fun hb2 => ?_)
      · refine sq_on rfl rfl rfl ?_
        refine sq_move rfl rfl ?_
        refine sq_on rfl rfl rfl ?_
        refine sq_eql rfl rfl rfl ?_
        refine sq_pick rfl rfl rfl ?_
        refine sq_move rfl rfl ?_
        refine sq_split 23 rfl (fun hb6 => ?_) (fun hb6 => ?_)
        · refine sq_off rfl rfl rfl rfl rfl ?_
          refine sq_off rfl rfl rfl rfl rfl ?_
          refine sq_off rfl rfl rfl rfl rfl ?_
          refine sq_offU rfl rfl rfl rfl ?_
          refine sq_offU rfl rfl rfl rfl ?_
          refine sq_off rfl rfl rfl rfl rfl ?_
          refine sq_off rfl rfl rfl rfl rfl ?_
          refine sq_offU rfl rfl rfl rfl ?_
          refine sq_offU rfl rfl rfl rfl ?_
          refine sq_offU rfl rfl rfl rfl ?_
          refine sq_offU rfl rfl rfl rfl ?_
          refine sq_offU rfl rfl rfl rfl ?_
          refine sq_offU rfl rfl rfl rfl ?_
          refine sq_offU rfl rfl rfl rfl ?_
          refine sq_off rfl rfl rfl rfl rfl ?_
          refine sq_pick rfl rfl rfl ?_
          refine sq_nil (hZ _ _ ?_ ?_)
          · exact Kn.cons rfl (Kn.cons rfl (Kn.cons rfl (Kn.cons (congrArg some (congrArg Value.bool (by first | (simp at *; done) | (simp at *; omega) | (simp at *; rw [Bool.eq_iff_iff]; simp; omega)))) Kn.nil)))
          · exact HLe.refl _
        · refine sq_on rfl rfl rfl ?_
          refine sq_move rfl rfl ?_
          refine sq_on rfl rfl rfl ?_
          refine sq_gtr rfl rfl rfl ?_
          refine sq_on rfl rfl rfl ?_
          refine sq_move rfl rfl ?_
          refine sq_split 26 rfl (fun hb9 => ?_) (fun hb9 => ?_)
          · refine sq_on rfl rfl rfl ?_
            refine sq_move rfl rfl ?_
            refine sq_on rfl rfl rfl ?_
            refine sq_gtr rfl rfl rfl ?_
            refine sq_on rfl rfl rfl ?_
            refine sq_pick rfl rfl rfl ?_
            refine sq_on rfl rfl rfl ?_
            refine sq_move rfl rfl ?_
            refine sq_split 30 rfl (fun hb13 => ?_) (fun hb13 => ?_)
            · refine sq_on rfl rfl rfl ?_
              refine sq_move rfl rfl ?_
              refine sq_on rfl rfl rfl ?_
              refine sq_nilCheck rfl rfl ?_
              refine sq_on rfl rfl rfl ?_
              refine sq_fieldAddr rfl tyF65_1 (by first | (simp only [Nat.reduceAdd, Nat.add_zero, Nat.zero_add]; first | done | rfl) | rfl) rfl ?_
              refine sq_on rfl rfl rfl ?_
              refine sq_load 1 rfl rfl tyA35 tyS35 (rd_off e1) rfl ?_
              refine sq_on rfl rfl rfl ?_
              refine sq_loadA 0 rfl rfl tyA65 tyS65 (by first | (simp only [List.length_cons, List.length_nil, Nat.reduceAdd, Nat.zero_add, Nat.add_zero]; first | done | rfl) | rfl) (by first | (simp only [List.take_succ_cons, List.take_zero, List.drop_succ_cons, List.drop_zero, List.cons_append, List.nil_append, List.append_nil, List.length_cons, List.length_nil, Nat.reduceAdd, Nat.zero_add, Nat.add_zero, Value.cells, wrV]; first | done | rfl) | rfl) rfl ?_
              refine sq_on rfl rfl rfl ?_
              refine sq_callP (dnext_fn a hao) rfl rfl ?_
              refine sq_on rfl rfl rfl ?_
              refine sq_eql rfl rfl rfl ?_
              refine sq_on rfl rfl rfl ?_
              refine sq_pick rfl rfl rfl ?_
              refine sq_pick rfl rfl rfl ?_
              refine sq_nil (hZ _ _ ?_ ?_)
              · exact Kn.cons rfl (Kn.cons rfl (Kn.cons rfl (Kn.cons (congrArg some (congrArg Value.bool (by first | (simp at *; done) | (simp at *; omega) | (simp at *; rw [Bool.eq_iff_iff]; simp; omega)))) Kn.nil)))
              · exact HLe.refl _
            · refine sq_off rfl rfl rfl rfl rfl ?_
              refine sq_off rfl rfl rfl rfl rfl ?_
              refine sq_off rfl rfl rfl rfl rfl ?_
              refine sq_off rfl rfl rfl rfl rfl ?_
              refine sq_off rfl rfl rfl rfl rfl ?_
              refine sq_off rfl rfl rfl rfl rfl ?_
              refine sq_off rfl rfl rfl rfl rfl ?_
              refine sq_on rfl rfl rfl ?_
              refine sq_pick rfl rfl rfl ?_
              refine sq_pick rfl rfl rfl ?_
              refine sq_nil (hZ _ _ ?_ ?_)
              · exact Kn.cons rfl (Kn.cons rfl (Kn.cons rfl (Kn.cons (congrArg some (congrArg Value.bool (by first | (simp at *; done) | (simp at *; omega) | (simp at *; rw [Bool.eq_iff_iff]; simp; omega)))) Kn.nil)))
              · exact HLe.refl _
          · refine sq_off rfl rfl rfl rfl rfl ?_
            refine sq_off rfl rfl rfl rfl rfl ?_
            refine sq_on rfl rfl rfl ?_
            refine sq_pick rfl rfl rfl ?_
            refine sq_on rfl rfl rfl ?_
            refine sq_move rfl rfl ?_
            refine sq_off rfl rfl rfl rfl rfl ?_
            refine sq_off rfl rfl rfl rfl rfl ?_
            refine sq_off rfl rfl rfl rfl rfl ?_
            refine sq_off rfl rfl rfl rfl rfl ?_
            refine sq_off rfl rfl rfl rfl rfl ?_
            refine sq_off rfl rfl rfl rfl rfl ?_
            refine sq_off rfl rfl rfl rfl rfl ?_
            refine sq_on rfl rfl rfl ?_
            refine sq_pick rfl rfl rfl ?_
            refine sq_pick rfl rfl rfl ?_
            refine sq_nil (hZ _ _ ?_ ?_)
            · exact Kn.cons rfl (Kn.cons rfl (Kn.cons rfl (Kn.cons (congrArg some (congrArg Value.bool (by first | (simp at *; done) | (simp at *; omega) | (simp at *; rw [Bool.eq_iff_iff]; simp; omega)))) Kn.nil)))
            · exact HLe.refl _
      · refine sq_off rfl rfl rfl rfl rfl ?_
        refine sq_off rfl rfl rfl rfl rfl ?_
        refine sq_pick rfl rfl rfl ?_
        refine sq_move rfl rfl ?_
        refine sq_on rfl rfl rfl ?_
        refine sq_move rfl rfl ?_
        refine sq_on rfl rfl rfl ?_
        refine sq_gtr rfl rfl rfl ?_
        refine sq_on rfl rfl rfl ?_
        refine sq_move rfl rfl ?_
        refine sq_split 26 rfl (fun hb9 => ?_) (fun hb9 => ?_)
        · refine sq_on rfl rfl rfl ?_
          refine sq_move rfl rfl ?_
          refine sq_on rfl rfl rfl ?_
          refine sq_gtr rfl rfl rfl ?_
          refine sq_on rfl rfl rfl ?_
          refine sq_pick rfl rfl rfl ?_
          refine sq_on rfl rfl rfl ?_
          refine sq_move rfl rfl ?_
          refine sq_split 30 rfl (fun hb13 => ?_) (fun hb13 => ?_)
          · refine sq_on rfl rfl rfl ?_
            refine sq_move rfl rfl ?_
            refine sq_on rfl rfl rfl ?_
            refine sq_nilCheck rfl rfl ?_
            refine sq_on rfl rfl rfl ?_
            refine sq_fieldAddr rfl tyF65_1 (by first | (simp only [Nat.reduceAdd, Nat.add_zero, Nat.zero_add]; first | done | rfl) | rfl) rfl ?_
            refine sq_on rfl rfl rfl ?_
            refine sq_load 1 rfl rfl tyA35 tyS35 (rd_off e1) rfl ?_
            refine sq_on rfl rfl rfl ?_
            refine sq_loadA 0 rfl rfl tyA65 tyS65 (by first | (simp only [List.length_cons, List.length_nil, Nat.reduceAdd, Nat.zero_add, Nat.add_zero]; first | done | rfl) | rfl) (by first | (simp only [List.take_succ_cons, List.take_zero, List.drop_succ_cons, List.drop_zero, List.cons_append, List.nil_append, List.append_nil, List.length_cons, List.length_nil, Nat.reduceAdd, Nat.zero_add, Nat.add_zero, Value.cells, wrV]; first | done | rfl) | rfl) rfl ?_
            refine sq_on rfl rfl rfl ?_
            refine sq_callP (dnext_fn a hao) rfl rfl ?_
            refine sq_on rfl rfl rfl ?_
            refine sq_eql rfl rfl rfl ?_
            refine sq_on rfl rfl rfl ?_
            refine sq_pick rfl rfl rfl ?_
            refine sq_pick rfl rfl rfl ?_
            refine sq_nil (hZ _ _ ?_ ?_)
            · exact Kn.cons rfl (Kn.cons rfl (Kn.cons rfl (Kn.cons (congrArg some (congrArg Value.bool (by first | (simp at *; done) | (simp at *; omega) | (simp at *; rw [Bool.eq_iff_iff]; simp; omega)))) Kn.nil)))
            · exact HLe.refl _
          · refine sq_off rfl rfl rfl rfl rfl ?_
            refine sq_off rfl rfl rfl rfl rfl ?_
            refine sq_off rfl rfl rfl rfl rfl ?_
            refine sq_off rfl rfl rfl rfl rfl ?_
            refine sq_off rfl rfl rfl rfl rfl ?_
            refine sq_off rfl rfl rfl rfl rfl ?_
            refine sq_off rfl rfl rfl rfl rfl ?_
            refine sq_on rfl rfl rfl ?_
            refine sq_pick rfl rfl rfl ?_
            refine sq_pick rfl rfl rfl ?_
            refine sq_nil (hZ _ _ ?_ ?_)
            · exact Kn.cons rfl (Kn.cons rfl (Kn.cons rfl (Kn.cons (congrArg some (congrArg Value.bool (by first | (simp at *; done) | (simp at *; omega) | (simp at *; rw [Bool.eq_iff_iff]; simp; omega)))) Kn.nil)))
            · exact HLe.refl _
        · refine sq_off rfl rfl rfl rfl rfl ?_
          refine sq_off rfl rfl rfl rfl rfl ?_
          refine sq_on rfl rfl rfl ?_
          refine sq_pick rfl rfl rfl ?_
          refine sq_on rfl rfl rfl ?_
          refine sq_move rfl rfl ?_
          refine sq_off rfl rfl rfl rfl rfl ?_
          refine sq_off rfl rfl rfl rfl rfl ?_
          refine sq_off rfl rfl rfl rfl rfl ?_
          refine sq_off rfl rfl rfl rfl rfl ?_
          refine sq_off rfl rfl rfl rfl rfl ?_
          refine sq_off rfl rfl rfl rfl rfl ?_
          refine sq_off rfl rfl rfl rfl rfl ?_
          refine sq_on rfl rfl rfl ?_
          refine sq_pick rfl rfl rfl ?_
          refine sq_pick rfl rfl rfl ?_
          refine sq_nil (hZ _ _ ?_ ?_)
          · exact Kn.cons rfl (Kn.cons rfl (Kn.cons rfl (Kn.cons (congrArg some (congrArg Value.bool (by first | (simp at *; done) | (simp at *; omega) | (simp at *; rw [Bool.eq_iff_iff]; simp; omega)))) Kn.nil)))
          · exact HLe.refl _
    refine awp_cond rfl (fun h3 => ?_) (fun h3 => ?_)
    · have h3' : i = 0 ∧ x = 0 ∨ 0 < i ∧ 0 < x ∧ x - 1 = a.next := by simpa using h3
      have hee : errQ c i a x = 4 := by unfold errQ; rw [if_neg h0, if_neg h2', if_pos h3']
      rw [hee]
      refine awp_seq_region (fun Z hZ => ?_)
      refine sx_assign rfl rfl ?_
      refine sx_nil (hZ _ _ ?_)
      refine awp_forget [(10, _)] (Kn.cons rfl (Kn.nil)) ?_
      refine awp_ret ?_
      repeat (with_reducible (first | refine nx_then_ret ?_ | refine nx_block_ret ?_))
      exact nx_ret1h _ rfl rfl (HLe.pick [1] (by simp) rfl) ⟨rfl, _, rfl, fun h => by cases h⟩
    have h3' : ¬ (i = 0 ∧ x = 0 ∨ 0 < i ∧ 0 < x ∧ x - 1 = a.next) := by simpa using h3
    have hee : errQ c i a x = 0 := by unfold errQ; rw [if_neg h0, if_neg h2', if_neg h3']
    rw [hput]
    refine awp_skip ?_
    with_reducible refine nx_normal ?_
    refine awp_seq_region (fun Z hZ => ?_)
    refine sx_move rfl rfl ?_
    refine sx_eql rfl rfl rfl ?_
    refine sx_nil (hZ _ _ ?_)
    refine awp_forget [(3, _), (7, _), (41, _)] (Kn.cons rfl (Kn.cons rfl (Kn.cons rfl (Kn.nil)))) ?_
    refine awp_cond rfl (fun h4 => ?_) (fun h4 => ?_)
    · have h4' : x = 0 := by simp at h4; omega
      rw [if_pos h4']
      refine awp_region (fun Z hZ => ?_)
      refine sx_move rfl rfl ?_
      refine sx_loadA 0 rfl rfl tyA65 tyS65 (by first | (simp only [List.length_cons, List.length_nil, Nat.reduceAdd, Nat.zero_add, Nat.add_zero]; first | done | rfl) | rfl) (by first | (simp only [List.take_succ_cons, List.take_zero, List.drop_succ_cons, List.drop_zero, List.cons_append, List.nil_append, List.append_nil, List.length_cons, List.length_nil, Nat.reduceAdd, Nat.zero_add, Nat.add_zero, Value.cells, wrV]; first | done | rfl) | rfl) rfl ?_
      refine sx_callP (dnext_fn a hao) rfl rfl ?_
      refine sx_nilCheck rfl rfl ?_
      refine sx_fieldAddr rfl tyF65_1 (by first | (simp only [Nat.reduceAdd, Nat.add_zero, Nat.zero_add]; first | done | rfl) | rfl) rfl ?_
      refine sx_store1 1 rfl rfl rfl tyS35 rfl (ecells_ble e1 (j := 1) (by omega)) (set_off e1 _) rfl ?_
      refine sx_nil (hZ _ _ ?_)
      refine nx_forget [] (Kn.nil) ?_
      repeat (with_reducible refine nx_block_normal ?_)
      refine nx_cut () hee Kn.nil ?_
      rw [List.set_set]
      exact HLe.pick [1] (by simp) rfl
    · have h4' : x ≠ 0 := by simp at h4; omega
      rw [if_neg h4', show x - 1 = z by omega]
      refine awp_skip ?_
      repeat (with_reducible refine nx_block_normal ?_)
      exact nx_cut () hee Kn.nil (HLe.pick [1] (by simp) rfl)
  · rintro ⟨⟩ hee
    with_reducible refine nx_normal ?_
    rw [hee]

    refine awp_seq_region (fun Z hZ => ?_)
    refine sx_assign rfl rfl ?_
    refine sx_nil (hZ _ _ ?_)
    refine awp_forget [(10, _)] (Kn.cons rfl (Kn.nil)) ?_
    refine awp_ret ?_
    exact nx_ret1h _ rfl rfl (HLe.refl _) ⟨rfl, _, rfl, fun _ => rfl⟩
end Go.Proofs.Ytjelakmndcecoaa

namespace Go.Proofs.Ytjelakmndcecoaa
open Go.RowKit
set_option linter.unusedVariables false
set_option linter.unusedSimpArgs false
theorem prevE_at {M : List En} {k : Nat} (h0 : 0 < k) (hk : k < M.length) : M[k - 1]? = some (prevE M k) := by
  rw [atE_at (show k - 1 < M.length by omega)]
  simp [prevE, atE, Nat.ne_of_gt h0]
theorem prevE_0 {M : List En} {k : Nat} (h0 : k = 0) : prevE M k = zeroEn := by simp [prevE, h0]
theorem u64_add (a x : Nat) : IntKind.u64.wrap ((a : Int) + (x : Int)) = (((a + x) % 18446744073709551616 : Nat) : Int) := by rw [← Int.natCast_add, u64_w]
theorem dwrong_fn (c k g cp x : Nat) (M : List En) (hc : c < 4) (hx : x < 18446744073709551616) (hk : k < M.length) (hM : M.length ≤ 100000) (hE : EnsOk M) :
    Fn Try.prog 55 [.slice (some ⟨g, 0, none⟩) M.length cp, iq c, iq k, uq x] [.ro g 0 (ecells M)] fun v _ => v = iq (errQ c k (prevE M k) x) := by
  have hpo := prevE_ok hE k
  have hpl := fun h0 => prevE_at (M := M) (k := k) h0 hk
  have hp0 : k = 0 → (prevE M k).id = 0 := fun h0 => by rw [prevE_0 h0]; rfl
  obtain ⟨p, hpe⟩ : ∃ p, prevE M k = p := ⟨_, rfl⟩
  rw [hpe] at hpl hp0 hpo ⊢
  obtain ⟨p1, p2, p3, p4⟩ := hpo
  have hn := next_lt p
  refine Fn.enter (N := 76) Try.func55 rfl (by kernel_rfl) rfl (fun w0 => ?_)

  refine awp_seq_region (fun Z hZ => ?_)
  refine sx_assign rfl rfl ?_
  refine sx_nil (hZ _ _ ?_)
  refine awp_forget [(0, _), (1, _), (2, _), (3, _)] (Kn.cons rfl (Kn.cons rfl (Kn.cons rfl (Kn.cons rfl (Kn.nil))))) ?_
  refine awp_seq ?_
  refine awp_seq_meet [(0, .slice (some ⟨g, 0, none⟩) M.length cp), (1, iq c), (2, iq k), (3, uq x), (26, .bool (decide (c = 0 ∧ 0 < k ∧ (p.id + x) % 18446744073709551616 < x)))] [.ro g 0 (ecells M)] (fun Z hZ => ?_) ?_
  · refine sx_move rfl rfl ?_
    refine sx_eql rfl rfl rfl ?_
    refine sx_move rfl rfl ?_
    refine sx_split 11 rfl (fun hb2 => ?_) (fun hb2 => ?_)
    · refine sx_on rfl rfl rfl ?_
      refine sx_move rfl rfl ?_
      refine sx_on rfl rfl rfl ?_
      refine sx_gtr rfl rfl rfl ?_
      refine sx_pick rfl rfl rfl ?_
      refine sx_move rfl rfl ?_
      refine sx_split 15 rfl (fun hb6 => ?_) (fun hb6 => ?_)
      · refine sx_on rfl rfl rfl ?_
        refine sx_move rfl rfl ?_
        refine sx_on rfl rfl rfl ?_
        refine sx_move rfl rfl ?_
        refine sx_on rfl rfl rfl ?_
        refine sx_sub rfl rfl ((k - 1 : Nat) : Int) (by simp at hb6; rw [IntWalk.i64_in _ (by omega)]; omega) rfl ?_
        refine sx_on rfl rfl rfl ?_
        refine sx_indexAddr ((k - 1) * 4) Try.underlying66 tyS98 rfl rfl (by omega) (by simp) rfl ?_
        refine sx_on rfl rfl rfl ?_
        refine sx_fieldAddr rfl tyF98_0 (by first | (simp only [Nat.reduceAdd, Nat.add_zero, Nat.zero_add]; first | done | rfl) | rfl) rfl ?_
        refine sx_on rfl rfl rfl ?_
        refine sx_loadRo 0 rfl rfl ((k - 1) * 4) (by simp) tyA35 tyS35 (rd_id (hpl (by simpa using hb6))) rfl ?_
        refine sx_on rfl rfl rfl ?_
        refine sx_move rfl rfl ?_
        refine sx_on rfl rfl rfl ?_
        refine sx_add rfl rfl (((p.id + x) % 18446744073709551616 : Nat) : Int) (u64_add p.id x) rfl ?_
        refine sx_on rfl rfl rfl ?_
        refine sx_move rfl rfl ?_
        refine sx_on rfl rfl rfl ?_
        refine sx_lss rfl rfl rfl ?_
        refine sx_pick rfl rfl rfl ?_
        refine sx_nil (hZ _ _ ?_ ?_)
        · exact Kn.cons rfl (Kn.cons rfl (Kn.cons rfl (Kn.cons rfl (Kn.cons (congrArg some (congrArg Value.bool (by first | (simp at *; done) | (simp at *; omega) | (simp at *; rw [Bool.eq_iff_iff]; simp; omega)))) Kn.nil))))
        · exact HLe.refl _
      · refine sx_off rfl rfl rfl rfl rfl ?_
        refine sx_off rfl rfl rfl rfl rfl ?_
        refine sx_off rfl rfl rfl rfl rfl ?_
        refine sx_off rfl rfl rfl rfl rfl ?_
        refine sx_off rfl rfl rfl rfl rfl ?_
        refine sx_off rfl rfl rfl rfl rfl ?_
        refine sx_off rfl rfl rfl rfl rfl ?_
        refine sx_off rfl rfl rfl rfl rfl ?_
        refine sx_off rfl rfl rfl rfl rfl ?_
        refine sx_off rfl rfl rfl rfl rfl ?_
        refine sx_pick rfl rfl rfl ?_
        refine sx_nil (hZ _ _ ?_ ?_)
        · exact Kn.cons rfl (Kn.cons rfl (Kn.cons rfl (Kn.cons rfl (Kn.cons (congrArg some (congrArg Value.bool (by first | (simp at *; done) | (simp at *; omega) | (simp at *; rw [Bool.eq_iff_iff]; simp; omega)))) Kn.nil))))
        · exact HLe.refl _
    · refine sx_off rfl rfl rfl rfl rfl ?_
      refine sx_off rfl rfl rfl rfl rfl ?_
      refine sx_pick rfl rfl rfl ?_
      refine sx_move rfl rfl ?_
      refine sx_off rfl rfl rfl rfl rfl ?_
      refine sx_off rfl rfl rfl rfl rfl ?_
      refine sx_off rfl rfl rfl rfl rfl ?_
      refine sx_off rfl rfl rfl rfl rfl ?_
      refine sx_off rfl rfl rfl rfl rfl ?_
      refine sx_off rfl rfl rfl rfl rfl ?_
      refine sx_off rfl rfl rfl rfl rfl ?_
      refine sx_off rfl rfl rfl rfl rfl ?_
      refine sx_off rfl rfl rfl rfl rfl ?_
      refine sx_off rfl rfl rfl rfl rfl ?_
      refine sx_pick rfl rfl rfl ?_
      refine sx_nil (hZ _ _ ?_ ?_)
      · exact Kn.cons rfl (Kn.cons rfl (Kn.cons rfl (Kn.cons rfl (Kn.cons (congrArg some (congrArg Value.bool (by first | (simp at *; done) | (simp at *; omega) | (simp at *; rw [Bool.eq_iff_iff]; simp; omega)))) Kn.nil))))
      · exact HLe.refl _
  refine awp_cond rfl (fun h => ?_) (fun h => ?_)
  · obtain ⟨h1, h2, h3⟩ : c = 0 ∧ 0 < k ∧ (p.id + x) % 18446744073709551616 < x := by simpa using h
    rw [show errQ c k p x = 11 by unfold errQ; rw [if_pos h1, if_pos h3]]
    refine awp_seq_region (fun Z hZ => ?_)
    refine sx_assign rfl rfl ?_
    refine sx_nil (hZ _ _ ?_)
    refine awp_forget [(8, _)] (Kn.cons rfl (Kn.nil)) ?_
    refine awp_ret ?_
    repeat (with_reducible refine nx_then_ret ?_)
    exact nx_ret1 rfl rfl rfl
  have h' : ¬ (c = 0 ∧ 0 < k ∧ (p.id + x) % 18446744073709551616 < x) := by simpa using h
  refine awp_skip ?_
  with_reducible refine nx_normal ?_
  refine awp_seq ?_
  refine awp_seq_meet [(0, .slice (some ⟨g, 0, none⟩) M.length cp), (1, iq c), (2, iq k), (3, uq x), (36, .bool (decide ((c = 1 ∨ c = 2) ∧ 4294967295 < x)))] [.ro g 0 (ecells M)] (fun Z hZ => ?_) ?_
  · refine sx_move rfl rfl ?_
    refine sx_eql rfl rfl rfl ?_
    refine sx_move rfl rfl ?_
    refine sx_split 29 rfl (fun hb2 => ?_) (fun hb2 => ?_)
    · refine sx_off rfl rfl rfl rfl rfl ?_
      refine sx_off rfl rfl rfl rfl rfl ?_
      refine sx_pick rfl rfl rfl ?_
      refine sx_move rfl rfl ?_
      refine sx_on rfl rfl rfl ?_
      refine sx_move rfl rfl ?_
      refine sx_on rfl rfl rfl ?_
      refine sx_gtr rfl rfl rfl ?_
      refine sx_pick rfl rfl rfl ?_
      refine sx_nil (hZ _ _ ?_ ?_)
      · exact Kn.cons rfl (Kn.cons rfl (Kn.cons rfl (Kn.cons rfl (Kn.cons (congrArg some (congrArg Value.bool (by first | (simp at *; done) | (simp at *; omega) | (simp at *; rw [Bool.eq_iff_iff]; simp; omega)))) Kn.nil))))
      · exact HLe.refl _
    · refine sx_on rfl rfl rfl ?_
      refine sx_move rfl rfl ?_
      refine sx_on rfl rfl rfl ?_
      refine sx_eql rfl rfl rfl ?_
      refine sx_pick rfl rfl rfl ?_
      refine sx_move rfl rfl ?_
      refine sx_split 33 rfl (fun hb6 => ?_) (fun hb6 => ?_)
      · refine sx_on rfl rfl rfl ?_
        refine sx_move rfl rfl ?_
        refine sx_on rfl rfl rfl ?_
        refine sx_gtr rfl rfl rfl ?_
        refine sx_pick rfl rfl rfl ?_
        refine sx_nil (hZ _ _ ?_ ?_)
        · exact Kn.cons rfl (Kn.cons rfl (Kn.cons rfl (Kn.cons rfl (Kn.cons (congrArg some (congrArg Value.bool (by first | (simp at *; done) | (simp at *; omega) | (simp at *; rw [Bool.eq_iff_iff]; simp; omega)))) Kn.nil))))
        · exact HLe.refl _
      · refine sx_off rfl rfl rfl rfl rfl ?_
        refine sx_off rfl rfl rfl rfl rfl ?_
        refine sx_pick rfl rfl rfl ?_
        refine sx_nil (hZ _ _ ?_ ?_)
        · exact Kn.cons rfl (Kn.cons rfl (Kn.cons rfl (Kn.cons rfl (Kn.cons (congrArg some (congrArg Value.bool (by first | (simp at *; done) | (simp at *; omega) | (simp at *; rw [Bool.eq_iff_iff]; simp; omega)))) Kn.nil))))
        · exact HLe.refl _
  refine awp_cond rfl (fun h1 => ?_) (fun h1 => ?_)
  · obtain ⟨h2, h3⟩ : (c = 1 ∨ c = 2) ∧ 4294967295 < x := by simpa using h1
    rw [show errQ c k p x = 11 by unfold errQ; rw [if_neg (by omega), if_pos h2, if_pos (by omega)]]
    refine awp_seq_region (fun Z hZ => ?_)
    refine sx_assign rfl rfl ?_
    refine sx_nil (hZ _ _ ?_)
    refine awp_forget [(8, _)] (Kn.cons rfl (Kn.nil)) ?_
    refine awp_ret ?_
    repeat (with_reducible refine nx_then_ret ?_)
    exact nx_ret1 rfl rfl rfl
  have h1' : ¬ ((c = 1 ∨ c = 2) ∧ 4294967295 < x) := by simpa using h1
  refine awp_skip ?_
  with_reducible refine nx_normal ?_
  refine awp_seq ?_
  refine awp_seq_meet [(0, .slice (some ⟨g, 0, none⟩) M.length cp), (1, iq c), (2, iq k), (3, uq x), (46, .bool (decide (c = 3 ∧ k = 0 ∧ x = 0)))] [.ro g 0 (ecells M)] (fun Z hZ => ?_) ?_
  · refine sx_move rfl rfl ?_
    refine sx_eql rfl rfl rfl ?_
    refine sx_move rfl rfl ?_
    refine sx_split 39 rfl (fun hb2 => ?_) (fun hb2 => ?_)
    · refine sx_on rfl rfl rfl ?_
      refine sx_move rfl rfl ?_
      refine sx_on rfl rfl rfl ?_
      refine sx_eql rfl rfl rfl ?_
      refine sx_pick rfl rfl rfl ?_
      refine sx_move rfl rfl ?_
      refine sx_split 43 rfl (fun hb6 => ?_) (fun hb6 => ?_)
      · refine sx_on rfl rfl rfl ?_
        refine sx_move rfl rfl ?_
        refine sx_on rfl rfl rfl ?_
        refine sx_eql rfl rfl rfl ?_
        refine sx_pick rfl rfl rfl ?_
        refine sx_nil (hZ _ _ ?_ ?_)
        · exact Kn.cons rfl (Kn.cons rfl (Kn.cons rfl (Kn.cons rfl (Kn.cons (congrArg some (congrArg Value.bool (by first | (simp at *; done) | (simp at *; omega) | (simp at *; rw [Bool.eq_iff_iff]; simp; omega)))) Kn.nil))))
        · exact HLe.refl _
      · refine sx_off rfl rfl rfl rfl rfl ?_
        refine sx_off rfl rfl rfl rfl rfl ?_
        refine sx_pick rfl rfl rfl ?_
        refine sx_nil (hZ _ _ ?_ ?_)
        · exact Kn.cons rfl (Kn.cons rfl (Kn.cons rfl (Kn.cons rfl (Kn.cons (congrArg some (congrArg Value.bool (by first | (simp at *; done) | (simp at *; omega) | (simp at *; rw [Bool.eq_iff_iff]; simp; omega)))) Kn.nil))))
        · exact HLe.refl _
    · refine sx_off rfl rfl rfl rfl rfl ?_
      refine sx_off rfl rfl rfl rfl rfl ?_
      refine sx_pick rfl rfl rfl ?_
      refine sx_move rfl rfl ?_
      refine sx_off rfl rfl rfl rfl rfl ?_
      refine sx_off rfl rfl rfl rfl rfl ?_
      refine sx_pick rfl rfl rfl ?_
      refine sx_nil (hZ _ _ ?_ ?_)
      · exact Kn.cons rfl (Kn.cons rfl (Kn.cons rfl (Kn.cons rfl (Kn.cons (congrArg some (congrArg Value.bool (by first | (simp at *; done) | (simp at *; omega) | (simp at *; rw [Bool.eq_iff_iff]; simp; omega)))) Kn.nil))))
      · exact HLe.refl _
  refine awp_cond rfl (fun h2 => ?_) (fun h2 => ?_)
  · obtain ⟨h3, h4, h5⟩ : c = 3 ∧ k = 0 ∧ x = 0 := by simpa using h2
    rw [show errQ c k p x = 4 by unfold errQ; rw [if_neg (by omega), if_neg (by omega), if_pos (.inl ⟨h4, h5⟩)]]
    refine awp_seq_region (fun Z hZ => ?_)
    refine sx_assign rfl rfl ?_
    refine sx_nil (hZ _ _ ?_)
    refine awp_forget [(8, _)] (Kn.cons rfl (Kn.nil)) ?_
    refine awp_ret ?_
    repeat (with_reducible refine nx_then_ret ?_)
    exact nx_ret1 rfl rfl rfl
  have h2' : ¬ (c = 3 ∧ k = 0 ∧ x = 0) := by simpa using h2
  have hnx : (p.off + p.len) % 18446744073709551616 = p.next := rfl
  refine awp_skip ?_
  with_reducible refine nx_normal ?_
  refine awp_seq ?_
  refine awq_seq_meet [(75, .bool (decide (c = 3 ∧ 0 < k ∧ 0 < x ∧ x - 1 = p.next)))] [] mixed (by kernel_rfl) (fun Z hZ => ?_) ?_
  · refine sq_move rfl rfl ?_
    refine sq_eql rfl rfl rfl ?_
    refine sq_move rfl rfl ?_
    refine sq_split 49 rfl (fun hb2 => ?_) (fun hb2 => ?_)
    · refine sq_on rfl rfl rfl ?_
      refine sq_move rfl rfl ?_
      refine sq_on rfl rfl rfl ?_
      refine sq_gtr rfl rfl rfl ?_
      refine sq_pick rfl rfl rfl ?_
      refine sq_move rfl rfl ?_
      refine sq_split 53 rfl (fun hb6 => ?_) (fun hb6 => ?_)
      · refine sq_on rfl rfl rfl ?_
        refine sq_move rfl rfl ?_
        refine sq_on rfl rfl rfl ?_
        refine sq_gtr rfl rfl rfl ?_
        refine sq_pick rfl rfl rfl ?_
        refine sq_move rfl rfl ?_
        refine sq_split 57 rfl (fun hb10 => ?_) (fun hb10 => ?_)
        · refine sq_on rfl rfl rfl ?_
          refine sq_move rfl rfl ?_
          refine sq_on rfl rfl rfl ?_
          refine sq_sub rfl rfl ((x - 1 : Nat) : Int) (by simp at hb10; rw [IntWalk.u64_in _ (by omega)]; omega) rfl ?_
          refine sq_on rfl rfl rfl ?_
          refine sq_move rfl rfl ?_
          refine sq_on rfl rfl rfl ?_
          refine sq_move rfl rfl ?_
          refine sq_on rfl rfl rfl ?_
          refine sq_sub rfl rfl ((k - 1 : Nat) : Int) (by simp at hb6; rw [IntWalk.i64_in _ (by omega)]; omega) rfl ?_
          refine sq_on rfl rfl rfl ?_
          refine sq_indexAddr ((k - 1) * 4) Try.underlying66 tyS98 rfl rfl (by omega) (by simp) rfl ?_
          refine sq_on rfl rfl rfl ?_
          refine sq_fieldAddr rfl tyF98_1 (by first | (simp only [Nat.reduceAdd, Nat.add_zero, Nat.zero_add]; first | done | rfl) | rfl) rfl ?_
          refine sq_on rfl rfl rfl ?_
          refine sq_loadRo 0 rfl rfl ((k - 1) * 4 + 1) (by simp) tyA35 tyS35 (rd_off (hpl (by simpa using hb6))) rfl ?_
          refine sq_on rfl rfl rfl ?_
          refine sq_move rfl rfl ?_
          refine sq_on rfl rfl rfl ?_
          refine sq_move rfl rfl ?_
          refine sq_on rfl rfl rfl ?_
          refine sq_sub rfl rfl ((k - 1 : Nat) : Int) (by simp at hb6; rw [IntWalk.i64_in _ (by omega)]; omega) rfl ?_
          refine sq_on rfl rfl rfl ?_
          refine sq_indexAddr ((k - 1) * 4) Try.underlying66 tyS98 rfl rfl (by omega) (by simp) rfl ?_
          refine sq_on rfl rfl rfl ?_
          refine sq_fieldAddr rfl tyF98_2 (by first | (simp only [Nat.reduceAdd, Nat.add_zero, Nat.zero_add]; first | done | rfl) | rfl) rfl ?_
          refine sq_on rfl rfl rfl ?_
          refine sq_loadRo 0 rfl rfl ((k - 1) * 4 + 2) (by simp) tyA63 tyS63 (rd_len (hpl (by simpa using hb6))) rfl ?_
          refine sq_on rfl rfl rfl ?_
          refine sq_conv Try.underlying63 Try.underlying35 rfl ((p.len : Nat) : Int) (by rw [IntWalk.u64_in _ (by omega)]) rfl ?_
          refine sq_on rfl rfl rfl ?_
          refine sq_add rfl rfl ((p.next : Nat) : Int) (by rw [← Int.natCast_add, u64_w]; rfl) rfl ?_
          refine sq_on rfl rfl rfl ?_
          refine sq_eql rfl rfl rfl ?_
          refine sq_pick rfl rfl rfl ?_
          refine sq_nil (hZ _ _ ?_ ?_)
          · exact Kn.cons (congrArg some (congrArg Value.bool (by first | (simp at *; done) | (simp at *; omega) | (simp at *; rw [Bool.eq_iff_iff]; simp; omega)))) Kn.nil
          · exact HLe.pick [] (by simp) rfl
        · refine sq_off rfl rfl rfl rfl rfl ?_
          refine sq_off rfl rfl rfl rfl rfl ?_
          refine sq_off rfl rfl rfl rfl rfl ?_
          refine sq_off rfl rfl rfl rfl rfl ?_
          refine sq_off rfl rfl rfl rfl rfl ?_
          refine sq_off rfl rfl rfl rfl rfl ?_
          refine sq_off rfl rfl rfl rfl rfl ?_
          refine sq_off rfl rfl rfl rfl rfl ?_
          refine sq_off rfl rfl rfl rfl rfl ?_
          refine sq_off rfl rfl rfl rfl rfl ?_
          refine sq_off rfl rfl rfl rfl rfl ?_
          refine sq_off rfl rfl rfl rfl rfl ?_
          refine sq_off rfl rfl rfl rfl rfl ?_
          refine sq_off rfl rfl rfl rfl rfl ?_
          refine sq_off rfl rfl rfl rfl rfl ?_
          refine sq_off rfl rfl rfl rfl rfl ?_
          refine sq_off rfl rfl rfl rfl rfl ?_
          refine sq_pick rfl rfl rfl ?_
          refine sq_nil (hZ _ _ ?_ ?_)
          · exact Kn.cons (congrArg some (congrArg Value.bool (by first | (simp at *; done) | (simp at *; omega) | (simp at *; rw [Bool.eq_iff_iff]; simp; omega)))) Kn.nil
          · exact HLe.pick [] (by simp) rfl
      · refine sq_off rfl rfl rfl rfl rfl ?_
        refine sq_off rfl rfl rfl rfl rfl ?_
        refine sq_pick rfl rfl rfl ?_
        refine sq_move rfl rfl ?_
        refine sq_off rfl rfl rfl rfl rfl ?_
        refine sq_off rfl rfl rfl rfl rfl ?_
        refine sq_off rfl rfl rfl rfl rfl ?_
        refine sq_off rfl rfl rfl rfl rfl ?_
        refine sq_off rfl rfl rfl rfl rfl ?_
        refine sq_off rfl rfl rfl rfl rfl ?_
        refine sq_off rfl rfl rfl rfl rfl ?_
        refine sq_off rfl rfl rfl rfl rfl ?_
        refine sq_off rfl rfl rfl rfl rfl ?_
        refine sq_off rfl rfl rfl rfl rfl ?_
        refine sq_off rfl rfl rfl rfl rfl ?_
        refine sq_off rfl rfl rfl rfl rfl ?_
        refine sq_off rfl rfl rfl rfl rfl ?_
        refine sq_off rfl rfl rfl rfl rfl ?_
        refine sq_off rfl rfl rfl rfl rfl ?_
        refine sq_off rfl rfl rfl rfl rfl ?_
        refine sq_off rfl rfl rfl rfl rfl ?_
        refine sq_pick rfl rfl rfl ?_
        refine sq_nil (hZ _ _ ?_ ?_)
        · exact Kn.cons (congrArg some (congrArg Value.bool (by first | (simp at *; done) | (simp at *; omega) | (simp at *; rw [Bool.eq_iff_iff]; simp; omega)))) Kn.nil
        · exact HLe.pick [] (by simp) rfl
    · refine sq_off rfl rfl rfl rfl rfl ?_
      refine sq_off rfl rfl rfl rfl rfl ?_
      refine sq_pick rfl rfl rfl ?_
      refine sq_move rfl rfl ?_
      refine sq_off rfl rfl rfl rfl rfl ?_
      refine sq_off rfl rfl rfl rfl rfl ?_
      refine sq_pick rfl rfl rfl ?_
      refine sq_move rfl rfl ?_
      refine sq_off rfl rfl rfl rfl rfl ?_
      refine sq_off rfl rfl rfl rfl rfl ?_
      refine sq_off rfl rfl rfl rfl rfl ?_
      refine sq_off rfl rfl rfl rfl rfl ?_
      refine sq_off rfl rfl rfl rfl rfl ?_
      refine sq_off rfl rfl rfl rfl rfl ?_
      refine sq_off rfl rfl rfl rfl rfl ?_
      refine sq_off rfl rfl rfl rfl rfl ?_
      refine sq_off rfl rfl rfl rfl rfl ?_
      refine sq_off rfl rfl rfl rfl rfl ?_
      refine sq_off rfl rfl rfl rfl rfl ?_
      refine sq_off rfl rfl rfl rfl rfl ?_
      refine sq_off rfl rfl rfl rfl rfl ?_
      refine sq_off rfl rfl rfl rfl rfl ?_
      refine sq_off rfl rfl rfl rfl rfl ?_
      refine sq_off rfl rfl rfl rfl rfl ?_
      refine sq_off rfl rfl rfl rfl rfl ?_
      refine sq_pick rfl rfl rfl ?_
      refine sq_nil (hZ _ _ ?_ ?_)
      · exact Kn.cons (congrArg some (congrArg Value.bool (by first | (simp at *; done) | (simp at *; omega) | (simp at *; rw [Bool.eq_iff_iff]; simp; omega)))) Kn.nil
      · exact HLe.pick [] (by simp) rfl
  refine awp_cond rfl (fun h3 => ?_) (fun h3 => ?_)
  · obtain ⟨h4, h5⟩ : c = 3 ∧ 0 < k ∧ 0 < x ∧ x - 1 = p.next := by simpa using h3
    rw [show errQ c k p x = 4 by unfold errQ; rw [if_neg (by omega), if_neg (by omega), if_pos (.inr h5)]]
    refine awp_seq_region (fun Z hZ => ?_)
    refine sx_assign rfl rfl ?_
    refine sx_nil (hZ _ _ ?_)
    refine awp_forget [(8, _)] (Kn.cons rfl (Kn.nil)) ?_
    refine awp_ret ?_
    repeat (with_reducible refine nx_then_ret ?_)
    exact nx_ret1 rfl rfl rfl
  have h3' : ¬ (c = 3 ∧ 0 < k ∧ 0 < x ∧ x - 1 = p.next) := by simpa using h3
  have hee : errQ c k p x = 0 := by
    unfold errQ
    by_cases hc0 : c = 0
    · rw [if_pos hc0]
      by_cases hk0 : k = 0
      · rw [if_neg (by rw [hp0 hk0]; omega)]
      · rw [if_neg (by omega)]
    rw [if_neg hc0]
    by_cases hc1 : c = 1 ∨ c = 2
    · rw [if_pos hc1, if_neg (by omega)]
    rw [if_neg hc1, if_neg (by omega)]
  rw [hee]
  refine awp_skip ?_
  with_reducible refine nx_normal ?_
  refine awp_seq_region (fun Z hZ => ?_)
  refine sx_assign rfl rfl ?_
  refine sx_nil (hZ _ _ ?_)
  refine awp_forget [(8, _)] (Kn.cons rfl (Kn.nil)) ?_
  refine awp_ret ?_
  exact nx_ret1 rfl rfl rfl
theorem dput_fn (c k g cp x : Nat) (e : En) (M : List En) (hc : c < 4) (hx : x < 18446744073709551616) (he : M[k]? = some e) (hM : M.length ≤ 100000) (hE : EnsOk M) (h0 : errQ c k (prevE M k) x = 0) :
    Fn Try.prog 56 [.slice (some ⟨g, 0, none⟩) M.length cp, iq c, iq k, uq x] [.own g 98 (ecells M)] fun _ H' => H' = [.own g 98 (ecells (M.set k (putQ c (prevE M k) e x)))] := by
  have hk : k < M.length := (List.getElem?_eq_some_iff.1 he).1
  have hpo := prevE_ok hE k
  have hpl := fun h0 => prevE_at (M := M) (k := k) h0 hk
  have hp0 : k = 0 → (prevE M k).id = 0 := fun h0 => by rw [prevE_0 h0]; rfl
  obtain ⟨p, hpe⟩ : ∃ p, prevE M k = p := ⟨_, rfl⟩
  rw [hpe] at hpl hp0 hpo h0 ⊢
  obtain ⟨p1, p2, p3, p4⟩ := hpo
  have hn := next_lt p
  have hset : ∀ y, 0 < k → (M.set k y)[k - 1]? = some p := fun y h => by rw [List.getElem?_set_ne (by omega)]; exact hpl h
  refine Fn.enter (N := 72) Try.func56 rfl (by kernel_rfl) rfl (fun w0 => ?_)

  refine awp_seq_region (fun Z hZ => ?_)
  refine sx_move rfl rfl ?_
  refine sx_nil (hZ _ _ ?_)
  refine awp_forget [(0, _), (2, _), (3, _), (8, _)] (Kn.cons rfl (Kn.cons rfl (Kn.cons rfl (Kn.cons rfl (Kn.nil))))) ?_
  refine awp_block ?_
  refine awp_seq_region (fun Z hZ => ?_)
  refine sx_eql rfl rfl rfl ?_
  refine sx_assign rfl rfl ?_
  refine sx_nil (hZ _ _ ?_)
  refine awp_forget [(0, _), (2, _), (3, _), (8, _), (35, _)] (Kn.cons rfl (Kn.cons rfl (Kn.cons rfl (Kn.cons rfl (Kn.cons rfl (Kn.nil)))))) ?_
  refine awp_cond rfl (fun h => ?_) (fun h => ?_)
  · have hc0 : c = 0 := by simp at h; omega
    refine awp_seq_region (fun Z hZ => ?_)
    refine sx_move rfl rfl ?_
    refine sx_move rfl rfl ?_
    refine sx_move rfl rfl ?_
    refine sx_indexAddr (k * 4) Try.underlying66 tyS98 rfl rfl (by omega) (by simp) rfl ?_
    refine sx_fieldAddr rfl tyF98_0 (by first | (simp only [Nat.reduceAdd, Nat.add_zero, Nat.zero_add]; first | done | rfl) | rfl) rfl ?_
    refine sx_store1 0 rfl rfl rfl tyS35 rfl (ecells_ble he (j := 0) (by omega)) (set_id he _) rfl ?_
    refine sx_nil (hZ _ _ ?_)
    refine awp_forget [(0, _), (2, _), (3, _)] (Kn.cons rfl (Kn.cons rfl (Kn.cons rfl (Kn.nil)))) ?_
    refine awp_seq_region (fun Z hZ => ?_)
    refine sx_move rfl rfl ?_
    refine sx_gtr rfl rfl rfl ?_
    refine sx_nil (hZ _ _ ?_)
    refine awp_forget [(0, _), (2, _), (3, _), (43, _)] (Kn.cons rfl (Kn.cons rfl (Kn.cons rfl (Kn.cons rfl (Kn.nil))))) ?_
    refine awp_cond rfl (fun h1 => ?_) (fun h1 => ?_)
    · have hkp : 0 < k := by simp at h1; omega
      refine awp_region (fun Z hZ => ?_)
      refine sx_move rfl rfl ?_
      refine sx_move rfl rfl ?_
      refine sx_move rfl rfl ?_
      refine sx_move rfl rfl ?_
      refine sx_sub rfl rfl ((k - 1 : Nat) : Int) (by rw [IntWalk.i64_in _ (by omega)]; omega) rfl ?_
      refine sx_indexAddr ((k - 1) * 4) Try.underlying66 tyS98 rfl rfl (by omega) (by simp) rfl ?_
      refine sx_fieldAddr rfl tyF98_0 (by first | (simp only [Nat.reduceAdd, Nat.add_zero, Nat.zero_add]; first | done | rfl) | rfl) rfl ?_
      refine sx_load 0 rfl rfl tyA35 tyS35 (rd_id (hset _ hkp)) rfl ?_
      refine sx_move rfl rfl ?_
      refine sx_add rfl rfl (((p.id + x) % 18446744073709551616 : Nat) : Int) (u64_add p.id x) rfl ?_
      refine sx_indexAddr (k * 4) Try.underlying66 tyS98 rfl rfl (by omega) (by simp) rfl ?_
      refine sx_fieldAddr rfl tyF98_0 (by first | (simp only [Nat.reduceAdd, Nat.add_zero, Nat.zero_add]; first | done | rfl) | rfl) rfl ?_
      refine sx_store1 0 rfl rfl rfl tyS35 rfl (ecells_ble (at_set he) (j := 0) (by omega)) (set_id (at_set he) _) rfl ?_
      refine sx_nil (hZ _ _ ?_)
      refine nx_forget [] (Kn.nil) ?_
      repeat (with_reducible refine nx_block_normal ?_)
      refine nx_end0h _ rfl (HLe.refl _) ?_
      rw [List.set_set, List.set_set, show putQ c p e x = { e with id := (p.id + x) % 18446744073709551616 } by unfold putQ; rw [if_pos hc0]]
      rfl
    · have hk0 : k = 0 := by simp at h1; omega
      refine awp_skip ?_
      repeat (with_reducible refine nx_block_normal ?_)
      refine nx_end0h _ rfl (HLe.refl _) ?_
      rw [show putQ c p e x = { e with id := x } by unfold putQ; rw [if_pos hc0, hp0 hk0, show (0 + x) % 18446744073709551616 = x by omega]]
      rfl
  have hc0 : c ≠ 0 := by simp at h; omega
  refine awp_seq_region (fun Z hZ => ?_)
  refine sx_eql rfl rfl rfl ?_
  refine sx_assign rfl rfl ?_
  refine sx_nil (hZ _ _ ?_)
  refine awp_forget [(0, _), (2, _), (3, _), (8, _), (56, _)] (Kn.cons rfl (Kn.cons rfl (Kn.cons rfl (Kn.cons rfl (Kn.cons rfl (Kn.nil)))))) ?_
  refine awp_cond rfl (fun h1 => ?_) (fun h1 => ?_)
  · have hc1 : c = 1 := by simp at h1; omega
    refine awp_region (fun Z hZ => ?_)
    refine sx_move rfl rfl ?_
    refine sx_move rfl rfl ?_
    refine sx_move rfl rfl ?_
    refine sx_conv Try.underlying35 Try.underlying63 rfl ((x % 4294967296 : Nat) : Int) (u32_w x) rfl ?_
    refine sx_indexAddr (k * 4) Try.underlying66 tyS98 rfl rfl (by omega) (by simp) rfl ?_
    refine sx_fieldAddr rfl tyF98_3 (by first | (simp only [Nat.reduceAdd, Nat.add_zero, Nat.zero_add]; first | done | rfl) | rfl) rfl ?_
    refine sx_store1 0 rfl rfl rfl tyS63 rfl (ecells_ble he (j := 3) (by omega)) (set_run he _) rfl ?_
    refine sx_nil (hZ _ _ ?_)
    refine nx_forget [] (Kn.nil) ?_
    repeat (with_reducible refine nx_block_normal ?_)
    refine nx_end0h _ rfl (HLe.refl _) ?_
    rw [show putQ c p e x = { e with run := x % 4294967296 } by unfold putQ; rw [if_neg hc0, if_pos hc1]]
    rfl
  have hc1 : c ≠ 1 := by simp at h1; omega
  refine awp_seq_region (fun Z hZ => ?_)
  refine sx_eql rfl rfl rfl ?_
  refine sx_assign rfl rfl ?_
  refine sx_nil (hZ _ _ ?_)
  refine awp_forget [(0, _), (2, _), (3, _), (64, _)] (Kn.cons rfl (Kn.cons rfl (Kn.cons rfl (Kn.cons rfl (Kn.nil))))) ?_
  refine awp_cond rfl (fun h2 => ?_) (fun h2 => ?_)
  · have hc2 : c = 2 := by simp at h2; omega
    refine awp_region (fun Z hZ => ?_)
    refine sx_move rfl rfl ?_
    refine sx_move rfl rfl ?_
    refine sx_move rfl rfl ?_
    refine sx_conv Try.underlying35 Try.underlying63 rfl ((x % 4294967296 : Nat) : Int) (u32_w x) rfl ?_
    refine sx_indexAddr (k * 4) Try.underlying66 tyS98 rfl rfl (by omega) (by simp) rfl ?_
    refine sx_fieldAddr rfl tyF98_2 (by first | (simp only [Nat.reduceAdd, Nat.add_zero, Nat.zero_add]; first | done | rfl) | rfl) rfl ?_
    refine sx_store1 0 rfl rfl rfl tyS63 rfl (ecells_ble he (j := 2) (by omega)) (set_len he _) rfl ?_
    refine sx_nil (hZ _ _ ?_)
    refine nx_forget [] (Kn.nil) ?_
    repeat (with_reducible refine nx_block_normal ?_)
    refine nx_end0h _ rfl (HLe.refl _) ?_
    rw [show putQ c p e x = { e with len := x % 4294967296 } by unfold putQ; rw [if_neg hc0, if_neg hc1, if_pos hc2]]
    rfl
  have hc2 : c ≠ 2 := by simp at h2; omega
  have hput : putQ c p e x = { e with off := if x = 0 then p.next else x - 1 } := by unfold putQ; rw [if_neg hc0, if_neg hc1, if_neg hc2]
  have hk0 : x = 0 → 0 < k := fun hx0 => by
    unfold errQ at h0
    rw [if_neg hc0, if_neg (by omega)] at h0
    rcases Nat.eq_zero_or_pos k with hk0 | hk0
    · rw [if_pos (.inl ⟨hk0, hx0⟩)] at h0; cases h0
    · exact hk0
  obtain ⟨z, hz⟩ : ∃ z, (if x = 0 then 18446744073709551615 else x - 1) = z := ⟨_, rfl⟩
  have hzx : x = 0 ∨ z + 1 = x := by rw [← hz]; split <;> omega
  have e1 : (M.set k { e with off := z })[k]? = some { e with off := z } := at_set he
  rw [hput]
  refine awp_seq_region (fun Z hZ => ?_)
  refine sx_move rfl rfl ?_
  refine sx_move rfl rfl ?_
  refine sx_move rfl rfl ?_
  refine sx_sub rfl rfl ((z : Nat) : Int) (by rw [u64_1 hx, hz]) rfl ?_
  refine sx_indexAddr (k * 4) Try.underlying66 tyS98 rfl rfl (by omega) (by simp) rfl ?_
  refine sx_fieldAddr rfl tyF98_1 (by first | (simp only [Nat.reduceAdd, Nat.add_zero, Nat.zero_add]; first | done | rfl) | rfl) rfl ?_
  refine sx_store1 0 rfl rfl rfl tyS35 rfl (ecells_ble he (j := 1) (by omega)) (set_off he _) rfl ?_
  refine sx_nil (hZ _ _ ?_)
  refine awp_forget [(0, _), (2, _), (3, _)] (Kn.cons rfl (Kn.cons rfl (Kn.cons rfl (Kn.nil)))) ?_
  refine awp_seq_region (fun Z hZ => ?_)
  refine sx_move rfl rfl ?_
  refine sx_eql rfl rfl rfl ?_
  refine sx_nil (hZ _ _ ?_)
  refine awp_forget [(0, _), (2, _), (16, _)] (Kn.cons rfl (Kn.cons rfl (Kn.cons rfl (Kn.nil)))) ?_
  refine awp_cond rfl (fun h3 => ?_) (fun h3 => ?_)
  · have hx0 : x = 0 := by simp at h3; omega
    have hkp := hk0 hx0
    have hq := hset { e with off := z } hkp
    rw [if_pos hx0]
    refine awh_region [0, 1, 2, 3, 4, 5, 6, 7, 8, 9, 10, 11, 12, 13, 14, 15, 16, 17] [18] mixed (by kernel_rfl) rfl rfl (fun Z hZ => ?_)
    refine sq_move rfl rfl ?_
    refine sq_move rfl rfl ?_
    refine sq_move rfl rfl ?_
    refine sq_move rfl rfl ?_
    refine sq_sub rfl rfl ((k - 1 : Nat) : Int) (by rw [IntWalk.i64_in _ (by omega)]; omega) rfl ?_
    refine sq_indexAddr ((k - 1) * 4) Try.underlying66 tyS98 rfl rfl (by omega) (by simp) rfl ?_
    refine sq_fieldAddr rfl tyF98_1 (by first | (simp only [Nat.reduceAdd, Nat.add_zero, Nat.zero_add]; first | done | rfl) | rfl) rfl ?_
    refine sq_load 0 rfl rfl tyA35 tyS35 (rd_off hq) rfl ?_
    refine sq_move rfl rfl ?_
    refine sq_move rfl rfl ?_
    refine sq_sub rfl rfl ((k - 1 : Nat) : Int) (by rw [IntWalk.i64_in _ (by omega)]; omega) rfl ?_
    refine sq_indexAddr ((k - 1) * 4) Try.underlying66 tyS98 rfl rfl (by omega) (by simp) rfl ?_
    refine sq_fieldAddr rfl tyF98_2 (by first | (simp only [Nat.reduceAdd, Nat.add_zero, Nat.zero_add]; first | done | rfl) | rfl) rfl ?_
    refine sq_load 0 rfl rfl tyA63 tyS63 (rd_len hq) rfl ?_
    refine sq_conv Try.underlying63 Try.underlying35 rfl ((p.len : Nat) : Int) (by rw [IntWalk.u64_in _ (by omega)]) rfl ?_
    refine sq_add rfl rfl ((p.next : Nat) : Int) (by rw [← Int.natCast_add, u64_w]; rfl) rfl ?_
    refine sq_indexAddr (k * 4) Try.underlying66 tyS98 rfl rfl (by omega) (by simp) rfl ?_
    refine sq_fieldAddr rfl tyF98_1 (by first | (simp only [Nat.reduceAdd, Nat.add_zero, Nat.zero_add]; first | done | rfl) | rfl) rfl ?_
    refine sq_nil ?_
    refine sx_store1 0 rfl rfl rfl tyS35 rfl (ecells_ble e1 (j := 1) (by omega)) (set_off e1 _) rfl ?_
    refine sx_nil (hZ _ _ ?_)
    refine nx_forget [] (Kn.nil) ?_
    repeat (with_reducible refine nx_block_normal ?_)
    refine nx_end0h _ rfl (HLe.refl _) ?_
    rw [List.set_set, List.set_set]
    rfl
  · have hx0 : x ≠ 0 := by simp at h3; omega
    refine awp_skip ?_
    repeat (with_reducible refine nx_block_normal ?_)
    refine nx_end0h _ rfl (HLe.refl _) ?_
    rw [if_neg hx0, show x - 1 = z by omega]
    rfl
end Go.Proofs.Ytjelakmndcecoaa

namespace Go.Proofs.Ytjelakmndcecoaa
open Go.RowKit
set_option linter.unusedVariables false
set_option linter.unusedSimpArgs false
/-- The numbers behind the first one, from the j-th on, so many more. -/
def decG (s : List UInt8) : Nat → Nat → List En → Nat → List En × Nat × Nat
  | 0, _, L, p => if p < s.length then ([], p, 4) else if rowC L ≠ 0 then ([], s.length, rowC L) else (L, s.length, 0)
  | k + 1, j, L, p =>
    if (getQ s p).2.2 ≠ 0 then ([], p, (getQ s p).2.2)
    else if errQ (j / L.length) (j % L.length) (prevE L (j % L.length)) (getQ s p).1 ≠ 0 then ([], p, errQ (j / L.length) (j % L.length) (prevE L (j % L.length)) (getQ s p).1)
    else decG s k (j + 1) (L.set (j % L.length) (putQ (j / L.length) (prevE L (j % L.length)) (atE L (j % L.length)) (getQ s p).1)) (getQ s p).2.1
def decQ (s : List UInt8) : List En × Nat × Nat :=
  if 65536 < s.length then ([], 0, 5) else if (getQ s 0).2.2 ≠ 0 then ([], 0, (getQ s 0).2.2)
  else if 4096 < (getQ s 0).1 then ([], 0, 21) else decG s (4 * (getQ s 0).1) 0 (List.replicate (getQ s 0).1 zeroEn) (getQ s 0).2.1
theorem getQ_facts (s : List UInt8) (p : Nat) (hp : p ≤ s.length) : (getQ s p).1 < 18446744073709551616 ∧ (getQ s p).2.1 ≤ s.length ∧ (getQ s p).2.2 ≤ 11 := by
  unfold getQ
  have hl : (s.drop p).length = s.length - p := List.length_drop
  by_cases h : (wrongQ (s.drop p)).1 = 0
  · rw [if_pos h]
    obtain ⟨h1, h2, h3, h4⟩ := wrong_ok h
    refine ⟨?_, ?_, by show 0 ≤ 11; omega⟩
    · show valL _ < _
      rw [h1]
      have := valL_mod (t := s.drop p) (k := cnt 10 (s.drop p)) (by omega) h3 h4
      omega
    · show p + _ ≤ _
      rw [h1]
      omega
  · rw [if_neg h]
    refine ⟨by show 0 < _; omega, hp, ?_⟩
    show (wrongQ _).1 ≤ 11
    unfold wrongQ
    split
    · exact Nat.le_refl _
    split
    · show 3 ≤ 11; omega
    split
    · exact Nat.le_refl _
    split
    · show 4 ≤ 11; omega
    · show 0 ≤ 11; omega
theorem decG_0 (s : List UInt8) (j : Nat) (L : List En) (p : Nat) : decG s 0 j L p = if p < s.length then ([], p, 4) else if rowC L ≠ 0 then ([], s.length, rowC L) else (L, s.length, 0) := rfl
theorem decG_s {s : List UInt8} {k j c i n : Nat} {L : List En} {p x q : Nat} (hn : L.length = n) (hj : j = c * n + i) (hi : i < n) (hg : getQ s p = (x, q, 0)) :
    decG s (k + 1) j L p = if errQ c i (prevE L i) x ≠ 0 then ([], p, errQ c i (prevE L i) x) else decG s k (j + 1) (L.set i (putQ c (prevE L i) (atE L i) x)) q := by
  have h1 : j / n = c := by rw [hj, Nat.mul_comm, Nat.mul_add_div (by omega), Nat.div_eq_of_lt hi, Nat.add_zero]
  have h2 : j % n = i := by rw [hj, Nat.mul_comm, Nat.mul_add_mod, Nat.mod_eq_of_lt hi]
  rw [decG, hg, hn, h1, h2]
  simp only [ne_eq, not_true_eq_false, if_false]
theorem decG_e {s : List UInt8} {k j : Nat} {L : List En} {p x q e : Nat} (hg : getQ s p = (x, q, e)) (he : e ≠ 0) : decG s (k + 1) j L p = ([], p, e) := by
  rw [decG, hg]
  simp only [ne_eq, he, not_false_eq_true, if_true]
theorem ens_zero (n : Nat) : EnsOk (List.replicate n zeroEn) := fun e he => by rw [(List.mem_replicate.1 he).2]; exact zero_ok
theorem ens_set {L : List En} {i : Nat} {y : En} (h : EnsOk L) (hy : y.ok) : EnsOk (L.set i y) := fun e he => by
  rcases List.mem_or_eq_of_mem_set he with h1 | rfl
  · exact h e h1
  · exact hy
theorem ecells_zero (n : Nat) : (List.replicate n ([uq 0, uq 0, wq4 0, wq4 0] : List Value)).flatten = ecells (List.replicate n zeroEn) := by
  simp only [ecells, List.flatMap, List.map_replicate]
  rfl
theorem vget_fn' (s : List UInt8) (p x q e : Nat) (hp : p ≤ s.length) (hs : s.length ≤ 1000000) (hg : getQ s p = (x, q, e)) : Fn Try.prog 33 [.agg #[.string (str s), iq p, iq 0]] [] fun v _ => v = .tuple #[uq x, .agg #[.string (str s), iq q, iq e]] := by
  have h := vget_fn s p hp hs
  rw [hg] at h
  exact h
theorem ddecode_fn (s : List UInt8) (hs : s.length ≤ 1000000) :
    Fn Try.prog 14 [.string (str s)] [] fun v H' => ∃ u, v = .tuple #[u, iq (decQ s).2.1, iq (decQ s).2.2] ∧ RowOk u (decQ s).1.length ∧ H' = rowE u 65 4 (ecells (decQ s).1) := by
  refine Fn.enter (N := 92) Try.func14 rfl (by kernel_rfl) rfl (fun w0 => ?_)

  refine awp_seq_region (fun Z hZ => ?_)
  refine sx_assign rfl rfl ?_
  refine sx_assign rfl rfl ?_
  refine sx_assign rfl rfl ?_
  refine sx_nil (hZ _ _ ?_)
  refine awp_forget [(0, _)] (Kn.cons rfl (Kn.nil)) ?_
  refine awp_seq ?_
  refine awp_seq_region (fun Z hZ => ?_)
  refine sx_move rfl rfl ?_
  refine sx_lenS Try.underlying9 rfl rfl ?_
  refine sx_gtr rfl rfl rfl ?_
  refine sx_nil (hZ _ _ ?_)
  refine awp_forget [(0, _), (17, _)] (Kn.cons rfl (Kn.cons rfl (Kn.nil))) ?_
  refine awp_cond rfl (fun h => ?_) (fun h => ?_)
  · have h0 : 65536 < s.length := by simp at h; omega
    rw [show decQ s = ([], 0, 5) by unfold decQ; rw [if_pos h0]]
    refine awp_seq_region (fun Z hZ => ?_)
    refine sx_assign rfl rfl ?_
    refine sx_assign rfl rfl ?_
    refine sx_assign rfl rfl ?_
    refine sx_nil (hZ _ _ ?_)
    refine awp_forget [(2, _), (3, _), (4, _)] (Kn.cons rfl (Kn.cons rfl (Kn.cons rfl (Kn.nil)))) ?_
    refine awp_ret ?_
    repeat (with_reducible refine nx_then_ret ?_)
    exact nx_ret3h [] rfl rfl rfl rfl (HLe.sub (List.nil_sublist _)) ⟨_, rfl, RowOk.nil, rfl⟩
  have h0 : ¬ 65536 < s.length := by simp at h; omega
  refine awp_skip ?_
  with_reducible refine nx_normal ?_
  obtain ⟨n, p0, e0, hg0⟩ : ∃ n p0 e0, getQ s 0 = (n, p0, e0) := ⟨_, _, _, rfl⟩
  obtain ⟨f1, f2, f3⟩ := getQ_facts s 0 (by omega)
  rw [hg0] at f1 f2 f3
  simp only at f1 f2 f3
  refine awp_seq_region (fun Z hZ => ?_)
  refine sx_move rfl rfl ?_
  refine sx_build tyZ81 tyP81 rfl rfl (by first | (simp only [List.take_succ_cons, List.take_zero, List.drop_succ_cons, List.drop_zero, List.cons_append, List.nil_append, List.append_nil, List.length_cons, List.length_nil, Nat.reduceAdd, Nat.zero_add, Nat.add_zero, Value.cells, wrV, zrep_one, List.replicate_succ, List.replicate_zero, Nat.reduceMul, Nat.zero_mul]; first | done | rfl) | rfl) rfl ?_
  refine sx_callP (vget_fn' s 0 n p0 e0 (by omega) hs hg0) rfl rfl ?_
  refine sx_move rfl rfl ?_
  refine sx_extract rfl rfl rfl ?_
  refine sx_extract rfl rfl rfl ?_
  refine sx_alloc tyZ81 rfl (fun g1 => ?_)
  refine sx_assign rfl rfl ?_
  first | refine sx_store 0 rfl rfl rfl tyS81 (by first | (simp only [Value.cells]; first | done | rfl) | rfl) rfl rfl (by first | (simp only [List.length_cons, List.length_nil, Nat.reduceAdd, Nat.zero_add, Nat.add_zero]; first | done | rfl) | rfl) (by first | (simp only [List.take_succ_cons, List.take_zero, List.drop_succ_cons, List.drop_zero, List.cons_append, List.nil_append, List.append_nil, List.length_cons, List.length_nil, Nat.reduceAdd, Nat.zero_add, Nat.add_zero, Value.cells, wrV]; first | done | rfl) | rfl) (by first | (simp only [List.set_cons_succ, List.set_cons_zero]; first | done | rfl) | rfl) ?_
  refine sx_nil (hZ _ _ ?_)
  refine awp_forget [(0, _), (5, _), (6, _)] (Kn.cons rfl (Kn.cons rfl (Kn.cons rfl (Kn.nil)))) ?_
  refine awp_seq (awp_block ?_)

  refine awp_seq_region (fun Z hZ => ?_)
  refine sx_fieldAddr rfl tyF81_2 (by first | (simp only [Nat.reduceAdd, Nat.add_zero, Nat.zero_add]; first | done | rfl) | rfl) rfl ?_
  first | refine sx_load 0 rfl rfl tyA24 tyS24 rfl rfl ?_
  refine sx_neq rfl rfl rfl ?_
  refine sx_assign rfl rfl ?_
  refine sx_nil (hZ _ _ ?_)
  refine awp_forget [(0, _), (5, _), (6, _), (24, _)] (Kn.cons rfl (Kn.cons rfl (Kn.cons rfl (Kn.cons rfl (Kn.nil))))) ?_
  refine awp_cond rfl (fun h1 => ?_) (fun h1 => ?_)
  · have he : e0 ≠ 0 := by simp at h1; omega
    rw [show decQ s = ([], 0, e0) by unfold decQ; rw [if_neg h0, hg0, if_pos he]]
    refine awq_seq_region mixed (by kernel_rfl) (fun Z hZ => ?_)
    refine sq_fieldAddr rfl tyF81_2 (by first | (simp only [Nat.reduceAdd, Nat.add_zero, Nat.zero_add]; first | done | rfl) | rfl) rfl ?_
    first | refine sq_load 0 rfl rfl tyA24 tyS24 rfl rfl ?_
    refine sq_assign rfl rfl ?_
    refine sq_assign rfl rfl ?_
    refine sq_assign rfl rfl ?_
    refine sq_nil (hZ _ _ ?_)
    refine awp_forget [(2, _), (3, _), (4, _)] (Kn.cons rfl (Kn.cons rfl (Kn.cons rfl (Kn.nil)))) ?_
    refine awp_ret ?_
    repeat (with_reducible (first | refine nx_then_ret ?_ | refine nx_block_ret ?_))
    exact nx_ret3h [] rfl rfl rfl rfl (HLe.sub (List.nil_sublist _)) ⟨_, rfl, RowOk.nil, rfl⟩
  have he : e0 = 0 := by simp at h1; omega
  subst he
  refine awp_seq_region (fun Z hZ => ?_)
  refine sx_move rfl rfl ?_
  refine sx_gtr rfl rfl rfl ?_
  refine sx_assign rfl rfl ?_
  refine sx_nil (hZ _ _ ?_)
  refine awp_forget [(0, _), (5, _), (6, _), (30, _)] (Kn.cons rfl (Kn.cons rfl (Kn.cons rfl (Kn.cons rfl (Kn.nil))))) ?_
  refine awp_cond rfl (fun h2 => ?_) (fun h2 => ?_)
  · have hn : 4096 < n := by simp at h2; omega
    rw [show decQ s = ([], 0, 21) by unfold decQ; rw [if_neg h0, hg0, if_neg (by simp), if_pos hn]]
    refine awp_seq_region (fun Z hZ => ?_)
    refine sx_assign rfl rfl ?_
    refine sx_assign rfl rfl ?_
    refine sx_assign rfl rfl ?_
    refine sx_nil (hZ _ _ ?_)
    refine awp_forget [(2, _), (3, _), (4, _)] (Kn.cons rfl (Kn.cons rfl (Kn.cons rfl (Kn.nil)))) ?_
    refine awp_ret ?_
    repeat (with_reducible (first | refine nx_then_ret ?_ | refine nx_block_ret ?_))
    exact nx_ret3h [] rfl rfl rfl rfl (HLe.sub (List.nil_sublist _)) ⟨_, rfl, RowOk.nil, rfl⟩
  have hn : n ≤ 4096 := by simp at h2; omega
  have hD : decQ s = decG s (4 * n) 0 (List.replicate n zeroEn) p0 := by unfold decQ; rw [if_neg h0, hg0, if_neg (by simp), if_neg (by simp; omega)]
  rw [hD]
  obtain ⟨D, hDD⟩ : ∃ D, decG s (4 * n) 0 (List.replicate n zeroEn) p0 = D := ⟨_, rfl⟩
  rw [hDD]
  refine awp_skip ?_
  repeat (with_reducible refine nx_block_normal ?_)
  with_reducible refine nx_normal ?_
  refine awp_seq_region (fun Z hZ => ?_)
  refine sx_move rfl rfl ?_
  refine sx_makeSlice (zs := [uq 0, uq 0, wq4 0, wq4 0]) (bytes := 24) (size := 4) (z := .agg #[uq 0, uq 0, wq4 0, wq4 0]) Try.underlying44 (by kernel_rfl) rfl rfl rfl rfl (by omega) (by show _ ≤ 9223372036854775807; omega) rfl (fun ga => ?_)
  rw [ecells_zero]
  refine sx_assign rfl rfl ?_
  refine sx_nil (hZ _ _ ?_)
  refine awp_forget [(0, _), (6, _), (7, _)] (Kn.cons rfl (Kn.cons rfl (Kn.cons rfl (Kn.nil)))) ?_
  refine awp_seq ?_
  refine awp_seq_region (fun Z hZ => ?_)
  refine sx_move rfl rfl ?_
  refine sx_nil (hZ _ _ ?_)
  refine awp_forget [(0, _), (6, _), (7, _), (35, _)] (Kn.cons rfl (Kn.cons rfl (Kn.cons rfl (Kn.cons rfl (Kn.nil))))) ?_
  refine awp_block ?_
  refine awp_loop (ι := Nat × List En × Nat) (fun i => [(0, .string (str s)), (6, ptr g1 0), (7, .slice (some ⟨ga, 0, none⟩) n n), (35, iq (i.1 : Nat))]) (fun i => [.own ga 65 (ecells i.2.1), .own g1 81 [.string (str s), iq (i.2.2 : Nat), iq 0]])
    (fun i => i.1 ≤ 4 ∧ i.2.1.length = n ∧ EnsOk i.2.1 ∧ i.2.2 ≤ s.length ∧ decG s (4 * n - i.1 * n) (i.1 * n) i.2.1 i.2.2 = D) (fun i => 4 - i.1) (0, List.replicate n zeroEn, p0) ⟨by simp, by simp, ens_zero n, f2, by simpa using hDD⟩ (Kn.cons rfl (Kn.cons rfl (Kn.cons rfl (Kn.cons rfl Kn.nil)))) (HLe.refl _) ?_
  rintro ⟨c, M, p⟩ ⟨hc, hM, hE, hp, hq⟩
  simp only at hc hM hE hp hq

  refine awp_seq_region (fun Z hZ => ?_)
  refine sx_lss rfl rfl rfl ?_
  refine sx_nil (hZ _ _ ?_)
  refine awp_forget [(0, _), (6, _), (7, _), (35, _), (36, _)] (Kn.cons rfl (Kn.cons rfl (Kn.cons rfl (Kn.cons rfl (Kn.cons rfl (Kn.nil)))))) ?_
  refine awp_seq (awp_cond rfl (fun h3 => ?_) (fun h3 => ?_))
  · have hc4 : c < 4 := by simp at h3; omega
    have hcn : c * n ≤ 3 * n := Nat.mul_le_mul_right _ (by omega)
    refine awp_skip ?_
    with_reducible refine nx_normal ?_
    refine awp_seq (awp_block ?_)
    refine awp_seq_region (fun Z hZ => ?_)
    refine sx_move rfl rfl ?_
    refine sx_assign rfl rfl ?_
    refine sx_nil (hZ _ _ ?_)
    refine awp_forget [(0, _), (6, _), (7, _), (8, _), (35, _)] (Kn.cons rfl (Kn.cons rfl (Kn.cons rfl (Kn.cons rfl (Kn.cons rfl (Kn.nil)))))) ?_
    refine awp_seq_region (fun Z hZ => ?_)
    refine sx_alloc tyZ65 rfl (fun g2 => ?_)
    refine sx_nil (hZ _ _ ?_)
    refine awp_forget [(0, _), (6, _), (7, _), (8, _), (9, _), (35, _)] (Kn.cons rfl (Kn.cons rfl (Kn.cons rfl (Kn.cons rfl (Kn.cons rfl (Kn.cons rfl (Kn.nil))))))) ?_
    refine awp_seq_region (fun Z hZ => ?_)
    refine sx_move rfl rfl ?_
    refine sx_len Try.underlying44 rfl rfl ?_
    refine sx_move rfl rfl ?_
    refine sx_nil (hZ _ _ ?_)
    refine awp_forget [(0, _), (6, _), (7, _), (8, _), (9, _), (35, _), (39, _), (40, _)] (Kn.cons rfl (Kn.cons rfl (Kn.cons rfl (Kn.cons rfl (Kn.cons rfl (Kn.cons rfl (Kn.cons rfl (Kn.cons rfl (Kn.nil))))))))) ?_
    refine awp_block ?_
    refine awp_loop (ι := Nat × List En × Nat) (fun i => [(0, .string (str s)), (6, ptr g1 0), (7, .slice (some ⟨ga, 0, none⟩) n n), (8, iq (c : Nat)), (9, ptr g2 0), (35, iq (c : Nat)), (39, iq (n : Nat)), (40, iq (i.1 : Nat))]) (fun i => [.own g2 65 (prevE i.2.1 i.1).cells, .own ga 65 (ecells i.2.1), .own g1 81 [.string (str s), iq (i.2.2 : Nat), iq 0]])
      (fun i => i.1 ≤ n ∧ i.2.1.length = n ∧ EnsOk i.2.1 ∧ i.2.2 ≤ s.length ∧ decG s (4 * n - (c * n + i.1)) (c * n + i.1) i.2.1 i.2.2 = D) (fun i => n - i.1) (0, M, p) ⟨by simp, hM, hE, hp, hq⟩ (Kn.cons rfl (Kn.cons rfl (Kn.cons rfl (Kn.cons rfl (Kn.cons rfl (Kn.cons rfl (Kn.cons rfl (Kn.cons rfl Kn.nil)))))))) (HLe.refl _) ?_
    rintro ⟨i, M, p⟩ ⟨hi, hM, hE, hp, hq⟩
    simp only at hi hM hE hp hq

    refine awp_seq_region (fun Z hZ => ?_)
    refine sx_lss rfl rfl rfl ?_
    refine sx_nil (hZ _ _ ?_)
    refine awp_forget [(0, _), (6, _), (7, _), (8, _), (9, _), (35, _), (39, _), (40, _), (41, _)] (Kn.cons rfl (Kn.cons rfl (Kn.cons rfl (Kn.cons rfl (Kn.cons rfl (Kn.cons rfl (Kn.cons rfl (Kn.cons rfl (Kn.cons rfl (Kn.nil)))))))))) ?_
    refine awp_seq (awp_cond rfl (fun h4 => ?_) (fun h4 => ?_))
    · have hlt : i < n := by simpa using h4
      have hat := atE_at (L := M) (i := i) (by omega)
      have hpo := prevE_ok hE i
      have hao := atE_ok hE i
      obtain ⟨x, q, e, hg⟩ : ∃ x q e, getQ s p = (x, q, e) := ⟨_, _, _, rfl⟩
      obtain ⟨g1', g2', g3'⟩ := getQ_facts s p hp
      rw [hg] at g1' g2' g3'
      simp only at g1' g2' g3'
      obtain ⟨m, hm⟩ : ∃ m, 4 * n - (c * n + i) = m + 1 := ⟨4 * n - (c * n + i) - 1, by omega⟩
      rw [hm] at hq
      refine awp_skip ?_
      with_reducible refine nx_normal ?_
      refine awp_seq (awp_block ?_)
      refine awp_seq_region (fun Z hZ => ?_)
      refine sx_move rfl rfl ?_
      refine sx_assign rfl rfl ?_
      refine sx_nil (hZ _ _ ?_)
      refine awp_forget [(0, _), (6, _), (7, _), (8, _), (9, _), (10, _), (35, _), (39, _), (40, _)] (Kn.cons rfl (Kn.cons rfl (Kn.cons rfl (Kn.cons rfl (Kn.cons rfl (Kn.cons rfl (Kn.cons rfl (Kn.cons rfl (Kn.cons rfl (Kn.nil)))))))))) ?_
      refine awp_seq_region (fun Z hZ => ?_)
      refine sx_loadA 2 rfl rfl tyA81 tyS81 (by first | (simp only [List.length_cons, List.length_nil, Nat.reduceAdd, Nat.zero_add, Nat.add_zero]; first | done | rfl) | rfl) (by first | (simp only [List.take_succ_cons, List.take_zero, List.drop_succ_cons, List.drop_zero, List.cons_append, List.nil_append, List.append_nil, List.length_cons, List.length_nil, Nat.reduceAdd, Nat.zero_add, Nat.add_zero, Value.cells, wrV]; first | done | rfl) | rfl) rfl ?_
      refine sx_callP (vget_fn' s p x q e hp hs hg) rfl rfl ?_
      refine sx_move rfl rfl ?_
      refine sx_extract rfl rfl rfl ?_
      refine sx_extract rfl rfl rfl ?_
      refine sx_alloc tyZ81 rfl (fun g3 => ?_)
      refine sx_assign rfl rfl ?_
      refine sx_store 0 rfl rfl rfl tyS81 (by first | (simp only [Value.cells]; first | done | rfl) | rfl) rfl rfl (by first | (simp only [List.length_cons, List.length_nil, Nat.reduceAdd, Nat.zero_add, Nat.add_zero]; first | done | rfl) | rfl) (by first | (simp only [List.take_succ_cons, List.take_zero, List.drop_succ_cons, List.drop_zero, List.cons_append, List.nil_append, List.append_nil, List.length_cons, List.length_nil, Nat.reduceAdd, Nat.zero_add, Nat.add_zero, Value.cells, wrV]; first | done | rfl) | rfl) (by first | (simp only [List.set_cons_succ, List.set_cons_zero]; first | done | rfl) | rfl) ?_
      refine sx_nil (hZ _ _ ?_)
      refine awp_forget [(0, _), (6, _), (7, _), (8, _), (9, _), (10, _), (11, _), (12, _), (35, _), (39, _), (40, _)] (Kn.cons rfl (Kn.cons rfl (Kn.cons rfl (Kn.cons rfl (Kn.cons rfl (Kn.cons rfl (Kn.cons rfl (Kn.cons rfl (Kn.cons rfl (Kn.cons rfl (Kn.cons rfl (Kn.nil)))))))))))) ?_

      refine awp_seq ?_
      refine awp_seq_region (fun Z hZ => ?_)
      refine sx_fieldAddr rfl tyF81_2 (by first | (simp only [Nat.reduceAdd, Nat.add_zero, Nat.zero_add]; first | done | rfl) | rfl) rfl ?_
      refine sx_load 0 rfl rfl tyA24 tyS24 rfl rfl ?_
      refine sx_neq rfl rfl rfl ?_
      refine sx_nil (hZ _ _ ?_)
      refine awp_forget [(0, _), (6, _), (7, _), (8, _), (9, _), (10, _), (11, _), (12, _), (35, _), (39, _), (40, _), (50, _)] (Kn.cons rfl (Kn.cons rfl (Kn.cons rfl (Kn.cons rfl (Kn.cons rfl (Kn.cons rfl (Kn.cons rfl (Kn.cons rfl (Kn.cons rfl (Kn.cons rfl (Kn.cons rfl (Kn.cons rfl (Kn.nil))))))))))))) ?_
      refine awp_cond rfl (fun h5 => ?_) (fun h5 => ?_)
      · have he : e ≠ 0 := by simp at h5; omega
        rw [decG_e hg he] at hq
        rw [← hq]
        refine awq_seq_region mixed (by kernel_rfl) (fun Z hZ => ?_)
        refine sq_fieldAddr rfl tyF81_1 (by first | (simp only [Nat.reduceAdd, Nat.add_zero, Nat.zero_add]; first | done | rfl) | rfl) rfl ?_
        refine sq_load 3 rfl rfl tyA3 tyS3 rfl rfl ?_
        refine sq_fieldAddr rfl tyF81_2 (by first | (simp only [Nat.reduceAdd, Nat.add_zero, Nat.zero_add]; first | done | rfl) | rfl) rfl ?_
        refine sq_load 0 rfl rfl tyA24 tyS24 rfl rfl ?_
        refine sq_assign rfl rfl ?_
        refine sq_assign rfl rfl ?_
        refine sq_assign rfl rfl ?_
        refine sq_nil (hZ _ _ ?_)
        refine awp_forget [(2, _), (3, _), (4, _)] (Kn.cons rfl (Kn.cons rfl (Kn.cons rfl (Kn.nil)))) ?_
        refine awp_ret ?_
        repeat (with_reducible (first | refine nx_then_ret ?_ | refine nx_block_ret ?_))
        exact nx_ret3h [] rfl rfl rfl rfl (HLe.sub (List.nil_sublist _)) ⟨_, rfl, RowOk.nil, rfl⟩
      have he : e = 0 := by simp at h5; omega
      subst he
      rw [decG_s hM rfl hlt hg] at hq
      refine awp_skip ?_
      with_reducible refine nx_normal ?_
      refine awp_seq ?_
      refine aww_seq_region _ [(0, true), (1, true), (2, true), (3, true), (4, true), (5, true), (6, true), (7, false), (8, true)] mixed (by kernel_rfl) (HLe.pick [1] (by simp) (by simp only [pick, List.filterMap_cons, List.filterMap_nil, List.getElem?_cons_succ, List.getElem?_cons_zero]; rfl)) (fun Z hZ => ?_)
      refine tw_p rfl ?_
      refine sv_move rfl rfl ?_
      refine sv_nil ?_
      refine tw_p rfl ?_
      refine sv_move rfl rfl ?_
      refine sv_nil ?_
      refine tw_p rfl ?_
      first | refine sv_loadA 0 rfl rfl tyA65 tyS65 (by first | (simp only [List.length_cons, List.length_nil, Nat.reduceAdd, Nat.zero_add, Nat.add_zero]; first | done | rfl) | rfl) (by first | (simp only [List.take_succ_cons, List.take_zero, List.drop_succ_cons, List.drop_zero, List.cons_append, List.nil_append, List.append_nil, List.length_cons, List.length_nil, Nat.reduceAdd, Nat.zero_add, Nat.add_zero, Value.cells, wrV]; first | done | rfl) | rfl) rfl ?_
      refine sv_nil ?_
      refine tw_p rfl ?_
      refine sv_move rfl rfl ?_
      refine sv_nil ?_
      refine tw_p rfl ?_
      refine sv_move rfl rfl ?_
      refine sv_nil ?_
      refine tw_p rfl ?_
      refine sv_indexAddr (i * 4) Try.underlying44 tyS65 rfl rfl (by omega) (by simp) rfl ?_
      refine sv_nil ?_
      refine tw_p rfl ?_
      refine sv_move rfl rfl ?_
      refine sv_nil ?_
      refine tw_g rfl ?_
      refine sx_callO [_] [_, _, _] (dset_fn c i i ga (prevE M i) (atE M i) x M hc4 (by omega) hpo g1' hat) rfl (HLe.pick [2, 1, 0, 3] (by simp) rfl) rfl ?_
      rintro v H' ⟨rfl, M', rfl, hM'⟩
      refine sx_nil ⟨HLe.pick [1] (by simp) rfl, ?_⟩
      refine tw_p rfl ?_
      refine sv_assign rfl rfl ?_
      refine sv_nil ?_
      refine tw_nil (hZ _ _ ?_)
      refine awp_forget [(0, _), (6, _), (7, _), (8, _), (9, _), (10, _), (12, _), (13, _), (35, _), (39, _), (40, _)] (Kn.cons rfl (Kn.cons rfl (Kn.cons rfl (Kn.cons rfl (Kn.cons rfl (Kn.cons rfl (Kn.cons rfl (Kn.cons rfl (Kn.cons rfl (Kn.cons rfl (Kn.cons rfl (Kn.nil)))))))))))) ?_
      refine awp_seq_region (fun Z hZ => ?_)
      refine sx_move rfl rfl ?_
      refine sx_neq rfl rfl rfl ?_
      refine sx_nil (hZ _ _ ?_)
      refine awp_forget [(0, _), (6, _), (7, _), (8, _), (9, _), (10, _), (12, _), (13, _), (35, _), (39, _), (40, _), (64, _)] (Kn.cons rfl (Kn.cons rfl (Kn.cons rfl (Kn.cons rfl (Kn.cons rfl (Kn.cons rfl (Kn.cons rfl (Kn.cons rfl (Kn.cons rfl (Kn.cons rfl (Kn.cons rfl (Kn.cons rfl (Kn.nil))))))))))))) ?_
      refine awp_cond rfl (fun h6 => ?_) (fun h6 => ?_)
      · have he : errQ c i (prevE M i) x ≠ 0 := by simp at h6; omega
        rw [if_pos he] at hq
        rw [← hq]
        refine awq_seq_region mixed (by kernel_rfl) (fun Z hZ => ?_)
        refine sq_fieldAddr rfl tyF81_1 (by first | (simp only [Nat.reduceAdd, Nat.add_zero, Nat.zero_add]; first | done | rfl) | rfl) rfl ?_
        refine sq_load 3 rfl rfl tyA3 tyS3 rfl rfl ?_
        refine sq_move rfl rfl ?_
        refine sq_assign rfl rfl ?_
        refine sq_assign rfl rfl ?_
        refine sq_assign rfl rfl ?_
        refine sq_nil (hZ _ _ ?_)
        refine awp_forget [(2, _), (3, _), (4, _)] (Kn.cons rfl (Kn.cons rfl (Kn.cons rfl (Kn.nil)))) ?_
        refine awp_ret ?_
        repeat (with_reducible (first | refine nx_then_ret ?_ | refine nx_block_ret ?_))
        exact nx_ret3h [] rfl rfl rfl rfl (HLe.sub (List.nil_sublist _)) ⟨_, rfl, RowOk.nil, rfl⟩
      have he : errQ c i (prevE M i) x = 0 := by simp at h6; omega
      rw [if_neg (by simpa using he)] at hq
      have hM' := hM' he
      subst hM'
      have hat' : (M.set i (putQ c (prevE M i) (atE M i) x))[i]? = some (putQ c (prevE M i) (atE M i) x) := at_set hat
      have hE' : EnsOk (M.set i (putQ c (prevE M i) (atE M i) x)) := ens_set hE (putQ_ok hao g1')
      refine awp_skip ?_
      with_reducible refine nx_normal ?_
      refine aww_region _ [(0, true), (1, true), (2, true), (3, true), (4, true), (5, false), (6, false)] mixed (by kernel_rfl) (HLe.pick [0, 2] (by simp) (by simp only [pick, List.filterMap_cons, List.filterMap_nil, List.getElem?_cons_succ, List.getElem?_cons_zero]; rfl)) (fun Z hZ => ?_)
      refine tw_p rfl ?_
      refine sv_move rfl rfl ?_
      refine sv_nil ?_
      refine tw_p rfl ?_
      refine sv_move rfl rfl ?_
      refine sv_nil ?_
      refine tw_p rfl ?_
      refine sv_indexAddr (i * 4) Try.underlying44 tyS65 rfl rfl (by omega) (by simp) rfl ?_
      refine sv_nil ?_
      refine tw_p rfl ?_
      refine sv_load 0 rfl rfl tyA65 tyS65 (ecells_all hat') rfl ?_
      refine sv_nil ?_
      refine tw_p rfl ?_
      refine sv_loadA 1 rfl rfl tyA81 tyS81 (by first | (simp only [List.length_cons, List.length_nil, Nat.reduceAdd, Nat.zero_add, Nat.add_zero]; first | done | rfl) | rfl) (by first | (simp only [List.take_succ_cons, List.take_zero, List.drop_succ_cons, List.drop_zero, List.cons_append, List.nil_append, List.append_nil, List.length_cons, List.length_nil, Nat.reduceAdd, Nat.zero_add, Nat.add_zero, Value.cells, wrV]; first | done | rfl) | rfl) rfl ?_
      refine sv_nil ?_
      refine tw_g rfl ?_
      refine sx_store 1 rfl rfl rfl tyS65 (by first | (simp only [Value.cells]; first | done | rfl) | rfl) rfl rfl (by first | (simp only [List.length_cons, List.length_nil, Nat.reduceAdd, Nat.zero_add, Nat.add_zero]; first | done | rfl) | rfl) (by first | (simp only [List.take_succ_cons, List.take_zero, List.drop_succ_cons, List.drop_zero, List.cons_append, List.nil_append, List.append_nil, List.length_cons, List.length_nil, Nat.reduceAdd, Nat.zero_add, Nat.add_zero, Value.cells, wrV]; first | done | rfl) | rfl) (by first | (simp only [List.set_cons_succ, List.set_cons_zero]; first | done | rfl) | rfl) ?_
      refine sx_nil ⟨HLe.pick [0, 2] (by simp) rfl, ?_⟩
      refine tw_g rfl ?_
      refine sx_store 3 rfl rfl rfl tyS81 (by first | (simp only [Value.cells]; first | done | rfl) | rfl) rfl rfl (by first | (simp only [List.length_cons, List.length_nil, Nat.reduceAdd, Nat.zero_add, Nat.add_zero]; first | done | rfl) | rfl) (by first | (simp only [List.take_succ_cons, List.take_zero, List.drop_succ_cons, List.drop_zero, List.cons_append, List.nil_append, List.append_nil, List.length_cons, List.length_nil, Nat.reduceAdd, Nat.zero_add, Nat.add_zero, Value.cells, wrV]; first | done | rfl) | rfl) (by first | (simp only [List.set_cons_succ, List.set_cons_zero]; first | done | rfl) | rfl) ?_
      refine sx_nil ⟨HLe.pick [0, 2] (by simp) rfl, ?_⟩
      refine tw_nil (hZ _ _ ?_)
      refine nx_forget [(0, _), (6, _), (7, _), (8, _), (9, _), (35, _), (39, _), (40, _)] (Kn.cons rfl (Kn.cons rfl (Kn.cons rfl (Kn.cons rfl (Kn.cons rfl (Kn.cons rfl (Kn.cons rfl (Kn.cons rfl (Kn.nil))))))))) ?_
      repeat (with_reducible refine nx_block_normal ?_)
      with_reducible refine nx_normal ?_
      refine awp_region (fun Z hZ => ?_)
      refine sx_add rfl rfl ((i + 1 : Nat) : Int) (by rw [IntWalk.i64_in _ (by omega)]; omega) rfl ?_
      refine sx_move rfl rfl ?_
      refine sx_nil (hZ _ _ ?_)
      refine nx_forget [(0, _), (6, _), (7, _), (8, _), (9, _), (35, _), (39, _), (40, _)] (Kn.cons rfl (Kn.cons rfl (Kn.cons rfl (Kn.cons rfl (Kn.cons rfl (Kn.cons rfl (Kn.cons rfl (Kn.cons rfl (Kn.nil))))))))) ?_
      refine nx_round (i + 1, M.set i (putQ c (prevE M i) (atE M i) x), q) ⟨by show i + 1 ≤ _; omega, by simpa using hM, hE', g2', ?_⟩ (by simp; omega) (Kn.cons rfl (Kn.cons rfl (Kn.cons rfl (Kn.cons rfl (Kn.cons rfl (Kn.cons rfl (Kn.cons rfl (Kn.cons rfl Kn.nil)))))))) ?_
      · show decG s (4 * n - (c * n + (i + 1))) (c * n + (i + 1)) _ _ = D
        rw [show 4 * n - (c * n + (i + 1)) = m by omega, ← Nat.add_assoc]
        exact hq
      · simp only [prevE_succ]
        have : atE (M.set i (putQ c (prevE M i) (atE M i) x)) i = putQ c (prevE M i) (atE M i) x := Option.some.inj ((atE_at (by simp; omega)).symm.trans hat')
        rw [this]
        exact HLe.pick [1, 0, 3] (by simp) rfl
    · refine awp_exit ?_
      repeat (with_reducible refine nx_then_exit ?_)
      with_reducible refine nx_block_exit ?_
      repeat (with_reducible refine nx_block_normal ?_)
      with_reducible refine nx_normal ?_
      have hie : i = n := by simp at h4; omega
      subst hie
      refine awp_region (fun Z hZ => ?_)
      refine sx_add rfl rfl ((c + 1 : Nat) : Int) (by rw [IntWalk.i64_in _ (by omega)]; omega) rfl ?_
      refine sx_move rfl rfl ?_
      refine sx_nil (hZ _ _ ?_)
      refine nx_forget [(0, _), (6, _), (7, _), (35, _)] (Kn.cons rfl (Kn.cons rfl (Kn.cons rfl (Kn.cons rfl (Kn.nil))))) ?_
      refine nx_round (c + 1, M, p) ⟨by show c + 1 ≤ _; omega, hM, hE, hp, ?_⟩ (by simp; omega) (Kn.cons rfl (Kn.cons rfl (Kn.cons rfl (Kn.cons rfl Kn.nil)))) (HLe.drop 1 rfl)
      show decG s (4 * i - (c + 1) * i) ((c + 1) * i) M p = D
      rw [Nat.add_mul, Nat.one_mul]
      exact hq
  · have hc4 : c = 4 := by simp at h3; omega
    subst hc4
    rw [Nat.sub_self, decG_0] at hq
    refine awp_exit ?_
    repeat (with_reducible refine nx_then_exit ?_)
    with_reducible refine nx_block_exit ?_
    with_reducible refine nx_normal ?_
    refine awp_seq ?_
    refine awp_seq_region (fun Z hZ => ?_)
    refine sx_fieldAddr rfl tyF81_1 (by first | (simp only [Nat.reduceAdd, Nat.add_zero, Nat.zero_add]; first | done | rfl) | rfl) rfl ?_
    refine sx_load 1 rfl rfl tyA3 tyS3 rfl rfl ?_
    refine sx_move rfl rfl ?_
    refine sx_lenS Try.underlying9 rfl rfl ?_
    refine sx_lss rfl rfl rfl ?_
    refine sx_nil (hZ _ _ ?_)
    refine awp_forget [(0, _), (6, _), (7, _), (79, _)] (Kn.cons rfl (Kn.cons rfl (Kn.cons rfl (Kn.cons rfl (Kn.nil))))) ?_
    refine awp_cond rfl (fun h4 => ?_) (fun h4 => ?_)
    · have hl : p < s.length := by simp at h4; omega
      rw [if_pos hl] at hq
      rw [← hq]
      refine awq_seq_region mixed (by kernel_rfl) (fun Z hZ => ?_)
      refine sq_fieldAddr rfl tyF81_1 (by first | (simp only [Nat.reduceAdd, Nat.add_zero, Nat.zero_add]; first | done | rfl) | rfl) rfl ?_
      refine sq_load 1 rfl rfl tyA3 tyS3 rfl rfl ?_
      refine sq_assign rfl rfl ?_
      refine sq_assign rfl rfl ?_
      refine sq_assign rfl rfl ?_
      refine sq_nil (hZ _ _ ?_)
      refine awp_forget [(2, _), (3, _), (4, _)] (Kn.cons rfl (Kn.cons rfl (Kn.cons rfl (Kn.nil)))) ?_
      refine awp_ret ?_
      repeat (with_reducible refine nx_then_ret ?_)
      exact nx_ret3h [] rfl rfl rfl rfl (HLe.sub (List.nil_sublist _)) ⟨_, rfl, RowOk.nil, rfl⟩
    have hl : ¬ p < s.length := by simp at h4; omega
    rw [if_neg hl] at hq
    have hmax : M.length ≤ maxLen := by show _ ≤ 9223372036854775807; omega
    refine awp_skip ?_
    with_reducible refine nx_normal ?_
    subst hM
    refine awp_seq ?_
    refine awp_seq_region (fun Z hZ => ?_)
    refine sx_move rfl rfl ?_
    refine sx_callV [.ro ga 0 (ecells M)] (erow_fn (some ⟨ga, 0, none⟩) M.length M _ (fun _ => ⟨_, _, rfl⟩) (fun _ => rfl) (Ro.roE (some ⟨ga, 0, none⟩) (ecells M)) hmax hE) rfl ((HLe.toRo [] []).trans (HLe.pick [0] (by simp) rfl)) (Ro.roE (some ⟨ga, 0, none⟩) (ecells M)) rfl ?_
    refine sx_assign rfl rfl ?_
    refine sx_nil (hZ _ _ ?_)
    refine awp_forget [(0, _), (7, _), (14, _)] (Kn.cons rfl (Kn.cons rfl (Kn.cons rfl (Kn.nil)))) ?_
    refine awp_seq_region (fun Z hZ => ?_)
    refine sx_move rfl rfl ?_
    refine sx_neq rfl rfl rfl ?_
    refine sx_nil (hZ _ _ ?_)
    refine awp_forget [(0, _), (7, _), (14, _), (85, _)] (Kn.cons rfl (Kn.cons rfl (Kn.cons rfl (Kn.cons rfl (Kn.nil))))) ?_
    refine awp_cond rfl (fun h5 => ?_) (fun h5 => ?_)
    · have hr : rowC M ≠ 0 := by simp at h5; omega
      rw [if_pos hr] at hq
      rw [← hq]
      refine awp_seq_region (fun Z hZ => ?_)
      refine sx_move rfl rfl ?_
      refine sx_lenS Try.underlying9 rfl rfl ?_
      refine sx_move rfl rfl ?_
      refine sx_assign rfl rfl ?_
      refine sx_assign rfl rfl ?_
      refine sx_assign rfl rfl ?_
      refine sx_nil (hZ _ _ ?_)
      refine awp_forget [(2, _), (3, _), (4, _)] (Kn.cons rfl (Kn.cons rfl (Kn.cons rfl (Kn.nil)))) ?_
      refine awp_ret ?_
      repeat (with_reducible refine nx_then_ret ?_)
      exact nx_ret3h [] rfl rfl rfl rfl (HLe.sub (List.nil_sublist _)) ⟨_, rfl, RowOk.nil, rfl⟩
    have hr : rowC M = 0 := by simp at h5; omega
    rw [if_neg (by simpa using hr)] at hq
    rw [← hq]
    refine awp_skip ?_
    with_reducible refine nx_normal ?_
    refine awp_seq_region (fun Z hZ => ?_)
    refine sx_move rfl rfl ?_
    refine sx_move rfl rfl ?_
    refine sx_lenS Try.underlying9 rfl rfl ?_
    refine sx_assign rfl rfl ?_
    refine sx_assign rfl rfl ?_
    refine sx_assign rfl rfl ?_
    refine sx_nil (hZ _ _ ?_)
    refine awp_forget [(2, _), (3, _), (4, _)] (Kn.cons rfl (Kn.cons rfl (Kn.cons rfl (Kn.nil)))) ?_
    refine awp_ret ?_
    exact nx_ret3h _ rfl rfl rfl rfl ((HLe.ownRow [] [] (ecells_len M) hmax).trans (HLe.pick [0] (by simp) rfl)) ⟨_, rfl, RowOk.mk _ _ _, rfl⟩
end Go.Proofs.Ytjelakmndcecoaa

namespace Go.Proofs.Ytjelakmndcecoaa
open Go.RowKit
set_option linter.unusedVariables false
set_option linter.unusedSimpArgs false
theorem rget_fn' (s : List UInt8) (p x q e : Nat) (hp : p ≤ s.length) (hs : s.length ≤ 1000000) (hg : getQ s p = (x, q, e)) : Fn Try.prog 54 [.agg #[.string (str s), iq p, iq 0]] [] fun v _ => v = .tuple #[uq x, .agg #[.string (str s), iq q, iq e]] := by
  have h := rget_fn s p hp hs
  rw [hg] at h
  exact h
theorem rdecode_fn (s : List UInt8) (hs : s.length ≤ 1000000) :
    Fn Try.prog 41 [.string (str s)] [] fun v H' => ∃ u, v = .tuple #[u, iq (decQ s).2.1, iq (decQ s).2.2] ∧ RowOk u (decQ s).1.length ∧ H' = rowE u 98 4 (ecells (decQ s).1) := by
  refine Fn.enter (N := 93) Try.func41 rfl (by kernel_rfl) rfl (fun w0 => ?_)

  refine awp_seq_region (fun Z hZ => ?_)
  refine sx_assign rfl rfl ?_
  refine sx_assign rfl rfl ?_
  refine sx_assign rfl rfl ?_
  refine sx_nil (hZ _ _ ?_)
  refine awp_forget [(0, _)] (Kn.cons rfl (Kn.nil)) ?_
  refine awp_seq ?_
  refine awp_seq_region (fun Z hZ => ?_)
  refine sx_move rfl rfl ?_
  refine sx_lenS Try.underlying9 rfl rfl ?_
  refine sx_gtr rfl rfl rfl ?_
  refine sx_nil (hZ _ _ ?_)
  refine awp_forget [(0, _), (17, _)] (Kn.cons rfl (Kn.cons rfl (Kn.nil))) ?_
  refine awp_cond rfl (fun h => ?_) (fun h => ?_)
  · have h0 : 65536 < s.length := by simp at h; omega
    rw [show decQ s = ([], 0, 5) by unfold decQ; rw [if_pos h0]]
    refine awp_seq_region (fun Z hZ => ?_)
    refine sx_assign rfl rfl ?_
    refine sx_assign rfl rfl ?_
    refine sx_assign rfl rfl ?_
    refine sx_nil (hZ _ _ ?_)
    refine awp_forget [(2, _), (3, _), (4, _)] (Kn.cons rfl (Kn.cons rfl (Kn.cons rfl (Kn.nil)))) ?_
    refine awp_ret ?_
    repeat (with_reducible refine nx_then_ret ?_)
    exact nx_ret3h [] rfl rfl rfl rfl (HLe.sub (List.nil_sublist _)) ⟨_, rfl, RowOk.nil, rfl⟩
  have h0 : ¬ 65536 < s.length := by simp at h; omega
  refine awp_skip ?_
  with_reducible refine nx_normal ?_
  obtain ⟨n, p0, e0, hg0⟩ : ∃ n p0 e0, getQ s 0 = (n, p0, e0) := ⟨_, _, _, rfl⟩
  obtain ⟨f1, f2, f3⟩ := getQ_facts s 0 (by omega)
  rw [hg0] at f1 f2 f3
  simp only at f1 f2 f3
  refine awp_seq_region (fun Z hZ => ?_)
  refine sx_move rfl rfl ?_
  refine sx_build tyZ113 tyP113 rfl rfl (by first | (simp only [List.take_succ_cons, List.take_zero, List.drop_succ_cons, List.drop_zero, List.cons_append, List.nil_append, List.append_nil, List.length_cons, List.length_nil, Nat.reduceAdd, Nat.zero_add, Nat.add_zero, Value.cells, wrV, zrep_one, List.replicate_succ, List.replicate_zero, Nat.reduceMul, Nat.zero_mul]; first | done | rfl) | rfl) rfl ?_
  refine sx_callP (rget_fn' s 0 n p0 e0 (by omega) hs hg0) rfl rfl ?_
  refine sx_move rfl rfl ?_
  refine sx_extract rfl rfl rfl ?_
  refine sx_extract rfl rfl rfl ?_
  refine sx_alloc tyZ113 rfl (fun g1 => ?_)
  refine sx_assign rfl rfl ?_
  first | refine sx_store 0 rfl rfl rfl tyS113 (by first | (simp only [Value.cells]; first | done | rfl) | rfl) rfl rfl (by first | (simp only [List.length_cons, List.length_nil, Nat.reduceAdd, Nat.zero_add, Nat.add_zero]; first | done | rfl) | rfl) (by first | (simp only [List.take_succ_cons, List.take_zero, List.drop_succ_cons, List.drop_zero, List.cons_append, List.nil_append, List.append_nil, List.length_cons, List.length_nil, Nat.reduceAdd, Nat.zero_add, Nat.add_zero, Value.cells, wrV]; first | done | rfl) | rfl) (by first | (simp only [List.set_cons_succ, List.set_cons_zero]; first | done | rfl) | rfl) ?_
  refine sx_nil (hZ _ _ ?_)
  refine awp_forget [(0, _), (5, _), (6, _)] (Kn.cons rfl (Kn.cons rfl (Kn.cons rfl (Kn.nil)))) ?_

  refine awp_seq ?_
  refine awp_seq_region (fun Z hZ => ?_)
  refine sx_fieldAddr rfl tyF113_2 (by first | (simp only [Nat.reduceAdd, Nat.add_zero, Nat.zero_add]; first | done | rfl) | rfl) rfl ?_
  first | refine sx_load 0 rfl rfl tyA3 tyS3 rfl rfl ?_
  refine sx_neq rfl rfl rfl ?_
  refine sx_nil (hZ _ _ ?_)
  refine awp_forget [(0, _), (5, _), (6, _), (26, _)] (Kn.cons rfl (Kn.cons rfl (Kn.cons rfl (Kn.cons rfl (Kn.nil))))) ?_
  refine awp_cond rfl (fun h1 => ?_) (fun h1 => ?_)
  · have he : e0 ≠ 0 := by simp at h1; omega
    rw [show decQ s = ([], 0, e0) by unfold decQ; rw [if_neg h0, hg0, if_pos he]]
    refine awq_seq_region mixed (by kernel_rfl) (fun Z hZ => ?_)
    refine sq_fieldAddr rfl tyF113_2 (by first | (simp only [Nat.reduceAdd, Nat.add_zero, Nat.zero_add]; first | done | rfl) | rfl) rfl ?_
    first | refine sq_load 0 rfl rfl tyA3 tyS3 rfl rfl ?_
    refine sq_assign rfl rfl ?_
    refine sq_assign rfl rfl ?_
    refine sq_assign rfl rfl ?_
    refine sq_nil (hZ _ _ ?_)
    refine awp_forget [(2, _), (3, _), (4, _)] (Kn.cons rfl (Kn.cons rfl (Kn.cons rfl (Kn.nil)))) ?_
    refine awp_ret ?_
    repeat (with_reducible refine nx_then_ret ?_)
    exact nx_ret3h [] rfl rfl rfl rfl (HLe.sub (List.nil_sublist _)) ⟨_, rfl, RowOk.nil, rfl⟩
  have he : e0 = 0 := by simp at h1; omega
  subst he
  refine awp_skip ?_
  with_reducible refine nx_normal ?_
  refine awp_seq ?_
  refine awp_seq_region (fun Z hZ => ?_)
  refine sx_move rfl rfl ?_
  refine sx_gtr rfl rfl rfl ?_
  refine sx_nil (hZ _ _ ?_)
  refine awp_forget [(0, _), (5, _), (6, _), (30, _)] (Kn.cons rfl (Kn.cons rfl (Kn.cons rfl (Kn.cons rfl (Kn.nil))))) ?_
  refine awp_cond rfl (fun h2 => ?_) (fun h2 => ?_)
  · have hn : 4096 < n := by simp at h2; omega
    rw [show decQ s = ([], 0, 21) by unfold decQ; rw [if_neg h0, hg0, if_neg (by simp), if_pos hn]]
    refine awp_seq_region (fun Z hZ => ?_)
    refine sx_assign rfl rfl ?_
    refine sx_assign rfl rfl ?_
    refine sx_assign rfl rfl ?_
    refine sx_nil (hZ _ _ ?_)
    refine awp_forget [(2, _), (3, _), (4, _)] (Kn.cons rfl (Kn.cons rfl (Kn.cons rfl (Kn.nil)))) ?_
    refine awp_ret ?_
    repeat (with_reducible refine nx_then_ret ?_)
    exact nx_ret3h [] rfl rfl rfl rfl (HLe.sub (List.nil_sublist _)) ⟨_, rfl, RowOk.nil, rfl⟩
  have hn : n ≤ 4096 := by simp at h2; omega
  have hD : decQ s = decG s (4 * n) 0 (List.replicate n zeroEn) p0 := by unfold decQ; rw [if_neg h0, hg0, if_neg (by simp), if_neg (by simp; omega)]
  rw [hD]
  obtain ⟨D, hDD⟩ : ∃ D, decG s (4 * n) 0 (List.replicate n zeroEn) p0 = D := ⟨_, rfl⟩
  rw [hDD]
  refine awp_skip ?_
  with_reducible refine nx_normal ?_
  refine awp_seq_region (fun Z hZ => ?_)
  refine sx_move rfl rfl ?_
  refine sx_makeSlice (zs := [uq 0, uq 0, wq4 0, wq4 0]) (bytes := 24) (size := 4) (z := .agg #[uq 0, uq 0, wq4 0, wq4 0]) Try.underlying66 (by kernel_rfl) rfl rfl rfl rfl (by omega) (by show _ ≤ 9223372036854775807; omega) rfl (fun ga => ?_)
  rw [ecells_zero]
  refine sx_assign rfl rfl ?_
  refine sx_nil (hZ _ _ ?_)
  refine awp_forget [(0, _), (6, _), (7, _)] (Kn.cons rfl (Kn.cons rfl (Kn.cons rfl (Kn.nil)))) ?_
  refine awp_seq ?_
  refine awp_seq_region (fun Z hZ => ?_)
  refine sx_assign rfl rfl ?_
  refine sx_nil (hZ _ _ ?_)
  refine awp_forget [(0, _), (6, _), (7, _), (8, _)] (Kn.cons rfl (Kn.cons rfl (Kn.cons rfl (Kn.cons rfl (Kn.nil))))) ?_
  refine awp_block ?_
  refine awp_loop (ι := Nat × List En × Nat) (fun i => [(0, .string (str s)), (6, ptr g1 0), (7, .slice (some ⟨ga, 0, none⟩) n n), (8, iq (i.1 : Nat))]) (fun i => [.own ga 98 (ecells i.2.1), .own g1 113 [.string (str s), iq (i.2.2 : Nat), iq 0]])
    (fun i => i.1 ≤ 4 * n ∧ i.2.1.length = n ∧ EnsOk i.2.1 ∧ i.2.2 ≤ s.length ∧ decG s (4 * n - i.1) i.1 i.2.1 i.2.2 = D) (fun i => 4 * n - i.1) (0, List.replicate n zeroEn, p0) ⟨by simp, by simp, ens_zero n, f2, by simpa using hDD⟩ (Kn.cons rfl (Kn.cons rfl (Kn.cons rfl (Kn.cons rfl Kn.nil)))) (HLe.refl _) ?_
  rintro ⟨j, M, p⟩ ⟨hj, hM, hE, hp, hq⟩
  simp only at hj hM hE hp hq

  refine awp_seq ?_
  refine awp_seq_region (fun Z hZ => ?_)
  refine sx_move rfl rfl ?_
  refine sx_move rfl rfl ?_
  refine sx_len Try.underlying66 rfl rfl ?_
  refine sx_mul rfl rfl ((4 * n : Nat) : Int) (by rw [IntWalk.i64_in _ (by omega)]; omega) rfl ?_
  refine sx_lss rfl rfl rfl ?_
  refine sx_nil (hZ _ _ ?_)
  refine awp_forget [(0, _), (6, _), (7, _), (8, _), (37, _)] (Kn.cons rfl (Kn.cons rfl (Kn.cons rfl (Kn.cons rfl (Kn.cons rfl (Kn.nil)))))) ?_
  refine awp_cond rfl (fun h3 => ?_) (fun h3 => ?_)
  · have hlt4 : j < 4 * n := by simp at h3; omega
    obtain ⟨c, hc⟩ : ∃ c, j / n = c := ⟨_, rfl⟩
    obtain ⟨i, hi⟩ : ∃ i, j % n = i := ⟨_, rfl⟩
    have hn0 : 0 < n := by omega
    have hlt : i < n := by rw [← hi]; exact Nat.mod_lt _ hn0
    have hji : j = c * n + i := by have := Nat.div_add_mod j n; rw [hc, hi, Nat.mul_comm] at this; exact this.symm
    have hc4 : c < 4 := by rw [← hc]; exact (Nat.div_lt_iff_lt_mul hn0).2 hlt4
    have hat := atE_at (L := M) (i := i) (by omega)
    have hpo := prevE_ok hE i
    have hao := atE_ok hE i
    obtain ⟨x, q, e, hg⟩ : ∃ x q e, getQ s p = (x, q, e) := ⟨_, _, _, rfl⟩
    obtain ⟨g1', g2', g3'⟩ := getQ_facts s p hp
    rw [hg] at g1' g2' g3'
    simp only at g1' g2' g3'
    obtain ⟨m, hm⟩ : ∃ m, 4 * n - j = m + 1 := ⟨4 * n - j - 1, by omega⟩
    rw [hm] at hq
    refine awp_skip ?_
    with_reducible refine nx_normal ?_
    refine awp_seq (awp_block ?_)
    refine awq_seq_region mixed (by kernel_rfl) (fun Z hZ => ?_)
    refine sq_move rfl rfl ?_
    refine sq_move rfl rfl ?_
    refine sq_len Try.underlying66 rfl rfl ?_
    refine sq_quo rfl rfl (by omega) ((c : Nat) : Int) (by rw [Int.tdiv_eq_ediv_of_nonneg (by omega), ← Int.natCast_ediv, hc, IntWalk.i64_in _ (by omega)]) rfl ?_
    refine sq_move rfl rfl ?_
    refine sq_move rfl rfl ?_
    refine sq_len Try.underlying66 rfl rfl ?_
    refine sq_rem rfl rfl (by omega) ((i : Nat) : Int) (by rw [Int.tmod_eq_emod_of_nonneg (by omega), ← Int.natCast_emod, hi]) rfl ?_
    refine sq_assign rfl rfl ?_
    refine sq_assign rfl rfl ?_
    refine sq_nil (hZ _ _ ?_)
    refine awp_forget [(0, _), (6, _), (7, _), (8, _), (9, _), (10, _)] (Kn.cons rfl (Kn.cons rfl (Kn.cons rfl (Kn.cons rfl (Kn.cons rfl (Kn.cons rfl (Kn.nil))))))) ?_
    refine awp_seq_region (fun Z hZ => ?_)
    refine sx_loadA 1 rfl rfl tyA113 tyS113 (by first | (simp only [List.length_cons, List.length_nil, Nat.reduceAdd, Nat.zero_add, Nat.add_zero]; first | done | rfl) | rfl) (by first | (simp only [List.take_succ_cons, List.take_zero, List.drop_succ_cons, List.drop_zero, List.cons_append, List.nil_append, List.append_nil, List.length_cons, List.length_nil, Nat.reduceAdd, Nat.zero_add, Nat.add_zero, Value.cells, wrV]; first | done | rfl) | rfl) rfl ?_
    refine sx_callP (rget_fn' s p x q e hp hs hg) rfl rfl ?_
    refine sx_move rfl rfl ?_
    refine sx_extract rfl rfl rfl ?_
    refine sx_extract rfl rfl rfl ?_
    refine sx_alloc tyZ113 rfl (fun g2 => ?_)
    refine sx_assign rfl rfl ?_
    refine sx_store 0 rfl rfl rfl tyS113 (by first | (simp only [Value.cells]; first | done | rfl) | rfl) rfl rfl (by first | (simp only [List.length_cons, List.length_nil, Nat.reduceAdd, Nat.zero_add, Nat.add_zero]; first | done | rfl) | rfl) (by first | (simp only [List.take_succ_cons, List.take_zero, List.drop_succ_cons, List.drop_zero, List.cons_append, List.nil_append, List.append_nil, List.length_cons, List.length_nil, Nat.reduceAdd, Nat.zero_add, Nat.add_zero, Value.cells, wrV]; first | done | rfl) | rfl) (by first | (simp only [List.set_cons_succ, List.set_cons_zero]; first | done | rfl) | rfl) ?_
    refine sx_nil (hZ _ _ ?_)
    refine awp_forget [(0, _), (6, _), (7, _), (8, _), (9, _), (10, _), (11, _), (12, _)] (Kn.cons rfl (Kn.cons rfl (Kn.cons rfl (Kn.cons rfl (Kn.cons rfl (Kn.cons rfl (Kn.cons rfl (Kn.cons rfl (Kn.nil))))))))) ?_

    refine awp_seq ?_
    refine awp_seq_region (fun Z hZ => ?_)
    refine sx_fieldAddr rfl tyF113_2 (by first | (simp only [Nat.reduceAdd, Nat.add_zero, Nat.zero_add]; first | done | rfl) | rfl) rfl ?_
    refine sx_load 0 rfl rfl tyA3 tyS3 rfl rfl ?_
    refine sx_neq rfl rfl rfl ?_
    refine sx_nil (hZ _ _ ?_)
    refine awp_forget [(0, _), (6, _), (7, _), (8, _), (9, _), (10, _), (11, _), (12, _), (55, _)] (Kn.cons rfl (Kn.cons rfl (Kn.cons rfl (Kn.cons rfl (Kn.cons rfl (Kn.cons rfl (Kn.cons rfl (Kn.cons rfl (Kn.cons rfl (Kn.nil)))))))))) ?_
    refine awp_cond rfl (fun h5 => ?_) (fun h5 => ?_)
    · have he : e ≠ 0 := by simp at h5; omega
      rw [decG_e hg he] at hq
      rw [← hq]
      refine awq_seq_region mixed (by kernel_rfl) (fun Z hZ => ?_)
      refine sq_fieldAddr rfl tyF113_1 (by first | (simp only [Nat.reduceAdd, Nat.add_zero, Nat.zero_add]; first | done | rfl) | rfl) rfl ?_
      refine sq_load 2 rfl rfl tyA3 tyS3 rfl rfl ?_
      refine sq_fieldAddr rfl tyF113_2 (by first | (simp only [Nat.reduceAdd, Nat.add_zero, Nat.zero_add]; first | done | rfl) | rfl) rfl ?_
      refine sq_load 0 rfl rfl tyA3 tyS3 rfl rfl ?_
      refine sq_assign rfl rfl ?_
      refine sq_assign rfl rfl ?_
      refine sq_assign rfl rfl ?_
      refine sq_nil (hZ _ _ ?_)
      refine awp_forget [(2, _), (3, _), (4, _)] (Kn.cons rfl (Kn.cons rfl (Kn.cons rfl (Kn.nil)))) ?_
      refine awp_ret ?_
      repeat (with_reducible (first | refine nx_then_ret ?_ | refine nx_block_ret ?_))
      exact nx_ret3h [] rfl rfl rfl rfl (HLe.sub (List.nil_sublist _)) ⟨_, rfl, RowOk.nil, rfl⟩
    have he : e = 0 := by simp at h5; omega
    subst he
    rw [decG_s hM hji hlt hg] at hq
    refine awp_skip ?_
    with_reducible refine nx_normal ?_
    have hwr := dwrong_fn c i ga n x M hc4 g1' (by omega) (by omega) hE
    rw [hM] at hwr
    refine awp_seq ?_
    refine awp_seq_region (fun Z hZ => ?_)
    refine sx_move rfl rfl ?_
    refine sx_move rfl rfl ?_
    refine sx_move rfl rfl ?_
    refine sx_move rfl rfl ?_
    refine sx_callV [.ro ga 0 (ecells M)] hwr rfl ((HLe.toRo [] []).trans (HLe.pick [1] (by simp) rfl)) (Ro.roE (some ⟨ga, 0, none⟩) (ecells M)) rfl ?_
    refine sx_assign rfl rfl ?_
    refine sx_nil (hZ _ _ ?_)
    refine awp_forget [(0, _), (6, _), (7, _), (8, _), (9, _), (10, _), (11, _), (12, _), (13, _)] (Kn.cons rfl (Kn.cons rfl (Kn.cons rfl (Kn.cons rfl (Kn.cons rfl (Kn.cons rfl (Kn.cons rfl (Kn.cons rfl (Kn.cons rfl (Kn.nil)))))))))) ?_
    refine awp_seq_region (fun Z hZ => ?_)
    refine sx_move rfl rfl ?_
    refine sx_neq rfl rfl rfl ?_
    refine sx_nil (hZ _ _ ?_)
    refine awp_forget [(0, _), (6, _), (7, _), (8, _), (9, _), (10, _), (11, _), (12, _), (13, _), (66, _)] (Kn.cons rfl (Kn.cons rfl (Kn.cons rfl (Kn.cons rfl (Kn.cons rfl (Kn.cons rfl (Kn.cons rfl (Kn.cons rfl (Kn.cons rfl (Kn.cons rfl (Kn.nil))))))))))) ?_
    refine awp_cond rfl (fun h6 => ?_) (fun h6 => ?_)
    · have he : errQ c i (prevE M i) x ≠ 0 := by simp at h6; omega
      rw [if_pos he] at hq
      rw [← hq]
      refine awq_seq_region mixed (by kernel_rfl) (fun Z hZ => ?_)
      refine sq_fieldAddr rfl tyF113_1 (by first | (simp only [Nat.reduceAdd, Nat.add_zero, Nat.zero_add]; first | done | rfl) | rfl) rfl ?_
      refine sq_load 2 rfl rfl tyA3 tyS3 rfl rfl ?_
      refine sq_move rfl rfl ?_
      refine sq_assign rfl rfl ?_
      refine sq_assign rfl rfl ?_
      refine sq_assign rfl rfl ?_
      refine sq_nil (hZ _ _ ?_)
      refine awp_forget [(2, _), (3, _), (4, _)] (Kn.cons rfl (Kn.cons rfl (Kn.cons rfl (Kn.nil)))) ?_
      refine awp_ret ?_
      repeat (with_reducible (first | refine nx_then_ret ?_ | refine nx_block_ret ?_))
      exact nx_ret3h [] rfl rfl rfl rfl (HLe.sub (List.nil_sublist _)) ⟨_, rfl, RowOk.nil, rfl⟩
    have he : errQ c i (prevE M i) x = 0 := by simp at h6; omega
    rw [if_neg (by simpa using he)] at hq
    have hE' : EnsOk (M.set i (putQ c (prevE M i) (atE M i) x)) := ens_set hE (putQ_ok hao g1')
    have hpt := dput_fn c i ga n x (atE M i) M hc4 g1' hat (by omega) hE he
    rw [hM] at hpt
    refine awp_skip ?_
    with_reducible refine nx_normal ?_
    refine awp_seq_region (fun Z hZ => ?_)
    refine sx_move rfl rfl ?_
    refine sx_move rfl rfl ?_
    refine sx_move rfl rfl ?_
    refine sx_move rfl rfl ?_
    refine sx_callO [_] [_, _] hpt rfl (HLe.pick [1, 0, 2] (by simp) rfl) rfl ?_
    rintro v H' rfl
    refine sx_nil (hZ _ _ ?_)
    refine awp_forget [(0, _), (6, _), (7, _), (8, _), (12, _)] (Kn.cons rfl (Kn.cons rfl (Kn.cons rfl (Kn.cons rfl (Kn.cons rfl (Kn.nil)))))) ?_
    refine awp_region (fun Z hZ => ?_)
    refine sx_loadA 1 rfl rfl tyA113 tyS113 (by first | (simp only [List.length_cons, List.length_nil, Nat.reduceAdd, Nat.zero_add, Nat.add_zero]; first | done | rfl) | rfl) (by first | (simp only [List.take_succ_cons, List.take_zero, List.drop_succ_cons, List.drop_zero, List.cons_append, List.nil_append, List.append_nil, List.length_cons, List.length_nil, Nat.reduceAdd, Nat.zero_add, Nat.add_zero, Value.cells, wrV]; first | done | rfl) | rfl) rfl ?_
    refine sx_store 2 rfl rfl rfl tyS113 (by first | (simp only [Value.cells]; first | done | rfl) | rfl) rfl rfl (by first | (simp only [List.length_cons, List.length_nil, Nat.reduceAdd, Nat.zero_add, Nat.add_zero]; first | done | rfl) | rfl) (by first | (simp only [List.take_succ_cons, List.take_zero, List.drop_succ_cons, List.drop_zero, List.cons_append, List.nil_append, List.append_nil, List.length_cons, List.length_nil, Nat.reduceAdd, Nat.zero_add, Nat.add_zero, Value.cells, wrV]; first | done | rfl) | rfl) (by first | (simp only [List.set_cons_succ, List.set_cons_zero]; first | done | rfl) | rfl) ?_
    refine sx_nil (hZ _ _ ?_)
    refine nx_forget [(0, _), (6, _), (7, _), (8, _)] (Kn.cons rfl (Kn.cons rfl (Kn.cons rfl (Kn.cons rfl (Kn.nil))))) ?_
    repeat (with_reducible refine nx_block_normal ?_)
    with_reducible refine nx_normal ?_
    refine awp_region (fun Z hZ => ?_)
    refine sx_move rfl rfl ?_
    refine sx_add rfl rfl ((j + 1 : Nat) : Int) (by rw [IntWalk.i64_in _ (by omega)]; omega) rfl ?_
    refine sx_assign rfl rfl ?_
    refine sx_nil (hZ _ _ ?_)
    refine nx_forget [(0, _), (6, _), (7, _), (8, _)] (Kn.cons rfl (Kn.cons rfl (Kn.cons rfl (Kn.cons rfl (Kn.nil))))) ?_
    refine nx_round (j + 1, M.set i (putQ c (prevE M i) (atE M i) x), q) ⟨by show j + 1 ≤ _; omega, by simpa using hM, hE', g2', ?_⟩ (by simp; omega) (Kn.cons rfl (Kn.cons rfl (Kn.cons rfl (Kn.cons rfl Kn.nil)))) (HLe.pick [0, 2] (by simp) rfl)
    show decG s (4 * n - (j + 1)) (j + 1) _ _ = D
    rw [show 4 * n - (j + 1) = m by omega]
    exact hq
  · have hc4 : j = 4 * n := by simp at h3; omega
    subst hc4
    rw [Nat.sub_self, decG_0] at hq
    refine awp_exit ?_
    repeat (with_reducible refine nx_then_exit ?_)
    with_reducible refine nx_block_exit ?_
    with_reducible refine nx_normal ?_
    refine awp_seq ?_
    refine awp_seq_region (fun Z hZ => ?_)
    refine sx_fieldAddr rfl tyF113_1 (by first | (simp only [Nat.reduceAdd, Nat.add_zero, Nat.zero_add]; first | done | rfl) | rfl) rfl ?_
    refine sx_load 1 rfl rfl tyA3 tyS3 rfl rfl ?_
    refine sx_move rfl rfl ?_
    refine sx_lenS Try.underlying9 rfl rfl ?_
    refine sx_lss rfl rfl rfl ?_
    refine sx_nil (hZ _ _ ?_)
    refine awp_forget [(0, _), (6, _), (7, _), (80, _)] (Kn.cons rfl (Kn.cons rfl (Kn.cons rfl (Kn.cons rfl (Kn.nil))))) ?_
    refine awp_cond rfl (fun h4 => ?_) (fun h4 => ?_)
    · have hl : p < s.length := by simp at h4; omega
      rw [if_pos hl] at hq
      rw [← hq]
      refine awq_seq_region mixed (by kernel_rfl) (fun Z hZ => ?_)
      refine sq_fieldAddr rfl tyF113_1 (by first | (simp only [Nat.reduceAdd, Nat.add_zero, Nat.zero_add]; first | done | rfl) | rfl) rfl ?_
      refine sq_load 1 rfl rfl tyA3 tyS3 rfl rfl ?_
      refine sq_assign rfl rfl ?_
      refine sq_assign rfl rfl ?_
      refine sq_assign rfl rfl ?_
      refine sq_nil (hZ _ _ ?_)
      refine awp_forget [(2, _), (3, _), (4, _)] (Kn.cons rfl (Kn.cons rfl (Kn.cons rfl (Kn.nil)))) ?_
      refine awp_ret ?_
      repeat (with_reducible refine nx_then_ret ?_)
      exact nx_ret3h [] rfl rfl rfl rfl (HLe.sub (List.nil_sublist _)) ⟨_, rfl, RowOk.nil, rfl⟩
    have hl : ¬ p < s.length := by simp at h4; omega
    rw [if_neg hl] at hq
    have hmax : M.length ≤ maxLen := by show _ ≤ 9223372036854775807; omega
    refine awp_skip ?_
    with_reducible refine nx_normal ?_
    subst hM
    refine awp_seq ?_
    refine awp_seq_region (fun Z hZ => ?_)
    refine sx_move rfl rfl ?_
    refine sx_callV [.ro ga 0 (ecells M)] (rrow_fn (some ⟨ga, 0, none⟩) M.length M _ (fun _ => ⟨_, _, rfl⟩) (fun _ => rfl) (Ro.roE (some ⟨ga, 0, none⟩) (ecells M)) hmax hE) rfl ((HLe.toRo [] []).trans (HLe.pick [0] (by simp) rfl)) (Ro.roE (some ⟨ga, 0, none⟩) (ecells M)) rfl ?_
    refine sx_assign rfl rfl ?_
    refine sx_nil (hZ _ _ ?_)
    refine awp_forget [(0, _), (7, _), (14, _)] (Kn.cons rfl (Kn.cons rfl (Kn.cons rfl (Kn.nil)))) ?_
    refine awp_seq_region (fun Z hZ => ?_)
    refine sx_move rfl rfl ?_
    refine sx_neq rfl rfl rfl ?_
    refine sx_nil (hZ _ _ ?_)
    refine awp_forget [(0, _), (7, _), (14, _), (86, _)] (Kn.cons rfl (Kn.cons rfl (Kn.cons rfl (Kn.cons rfl (Kn.nil))))) ?_
    refine awp_cond rfl (fun h5 => ?_) (fun h5 => ?_)
    · have hr : rowC M ≠ 0 := by simp at h5; omega
      rw [if_pos hr] at hq
      rw [← hq]
      refine awp_seq_region (fun Z hZ => ?_)
      refine sx_move rfl rfl ?_
      refine sx_lenS Try.underlying9 rfl rfl ?_
      refine sx_move rfl rfl ?_
      refine sx_assign rfl rfl ?_
      refine sx_assign rfl rfl ?_
      refine sx_assign rfl rfl ?_
      refine sx_nil (hZ _ _ ?_)
      refine awp_forget [(2, _), (3, _), (4, _)] (Kn.cons rfl (Kn.cons rfl (Kn.cons rfl (Kn.nil)))) ?_
      refine awp_ret ?_
      repeat (with_reducible refine nx_then_ret ?_)
      exact nx_ret3h [] rfl rfl rfl rfl (HLe.sub (List.nil_sublist _)) ⟨_, rfl, RowOk.nil, rfl⟩
    have hr : rowC M = 0 := by simp at h5; omega
    rw [if_neg (by simpa using hr)] at hq
    rw [← hq]
    refine awp_skip ?_
    with_reducible refine nx_normal ?_
    refine awp_seq_region (fun Z hZ => ?_)
    refine sx_move rfl rfl ?_
    refine sx_move rfl rfl ?_
    refine sx_lenS Try.underlying9 rfl rfl ?_
    refine sx_assign rfl rfl ?_
    refine sx_assign rfl rfl ?_
    refine sx_assign rfl rfl ?_
    refine sx_nil (hZ _ _ ?_)
    refine awp_forget [(2, _), (3, _), (4, _)] (Kn.cons rfl (Kn.cons rfl (Kn.cons rfl (Kn.nil)))) ?_
    refine awp_ret ?_
    exact nx_ret3h _ rfl rfl rfl rfl ((HLe.ownRow [] [] (ecells_len M) hmax).trans (HLe.pick [0] (by simp) rfl)) ⟨_, rfl, RowOk.mk _ _ _, rfl⟩
end Go.Proofs.Ytjelakmndcecoaa
