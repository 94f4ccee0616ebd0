/- The walks of package dirs: the numbers of a directory. Conditions: the lists are not too long. -/
import Derived.Test.YtfffhnefjaomnaaEn4
namespace Go.Proofs.Ytfffhnefjaomnaa
open Go.RowKit
set_option linter.unusedVariables false
set_option linter.unusedSimpArgs false
def zeroEn : En := ⟨0, 0, 0, 0⟩
def prevE (L : List En) (i : Nat) : En := if i = 0 then zeroEn else L.getD (i - 1) zeroEn
def atE (L : List En) (i : Nat) : En := L.getD i zeroEn
/-- The number of an entry in a column. -/
def numQ (c i : Nat) (a e : En) : Nat :=
  if c = 0 then (e.id + 18446744073709551616 - a.id) % 18446744073709551616 else if c = 1 then e.run else if c = 2 then e.len
  else if 0 < i ∧ e.off = a.next then 0 else (e.off + 1) % 18446744073709551616
def colQ (L : List En) (c : Nat) : List Nat := (List.range L.length).map fun i => numQ c i (prevE L i) (atE L i)
def numsQ (L : List En) : List Nat := L.length :: (colQ L 0 ++ (colQ L 1 ++ (colQ L 2 ++ colQ L 3)))
theorem zero_ok : zeroEn.ok := ⟨by decide, by decide, by decide, by decide⟩
theorem atE_ok {L : List En} (h : EnsOk L) (i : Nat) : (atE L i).ok := by
  unfold atE
  rcases Nat.lt_or_ge i L.length with hl | hl
  · rw [List.getD_eq_getElem?_getD, List.getElem?_eq_getElem hl]; exact h _ (List.getElem_mem _)
  · rw [List.getD_eq_getElem?_getD, List.getElem?_eq_none hl]; exact zero_ok
theorem prevE_ok {L : List En} (h : EnsOk L) (i : Nat) : (prevE L i).ok := by
  unfold prevE
  split
  · exact zero_ok
  · exact atE_ok h (i - 1)
theorem atE_at {L : List En} {i : Nat} (h : i < L.length) : L[i]? = some (atE L i) := by simp [atE, h]
theorem prevE_succ (L : List En) (i : Nat) : prevE L (i + 1) = atE L i := by simp [prevE, atE]
theorem numQ_lt {c i : Nat} {a e : En} (h : e.ok) : numQ c i a e < 18446744073709551616 := by
  obtain ⟨h1, h2, h3, h4⟩ := h
  unfold numQ
  split
  · omega
  split
  · omega
  split
  · omega
  split <;> omega
theorem colQ_len (L : List En) (c : Nat) : (colQ L c).length = L.length := by simp [colQ]
theorem numsQ_len (L : List En) : (numsQ L).length = 1 + 4 * L.length := by simp [numsQ, colQ_len]; omega
theorem colQ_at {L : List En} {c i : Nat} (h : i < L.length) : (colQ L c)[i]? = some (numQ c i (prevE L i) (atE L i)) := by simp [colQ, h]
theorem numsQ_at {L : List En} {c i : Nat} (hc : c < 4) (h : i < L.length) : (numsQ L)[1 + c * L.length + i]? = some (numQ c i (prevE L i) (atE L i)) := by
  have key : ∀ c, (colQ L c).length = L.length := colQ_len L
  unfold numsQ
  rw [show 1 + c * L.length + i = (c * L.length + i) + 1 by omega, List.getElem?_cons_succ]
  match c, hc with
  | 0, _ => rw [List.getElem?_append_left (by rw [key]; omega), Nat.zero_mul, Nat.zero_add]; exact colQ_at h
  | 1, _ =>
    rw [List.getElem?_append_right (by rw [key]; omega), key, List.getElem?_append_left (by rw [key]; omega)]
    rw [show 1 * L.length + i - L.length = i by omega]; exact colQ_at h
  | 2, _ =>
    rw [List.getElem?_append_right (by rw [key]; omega), key, List.getElem?_append_right (by rw [key]; omega), key, List.getElem?_append_left (by rw [key]; omega)]
    rw [show 2 * L.length + i - L.length - L.length = i by omega]; exact colQ_at h
  | 3, _ =>
    rw [List.getElem?_append_right (by rw [key]; omega), key, List.getElem?_append_right (by rw [key]; omega), key, List.getElem?_append_right (by rw [key]; omega), key]
    rw [show 3 * L.length + i - L.length - L.length - L.length = i by omega]; exact colQ_at h
theorem numsQ_lt {L : List En} (h : EnsOk L) (hl : L.length < 18446744073709551616) : ∀ x ∈ numsQ L, x < 18446744073709551616 := fun x hx => by
  have hcol : ∀ c, x ∈ colQ L c → x < 18446744073709551616 := fun c hc => by
    obtain ⟨i, _, rfl⟩ := List.mem_map.1 hc
    exact numQ_lt (atE_ok h i)
  simp only [numsQ, List.mem_cons, List.mem_append] at hx
  rcases hx with rfl | hx | hx | hx | hx
  · exact hl
  · exact hcol _ hx
  · exact hcol _ hx
  · exact hcol _ hx
  · exact hcol _ hx
theorem dnext_fn (e : En) (h : e.ok) : Fn Try.prog 50 [e.val] [] fun v _ => v = uq e.next := by
  obtain ⟨h1, h2, h3, h4⟩ := h
  refine Fn.enter (N := 9) Try.func50 rfl (by kernel_rfl) rfl (fun w0 => ?_)
  refine awp_seq_region (fun Z hZ => ?_)
  refine sx_box rfl rfl rfl (fun g1 => ?_)
  refine sx_assign rfl rfl ?_
  refine sx_nil (hZ _ _ ?_)
  refine awp_forget [(1, _)] (Kn.cons rfl (Kn.nil)) ?_
  refine awp_seq_region (fun Z hZ => ?_)
  refine sx_fieldAddr rfl tyF51_1 (by first | (simp only [Nat.reduceAdd, Nat.add_zero, Nat.zero_add]; first | done | rfl) | rfl) rfl ?_
  first | refine sx_load 0 rfl rfl tyA48 tyS48 rfl rfl ?_
  refine sx_fieldAddr rfl tyF51_2 (by first | (simp only [Nat.reduceAdd, Nat.add_zero, Nat.zero_add]; first | done | rfl) | rfl) rfl ?_
  first | refine sx_load 0 rfl rfl tyA49 tyS49 rfl rfl ?_
  refine sx_conv Try.underlying49 Try.underlying48 rfl ((e.len : Nat) : Int) (by rw [IntWalk.u64_in _ (by omega)]) rfl ?_
  refine sx_add rfl rfl ((e.next : Nat) : Int) (by rw [← Int.natCast_add, u64_w]; rfl) rfl ?_
  refine sx_assign rfl rfl ?_
  refine sx_nil (hZ _ _ ?_)
  refine awp_forget [(2, _)] (Kn.cons rfl (Kn.nil)) ?_
  refine awp_ret ?_
  repeat (with_reducible (first | refine nx_then_ret ?_ | refine nx_block_ret ?_ | refine nx_scope_ret ?_))
  exact nx_ret1 rfl rfl rfl
theorem u64_sub {a b : Nat} (ha : a < 18446744073709551616) (hb : b < 18446744073709551616) : IntKind.u64.wrap ((a : Int) - (b : Int)) = (((a + 18446744073709551616 - b) % 18446744073709551616 : Nat) : Int) := by
  have : IntKind.u64.wrap ((a : Int) - (b : Int)) = ((a : Int) - b) % 18446744073709551616 := by simp [IntKind.wrap, IntKind.bits, IntKind.signed]
  rw [this]
  omega
theorem dnumber_fn (c i : Nat) (a e : En) (hc : c < 4) (hi : i ≤ 1000000) (ha : a.ok) (he : e.ok) : Fn Try.prog 43 [iq c, iq i, a.val, e.val] [] fun v _ => v = uq (numQ c i a e) := by
  have hao := ha
  have heo := he
  obtain ⟨a1, a2, a3, a4⟩ := ha
  obtain ⟨e1, e2, e3, e4⟩ := he
  have hn : a.next < 18446744073709551616 := by simp only [En.next]; omega
  refine Fn.enter (N := 42) Try.func43 rfl (by kernel_rfl) rfl (fun w0 => ?_)
  refine awp_seq_region (fun Z hZ => ?_)
  refine sx_box rfl rfl rfl (fun g1 => ?_)
  refine sx_box rfl rfl rfl (fun g2 => ?_)
  refine sx_assign rfl rfl ?_
  refine sx_nil (hZ _ _ ?_)
  refine awp_forget [(0, _), (1, _), (6, _), (7, _)] (Kn.cons rfl (Kn.cons rfl (Kn.cons rfl (Kn.cons rfl (Kn.nil))))) ?_
  refine awp_seq (awp_block ?_)
  refine awp_seq_region (fun Z hZ => ?_)
  refine sx_move rfl rfl ?_
  first | refine sx_eql rfl rfl rfl ?_ | refine sx_seql rfl rfl rfl ?_
  refine sx_assign rfl rfl ?_
  refine sx_nil (hZ _ _ ?_)
  refine awp_forget [(0, _), (1, _), (6, _), (7, _), (9, _)] (Kn.cons rfl (Kn.cons rfl (Kn.cons rfl (Kn.cons rfl (Kn.cons rfl (Kn.nil)))))) ?_
  first | refine awp_cond rfl (fun h => ?_) (fun h => ?_) | refine awp_seq (awp_cond rfl (fun h => ?_) (fun h => ?_))
  · have h0 : c = 0 := by simp at h; omega
    rw [show numQ c i a e = (e.id + 18446744073709551616 - a.id) % 18446744073709551616 by unfold numQ; rw [if_pos h0]]
    refine awp_seq_region (fun Z hZ => ?_)
    refine sx_fieldAddr rfl tyF51_0 (by first | (simp only [Nat.reduceAdd, Nat.add_zero, Nat.zero_add]; first | done | rfl) | rfl) rfl ?_
    first | refine sx_load 0 rfl rfl tyA48 tyS48 rfl rfl ?_ | refine sx_load 1 rfl rfl tyA48 tyS48 rfl rfl ?_
    refine sx_fieldAddr rfl tyF51_0 (by first | (simp only [Nat.reduceAdd, Nat.add_zero, Nat.zero_add]; first | done | rfl) | rfl) rfl ?_
    first | refine sx_load 0 rfl rfl tyA48 tyS48 rfl rfl ?_ | refine sx_load 1 rfl rfl tyA48 tyS48 rfl rfl ?_
    refine sx_sub rfl rfl _ (u64_sub e1 a1) rfl ?_
    refine sx_assign rfl rfl ?_
    refine sx_nil (hZ _ _ ?_)
    refine awp_forget [(8, _)] (Kn.cons rfl (Kn.nil)) ?_
    refine awp_ret ?_
    repeat (with_reducible (first | refine nx_then_ret ?_ | refine nx_block_ret ?_ | refine nx_scope_ret ?_))
    exact nx_ret1 rfl rfl rfl
  have h0 : c ≠ 0 := by simp at h; omega
  refine awp_seq_region (fun Z hZ => ?_)
  refine sx_move rfl rfl ?_
  first | refine sx_eql rfl rfl rfl ?_ | refine sx_seql rfl rfl rfl ?_
  refine sx_assign rfl rfl ?_
  refine sx_nil (hZ _ _ ?_)
  refine awp_forget [(0, _), (1, _), (6, _), (7, _), (17, _)] (Kn.cons rfl (Kn.cons rfl (Kn.cons rfl (Kn.cons rfl (Kn.cons rfl (Kn.nil)))))) ?_
  first | refine awp_cond rfl (fun h1 => ?_) (fun h1 => ?_) | refine awp_seq (awp_cond rfl (fun h1 => ?_) (fun h1 => ?_))
  · have h1' : c = 1 := by simp at h1; omega
    rw [show numQ c i a e = e.run by unfold numQ; rw [if_neg h0, if_pos h1']]
    refine awp_seq_region (fun Z hZ => ?_)
    refine sx_fieldAddr rfl tyF51_3 (by first | (simp only [Nat.reduceAdd, Nat.add_zero, Nat.zero_add]; first | done | rfl) | rfl) rfl ?_
    first | refine sx_load 0 rfl rfl tyA49 tyS49 rfl rfl ?_ | refine sx_load 1 rfl rfl tyA49 tyS49 rfl rfl ?_
    refine sx_conv Try.underlying49 Try.underlying48 rfl ((e.run : Nat) : Int) (by rw [IntWalk.u64_in _ (by omega)]) rfl ?_
    refine sx_assign rfl rfl ?_
    refine sx_nil (hZ _ _ ?_)
    refine awp_forget [(8, _)] (Kn.cons rfl (Kn.nil)) ?_
    refine awp_ret ?_
    repeat (with_reducible (first | refine nx_then_ret ?_ | refine nx_block_ret ?_ | refine nx_scope_ret ?_))
    exact nx_ret1 rfl rfl rfl
  have h1' : c ≠ 1 := by simp at h1; omega
  refine awp_seq_region (fun Z hZ => ?_)
  refine sx_move rfl rfl ?_
  first | refine sx_eql rfl rfl rfl ?_ | refine sx_seql rfl rfl rfl ?_
  refine sx_assign rfl rfl ?_
  refine sx_nil (hZ _ _ ?_)
  refine awp_forget [(1, _), (6, _), (7, _), (23, _)] (Kn.cons rfl (Kn.cons rfl (Kn.cons rfl (Kn.cons rfl (Kn.nil))))) ?_
  first | refine awp_cond rfl (fun h2 => ?_) (fun h2 => ?_) | refine awp_seq (awp_cond rfl (fun h2 => ?_) (fun h2 => ?_))
  · have h2' : c = 2 := by simp at h2; omega
    rw [show numQ c i a e = e.len by unfold numQ; rw [if_neg h0, if_neg h1', if_pos h2']]
    refine awp_seq_region (fun Z hZ => ?_)
    refine sx_fieldAddr rfl tyF51_2 (by first | (simp only [Nat.reduceAdd, Nat.add_zero, Nat.zero_add]; first | done | rfl) | rfl) rfl ?_
    first | refine sx_load 0 rfl rfl tyA49 tyS49 rfl rfl ?_ | refine sx_load 1 rfl rfl tyA49 tyS49 rfl rfl ?_
    refine sx_conv Try.underlying49 Try.underlying48 rfl ((e.len : Nat) : Int) (by rw [IntWalk.u64_in _ (by omega)]) rfl ?_
    refine sx_assign rfl rfl ?_
    refine sx_nil (hZ _ _ ?_)
    refine awp_forget [(8, _)] (Kn.cons rfl (Kn.nil)) ?_
    refine awp_ret ?_
    repeat (with_reducible (first | refine nx_then_ret ?_ | refine nx_block_ret ?_ | refine nx_scope_ret ?_))
    exact nx_ret1 rfl rfl rfl
  have h2' : c ≠ 2 := by simp at h2; omega
  refine awq_seq_meet [(7, ptr g2 0), (29, .bool (decide (0 < i ∧ e.off = a.next)))] [.own g2 51 e.cells, .own g1 51 a.cells] mixed (by kernel_rfl) (fun Z hZ => ?_) ?_
  · refine sq_move rfl rfl ?_
    first | refine sq_gtr rfl rfl rfl ?_ | refine sq_sgtr rfl rfl rfl ?_
    refine sq_move rfl rfl ?_
    refine sq_split 32 rfl (fun hb2 => ?_) (fun hb2 => ?_)
    · refine sq_on rfl rfl rfl ?_
      refine sq_fieldAddr rfl tyF51_1 (by first | (simp only [Nat.reduceAdd, Nat.add_zero, Nat.zero_add]; first | done | rfl) | rfl) rfl ?_
      refine sq_on rfl rfl rfl ?_
      first | refine sq_load 0 rfl rfl tyA48 tyS48 rfl rfl ?_ | refine sq_load 1 rfl rfl tyA48 tyS48 rfl rfl ?_
      refine sq_on rfl rfl rfl ?_
      first | refine sq_loadA 0 rfl rfl tyA51 tyS51 (by first | (simp only [List.length_cons, List.length_nil, Nat.reduceAdd, Nat.zero_add, Nat.add_zero]; first | done | rfl) | rfl) (by first | (simp only [List.take_succ_cons, List.take_zero, List.drop_succ_cons, List.drop_zero, List.cons_append, List.nil_append, List.append_nil, List.length_cons, List.length_nil, Nat.reduceAdd, Nat.zero_add, Nat.add_zero, Value.cells, wrV]; first | done | rfl) | rfl) rfl ?_ | refine sq_loadA 1 rfl rfl tyA51 tyS51 (by first | (simp only [List.length_cons, List.length_nil, Nat.reduceAdd, Nat.zero_add, Nat.add_zero]; first | done | rfl) | rfl) (by first | (simp only [List.take_succ_cons, List.take_zero, List.drop_succ_cons, List.drop_zero, List.cons_append, List.nil_append, List.append_nil, List.length_cons, List.length_nil, Nat.reduceAdd, Nat.zero_add, Nat.add_zero, Value.cells, wrV]; first | done | rfl) | rfl) rfl ?_
      refine sq_on rfl rfl rfl ?_
      refine sq_callP (dnext_fn a hao) rfl rfl ?_
      refine sq_on rfl rfl rfl ?_
      first | refine sq_eql rfl rfl rfl ?_ | refine sq_seql rfl rfl rfl ?_
      refine sq_pick rfl rfl rfl ?_
      refine sq_assign rfl rfl ?_
      refine sq_nil (hZ _ _ ?_ ?_)
      · exact Kn.cons rfl (Kn.cons (congrArg some (congrArg Value.bool (by simp at hb2; rw [Bool.eq_iff_iff]; simp; omega))) Kn.nil)
      · exact HLe.refl _
    · refine sq_off rfl rfl rfl rfl rfl ?_
      refine sq_off rfl rfl rfl rfl rfl ?_
      refine sq_off rfl rfl rfl rfl rfl ?_
      refine sq_off rfl rfl rfl rfl rfl ?_
      refine sq_off rfl rfl rfl rfl rfl ?_
      refine sq_pick rfl rfl rfl ?_
      refine sq_assign rfl rfl ?_
      refine sq_nil (hZ _ _ ?_ ?_)
      · exact Kn.cons rfl (Kn.cons (congrArg some (congrArg Value.bool (by simp at hb2; rw [Bool.eq_iff_iff]; simp; omega))) Kn.nil)
      · exact HLe.refl _
  first | refine awp_cond rfl (fun h3 => ?_) (fun h3 => ?_) | refine awp_seq (awp_cond rfl (fun h3 => ?_) (fun h3 => ?_))
  · have h3' : 0 < i ∧ e.off = a.next := by simpa using h3
    rw [show numQ c i a e = 0 by unfold numQ; rw [if_neg h0, if_neg h1', if_neg h2', if_pos h3']]
    refine awp_seq_region (fun Z hZ => ?_)
    refine sx_assign rfl rfl ?_
    refine sx_nil (hZ _ _ ?_)
    refine awp_forget [(8, _)] (Kn.cons rfl (Kn.nil)) ?_
    refine awp_ret ?_
    repeat (with_reducible (first | refine nx_then_ret ?_ | refine nx_block_ret ?_ | refine nx_scope_ret ?_))
    exact nx_ret1 rfl rfl rfl
  have h3' : ¬ (0 < i ∧ e.off = a.next) := by simpa using h3
  rw [show numQ c i a e = (e.off + 1) % 18446744073709551616 by unfold numQ; rw [if_neg h0, if_neg h1', if_neg h2', if_neg h3']]
  refine awp_skip ?_
  repeat (with_reducible (first | refine nx_block_normal ?_ | refine nx_scope_normal ?_))
  with_reducible first | refine nx_normal ?_ | refine nx_normalM ?_

  refine awp_seq_region (fun Z hZ => ?_)
  refine sx_fieldAddr rfl tyF51_1 (by first | (simp only [Nat.reduceAdd, Nat.add_zero, Nat.zero_add]; first | done | rfl) | rfl) rfl ?_
  first | refine sx_load 0 rfl rfl tyA48 tyS48 rfl rfl ?_ | refine sx_load 1 rfl rfl tyA48 tyS48 rfl rfl ?_
  refine sx_add rfl rfl (((e.off + 1) % 18446744073709551616 : Nat) : Int) (by rw [show (e.off : Int) + 1 = ((e.off + 1 : Nat) : Int) by omega, u64_w]) rfl ?_
  refine sx_assign rfl rfl ?_
  refine sx_nil (hZ _ _ ?_)
  refine awp_forget [(8, _)] (Kn.cons rfl (Kn.nil)) ?_
  refine awp_ret ?_
  repeat (with_reducible (first | refine nx_then_ret ?_ | refine nx_block_ret ?_ | refine nx_scope_ret ?_))
  exact nx_ret1 rfl rfl rfl
end Go.Proofs.Ytfffhnefjaomnaa
