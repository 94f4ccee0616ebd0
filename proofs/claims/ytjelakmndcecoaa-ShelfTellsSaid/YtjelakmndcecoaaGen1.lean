/- The walks of package entry, and of the document's answer for it: one entry. No conditions. The walks of package entry, and of the document's answer for it: rows of entries. Conditions: the lists are not too long. The walks of the laws' helpers for entries: the document's entries as the code's, and back. Conditions: the lists are not too long. The walks of the comparisons of rows of entries. Conditions: the lists are not too long. -/
import Derived.Test.YtjelakmndcecoaaGva1
namespace Go.Proofs.Ytjelakmndcecoaa
open Go.RowKit
set_option linter.unusedVariables false
set_option linter.unusedSimpArgs false
abbrev wq4 (x : Nat) : Value := .int .u32 (x : Int)
/-- An entry, as numbers. -/
structure En where
  (id off len run : Nat)
def En.ok (e : En) : Prop := e.id < 18446744073709551616 ∧ e.off < 18446744073709551616 ∧ e.len < 4294967296 ∧ e.run < 4294967296
abbrev En.cells (e : En) : List Value := [uq e.id, uq e.off, wq4 e.len, wq4 e.run]
abbrev En.val (e : En) : Value := .agg e.cells.toArray
def En.wide (e : En) : Nat := max 1 e.run
def En.next (e : En) : Nat := (e.off + e.len) % 18446744073709551616
def chkE (e : En) : Nat :=
  if e.len = 0 then 2 else if 6004799503160661 - e.wide < e.id then 8 else if 1099511627776 < e.off ∨ 1099511627776 < e.next then 8 else 0
def lastE (e : En) : Nat := if chkE e = 0 then e.id + e.wide - 1 else 0
theorem u64_w (x : Nat) : IntKind.u64.wrap (x : Int) = ((x % 18446744073709551616 : Nat) : Int) := by simp [IntKind.wrap, IntKind.bits, IntKind.signed]
theorem ewide_fn (e : En) (h : e.ok) : Fn Try.prog 60 [e.val] [] fun v _ => v = uq e.wide := by
  obtain ⟨h1, h2, h3, h4⟩ := h
  refine Fn.enter (N := 7) Try.func60 rfl (by kernel_rfl) rfl (fun w0 => ?_)
  refine awp_seq_region (fun Z hZ => ?_)
  refine sx_box rfl rfl rfl (fun g1 => ?_)
  refine sx_assign rfl rfl ?_
  refine sx_nil (hZ _ _ ?_)
  refine awp_forget [(1, _)] (Kn.cons rfl (Kn.nil)) ?_
  refine awp_seq_region (fun Z hZ => ?_)
  refine sx_fieldAddr rfl tyF65_3 (by first | (simp only [Nat.reduceAdd, Nat.add_zero, Nat.zero_add]; first | done | rfl) | rfl) rfl ?_
  first | refine sx_load 0 rfl rfl tyA63 tyS63 rfl rfl ?_
  refine sx_max rfl rfl ((e.wide : Nat) : Int) (by simp only [En.wide]; omega) rfl ?_
  refine sx_conv Try.underlying63 Try.underlying35 rfl ((e.wide : Nat) : Int) (by rw [IntWalk.u64_in _ (by simp only [En.wide]; omega)]) rfl ?_
  refine sx_assign rfl rfl ?_
  refine sx_nil (hZ _ _ ?_)
  refine awp_forget [(2, _)] (Kn.cons rfl (Kn.nil)) ?_
  refine awp_ret ?_
  exact nx_ret1 rfl rfl rfl
theorem eend_fn (e : En) (h : e.ok) : Fn Try.prog 61 [e.val] [] fun v _ => v = uq e.next := by
  obtain ⟨h1, h2, h3, h4⟩ := h
  refine Fn.enter (N := 9) Try.func61 rfl (by kernel_rfl) rfl (fun w0 => ?_)
  refine awp_seq_region (fun Z hZ => ?_)
  refine sx_box rfl rfl rfl (fun g1 => ?_)
  refine sx_assign rfl rfl ?_
  refine sx_nil (hZ _ _ ?_)
  refine awp_forget [(1, _)] (Kn.cons rfl (Kn.nil)) ?_
  refine awp_seq_region (fun Z hZ => ?_)
  refine sx_fieldAddr rfl tyF65_1 (by first | (simp only [Nat.reduceAdd, Nat.add_zero, Nat.zero_add]; first | done | rfl) | rfl) rfl ?_
  first | refine sx_load 0 rfl rfl tyA35 tyS35 rfl rfl ?_
  refine sx_fieldAddr rfl tyF65_2 (by first | (simp only [Nat.reduceAdd, Nat.add_zero, Nat.zero_add]; first | done | rfl) | rfl) rfl ?_
  first | refine sx_load 0 rfl rfl tyA63 tyS63 rfl rfl ?_
  refine sx_conv Try.underlying63 Try.underlying35 rfl ((e.len : Nat) : Int) (by rw [IntWalk.u64_in _ (by omega)]) rfl ?_
  refine sx_add rfl rfl ((e.next : Nat) : Int) (by rw [← Int.natCast_add, u64_w]; rfl) rfl ?_
  refine sx_assign rfl rfl ?_
  refine sx_nil (hZ _ _ ?_)
  refine awp_forget [(2, _)] (Kn.cons rfl (Kn.nil)) ?_
  refine awp_ret ?_
  exact nx_ret1 rfl rfl rfl
theorem echeck_fn (e : En) (h : e.ok) : Fn Try.prog 51 [e.val] [] fun v _ => v = iq (chkE e) := by
  have hok := h
  obtain ⟨h1, h2, h3, h4⟩ := h
  have hw : e.wide ≤ 4294967296 := by simp only [En.wide]; omega
  refine Fn.enter (N := 23) Try.func51 rfl (by kernel_rfl) rfl (fun w0 => ?_)
  refine awp_seq_region (fun Z hZ => ?_)
  refine sx_box rfl rfl rfl (fun g1 => ?_)
  refine sx_assign rfl rfl ?_
  refine sx_nil (hZ _ _ ?_)
  refine awp_forget [(1, _)] (Kn.cons rfl (Kn.nil)) ?_
  refine awp_seq (awp_block ?_)
  refine awp_seq_region (fun Z hZ => ?_)
  refine sx_fieldAddr rfl tyF65_2 (by first | (simp only [Nat.reduceAdd, Nat.add_zero, Nat.zero_add]; first | done | rfl) | rfl) rfl ?_
  first | refine sx_load 0 rfl rfl tyA63 tyS63 rfl rfl ?_
  refine sx_eql rfl rfl rfl ?_
  refine sx_assign rfl rfl ?_
  refine sx_nil (hZ _ _ ?_)
  refine awp_forget [(1, _), (3, _)] (Kn.cons rfl (Kn.cons rfl (Kn.nil))) ?_
  refine awp_cond rfl (fun ha => ?_) (fun ha => ?_)
  · have h0 : e.len = 0 := by simp at ha; omega
    rw [show chkE e = 2 by unfold chkE; rw [if_pos h0]]
    refine awp_seq_region (fun Z hZ => ?_)
    refine sx_assign rfl rfl ?_
    refine sx_nil (hZ _ _ ?_)
    refine awp_forget [(2, _)] (Kn.cons rfl (Kn.nil)) ?_
    refine awp_ret ?_
    repeat (with_reducible (first | refine nx_then_ret ?_ | refine nx_block_ret ?_))
    exact nx_ret1 rfl rfl rfl
  have h0 : e.len ≠ 0 := by simp at ha; omega
  refine awq_seq_region mixed (by kernel_rfl) (fun Z hZ => ?_)
  refine sq_fieldAddr rfl tyF65_0 (by first | (simp only [Nat.reduceAdd, Nat.add_zero, Nat.zero_add]; first | done | rfl) | rfl) rfl ?_
  first | refine sq_load 0 rfl rfl tyA35 tyS35 rfl rfl ?_
  first | refine sq_loadA 0 rfl rfl tyA65 tyS65 (by first | (simp only [List.length_cons, List.length_nil, Nat.reduceAdd, Nat.zero_add, Nat.add_zero]; first | done | rfl) | rfl) (by first | (simp only [List.take_succ_cons, List.take_zero, List.drop_succ_cons, List.drop_zero, List.cons_append, List.nil_append, List.append_nil, List.length_cons, List.length_nil, Nat.reduceAdd, Nat.zero_add, Nat.add_zero, Value.cells, wrV]; first | done | rfl) | rfl) rfl ?_
  refine sq_callP (ewide_fn e hok) rfl rfl ?_
  refine sq_sub rfl rfl ((6004799503160661 - e.wide : Nat) : Int) (by rw [IntWalk.u64_in _ (by omega)]; omega) rfl ?_
  refine sq_gtr rfl rfl rfl ?_
  refine sq_assign rfl rfl ?_
  refine sq_nil (hZ _ _ ?_)
  refine awp_forget [(1, _), (7, _)] (Kn.cons rfl (Kn.cons rfl (Kn.nil))) ?_
  refine awp_cond rfl (fun hb => ?_) (fun hb => ?_)
  · have hb' : 6004799503160661 - e.wide < e.id := by simp at hb; omega
    rw [show chkE e = 8 by unfold chkE; rw [if_neg h0, if_pos hb']]
    refine awp_seq_region (fun Z hZ => ?_)
    refine sx_assign rfl rfl ?_
    refine sx_nil (hZ _ _ ?_)
    refine awp_forget [(2, _)] (Kn.cons rfl (Kn.nil)) ?_
    refine awp_ret ?_
    repeat (with_reducible (first | refine nx_then_ret ?_ | refine nx_block_ret ?_))
    exact nx_ret1 rfl rfl rfl
  have hb' : ¬ 6004799503160661 - e.wide < e.id := by simp at hb; omega
  refine awp_seq_meet [(14, .bool (decide (1099511627776 < e.off ∨ 1099511627776 < e.next)))] [] (fun Z hZ => ?_) ?_
  · refine sx_fieldAddr rfl tyF65_1 (by first | (simp only [Nat.reduceAdd, Nat.add_zero, Nat.zero_add]; first | done | rfl) | rfl) rfl ?_
    first | refine sx_load 0 rfl rfl tyA35 tyS35 rfl rfl ?_
    refine sx_gtr rfl rfl rfl ?_
    refine sx_move rfl rfl ?_
    refine sx_split 18 rfl (fun hb3 => ?_) (fun hb3 => ?_)
    · refine sx_off rfl rfl rfl rfl rfl ?_
      refine sx_off rfl rfl rfl rfl rfl ?_
      refine sx_off rfl rfl rfl rfl rfl ?_
      refine sx_pick rfl rfl rfl ?_
      refine sx_assign rfl rfl ?_
      refine sx_nil (hZ _ _ ?_ ?_)
      · exact Kn.cons (congrArg some (congrArg Value.bool (by simp at hb3; rw [Bool.eq_iff_iff]; simp; omega))) Kn.nil
      · exact HLe.pick [] (by simp) rfl
    · refine sx_on rfl rfl rfl ?_
      first | refine sx_loadA 0 rfl rfl tyA65 tyS65 (by first | (simp only [List.length_cons, List.length_nil, Nat.reduceAdd, Nat.zero_add, Nat.add_zero]; first | done | rfl) | rfl) (by first | (simp only [List.take_succ_cons, List.take_zero, List.drop_succ_cons, List.drop_zero, List.cons_append, List.nil_append, List.append_nil, List.length_cons, List.length_nil, Nat.reduceAdd, Nat.zero_add, Nat.add_zero, Value.cells, wrV]; first | done | rfl) | rfl) rfl ?_
      refine sx_on rfl rfl rfl ?_
      refine sx_callP (eend_fn e hok) rfl rfl ?_
      refine sx_on rfl rfl rfl ?_
      refine sx_gtr rfl rfl rfl ?_
      refine sx_pick rfl rfl rfl ?_
      refine sx_assign rfl rfl ?_
      refine sx_nil (hZ _ _ ?_ ?_)
      · exact Kn.cons (congrArg some (congrArg Value.bool (by simp at hb3; rw [Bool.eq_iff_iff]; simp; omega))) Kn.nil
      · exact HLe.pick [] (by simp) rfl
  refine awp_cond rfl (fun hc => ?_) (fun hc => ?_)
  · have hc' : 1099511627776 < e.off ∨ 1099511627776 < e.next := by simpa using hc
    rw [show chkE e = 8 by unfold chkE; rw [if_neg h0, if_neg hb', if_pos hc']]
    refine awp_seq_region (fun Z hZ => ?_)
    refine sx_assign rfl rfl ?_
    refine sx_nil (hZ _ _ ?_)
    refine awp_forget [(2, _)] (Kn.cons rfl (Kn.nil)) ?_
    refine awp_ret ?_
    repeat (with_reducible (first | refine nx_then_ret ?_ | refine nx_block_ret ?_))
    exact nx_ret1 rfl rfl rfl
  have hc' : ¬ (1099511627776 < e.off ∨ 1099511627776 < e.next) := by simpa using hc
  rw [show chkE e = 0 by unfold chkE; rw [if_neg h0, if_neg hb', if_neg hc']]
  refine awp_skip ?_
  repeat (with_reducible refine nx_block_normal ?_)
  with_reducible refine nx_normal ?_
  refine awp_seq_region (fun Z hZ => ?_)
  refine sx_assign rfl rfl ?_
  refine sx_nil (hZ _ _ ?_)
  refine awp_forget [(2, _)] (Kn.cons rfl (Kn.nil)) ?_
  refine awp_ret ?_
  exact nx_ret1 rfl rfl rfl
theorem emay_fn (e : En) (h : e.ok) : Fn Try.prog 62 [e.val] [] fun v _ => v = .bool (decide (chkE e = 0)) := by
  refine Fn.enter (N := 6) Try.func62 rfl (by kernel_rfl) rfl (fun w0 => ?_)
  refine awp_seq_region (fun Z hZ => ?_)
  refine sx_box rfl rfl rfl (fun g1 => ?_)
  refine sx_assign rfl rfl ?_
  refine sx_nil (hZ _ _ ?_)
  refine awp_forget [(1, _)] (Kn.cons rfl (Kn.nil)) ?_
  refine awp_seq_region (fun Z hZ => ?_)
  first | refine sx_loadA 0 rfl rfl tyA65 tyS65 (by first | (simp only [List.length_cons, List.length_nil, Nat.reduceAdd, Nat.zero_add, Nat.add_zero]; first | done | rfl) | rfl) (by first | (simp only [List.take_succ_cons, List.take_zero, List.drop_succ_cons, List.drop_zero, List.cons_append, List.nil_append, List.append_nil, List.length_cons, List.length_nil, Nat.reduceAdd, Nat.zero_add, Nat.add_zero, Value.cells, wrV]; first | done | rfl) | rfl) rfl ?_
  refine sx_callP (echeck_fn e h) rfl rfl ?_
  refine sx_eql rfl rfl rfl ?_
  refine sx_assign rfl rfl ?_
  refine sx_nil (hZ _ _ ?_)
  refine awp_forget [(2, _)] (Kn.cons rfl (Kn.nil)) ?_
  refine awp_ret ?_
  exact nx_ret1 rfl rfl (congrArg Value.bool (by rw [Bool.eq_iff_iff]; simp))
theorem En.ok.wide {e : En} (h : e.ok) : 1 ≤ e.wide ∧ e.wide ≤ 4294967296 := by
  obtain ⟨_, _, _, h4⟩ := h
  simp only [En.wide]; omega
theorem chk_ok {e : En} (ho : e.ok) (h : chkE e = 0) : e.len ≠ 0 ∧ e.id + e.wide ≤ 6004799503160661 ∧ e.off ≤ 1099511627776 ∧ e.next ≤ 1099511627776 := by
  have hw := ho.wide
  unfold chkE at h
  split at h
  · cases h
  split at h
  · cases h
  split at h
  · cases h
  · rename_i a b c
    exact ⟨a, by omega, by omega, by omega⟩
theorem elast_fn (e : En) (h : e.ok) : Fn Try.prog 52 [e.val] [] fun v _ => v = uq (lastE e) := by
  have hok := h
  obtain ⟨h1, h2, h3, h4⟩ := h
  have hw : 1 ≤ e.wide ∧ e.wide ≤ 4294967296 := by simp only [En.wide]; omega
  refine Fn.enter (N := 12) Try.func52 rfl (by kernel_rfl) rfl (fun w0 => ?_)
  refine awp_seq_region (fun Z hZ => ?_)
  refine sx_box rfl rfl rfl (fun g1 => ?_)
  refine sx_assign rfl rfl ?_
  refine sx_nil (hZ _ _ ?_)
  refine awp_forget [(1, _)] (Kn.cons rfl (Kn.nil)) ?_
  refine awp_seq ?_
  refine awp_seq_region (fun Z hZ => ?_)
  first | refine sx_loadA 0 rfl rfl tyA65 tyS65 (by first | (simp only [List.length_cons, List.length_nil, Nat.reduceAdd, Nat.zero_add, Nat.add_zero]; first | done | rfl) | rfl) (by first | (simp only [List.take_succ_cons, List.take_zero, List.drop_succ_cons, List.drop_zero, List.cons_append, List.nil_append, List.append_nil, List.length_cons, List.length_nil, Nat.reduceAdd, Nat.zero_add, Nat.add_zero, Value.cells, wrV]; first | done | rfl) | rfl) rfl ?_
  refine sx_callP (emay_fn e hok) rfl rfl ?_
  refine sx_not rfl rfl ?_
  refine sx_nil (hZ _ _ ?_)
  refine awp_forget [(1, _), (5, _)] (Kn.cons rfl (Kn.cons rfl (Kn.nil))) ?_
  refine awp_cond rfl (fun ha => ?_) (fun ha => ?_)
  · have h0 : chkE e ≠ 0 := by simpa using ha
    rw [show lastE e = 0 by unfold lastE; rw [if_neg h0]]
    refine awp_seq_region (fun Z hZ => ?_)
    refine sx_assign rfl rfl ?_
    refine sx_nil (hZ _ _ ?_)
    refine awp_forget [(2, _)] (Kn.cons rfl (Kn.nil)) ?_
    refine awp_ret ?_
    repeat (with_reducible refine nx_then_ret ?_)
    exact nx_ret1 rfl rfl rfl
  have h0 : chkE e = 0 := by simpa using ha
  obtain ⟨_, h5, _, _⟩ := chk_ok hok h0
  rw [show lastE e = e.id + e.wide - 1 by unfold lastE; rw [if_pos h0]]
  refine awp_skip ?_
  with_reducible refine nx_normal ?_
  refine awq_seq_region mixed (by kernel_rfl) (fun Z hZ => ?_)
  refine sq_fieldAddr rfl tyF65_0 (by first | (simp only [Nat.reduceAdd, Nat.add_zero, Nat.zero_add]; first | done | rfl) | rfl) rfl ?_
  first | refine sq_load 0 rfl rfl tyA35 tyS35 rfl rfl ?_
  first | refine sq_loadA 0 rfl rfl tyA65 tyS65 (by first | (simp only [List.length_cons, List.length_nil, Nat.reduceAdd, Nat.zero_add, Nat.add_zero]; first | done | rfl) | rfl) (by first | (simp only [List.take_succ_cons, List.take_zero, List.drop_succ_cons, List.drop_zero, List.cons_append, List.nil_append, List.append_nil, List.length_cons, List.length_nil, Nat.reduceAdd, Nat.zero_add, Nat.add_zero, Value.cells, wrV]; first | done | rfl) | rfl) rfl ?_
  refine sq_callP (ewide_fn e hok) rfl rfl ?_
  refine sq_add rfl rfl ((e.id + e.wide : Nat) : Int) (by rw [IntWalk.u64_in _ (by omega)]; omega) rfl ?_
  refine sq_sub rfl rfl ((e.id + e.wide - 1 : Nat) : Int) (by rw [IntWalk.u64_in _ (by omega)]; omega) rfl ?_
  refine sq_assign rfl rfl ?_
  refine sq_nil (hZ _ _ ?_)
  refine awp_forget [(2, _)] (Kn.cons rfl (Kn.nil)) ?_
  refine awp_ret ?_
  exact nx_ret1 rfl rfl rfl
theorem rwide_fn (e : En) (h : e.ok) : Fn Try.prog 67 [e.val] [] fun v _ => v = uq e.wide := by
  obtain ⟨h1, h2, h3, h4⟩ := h
  refine Fn.enter (N := 9) Try.func67 rfl (by kernel_rfl) rfl (fun w0 => ?_)
  refine awp_seq_region (fun Z hZ => ?_)
  refine sx_box rfl rfl rfl (fun g1 => ?_)
  refine sx_assign rfl rfl ?_
  refine sx_nil (hZ _ _ ?_)
  refine awp_forget [(1, _)] (Kn.cons rfl (Kn.nil)) ?_
  refine awp_seq ?_
  refine awp_seq_region (fun Z hZ => ?_)
  refine sx_fieldAddr rfl tyF98_3 (by first | (simp only [Nat.reduceAdd, Nat.add_zero, Nat.zero_add]; first | done | rfl) | rfl) rfl ?_
  first | refine sx_load 0 rfl rfl tyA63 tyS63 rfl rfl ?_
  refine sx_eql rfl rfl rfl ?_
  refine sx_nil (hZ _ _ ?_)
  refine awp_forget [(1, _), (5, _)] (Kn.cons rfl (Kn.cons rfl (Kn.nil))) ?_
  refine awp_cond rfl (fun ha => ?_) (fun ha => ?_)
  · have h0 : e.run = 0 := by simp at ha; omega
    rw [show e.wide = 1 by simp only [En.wide]; omega]
    refine awp_seq_region (fun Z hZ => ?_)
    refine sx_assign rfl rfl ?_
    refine sx_nil (hZ _ _ ?_)
    refine awp_forget [(2, _)] (Kn.cons rfl (Kn.nil)) ?_
    refine awp_ret ?_
    repeat (with_reducible refine nx_then_ret ?_)
    exact nx_ret1 rfl rfl rfl
  have h0 : e.run ≠ 0 := by simp at ha; omega
  rw [show e.wide = e.run by simp only [En.wide]; omega]
  refine awp_skip ?_
  with_reducible refine nx_normal ?_
  refine awp_seq_region (fun Z hZ => ?_)
  refine sx_fieldAddr rfl tyF98_3 (by first | (simp only [Nat.reduceAdd, Nat.add_zero, Nat.zero_add]; first | done | rfl) | rfl) rfl ?_
  first | refine sx_load 0 rfl rfl tyA63 tyS63 rfl rfl ?_
  refine sx_conv Try.underlying63 Try.underlying35 rfl ((e.run : Nat) : Int) (by rw [IntWalk.u64_in _ (by omega)]) rfl ?_
  refine sx_assign rfl rfl ?_
  refine sx_nil (hZ _ _ ?_)
  refine awp_forget [(2, _)] (Kn.cons rfl (Kn.nil)) ?_
  refine awp_ret ?_
  exact nx_ret1 rfl rfl rfl
theorem rcheck_fn (e : En) (h : e.ok) : Fn Try.prog 65 [e.val] [] fun v _ => v = iq (chkE e) := by
  have hok := h
  obtain ⟨h1, h2, h3, h4⟩ := h
  have hw : 1 ≤ e.wide ∧ e.wide ≤ 4294967296 := by simp only [En.wide]; omega
  refine Fn.enter (N := 29) Try.func65 rfl (by kernel_rfl) rfl (fun w0 => ?_)
  refine awp_seq_region (fun Z hZ => ?_)
  refine sx_box rfl rfl rfl (fun g1 => ?_)
  refine sx_assign rfl rfl ?_
  refine sx_nil (hZ _ _ ?_)
  refine awp_forget [(1, _)] (Kn.cons rfl (Kn.nil)) ?_
  refine awp_seq ?_
  refine awp_seq_region (fun Z hZ => ?_)
  refine sx_fieldAddr rfl tyF98_2 (by first | (simp only [Nat.reduceAdd, Nat.add_zero, Nat.zero_add]; first | done | rfl) | rfl) rfl ?_
  first | refine sx_load 0 rfl rfl tyA63 tyS63 rfl rfl ?_
  refine sx_eql rfl rfl rfl ?_
  refine sx_nil (hZ _ _ ?_)
  refine awp_forget [(1, _), (5, _)] (Kn.cons rfl (Kn.cons rfl (Kn.nil))) ?_
  refine awp_cond rfl (fun ha => ?_) (fun ha => ?_)
  · have h0 : e.len = 0 := by simp at ha; omega
    rw [show chkE e = 2 by unfold chkE; rw [if_pos h0]]
    refine awp_seq_region (fun Z hZ => ?_)
    refine sx_assign rfl rfl ?_
    refine sx_nil (hZ _ _ ?_)
    refine awp_forget [(2, _)] (Kn.cons rfl (Kn.nil)) ?_
    refine awp_ret ?_
    repeat (with_reducible refine nx_then_ret ?_)
    exact nx_ret1 rfl rfl rfl
  have h0 : e.len ≠ 0 := by simp at ha; omega
  refine awp_skip ?_
  with_reducible refine nx_normal ?_
  refine awp_seq ?_
  refine awq_seq_meet [(1, ptr g1 0), (16, .bool (decide (6004799503160661 - e.wide < e.id)))] [.own g1 98 e.cells] mixed (by kernel_rfl) (fun Z hZ => ?_) ?_
  · refine sq_fieldAddr rfl tyF98_0 (by first | (simp only [Nat.reduceAdd, Nat.add_zero, Nat.zero_add]; first | done | rfl) | rfl) rfl ?_
    first | refine sq_load 0 rfl rfl tyA35 tyS35 rfl rfl ?_
    refine sq_geq rfl rfl rfl ?_
    refine sq_move rfl rfl ?_
    refine sq_split 9 rfl (fun hb3 => ?_) (fun hb3 => ?_)
    · refine sq_off rfl rfl rfl rfl rfl ?_
      refine sq_off rfl rfl rfl rfl rfl ?_
      refine sq_off rfl rfl rfl rfl rfl ?_
      refine sq_off rfl rfl rfl rfl rfl ?_
      refine sq_off rfl rfl rfl rfl rfl ?_
      refine sq_off rfl rfl rfl rfl rfl ?_
      refine sq_pick rfl rfl rfl ?_
      refine sq_nil (hZ _ _ ?_ ?_)
      · exact Kn.cons rfl (Kn.cons (congrArg some (congrArg Value.bool (by simp at hb3; rw [Bool.eq_iff_iff]; simp; omega))) Kn.nil)
      · exact HLe.refl _
    · refine sq_on rfl rfl rfl ?_
      refine sq_fieldAddr rfl tyF98_0 (by first | (simp only [Nat.reduceAdd, Nat.add_zero, Nat.zero_add]; first | done | rfl) | rfl) rfl ?_
      refine sq_on rfl rfl rfl ?_
      first | refine sq_load 0 rfl rfl tyA35 tyS35 rfl rfl ?_
      refine sq_on rfl rfl rfl ?_
      first | refine sq_loadA 0 rfl rfl tyA98 tyS98 (by first | (simp only [List.length_cons, List.length_nil, Nat.reduceAdd, Nat.zero_add, Nat.add_zero]; first | done | rfl) | rfl) (by first | (simp only [List.take_succ_cons, List.take_zero, List.drop_succ_cons, List.drop_zero, List.cons_append, List.nil_append, List.append_nil, List.length_cons, List.length_nil, Nat.reduceAdd, Nat.zero_add, Nat.add_zero, Value.cells, wrV]; first | done | rfl) | rfl) rfl ?_
      refine sq_on rfl rfl rfl ?_
      refine sq_callP (rwide_fn e hok) rfl rfl ?_
      refine sq_on rfl rfl rfl ?_
      refine sq_add rfl rfl ((e.id + e.wide : Nat) : Int) (by simp at hb3; rw [IntWalk.u64_in _ (by omega)]; omega) rfl ?_
      refine sq_on rfl rfl rfl ?_
      refine sq_gtr rfl rfl rfl ?_
      refine sq_pick rfl rfl rfl ?_
      refine sq_nil (hZ _ _ ?_ ?_)
      · exact Kn.cons rfl (Kn.cons (congrArg some (congrArg Value.bool (by simp at hb3; rw [Bool.eq_iff_iff]; simp; omega))) Kn.nil)
      · exact HLe.refl _
  refine awp_cond rfl (fun hb => ?_) (fun hb => ?_)
  · have hb' : 6004799503160661 - e.wide < e.id := by simpa using hb
    rw [show chkE e = 8 by unfold chkE; rw [if_neg h0, if_pos hb']]
    refine awp_seq_region (fun Z hZ => ?_)
    refine sx_assign rfl rfl ?_
    refine sx_nil (hZ _ _ ?_)
    refine awp_forget [(2, _)] (Kn.cons rfl (Kn.nil)) ?_
    refine awp_ret ?_
    repeat (with_reducible refine nx_then_ret ?_)
    exact nx_ret1 rfl rfl rfl
  have hb' : ¬ 6004799503160661 - e.wide < e.id := by simpa using hb
  refine awp_skip ?_
  with_reducible refine nx_normal ?_
  refine awp_seq ?_
  refine awp_seq_meet [(28, .bool (decide (1099511627776 < e.off ∨ 1099511627776 < e.next)))] [] (fun Z hZ => ?_) ?_
  · refine sx_fieldAddr rfl tyF98_1 (by first | (simp only [Nat.reduceAdd, Nat.add_zero, Nat.zero_add]; first | done | rfl) | rfl) rfl ?_
    first | refine sx_load 0 rfl rfl tyA35 tyS35 rfl rfl ?_
    refine sx_gtr rfl rfl rfl ?_
    refine sx_move rfl rfl ?_
    refine sx_split 20 rfl (fun hb3 => ?_) (fun hb3 => ?_)
    · refine sx_off rfl rfl rfl rfl rfl ?_
      refine sx_off rfl rfl rfl rfl rfl ?_
      refine sx_off rfl rfl rfl rfl rfl ?_
      refine sx_off rfl rfl rfl rfl rfl ?_
      refine sx_off rfl rfl rfl rfl rfl ?_
      refine sx_off rfl rfl rfl rfl rfl ?_
      refine sx_off rfl rfl rfl rfl rfl ?_
      refine sx_pick rfl rfl rfl ?_
      refine sx_nil (hZ _ _ ?_ ?_)
      · exact Kn.cons (congrArg some (congrArg Value.bool (by simp at hb3; rw [Bool.eq_iff_iff]; simp; omega))) Kn.nil
      · exact HLe.pick [] (by simp) rfl
    · refine sx_on rfl rfl rfl ?_
      refine sx_fieldAddr rfl tyF98_1 (by first | (simp only [Nat.reduceAdd, Nat.add_zero, Nat.zero_add]; first | done | rfl) | rfl) rfl ?_
      refine sx_on rfl rfl rfl ?_
      first | refine sx_load 0 rfl rfl tyA35 tyS35 rfl rfl ?_
      refine sx_on rfl rfl rfl ?_
      refine sx_fieldAddr rfl tyF98_2 (by first | (simp only [Nat.reduceAdd, Nat.add_zero, Nat.zero_add]; first | done | rfl) | rfl) rfl ?_
      refine sx_on rfl rfl rfl ?_
      first | refine sx_load 0 rfl rfl tyA63 tyS63 rfl rfl ?_
      refine sx_on rfl rfl rfl ?_
      refine sx_conv Try.underlying63 Try.underlying35 rfl ((e.len : Nat) : Int) (by rw [IntWalk.u64_in _ (by omega)]) rfl ?_
      refine sx_on rfl rfl rfl ?_
      refine sx_add rfl rfl ((e.next : Nat) : Int) (by rw [← Int.natCast_add, u64_w]; rfl) rfl ?_
      refine sx_on rfl rfl rfl ?_
      refine sx_gtr rfl rfl rfl ?_
      refine sx_pick rfl rfl rfl ?_
      refine sx_nil (hZ _ _ ?_ ?_)
      · exact Kn.cons (congrArg some (congrArg Value.bool (by simp at hb3; rw [Bool.eq_iff_iff]; simp; omega))) Kn.nil
      · exact HLe.pick [] (by simp) rfl
  refine awp_cond rfl (fun hc => ?_) (fun hc => ?_)
  · have hc' : 1099511627776 < e.off ∨ 1099511627776 < e.next := by simpa using hc
    rw [show chkE e = 8 by unfold chkE; rw [if_neg h0, if_neg hb', if_pos hc']]
    refine awp_seq_region (fun Z hZ => ?_)
    refine sx_assign rfl rfl ?_
    refine sx_nil (hZ _ _ ?_)
    refine awp_forget [(2, _)] (Kn.cons rfl (Kn.nil)) ?_
    refine awp_ret ?_
    repeat (with_reducible refine nx_then_ret ?_)
    exact nx_ret1 rfl rfl rfl
  have hc' : ¬ (1099511627776 < e.off ∨ 1099511627776 < e.next) := by simpa using hc
  rw [show chkE e = 0 by unfold chkE; rw [if_neg h0, if_neg hb', if_neg hc']]
  refine awp_skip ?_
  with_reducible refine nx_normal ?_
  refine awp_seq_region (fun Z hZ => ?_)
  refine sx_assign rfl rfl ?_
  refine sx_nil (hZ _ _ ?_)
  refine awp_forget [(2, _)] (Kn.cons rfl (Kn.nil)) ?_
  refine awp_ret ?_
  exact nx_ret1 rfl rfl rfl
theorem rlast_fn (e : En) (h : e.ok) : Fn Try.prog 66 [e.val] [] fun v _ => v = uq (lastE e) := by
  have hok := h
  obtain ⟨h1, h2, h3, h4⟩ := h
  have hw : 1 ≤ e.wide ∧ e.wide ≤ 4294967296 := by simp only [En.wide]; omega
  refine Fn.enter (N := 12) Try.func66 rfl (by kernel_rfl) rfl (fun w0 => ?_)
  refine awp_seq_region (fun Z hZ => ?_)
  refine sx_box rfl rfl rfl (fun g1 => ?_)
  refine sx_assign rfl rfl ?_
  refine sx_nil (hZ _ _ ?_)
  refine awp_forget [(1, _)] (Kn.cons rfl (Kn.nil)) ?_
  refine awp_seq ?_
  refine awp_seq_region (fun Z hZ => ?_)
  first | refine sx_loadA 0 rfl rfl tyA98 tyS98 (by first | (simp only [List.length_cons, List.length_nil, Nat.reduceAdd, Nat.zero_add, Nat.add_zero]; first | done | rfl) | rfl) (by first | (simp only [List.take_succ_cons, List.take_zero, List.drop_succ_cons, List.drop_zero, List.cons_append, List.nil_append, List.append_nil, List.length_cons, List.length_nil, Nat.reduceAdd, Nat.zero_add, Nat.add_zero, Value.cells, wrV]; first | done | rfl) | rfl) rfl ?_
  refine sx_callP (rcheck_fn e hok) rfl rfl ?_
  refine sx_neq rfl rfl rfl ?_
  refine sx_nil (hZ _ _ ?_)
  refine awp_forget [(1, _), (5, _)] (Kn.cons rfl (Kn.cons rfl (Kn.nil))) ?_
  refine awp_cond rfl (fun ha => ?_) (fun ha => ?_)
  · have h0 : chkE e ≠ 0 := by simpa using ha
    rw [show lastE e = 0 by unfold lastE; rw [if_neg h0]]
    refine awp_seq_region (fun Z hZ => ?_)
    refine sx_assign rfl rfl ?_
    refine sx_nil (hZ _ _ ?_)
    refine awp_forget [(2, _)] (Kn.cons rfl (Kn.nil)) ?_
    refine awp_ret ?_
    repeat (with_reducible refine nx_then_ret ?_)
    exact nx_ret1 rfl rfl rfl
  have h0 : chkE e = 0 := by simpa using ha
  obtain ⟨_, h5, _, _⟩ := chk_ok hok h0
  rw [show lastE e = e.id + e.wide - 1 by unfold lastE; rw [if_pos h0]]
  refine awp_skip ?_
  with_reducible refine nx_normal ?_
  refine awq_seq_region mixed (by kernel_rfl) (fun Z hZ => ?_)
  refine sq_fieldAddr rfl tyF98_0 (by first | (simp only [Nat.reduceAdd, Nat.add_zero, Nat.zero_add]; first | done | rfl) | rfl) rfl ?_
  first | refine sq_load 0 rfl rfl tyA35 tyS35 rfl rfl ?_
  first | refine sq_loadA 0 rfl rfl tyA98 tyS98 (by first | (simp only [List.length_cons, List.length_nil, Nat.reduceAdd, Nat.zero_add, Nat.add_zero]; first | done | rfl) | rfl) (by first | (simp only [List.take_succ_cons, List.take_zero, List.drop_succ_cons, List.drop_zero, List.cons_append, List.nil_append, List.append_nil, List.length_cons, List.length_nil, Nat.reduceAdd, Nat.zero_add, Nat.add_zero, Value.cells, wrV]; first | done | rfl) | rfl) rfl ?_
  refine sq_callP (rwide_fn e hok) rfl rfl ?_
  refine sq_add rfl rfl ((e.id + e.wide : Nat) : Int) (by rw [IntWalk.u64_in _ (by omega)]; omega) rfl ?_
  refine sq_sub rfl rfl ((e.id + e.wide - 1 : Nat) : Int) (by rw [IntWalk.u64_in _ (by omega)]; omega) rfl ?_
  refine sq_assign rfl rfl ?_
  refine sq_nil (hZ _ _ ?_)
  refine awp_forget [(2, _)] (Kn.cons rfl (Kn.nil)) ?_
  refine awp_ret ?_
  exact nx_ret1 rfl rfl rfl
end Go.Proofs.Ytjelakmndcecoaa

namespace Go.Proofs.Ytjelakmndcecoaa
open Go.RowKit
set_option linter.unusedVariables false
set_option linter.unusedSimpArgs false
abbrev ecells (L : List En) : List Value := L.flatMap En.cells
theorem en_len (e : En) : e.cells.length = 4 := rfl
theorem ecells_len (L : List En) : (ecells L).length = L.length * 4 := fm_len en_len L
theorem ecells_all {L : List En} {i : Nat} {x : En} (h : L[i]? = some x) : rdV true 4 (ecells L) (i * 4) = some x.val := fm_rd en_len h
def rowQ : Nat → List En → Nat
  | _, [] => 0
  | free, e :: r => if chkE e = 0 then (if e.id < free then 10 else rowQ (lastE e + 1) r) else chkE e
def rowC (L : List En) : Nat := if 4096 < L.length then 21 else rowQ 0 L
def EnsOk (L : List En) : Prop := ∀ e ∈ L, e.ok
theorem last_lt {e : En} (h : e.ok) : lastE e < 6004799503160661 := by
  have := h.wide
  unfold lastE
  split
  · rename_i h0
    have := chk_ok h h0
    omega
  · omega
theorem erow_fn (A : Option Addr) (c : Nat) (L : List En) (T : Heap) (hA : ArgOk A L.length) (hT : 0 < L.length → T = roE A (ecells L)) (hro : Ro T) (hL : L.length ≤ maxLen) (hE : EnsOk L) :
    Fn Try.prog 35 [.slice A L.length c] T fun v _ => v = iq (rowC L) := by
  have hL' : L.length ≤ 9223372036854775807 := hL
  refine Fn.enter (N := 29) Try.func35 rfl (by kernel_rfl) rfl (fun w0 => ?_)

  refine awp_seq_region (fun Z hZ => ?_)
  refine sx_assign rfl rfl ?_
  refine sx_nil (hZ _ _ ?_)
  refine awp_forget [(0, _)] (Kn.cons rfl (Kn.nil)) ?_
  refine awp_seq ?_
  refine awp_seq_region (fun Z hZ => ?_)
  refine sx_move rfl rfl ?_
  refine sx_len Try.underlying44 rfl rfl ?_
  refine sx_gtr rfl rfl rfl ?_
  refine sx_nil (hZ _ _ ?_)
  refine awp_forget [(0, _), (9, _)] (Kn.cons rfl (Kn.cons rfl (Kn.nil))) ?_
  refine awp_cond rfl (fun ha => ?_) (fun ha => ?_)
  · have h0 : 4096 < L.length := by simp at ha; omega
    rw [show rowC L = 21 by unfold rowC; rw [if_pos h0]]
    refine awp_seq_region (fun Z hZ => ?_)
    refine sx_assign rfl rfl ?_
    refine sx_nil (hZ _ _ ?_)
    refine awp_forget [(2, _)] (Kn.cons rfl (Kn.nil)) ?_
    refine awp_ret ?_
    repeat (with_reducible refine nx_then_ret ?_)
    exact nx_ret1 rfl rfl rfl
  have h0 : ¬ 4096 < L.length := by simp at ha; omega
  rw [show rowC L = rowQ 0 L by unfold rowC; rw [if_neg h0]]
  refine awp_skip ?_
  with_reducible refine nx_normal ?_
  refine awp_seq_region (fun Z hZ => ?_)
  refine sx_assign rfl rfl ?_
  refine sx_nil (hZ _ _ ?_)
  refine awp_forget [(0, _), (3, _)] (Kn.cons rfl (Kn.cons rfl (Kn.nil))) ?_
  refine awp_seq ?_
  refine awp_seq_region (fun Z hZ => ?_)
  refine sx_move rfl rfl ?_
  refine sx_len Try.underlying44 rfl rfl ?_
  refine sx_move rfl rfl ?_
  refine sx_nil (hZ _ _ ?_)
  refine awp_forget [(3, _), (10, _), (11, _), (12, _)] (Kn.cons rfl (Kn.cons rfl (Kn.cons rfl (Kn.cons rfl (Kn.nil))))) ?_
  refine awp_block ?_
  refine awp_loop (ι := Nat × Nat) (fun i => [(3, uq i.2), (10, .slice A L.length c), (11, iq (L.length : Nat)), (12, iq (i.1 : Nat))]) (fun i => T)
    (fun i => i.1 ≤ L.length ∧ i.2 < 9000000000000000 ∧ rowQ i.2 (L.drop i.1) = rowQ 0 L) (fun i => L.length - i.1) (0, 0) ⟨by simp, by simp, rfl⟩ (Kn.cons rfl (Kn.cons rfl (Kn.cons rfl (Kn.cons rfl Kn.nil)))) (HLe.refl _) ?_
  rintro ⟨k, free⟩ ⟨hk, hf, hq⟩
  simp only at hk hf hq
  refine awp_seq_region (fun Z hZ => ?_)
  refine sx_lss rfl rfl rfl ?_
  refine sx_nil (hZ _ _ ?_)
  refine awp_forget [(3, _), (10, _), (11, _), (12, _), (13, _)] (Kn.cons rfl (Kn.cons rfl (Kn.cons rfl (Kn.cons rfl (Kn.cons rfl (Kn.nil)))))) ?_
  refine awp_seq (awp_cond rfl (fun h => ?_) (fun h => ?_))
  · have hlt : k < L.length := by simpa using h
    obtain ⟨x, hx⟩ : ∃ x, L[k]? = some x := ⟨_, List.getElem?_eq_getElem hlt⟩
    have hxe : L[k] = x := Option.some.inj ((List.getElem?_eq_getElem hlt).symm.trans hx)
    have hok : x.ok := hE x (List.mem_of_getElem? hx)
    have hl := last_lt hok
    obtain ⟨g, o, rfl⟩ := hA (by omega)
    obtain rfl := hT (by omega)
    have hdr : L.drop k = x :: L.drop (k + 1) := by rw [List.drop_eq_getElem_cons hlt, hxe]
    rw [hdr, rowQ] at hq
    refine awp_skip ?_
    with_reducible refine nx_normal ?_
    refine awp_seq (awp_block ?_)

    refine awp_seq_region (fun Z hZ => ?_)
    refine sx_indexAddr (o + k * 4) Try.underlying44 tyS65 rfl rfl (by omega) (by simp) rfl ?_
    refine sx_loadRo 0 rfl rfl (k * 4) rfl tyA65 tyS65 (ecells_all hx) rfl ?_
    refine sx_alloc tyZ65 rfl (fun g1 => ?_)
    refine sx_store 0 rfl rfl rfl tyS65 (by first | (simp only [Value.cells]; first | done | rfl) | rfl) rfl rfl (by first | (simp only [List.length_cons, List.length_nil, Nat.reduceAdd, Nat.zero_add, Nat.add_zero]; first | done | rfl) | rfl) (by first | (simp only [List.take_succ_cons, List.take_zero, List.drop_succ_cons, List.drop_zero, List.cons_append, List.nil_append, List.append_nil, List.length_cons, List.length_nil, Nat.reduceAdd, Nat.zero_add, Nat.add_zero, Value.cells, wrV]; first | done | rfl) | rfl) (by first | (simp only [List.set_cons_succ, List.set_cons_zero]; first | done | rfl) | rfl) ?_
    refine sx_nil (hZ _ _ ?_)
    refine awp_forget [(3, _), (5, _), (10, _), (11, _), (12, _)] (Kn.cons rfl (Kn.cons rfl (Kn.cons rfl (Kn.cons rfl (Kn.cons rfl (Kn.nil)))))) ?_
    refine awp_seq ?_
    refine awp_seq_region (fun Z hZ => ?_)
    refine sx_loadA 0 rfl rfl tyA65 tyS65 (by first | (simp only [List.length_cons, List.length_nil, Nat.reduceAdd, Nat.zero_add, Nat.add_zero]; first | done | rfl) | rfl) (by first | (simp only [List.take_succ_cons, List.take_zero, List.drop_succ_cons, List.drop_zero, List.cons_append, List.nil_append, List.append_nil, List.length_cons, List.length_nil, Nat.reduceAdd, Nat.zero_add, Nat.add_zero, Value.cells, wrV]; first | done | rfl) | rfl) rfl ?_
    refine sx_callP (echeck_fn x hok) rfl rfl ?_
    refine sx_assign rfl rfl ?_
    refine sx_nil (hZ _ _ ?_)
    refine awp_forget [(3, _), (5, _), (6, _), (10, _), (11, _), (12, _)] (Kn.cons rfl (Kn.cons rfl (Kn.cons rfl (Kn.cons rfl (Kn.cons rfl (Kn.cons rfl (Kn.nil))))))) ?_
    refine awp_seq_region (fun Z hZ => ?_)
    refine sx_move rfl rfl ?_
    refine sx_neq rfl rfl rfl ?_
    refine sx_nil (hZ _ _ ?_)
    refine awp_forget [(3, _), (5, _), (6, _), (10, _), (11, _), (12, _), (19, _)] (Kn.cons rfl (Kn.cons rfl (Kn.cons rfl (Kn.cons rfl (Kn.cons rfl (Kn.cons rfl (Kn.cons rfl (Kn.nil)))))))) ?_
    refine awp_cond rfl (fun hb => ?_) (fun hb => ?_)
    · have hb' : chkE x ≠ 0 := by simp at hb; omega
      rw [if_neg hb'] at hq
      rw [← hq]
      refine awp_seq_region (fun Z hZ => ?_)
      refine sx_move rfl rfl ?_
      refine sx_assign rfl rfl ?_
      refine sx_nil (hZ _ _ ?_)
      refine awp_forget [(2, _)] (Kn.cons rfl (Kn.nil)) ?_
      refine awp_ret ?_
      repeat (with_reducible (first | refine nx_then_ret ?_ | refine nx_block_ret ?_))
      exact nx_ret1 rfl rfl rfl
    have hb' : chkE x = 0 := by simp at hb; omega
    rw [if_pos hb'] at hq
    refine awp_skip ?_
    with_reducible refine nx_normal ?_
    refine awp_seq ?_
    refine awp_seq_region (fun Z hZ => ?_)
    refine sx_fieldAddr rfl tyF65_0 (by first | (simp only [Nat.reduceAdd, Nat.add_zero, Nat.zero_add]; first | done | rfl) | rfl) rfl ?_
    refine sx_load 0 rfl rfl tyA35 tyS35 rfl rfl ?_
    refine sx_move rfl rfl ?_
    refine sx_lss rfl rfl rfl ?_
    refine sx_nil (hZ _ _ ?_)
    refine awp_forget [(5, _), (10, _), (11, _), (12, _), (24, _)] (Kn.cons rfl (Kn.cons rfl (Kn.cons rfl (Kn.cons rfl (Kn.cons rfl (Kn.nil)))))) ?_
    refine awp_cond rfl (fun hc => ?_) (fun hc => ?_)
    · have hc' : x.id < free := by simp at hc; omega
      rw [if_pos hc'] at hq
      rw [← hq]
      refine awp_seq_region (fun Z hZ => ?_)
      refine sx_assign rfl rfl ?_
      refine sx_nil (hZ _ _ ?_)
      refine awp_forget [(2, _)] (Kn.cons rfl (Kn.nil)) ?_
      refine awp_ret ?_
      repeat (with_reducible (first | refine nx_then_ret ?_ | refine nx_block_ret ?_))
      exact nx_ret1 rfl rfl rfl
    have hc' : ¬ x.id < free := by simp at hc; omega
    rw [if_neg hc'] at hq
    refine awp_skip ?_
    with_reducible refine nx_normal ?_
    refine awp_region (fun Z hZ => ?_)
    refine sx_loadA 0 rfl rfl tyA65 tyS65 (by first | (simp only [List.length_cons, List.length_nil, Nat.reduceAdd, Nat.zero_add, Nat.add_zero]; first | done | rfl) | rfl) (by first | (simp only [List.take_succ_cons, List.take_zero, List.drop_succ_cons, List.drop_zero, List.cons_append, List.nil_append, List.append_nil, List.length_cons, List.length_nil, Nat.reduceAdd, Nat.zero_add, Nat.add_zero, Value.cells, wrV]; first | done | rfl) | rfl) rfl ?_
    refine sx_callP (elast_fn x hok) rfl rfl ?_
    refine sx_add rfl rfl ((lastE x + 1 : Nat) : Int) (by rw [IntWalk.u64_in _ (by omega)]; omega) rfl ?_
    refine sx_assign rfl rfl ?_
    refine sx_nil (hZ _ _ ?_)
    refine nx_forget [(3, _), (10, _), (11, _), (12, _)] (Kn.cons rfl (Kn.cons rfl (Kn.cons rfl (Kn.cons rfl (Kn.nil))))) ?_
    repeat (with_reducible refine nx_block_normal ?_)
    with_reducible refine nx_normal ?_
    refine awp_region (fun Z hZ => ?_)
    refine sx_add rfl rfl ((k + 1 : Nat) : Int) (by rw [IntWalk.i64_in _ (by omega)]; omega) rfl ?_
    refine sx_move rfl rfl ?_
    refine sx_nil (hZ _ _ ?_)
    refine nx_forget [(3, _), (10, _), (11, _), (12, _)] (Kn.cons rfl (Kn.cons rfl (Kn.cons rfl (Kn.cons rfl (Kn.nil))))) ?_
    exact nx_round (k + 1, lastE x + 1) ⟨by show k + 1 ≤ _; omega, by show lastE x + 1 < _; omega, hq⟩ (by simp; omega) (Kn.cons rfl (Kn.cons rfl (Kn.cons rfl (Kn.cons rfl Kn.nil)))) (HLe.drop 1 rfl)
  · refine awp_exit ?_
    repeat (with_reducible refine nx_then_exit ?_)
    with_reducible refine nx_block_exit ?_
    with_reducible refine nx_normal ?_
    have hke : k = L.length := by simp at h; omega
    subst hke
    rw [List.drop_length, rowQ] at hq
    rw [← hq]
    refine awp_seq_region (fun Z hZ => ?_)
    refine sx_assign rfl rfl ?_
    refine sx_nil (hZ _ _ ?_)
    refine awp_forget [(2, _)] (Kn.cons rfl (Kn.nil)) ?_
    refine awp_ret ?_
    exact nx_ret1 rfl rfl rfl
def freeE (L : List En) (k : Nat) : Nat := if k = 0 then 0 else match L[k - 1]? with | some y => lastE y + 1 | none => 0
theorem rrow_fn (A : Option Addr) (c : Nat) (L : List En) (T : Heap) (hA : ArgOk A L.length) (hT : 0 < L.length → T = roE A (ecells L)) (hro : Ro T) (hL : L.length ≤ maxLen) (hE : EnsOk L) :
    Fn Try.prog 57 [.slice A L.length c] T fun v _ => v = iq (rowC L) := by
  have hL' : L.length ≤ 9223372036854775807 := hL
  refine Fn.enter (N := 38) Try.func57 rfl (by kernel_rfl) rfl (fun w0 => ?_)

  refine awp_seq_region (fun Z hZ => ?_)
  refine sx_assign rfl rfl ?_
  refine sx_nil (hZ _ _ ?_)
  refine awp_forget [(0, _)] (Kn.cons rfl (Kn.nil)) ?_
  refine awp_seq ?_
  refine awp_seq_region (fun Z hZ => ?_)
  refine sx_move rfl rfl ?_
  refine sx_len Try.underlying66 rfl rfl ?_
  refine sx_gtr rfl rfl rfl ?_
  refine sx_nil (hZ _ _ ?_)
  refine awp_forget [(0, _), (7, _)] (Kn.cons rfl (Kn.cons rfl (Kn.nil))) ?_
  refine awp_cond rfl (fun ha => ?_) (fun ha => ?_)
  · have h0 : 4096 < L.length := by simp at ha; omega
    rw [show rowC L = 21 by unfold rowC; rw [if_pos h0]]
    refine awp_seq_region (fun Z hZ => ?_)
    refine sx_assign rfl rfl ?_
    refine sx_nil (hZ _ _ ?_)
    refine awp_forget [(2, _)] (Kn.cons rfl (Kn.nil)) ?_
    refine awp_ret ?_
    repeat (with_reducible refine nx_then_ret ?_)
    exact nx_ret1 rfl rfl rfl
  have h0 : ¬ 4096 < L.length := by simp at ha; omega
  rw [show rowC L = rowQ 0 L by unfold rowC; rw [if_neg h0]]
  refine awp_skip ?_
  with_reducible refine nx_normal ?_
  refine awp_seq ?_
  refine awp_seq_region (fun Z hZ => ?_)
  refine sx_assign rfl rfl ?_
  refine sx_nil (hZ _ _ ?_)
  refine awp_forget [(0, _), (3, _)] (Kn.cons rfl (Kn.cons rfl (Kn.nil))) ?_
  refine awp_block ?_
  refine awp_loop (ι := Nat) (fun k => [(0, .slice A L.length c), (3, iq (k : Nat))]) (fun _ => T)
    (fun k => k ≤ L.length ∧ rowQ (freeE L k) (L.drop k) = rowQ 0 L) (fun k => L.length - k) 0 ⟨by simp, rfl⟩ (Kn.cons rfl (Kn.cons rfl Kn.nil)) (HLe.refl _) ?_
  rintro k ⟨hk, hq⟩
  refine awp_seq ?_
  refine awp_seq_region (fun Z hZ => ?_)
  refine sx_move rfl rfl ?_
  refine sx_move rfl rfl ?_
  refine sx_len Try.underlying66 rfl rfl ?_
  refine sx_lss rfl rfl rfl ?_
  refine sx_nil (hZ _ _ ?_)
  refine awp_forget [(0, _), (3, _), (11, _)] (Kn.cons rfl (Kn.cons rfl (Kn.cons rfl (Kn.nil)))) ?_
  refine awp_cond rfl (fun h => ?_) (fun h => ?_)
  · have hlt : k < L.length := by simpa using h
    obtain ⟨x, hx⟩ : ∃ x, L[k]? = some x := ⟨_, List.getElem?_eq_getElem hlt⟩
    have hxe : L[k] = x := Option.some.inj ((List.getElem?_eq_getElem hlt).symm.trans hx)
    have hok : x.ok := hE x (List.mem_of_getElem? hx)
    have hl := last_lt hok
    obtain ⟨g, o, rfl⟩ := hA (by omega)
    obtain rfl := hT (by omega)
    have hdr : L.drop k = x :: L.drop (k + 1) := by rw [List.drop_eq_getElem_cons hlt, hxe]
    rw [hdr, rowQ] at hq
    have hnext : freeE L (k + 1) = lastE x + 1 := by simp [freeE, hx]
    refine awp_skip ?_
    with_reducible refine nx_normal ?_
    refine awp_seq (awp_block ?_)

    refine awp_seq ?_
    refine awp_seq_region (fun Z hZ => ?_)
    refine sx_move rfl rfl ?_
    refine sx_move rfl rfl ?_
    refine sx_indexAddr (o + k * 4) Try.underlying66 tyS98 rfl rfl (by omega) (by simp) rfl ?_
    refine sx_loadRo 0 rfl rfl (k * 4) rfl tyA98 tyS98 (ecells_all hx) rfl ?_
    refine sx_callP (rcheck_fn x hok) rfl rfl ?_
    refine sx_assign rfl rfl ?_
    refine sx_nil (hZ _ _ ?_)
    refine awp_forget [(0, _), (3, _), (4, _)] (Kn.cons rfl (Kn.cons rfl (Kn.cons rfl (Kn.nil)))) ?_
    refine awp_seq_region (fun Z hZ => ?_)
    refine sx_move rfl rfl ?_
    refine sx_neq rfl rfl rfl ?_
    refine sx_nil (hZ _ _ ?_)
    refine awp_forget [(0, _), (3, _), (4, _), (20, _)] (Kn.cons rfl (Kn.cons rfl (Kn.cons rfl (Kn.cons rfl (Kn.nil))))) ?_
    refine awp_cond rfl (fun hb => ?_) (fun hb => ?_)
    · have hb' : chkE x ≠ 0 := by simp at hb; omega
      rw [if_neg hb'] at hq
      rw [← hq]
      refine awp_seq_region (fun Z hZ => ?_)
      refine sx_move rfl rfl ?_
      refine sx_assign rfl rfl ?_
      refine sx_nil (hZ _ _ ?_)
      refine awp_forget [(2, _)] (Kn.cons rfl (Kn.nil)) ?_
      refine awp_ret ?_
      repeat (with_reducible (first | refine nx_then_ret ?_ | refine nx_block_ret ?_))
      exact nx_ret1 rfl rfl rfl
    have hb' : chkE x = 0 := by simp at hb; omega
    rw [if_pos hb'] at hq
    obtain ⟨y, hy⟩ : ∃ y, 0 < k → L[k - 1]? = some y ∧ y.ok ∧ freeE L k = lastE y + 1 ∧ lastE y < 6004799503160661 := by
      rcases Nat.eq_zero_or_pos k with h0 | h0
      · exact ⟨x, fun h => by omega⟩
      · obtain ⟨y, hy⟩ : ∃ y, L[k - 1]? = some y := ⟨_, List.getElem?_eq_getElem (by omega)⟩
        exact ⟨y, fun _ => ⟨hy, hE y (List.mem_of_getElem? hy), by simp [freeE, hy]; omega, last_lt (hE y (List.mem_of_getElem? hy))⟩⟩
    have hz : k = 0 → freeE L k = 0 := fun h => by simp [freeE, h]
    have hxid : rdV false 1 (ecells L) (k * 4) = some (uq x.id) := by have := fm_rd1 (j := 0) en_len hx rfl; simpa using this
    refine awp_skip ?_
    with_reducible refine nx_normal ?_
    refine awq_seq_meet [(0, .slice (some ⟨g, o, none⟩) L.length c), (3, iq (k : Nat)), (37, .bool (decide (x.id < freeE L k)))] [.ro g o (ecells L)] mixed (by kernel_rfl) (fun Z hZ => ?_) ?_
    · refine sq_move rfl rfl ?_
      refine sq_gtr rfl rfl rfl ?_
      refine sq_move rfl rfl ?_
      refine sq_split 24 rfl (fun hb2 => ?_) (fun hb2 => ?_)
      · refine sq_on rfl rfl rfl ?_
        refine sq_move rfl rfl ?_
        refine sq_on rfl rfl rfl ?_
        refine sq_move rfl rfl ?_
        refine sq_on rfl rfl rfl ?_
        refine sq_indexAddr (o + k * 4) Try.underlying66 tyS98 rfl rfl (by omega) (by simp) rfl ?_
        refine sq_on rfl rfl rfl ?_
        refine sq_fieldAddr rfl tyF98_0 (by first | (simp only [Nat.reduceAdd, Nat.add_zero, Nat.zero_add]; first | done | rfl) | rfl) rfl ?_
        refine sq_on rfl rfl rfl ?_
        refine sq_loadRo 0 rfl rfl (k * 4) rfl tyA35 tyS35 hxid rfl ?_
        refine sq_on rfl rfl rfl ?_
        refine sq_move rfl rfl ?_
        refine sq_on rfl rfl rfl ?_
        refine sq_move rfl rfl ?_
        refine sq_on rfl rfl rfl ?_
        refine sq_sub rfl rfl ((k - 1 : Nat) : Int) (by simp at hb2; rw [IntWalk.i64_in _ (by omega)]; omega) rfl ?_
        refine sq_on rfl rfl rfl ?_
        refine sq_indexAddr (o + (k - 1) * 4) Try.underlying66 tyS98 rfl rfl (by omega) (by simp) rfl ?_
        refine sq_on rfl rfl rfl ?_
        refine sq_loadRo 0 rfl rfl ((k - 1) * 4) rfl tyA98 tyS98 (ecells_all (hy (by simpa using hb2)).1) rfl ?_
        refine sq_on rfl rfl rfl ?_
        refine sq_callP (rlast_fn y (hy (by simpa using hb2)).2.1) rfl rfl ?_
        refine sq_on rfl rfl rfl ?_
        refine sq_leq rfl rfl rfl ?_
        refine sq_pick rfl rfl rfl ?_
        refine sq_nil (hZ _ _ ?_ ?_)
        · exact Kn.cons rfl (Kn.cons rfl (Kn.cons (congrArg some (congrArg Value.bool (by simp at hb2; rw [Bool.eq_iff_iff]; simp; omega))) Kn.nil))
        · exact HLe.refl _
      · refine sq_off rfl rfl rfl rfl rfl ?_
        refine sq_off rfl rfl rfl rfl rfl ?_
        refine sq_off rfl rfl rfl rfl rfl ?_
        refine sq_off rfl rfl rfl rfl rfl ?_
        refine sq_off rfl rfl rfl rfl rfl ?_
        refine sq_off rfl rfl rfl rfl rfl ?_
        refine sq_off rfl rfl rfl rfl rfl ?_
        refine sq_off rfl rfl rfl rfl rfl ?_
        refine sq_off rfl rfl rfl rfl rfl ?_
        refine sq_off rfl rfl rfl rfl rfl ?_
        refine sq_off rfl rfl rfl rfl rfl ?_
        refine sq_off rfl rfl rfl rfl rfl ?_
        refine sq_pick rfl rfl rfl ?_
        refine sq_nil (hZ _ _ ?_ ?_)
        · exact Kn.cons rfl (Kn.cons rfl (Kn.cons (congrArg some (congrArg Value.bool (by simp at hb2; rw [Bool.eq_iff_iff]; simp; omega))) Kn.nil))
        · exact HLe.refl _
    refine awp_cond rfl (fun hc => ?_) (fun hc => ?_)
    · have hc' : x.id < freeE L k := by simpa using hc
      rw [if_pos hc'] at hq
      rw [← hq]
      refine awp_seq_region (fun Z hZ => ?_)
      refine sx_assign rfl rfl ?_
      refine sx_nil (hZ _ _ ?_)
      refine awp_forget [(2, _)] (Kn.cons rfl (Kn.nil)) ?_
      refine awp_ret ?_
      repeat (with_reducible (first | refine nx_then_ret ?_ | refine nx_block_ret ?_))
      exact nx_ret1 rfl rfl rfl
    have hc' : ¬ x.id < freeE L k := by simpa using hc
    rw [if_neg hc', ← hnext] at hq
    refine awp_skip ?_
    repeat (with_reducible refine nx_block_normal ?_)
    with_reducible refine nx_normal ?_
    refine awp_region (fun Z hZ => ?_)
    refine sx_move rfl rfl ?_
    refine sx_add rfl rfl ((k + 1 : Nat) : Int) (by rw [IntWalk.i64_in _ (by omega)]; omega) rfl ?_
    refine sx_assign rfl rfl ?_
    refine sx_nil (hZ _ _ ?_)
    refine nx_forget [(0, _), (3, _)] (Kn.cons rfl (Kn.cons rfl (Kn.nil))) ?_
    exact nx_round (k + 1) ⟨by omega, hq⟩ (by omega) (Kn.cons rfl (Kn.cons rfl Kn.nil)) (HLe.refl _)
  · refine awp_exit ?_
    repeat (with_reducible refine nx_then_exit ?_)
    with_reducible refine nx_block_exit ?_
    with_reducible refine nx_normal ?_
    have hke : k = L.length := by simp at h; omega
    subst hke
    rw [List.drop_length, rowQ] at hq
    rw [← hq]
    refine awp_seq_region (fun Z hZ => ?_)
    refine sx_assign rfl rfl ?_
    refine sx_nil (hZ _ _ ?_)
    refine awp_forget [(2, _)] (Kn.cons rfl (Kn.nil)) ?_
    refine awp_ret ?_
    exact nx_ret1 rfl rfl rfl
end Go.Proofs.Ytjelakmndcecoaa

namespace Go.Proofs.Ytjelakmndcecoaa
open Go.RowKit
set_option linter.unusedVariables false
set_option linter.unusedSimpArgs false
theorem elemEn : ElemOk Try.prog 44 65 4 24 := ElemOk.mk_ (z := .agg #[uq 0, uq 0, wq4 0, wq4 0]) Try.underlying44 (by kernel_rfl) rfl (by omega)
theorem elemEnR : ElemOk Try.prog 66 98 4 24 := ElemOk.mk_ (z := .agg #[uq 0, uq 0, wq4 0, wq4 0]) Try.underlying66 (by kernel_rfl) rfl (by omega)
theorem ecells_one (L : List En) : (ecells L).all Value.oneCell' = true := List.all_eq_true.2 fun v hv => by
  obtain ⟨e, _, he⟩ := List.mem_flatMap.1 hv
  simp only [En.cells, List.mem_cons, List.not_mem_nil, or_false] at he
  rcases he with rfl | rfl | rfl | rfl <;> rfl
theorem ecells_take {L : List En} {k : Nat} {x : En} (h : L[k]? = some x) : ecells (L.take (k + 1)) = ecells (L.take k) ++ x.cells := fm_take h
theorem eback_fn (A : Option Addr) (c : Nat) (L : List En) (T : Heap) (hA : ArgOk A L.length) (hT : 0 < L.length → T = roE A (ecells L)) (hro : Ro T) (hL : L.length ≤ 100000) :
    Fn Try.prog 25 [.slice A L.length c] T fun v H' => RowOk v L.length ∧ H' = rowE v 98 4 (ecells L) := by
  refine Fn.enter (N := 19) Try.func25 rfl (by kernel_rfl) rfl (fun w0 => ?_)

  refine awp_seq_region (fun Z hZ => ?_)
  refine sx_assign rfl rfl ?_
  refine sx_nil (hZ _ _ ?_)
  refine awp_forget [(0, _)] (Kn.cons rfl (Kn.nil)) ?_
  refine awp_seq_region (fun Z hZ => ?_)
  refine sx_assign rfl rfl ?_
  refine sx_nil (hZ _ _ ?_)
  refine awp_forget [(0, _), (3, _)] (Kn.cons rfl (Kn.cons rfl (Kn.nil))) ?_
  refine awp_seq ?_
  refine awp_seq_region (fun Z hZ => ?_)
  refine sx_assign rfl rfl ?_
  refine sx_nil (hZ _ _ ?_)
  refine awp_forget [(0, _), (3, _), (4, _)] (Kn.cons rfl (Kn.cons rfl (Kn.cons rfl (Kn.nil)))) ?_
  refine awp_block ?_
  refine awp_loop (ι := Nat × Value) (fun i => [(0, .slice A L.length c), (3, i.2), (4, iq (i.1 : Nat))]) (fun i => T ++ rowE i.2 98 4 (ecells (L.take i.1)))
    (fun i => i.1 ≤ L.length ∧ RowOk i.2 i.1) (fun i => L.length - i.1) (0, .slice none 0 0) ⟨by simp, RowOk.nil⟩ (Kn.cons rfl (Kn.cons rfl (Kn.cons rfl Kn.nil))) (by simp [rowE]; exact HLe.refl _) ?_
  rintro ⟨k, v⟩ ⟨hk, hv⟩
  simp only at hk hv
  refine awp_seq ?_
  refine awp_seq_region (fun Z hZ => ?_)
  refine sx_move rfl rfl ?_
  refine sx_move rfl rfl ?_
  refine sx_len Try.underlying44 rfl rfl ?_
  refine sx_lss rfl rfl rfl ?_
  refine sx_nil (hZ _ _ ?_)
  refine awp_forget [(0, _), (3, _), (4, _), (8, _)] (Kn.cons rfl (Kn.cons rfl (Kn.cons rfl (Kn.cons rfl (Kn.nil))))) ?_
  refine awp_cond rfl (fun h => ?_) (fun h => ?_)
  · have hlt : k < L.length := by simpa using h
    obtain ⟨x, hx⟩ : ∃ x, L[k]? = some x := ⟨_, List.getElem?_eq_getElem hlt⟩
    obtain ⟨g, o, rfl⟩ := hA (by omega)
    obtain rfl := hT (by omega)
    refine awp_skip ?_
    with_reducible refine nx_normal ?_
    refine awp_seq (awp_block ?_)

    refine awp_region (fun Z hZ => ?_)
    refine sx_move rfl rfl ?_
    refine sx_move rfl rfl ?_
    refine sx_move rfl rfl ?_
    refine sx_indexAddr (o + k * 4) Try.underlying44 tyS65 rfl rfl (by omega) (by simp) rfl ?_
    refine sx_loadRo 0 rfl rfl (k * 4) rfl tyA65 tyS65 (ecells_all hx) rfl ?_
    refine sx_buildSlice Try.underlying66 tyS98 tyZ98 rfl rfl rfl rfl (by first | (simp only [List.take_succ_cons, List.take_zero, List.drop_succ_cons, List.drop_zero, List.cons_append, List.nil_append, List.append_nil, List.length_cons, List.length_nil, Nat.reduceAdd, Nat.zero_add, Nat.add_zero, Value.cells, wrV, zrep_one, List.replicate_succ, List.replicate_zero, Nat.reduceMul, Nat.zero_mul]; first | done | rfl) | rfl) rfl (fun g1 => ?_)
    refine sx_appendE [_, _] elemEnR rfl hv (by rw [ecells_len, List.length_take, Nat.min_eq_left hk]) rfl (fun w hw => rd_own (i := 0) (xs := x.cells) rfl rfl hw) rfl (by show _ ≤ 9223372036854775807; omega) (by omega) (HLe.refl _) rfl (fun v2 hv2 => ?_)
    rw [← ecells_take hx]
    refine sx_assign rfl rfl ?_
    refine sx_nil (hZ _ _ ?_)
    refine nx_forget [(0, _), (3, _), (4, _)] (Kn.cons rfl (Kn.cons rfl (Kn.cons rfl (Kn.nil)))) ?_
    repeat (with_reducible refine nx_block_normal ?_)
    with_reducible refine nx_normal ?_
    refine awp_region (fun Z hZ => ?_)
    refine sx_move rfl rfl ?_
    refine sx_add rfl rfl ((k + 1 : Nat) : Int) (by rw [IntWalk.i64_in _ (by omega)]; omega) rfl ?_
    refine sx_assign rfl rfl ?_
    refine sx_nil (hZ _ _ ?_)
    refine nx_forget [(0, _), (3, _), (4, _)] (Kn.cons rfl (Kn.cons rfl (Kn.cons rfl (Kn.nil)))) ?_
    exact nx_round (k + 1, v2) ⟨by show k + 1 ≤ _; omega, hv2⟩ (by simp; omega) (Kn.cons rfl (Kn.cons rfl (Kn.cons rfl Kn.nil))) (HLe.drop 1 rfl)
  · refine awp_exit ?_
    repeat (with_reducible refine nx_then_exit ?_)
    with_reducible refine nx_block_exit ?_
    with_reducible refine nx_normal ?_
    have hke : k = L.length := by simp at h; omega
    subst hke
    rw [List.take_length]
    refine awp_seq_region (fun Z hZ => ?_)
    refine sx_move rfl rfl ?_
    refine sx_assign rfl rfl ?_
    refine sx_nil (hZ _ _ ?_)
    refine awp_forget [(2, _)] (Kn.cons rfl (Kn.nil)) ?_
    refine awp_ret ?_
    exact nx_ret1h _ rfl rfl (HLe.sub (List.sublist_append_right _ _)) ⟨hv, rfl⟩
end Go.Proofs.Ytjelakmndcecoaa

namespace Go.Proofs.Ytjelakmndcecoaa
open Go.RowKit
set_option linter.unusedVariables false
set_option linter.unusedSimpArgs false
def enq (a b : En) : Bool := (a.id == b.id) && (a.off == b.off) && (a.len == b.len) && (a.run == b.run)
def sameL : List En → List En → Bool
  | [], [] => true
  | a :: r, b :: s => enq a b && sameL r s
  | _, _ => false
theorem enq_iff {a b : En} : enq a b = true ↔ a = b := by
  obtain ⟨a1, a2, a3, a4⟩ := a
  obtain ⟨b1, b2, b3, b4⟩ := b
  simp [enq, and_assoc]
theorem sameL_iff : ∀ {L M : List En}, sameL L M = true ↔ L = M
  | [], [] => by simp [sameL]
  | a :: r, b :: s => by simp [sameL, enq_iff, sameL_iff (L := r) (M := s)]
  | [], b :: s => by simp [sameL]
  | a :: r, [] => by simp [sameL]
theorem sameL_len : ∀ {L M : List En}, sameL L M = true → L.length = M.length := fun h => by rw [sameL_iff.1 h]
theorem en_eq (a b : En) : EqV Try.prog 10000 65 a.val b.val (enq a b) := by
  have h : EqV Try.prog 10000 65 a.val b.val _ := EqV.struct Try.underlying65 (by kernel_rfl) (.cons rfl tyA35 tyS35 rfl rfl (EqV.int Try.underlying35) (.cons rfl tyA35 tyS35 rfl rfl (EqV.int Try.underlying35) (.cons rfl tyA63 tyS63 rfl rfl (EqV.int Try.underlying63) (.cons rfl tyA63 tyS63 rfl rfl (EqV.int Try.underlying63) .nil))))
  have e : enq a b = ((((a.id : Int) == (b.id : Int)) && (((a.off : Int) == (b.off : Int)) && (((a.len : Int) == (b.len : Int)) && (((a.run : Int) == (b.run : Int)) && true))))) := by
    rw [Bool.eq_iff_iff]
    simp [enq, and_assoc]
    omega
  rw [e]
  exact h
theorem guard_en : Program.eqGuardType Try.prog Try.prog.depth 65 = false := by kernel_rfl
theorem en_eqR (a b : En) : EqV Try.prog 10000 98 a.val b.val (enq a b) := by
  have h : EqV Try.prog 10000 98 a.val b.val _ := EqV.struct Try.underlying98 (by kernel_rfl) (.cons rfl tyA35 tyS35 rfl rfl (EqV.int Try.underlying35) (.cons rfl tyA35 tyS35 rfl rfl (EqV.int Try.underlying35) (.cons rfl tyA63 tyS63 rfl rfl (EqV.int Try.underlying63) (.cons rfl tyA63 tyS63 rfl rfl (EqV.int Try.underlying63) .nil))))
  have e : enq a b = ((((a.id : Int) == (b.id : Int)) && (((a.off : Int) == (b.off : Int)) && (((a.len : Int) == (b.len : Int)) && (((a.run : Int) == (b.run : Int)) && true))))) := by
    rw [Bool.eq_iff_iff]
    simp [enq, and_assoc]
    omega
  rw [e]
  exact h
theorem guard_enR : Program.eqGuardType Try.prog Try.prog.depth 98 = false := by kernel_rfl
theorem equal_fn (A : Option Addr) (c : Nat) (L : List En) (T : Heap) (hA : ArgOk A L.length) (hT : 0 < L.length → T = roE A (ecells L)) (hL : L.length ≤ maxLen)
    (B : Option Addr) (d : Nat) (M : List En) (U : Heap) (hB : ArgOk B M.length) (hU : 0 < M.length → U = roE B (ecells M)) (hM : M.length ≤ maxLen) :
    Fn Try.prog 36 [.slice A L.length c, .slice B M.length d] (T ++ U) fun v _ => v = .bool (sameL L M) := by
  have hL' : L.length ≤ 9223372036854775807 := hL
  have hM' : M.length ≤ 9223372036854775807 := hM
  refine Fn.enter (N := 26) Try.func36 rfl (by kernel_rfl) rfl (fun w0 => ?_)

  refine awp_seq_region (fun Z hZ => ?_)
  refine sx_assign rfl rfl ?_
  refine sx_nil (hZ _ _ ?_)
  refine awp_forget [(0, _), (1, _)] (Kn.cons rfl (Kn.cons rfl (Kn.nil))) ?_
  refine awp_seq ?_
  refine awp_seq_region (fun Z hZ => ?_)
  refine sx_move rfl rfl ?_
  refine sx_len Try.underlying44 rfl rfl ?_
  refine sx_move rfl rfl ?_
  refine sx_len Try.underlying44 rfl rfl ?_
  refine sx_neq rfl rfl rfl ?_
  refine sx_nil (hZ _ _ ?_)
  refine awp_forget [(0, _), (1, _), (10, _)] (Kn.cons rfl (Kn.cons rfl (Kn.cons rfl (Kn.nil)))) ?_
  refine awp_cond rfl (fun ha => ?_) (fun ha => ?_)
  · have hne : L.length ≠ M.length := by simp at ha; omega
    rw [show sameL L M = false by cases hs : sameL L M with | false => rfl | true => exact absurd (sameL_len hs) hne]
    refine awp_seq_region (fun Z hZ => ?_)
    refine sx_assign rfl rfl ?_
    refine sx_nil (hZ _ _ ?_)
    refine awp_forget [(4, _)] (Kn.cons rfl (Kn.nil)) ?_
    refine awp_ret ?_
    repeat (with_reducible refine nx_then_ret ?_)
    exact nx_ret1 rfl rfl rfl
  have hlm : L.length = M.length := by simp at ha; omega
  refine awp_skip ?_
  with_reducible refine nx_normal ?_
  refine awp_seq ?_
  refine awp_seq_region (fun Z hZ => ?_)
  refine sx_move rfl rfl ?_
  refine sx_len Try.underlying44 rfl rfl ?_
  refine sx_move rfl rfl ?_
  refine sx_nil (hZ _ _ ?_)
  refine awp_forget [(0, _), (1, _), (12, _), (13, _)] (Kn.cons rfl (Kn.cons rfl (Kn.cons rfl (Kn.cons rfl (Kn.nil))))) ?_
  refine awp_block ?_
  refine awp_loop (ι := Nat) (fun k => [(0, .slice A L.length c), (1, .slice B M.length d), (12, iq (L.length : Nat)), (13, iq (k : Nat))]) (fun _ => T ++ U)
    (fun k => k ≤ L.length ∧ sameL (L.drop k) (M.drop k) = sameL L M) (fun k => L.length - k) 0 ⟨by simp, rfl⟩ (Kn.cons rfl (Kn.cons rfl (Kn.cons rfl (Kn.cons rfl Kn.nil)))) (HLe.refl _) ?_
  rintro k ⟨hk, hq⟩
  refine awp_seq_region (fun Z hZ => ?_)
  refine sx_lss rfl rfl rfl ?_
  refine sx_nil (hZ _ _ ?_)
  refine awp_forget [(0, _), (1, _), (12, _), (13, _), (14, _)] (Kn.cons rfl (Kn.cons rfl (Kn.cons rfl (Kn.cons rfl (Kn.cons rfl (Kn.nil)))))) ?_
  refine awp_seq (awp_cond rfl (fun h => ?_) (fun h => ?_))
  · have hlt : k < L.length := by simpa using h
    obtain ⟨x, hx⟩ : ∃ x, L[k]? = some x := ⟨_, List.getElem?_eq_getElem hlt⟩
    obtain ⟨y, hy⟩ : ∃ y, M[k]? = some y := ⟨_, List.getElem?_eq_getElem (by omega)⟩
    have hxe : L[k] = x := Option.some.inj ((List.getElem?_eq_getElem hlt).symm.trans hx)
    have hye : M[k]'(by omega) = y := Option.some.inj ((List.getElem?_eq_getElem (by omega)).symm.trans hy)
    rw [List.drop_eq_getElem_cons hlt, List.drop_eq_getElem_cons (show k < M.length by omega), hxe, hye, sameL] at hq
    obtain ⟨g, o, rfl⟩ := hA (by omega)
    obtain ⟨g', o', rfl⟩ := hB (by omega)
    obtain rfl := hT (by omega)
    obtain rfl := hU (by omega)
    refine awp_skip ?_
    with_reducible refine nx_normal ?_
    refine awp_seq (awp_block ?_)

    refine awp_seq_region (fun Z hZ => ?_)
    refine sx_move rfl rfl ?_
    refine sx_assign rfl rfl ?_
    refine sx_nil (hZ _ _ ?_)
    refine awp_forget [(0, _), (1, _), (5, _), (12, _), (13, _)] (Kn.cons rfl (Kn.cons rfl (Kn.cons rfl (Kn.cons rfl (Kn.cons rfl (Kn.nil)))))) ?_
    refine awq_seq_region mixed (by kernel_rfl) (fun Z hZ => ?_)
    refine sq_move rfl rfl ?_
    refine sq_move rfl rfl ?_
    refine sq_indexAddr (o + k * 4) Try.underlying44 tyS65 rfl rfl (by omega) (by simp) rfl ?_
    refine sq_loadRo 0 rfl rfl (k * 4) rfl tyA65 tyS65 (ecells_all hx) rfl ?_
    refine sq_move rfl rfl ?_
    refine sq_move rfl rfl ?_
    refine sq_indexAddr (o' + k * 4) Try.underlying44 tyS65 rfl rfl (by omega) (by simp) rfl ?_
    refine sq_loadRo 1 rfl rfl (k * 4) rfl tyA65 tyS65 (ecells_all hy) rfl ?_
    refine sq_aneq (en_eq x y) guard_en rfl rfl rfl ?_
    refine sq_nil (hZ _ _ ?_)
    refine awp_forget [(0, _), (1, _), (12, _), (13, _), (24, _)] (Kn.cons rfl (Kn.cons rfl (Kn.cons rfl (Kn.cons rfl (Kn.cons rfl (Kn.nil)))))) ?_
    refine awp_cond rfl (fun hb => ?_) (fun hb => ?_)
    · have hb' : enq x y = false := by simpa using hb
      rw [hb'] at hq
      rw [← hq]
      refine awp_seq_region (fun Z hZ => ?_)
      refine sx_assign rfl rfl ?_
      refine sx_nil (hZ _ _ ?_)
      refine awp_forget [(4, _)] (Kn.cons rfl (Kn.nil)) ?_
      refine awp_ret ?_
      repeat (with_reducible (first | refine nx_then_ret ?_ | refine nx_block_ret ?_))
      exact nx_ret1 rfl rfl rfl
    have hb' : enq x y = true := by simpa using hb
    rw [hb', Bool.true_and] at hq
    refine awp_skip ?_
    repeat (with_reducible refine nx_block_normal ?_)
    with_reducible refine nx_normal ?_
    refine awp_region (fun Z hZ => ?_)
    refine sx_add rfl rfl ((k + 1 : Nat) : Int) (by rw [IntWalk.i64_in _ (by omega)]; omega) rfl ?_
    refine sx_move rfl rfl ?_
    refine sx_nil (hZ _ _ ?_)
    refine nx_forget [(0, _), (1, _), (12, _), (13, _)] (Kn.cons rfl (Kn.cons rfl (Kn.cons rfl (Kn.cons rfl (Kn.nil))))) ?_
    exact nx_round (k + 1) ⟨by omega, hq⟩ (by omega) (Kn.cons rfl (Kn.cons rfl (Kn.cons rfl (Kn.cons rfl Kn.nil)))) (HLe.refl _)
  · refine awp_exit ?_
    repeat (with_reducible refine nx_then_exit ?_)
    with_reducible refine nx_block_exit ?_
    with_reducible refine nx_normal ?_
    have hke : k = L.length := by simp at h; omega
    subst hke
    rw [List.drop_length, List.drop_of_length_le (by omega), sameL] at hq
    rw [← hq]
    refine awp_seq_region (fun Z hZ => ?_)
    refine sx_assign rfl rfl ?_
    refine sx_nil (hZ _ _ ?_)
    refine awp_forget [(4, _)] (Kn.cons rfl (Kn.nil)) ?_
    refine awp_ret ?_
    exact nx_ret1 rfl rfl rfl
theorem esame_fn (A : Option Addr) (c : Nat) (L : List En) (T : Heap) (hA : ArgOk A L.length) (hT : 0 < L.length → T = roE A (ecells L)) (hroT : Ro T) (hL : L.length ≤ maxLen)
    (B : Option Addr) (d : Nat) (M : List En) (U : Heap) (hB : ArgOk B M.length) (hU : 0 < M.length → U = roE B (ecells M)) (hroU : Ro U) (hM : M.length ≤ maxLen) :
    Fn Try.prog 15 [.slice A L.length c, .slice B M.length d] (T ++ U) fun v _ => v = .bool (sameL L M) := by
  refine Fn.enter (N := 8) Try.func15 rfl (by kernel_rfl) rfl (fun w0 => ?_)

  refine awp_seq_region (fun Z hZ => ?_)
  refine sx_assign rfl rfl ?_
  refine sx_nil (hZ _ _ ?_)
  refine awp_forget [(0, _), (1, _)] (Kn.cons rfl (Kn.cons rfl (Kn.nil))) ?_
  refine awp_seq_region (fun Z hZ => ?_)
  refine sx_move rfl rfl ?_
  refine sx_move rfl rfl ?_
  refine sx_callPT (T ++ U) (equal_fn A c L T hA hT hL B d M U hB hU hM) rfl (List.Sublist.refl _) (hroT.append hroU) rfl ?_
  refine sx_assign rfl rfl ?_
  refine sx_nil (hZ _ _ ?_)
  refine awp_forget [(4, _)] (Kn.cons rfl (Kn.nil)) ?_
  refine awp_ret ?_
  exact nx_ret1 rfl rfl rfl
theorem rsame_fn (A : Option Addr) (c : Nat) (L : List En) (T : Heap) (hA : ArgOk A L.length) (hT : 0 < L.length → T = roE A (ecells L)) (hL : L.length ≤ maxLen)
    (B : Option Addr) (d : Nat) (M : List En) (U : Heap) (hB : ArgOk B M.length) (hU : 0 < M.length → U = roE B (ecells M)) (hM : M.length ≤ maxLen) :
    Fn Try.prog 24 [.slice A L.length c, .slice B M.length d] (T ++ U) fun v _ => v = .bool (sameL L M) := by
  have hL' : L.length ≤ 9223372036854775807 := hL
  have hM' : M.length ≤ 9223372036854775807 := hM
  refine Fn.enter (N := 26) Try.func24 rfl (by kernel_rfl) rfl (fun w0 => ?_)

  refine awp_seq_region (fun Z hZ => ?_)
  refine sx_assign rfl rfl ?_
  refine sx_nil (hZ _ _ ?_)
  refine awp_forget [(0, _), (1, _)] (Kn.cons rfl (Kn.cons rfl (Kn.nil))) ?_
  refine awp_seq ?_
  refine awp_seq_region (fun Z hZ => ?_)
  refine sx_move rfl rfl ?_
  refine sx_len Try.underlying66 rfl rfl ?_
  refine sx_move rfl rfl ?_
  refine sx_len Try.underlying66 rfl rfl ?_
  refine sx_neq rfl rfl rfl ?_
  refine sx_nil (hZ _ _ ?_)
  refine awp_forget [(0, _), (1, _), (10, _)] (Kn.cons rfl (Kn.cons rfl (Kn.cons rfl (Kn.nil)))) ?_
  refine awp_cond rfl (fun ha => ?_) (fun ha => ?_)
  · have hne : L.length ≠ M.length := by simp at ha; omega
    rw [show sameL L M = false by cases hs : sameL L M with | false => rfl | true => exact absurd (sameL_len hs) hne]
    refine awp_seq_region (fun Z hZ => ?_)
    refine sx_assign rfl rfl ?_
    refine sx_nil (hZ _ _ ?_)
    refine awp_forget [(4, _)] (Kn.cons rfl (Kn.nil)) ?_
    refine awp_ret ?_
    repeat (with_reducible refine nx_then_ret ?_)
    exact nx_ret1 rfl rfl rfl
  have hlm : L.length = M.length := by simp at ha; omega
  refine awp_skip ?_
  with_reducible refine nx_normal ?_
  refine awp_seq ?_
  refine awp_seq_region (fun Z hZ => ?_)
  refine sx_assign rfl rfl ?_
  refine sx_nil (hZ _ _ ?_)
  refine awp_forget [(0, _), (1, _), (5, _)] (Kn.cons rfl (Kn.cons rfl (Kn.cons rfl (Kn.nil)))) ?_
  refine awp_block ?_
  refine awp_loop (ι := Nat) (fun k => [(0, .slice A L.length c), (1, .slice B M.length d), (5, iq (k : Nat))]) (fun _ => T ++ U)
    (fun k => k ≤ L.length ∧ sameL (L.drop k) (M.drop k) = sameL L M) (fun k => L.length - k) 0 ⟨by simp, rfl⟩ (Kn.cons rfl (Kn.cons rfl (Kn.cons rfl Kn.nil))) (HLe.refl _) ?_
  rintro k ⟨hk, hq⟩
  refine awp_seq ?_
  refine awp_seq_region (fun Z hZ => ?_)
  refine sx_move rfl rfl ?_
  refine sx_move rfl rfl ?_
  refine sx_len Try.underlying66 rfl rfl ?_
  refine sx_lss rfl rfl rfl ?_
  refine sx_nil (hZ _ _ ?_)
  refine awp_forget [(0, _), (1, _), (5, _), (14, _)] (Kn.cons rfl (Kn.cons rfl (Kn.cons rfl (Kn.cons rfl (Kn.nil))))) ?_
  refine awp_cond rfl (fun h => ?_) (fun h => ?_)
  · have hlt : k < L.length := by simpa using h
    obtain ⟨x, hx⟩ : ∃ x, L[k]? = some x := ⟨_, List.getElem?_eq_getElem hlt⟩
    obtain ⟨y, hy⟩ : ∃ y, M[k]? = some y := ⟨_, List.getElem?_eq_getElem (by omega)⟩
    have hxe : L[k] = x := Option.some.inj ((List.getElem?_eq_getElem hlt).symm.trans hx)
    have hye : M[k]'(by omega) = y := Option.some.inj ((List.getElem?_eq_getElem (by omega)).symm.trans hy)
    rw [List.drop_eq_getElem_cons hlt, List.drop_eq_getElem_cons (show k < M.length by omega), hxe, hye, sameL] at hq
    obtain ⟨g, o, rfl⟩ := hA (by omega)
    obtain ⟨g', o', rfl⟩ := hB (by omega)
    obtain rfl := hT (by omega)
    obtain rfl := hU (by omega)
    refine awp_skip ?_
    with_reducible refine nx_normal ?_
    refine awp_seq (awp_block ?_)

    refine awq_seq_region mixed (by kernel_rfl) (fun Z hZ => ?_)
    refine sq_move rfl rfl ?_
    refine sq_move rfl rfl ?_
    refine sq_indexAddr (o + k * 4) Try.underlying66 tyS98 rfl rfl (by omega) (by simp) rfl ?_
    refine sq_loadRo 0 rfl rfl (k * 4) rfl tyA98 tyS98 (ecells_all hx) rfl ?_
    refine sq_move rfl rfl ?_
    refine sq_move rfl rfl ?_
    refine sq_indexAddr (o' + k * 4) Try.underlying66 tyS98 rfl rfl (by omega) (by simp) rfl ?_
    refine sq_loadRo 1 rfl rfl (k * 4) rfl tyA98 tyS98 (ecells_all hy) rfl ?_
    refine sq_aneq (en_eqR x y) guard_enR rfl rfl rfl ?_
    refine sq_nil (hZ _ _ ?_)
    refine awp_forget [(0, _), (1, _), (5, _), (25, _)] (Kn.cons rfl (Kn.cons rfl (Kn.cons rfl (Kn.cons rfl (Kn.nil))))) ?_
    refine awp_cond rfl (fun hb => ?_) (fun hb => ?_)
    · have hb' : enq x y = false := by simpa using hb
      rw [hb'] at hq
      rw [← hq]
      refine awp_seq_region (fun Z hZ => ?_)
      refine sx_assign rfl rfl ?_
      refine sx_nil (hZ _ _ ?_)
      refine awp_forget [(4, _)] (Kn.cons rfl (Kn.nil)) ?_
      refine awp_ret ?_
      repeat (with_reducible (first | refine nx_then_ret ?_ | refine nx_block_ret ?_))
      exact nx_ret1 rfl rfl rfl
    have hb' : enq x y = true := by simpa using hb
    rw [hb', Bool.true_and] at hq
    refine awp_skip ?_
    repeat (with_reducible refine nx_block_normal ?_)
    with_reducible refine nx_normal ?_
    refine awp_region (fun Z hZ => ?_)
    refine sx_move rfl rfl ?_
    refine sx_add rfl rfl ((k + 1 : Nat) : Int) (by rw [IntWalk.i64_in _ (by omega)]; omega) rfl ?_
    refine sx_assign rfl rfl ?_
    refine sx_nil (hZ _ _ ?_)
    refine nx_forget [(0, _), (1, _), (5, _)] (Kn.cons rfl (Kn.cons rfl (Kn.cons rfl (Kn.nil)))) ?_
    exact nx_round (k + 1) ⟨by omega, hq⟩ (by omega) (Kn.cons rfl (Kn.cons rfl (Kn.cons rfl Kn.nil))) (HLe.refl _)
  · refine awp_exit ?_
    repeat (with_reducible refine nx_then_exit ?_)
    with_reducible refine nx_block_exit ?_
    with_reducible refine nx_normal ?_
    have hke : k = L.length := by simp at h; omega
    subst hke
    rw [List.drop_length, List.drop_of_length_le (by omega), sameL] at hq
    rw [← hq]
    refine awp_seq_region (fun Z hZ => ?_)
    refine sx_assign rfl rfl ?_
    refine sx_nil (hZ _ _ ?_)
    refine awp_forget [(4, _)] (Kn.cons rfl (Kn.nil)) ?_
    refine awp_ret ?_
    exact nx_ret1 rfl rfl rfl
end Go.Proofs.Ytjelakmndcecoaa
