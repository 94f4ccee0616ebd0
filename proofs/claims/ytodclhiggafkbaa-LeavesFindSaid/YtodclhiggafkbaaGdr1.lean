/- The walks of package dirs: the numbers of a directory. Conditions: the lists are not too long. The walk of package dirs: the numbers of a directory, gone through. Conditions: the lists are not too long. The walks of package dirs: Encode and Size. Conditions: the lists are not too long. The walks of package dirs: Encode; and of the document's answer. Conditions: the lists are not too long. The walks of the document's answer for directories: text, Encode and Size. Conditions: the lists are not too long. -/
import Derived.Test.YtodclhiggafkbaaGen1
namespace Go.Proofs.Ytodclhiggafkbaa
open Go.RowKit
set_option linter.unusedVariables false
set_option linter.unusedSimpArgs false
def zeroEn : En := ⟨0, 0, 0, 0⟩
def prevE (L : List En) (i : Nat) : En := if i = 0 then zeroEn else L.getD (i - 1) zeroEn
def atE (L : List En) (i : Nat) : En := L.getD i zeroEn
/-- The number of an entry in a column. -/
def numQ (c i : Nat) (a e : En) : Nat :=
  if c = 0 then (e.id + 18446744073709551616 - a.id) % 18446744073709551616 else if c = 1 then e.run else if c = 2 then e.len
  else if 0 < i ∧ e.off = a.next then 0 else (e.off + 1) % 18446744073709551616
def colQ (L : List En) (c : Nat) : List Nat := (List.range L.length).map fun i => numQ c i (prevE L i) (atE L i)
def numsQ (L : List En) : List Nat := L.length :: (colQ L 0 ++ (colQ L 1 ++ (colQ L 2 ++ colQ L 3)))
theorem zero_ok : zeroEn.ok := ⟨by decide, by decide, by decide, by decide⟩
theorem atE_ok {L : List En} (h : EnsOk L) (i : Nat) : (atE L i).ok := by
  unfold atE
  rcases Nat.lt_or_ge i L.length with hl | hl
  · rw [List.getD_eq_getElem?_getD, List.getElem?_eq_getElem hl]; exact h _ (List.getElem_mem _)
  · rw [List.getD_eq_getElem?_getD, List.getElem?_eq_none hl]; exact zero_ok
theorem prevE_ok {L : List En} (h : EnsOk L) (i : Nat) : (prevE L i).ok := by
  unfold prevE
  split
  · exact zero_ok
  · exact atE_ok h (i - 1)
theorem atE_at {L : List En} {i : Nat} (h : i < L.length) : L[i]? = some (atE L i) := by simp [atE, h]
theorem prevE_succ (L : List En) (i : Nat) : prevE L (i + 1) = atE L i := by simp [prevE, atE]
theorem numQ_lt {c i : Nat} {a e : En} (h : e.ok) : numQ c i a e < 18446744073709551616 := by
  obtain ⟨h1, h2, h3, h4⟩ := h
  unfold numQ
  split
  · omega
  split
  · omega
  split
  · omega
  split <;> omega
theorem colQ_len (L : List En) (c : Nat) : (colQ L c).length = L.length := by simp [colQ]
theorem numsQ_len (L : List En) : (numsQ L).length = 1 + 4 * L.length := by simp [numsQ, colQ_len]; omega
theorem colQ_at {L : List En} {c i : Nat} (h : i < L.length) : (colQ L c)[i]? = some (numQ c i (prevE L i) (atE L i)) := by simp [colQ, h]
theorem numsQ_at {L : List En} {c i : Nat} (hc : c < 4) (h : i < L.length) : (numsQ L)[1 + c * L.length + i]? = some (numQ c i (prevE L i) (atE L i)) := by
  have key : ∀ c, (colQ L c).length = L.length := colQ_len L
  unfold numsQ
  rw [show 1 + c * L.length + i = (c * L.length + i) + 1 by omega, List.getElem?_cons_succ]
  match c, hc with
  | 0, _ => rw [List.getElem?_append_left (by rw [key]; omega), Nat.zero_mul, Nat.zero_add]; exact colQ_at h
  | 1, _ =>
    rw [List.getElem?_append_right (by rw [key]; omega), key, List.getElem?_append_left (by rw [key]; omega)]
    rw [show 1 * L.length + i - L.length = i by omega]; exact colQ_at h
  | 2, _ =>
    rw [List.getElem?_append_right (by rw [key]; omega), key, List.getElem?_append_right (by rw [key]; omega), key, List.getElem?_append_left (by rw [key]; omega)]
    rw [show 2 * L.length + i - L.length - L.length = i by omega]; exact colQ_at h
  | 3, _ =>
    rw [List.getElem?_append_right (by rw [key]; omega), key, List.getElem?_append_right (by rw [key]; omega), key, List.getElem?_append_right (by rw [key]; omega), key]
    rw [show 3 * L.length + i - L.length - L.length - L.length = i by omega]; exact colQ_at h
theorem numsQ_lt {L : List En} (h : EnsOk L) (hl : L.length < 18446744073709551616) : ∀ x ∈ numsQ L, x < 18446744073709551616 := fun x hx => by
  have hcol : ∀ c, x ∈ colQ L c → x < 18446744073709551616 := fun c hc => by
    obtain ⟨i, _, rfl⟩ := List.mem_map.1 hc
    exact numQ_lt (atE_ok h i)
  simp only [numsQ, List.mem_cons, List.mem_append] at hx
  rcases hx with rfl | hx | hx | hx | hx
  · exact hl
  · exact hcol _ hx
  · exact hcol _ hx
  · exact hcol _ hx
  · exact hcol _ hx
theorem dnext_fn (e : En) (h : e.ok) : Fn Try.prog 60 [e.val] [] fun v _ => v = uq e.next := by
  obtain ⟨h1, h2, h3, h4⟩ := h
  refine Fn.enter (N := 9) Try.func60 rfl (by kernel_rfl) rfl (fun w0 => ?_)
  refine awp_seq_region (fun Z hZ => ?_)
  refine sx_box rfl rfl rfl (fun g1 => ?_)
  refine sx_assign rfl rfl ?_
  refine sx_nil (hZ _ _ ?_)
  refine awp_forget [(1, _)] (Kn.cons rfl (Kn.nil)) ?_
  refine awp_seq_region (fun Z hZ => ?_)
  refine sx_fieldAddr rfl tyF52_1 (by first | (simp only [Nat.reduceAdd, Nat.add_zero, Nat.zero_add]; first | done | rfl) | rfl) rfl ?_
  first | refine sx_load 0 rfl rfl tyA47 tyS47 rfl rfl ?_
  refine sx_fieldAddr rfl tyF52_2 (by first | (simp only [Nat.reduceAdd, Nat.add_zero, Nat.zero_add]; first | done | rfl) | rfl) rfl ?_
  first | refine sx_load 0 rfl rfl tyA50 tyS50 rfl rfl ?_
  refine sx_conv Try.underlying50 Try.underlying47 rfl ((e.len : Nat) : Int) (by rw [IntWalk.u64_in _ (by omega)]) rfl ?_
  refine sx_add rfl rfl ((e.next : Nat) : Int) (by rw [← Int.natCast_add, u64_w]; rfl) rfl ?_
  refine sx_assign rfl rfl ?_
  refine sx_nil (hZ _ _ ?_)
  refine awp_forget [(2, _)] (Kn.cons rfl (Kn.nil)) ?_
  refine awp_ret ?_
  repeat (with_reducible (first | refine nx_then_ret ?_ | refine nx_block_ret ?_ | refine nx_scope_ret ?_))
  exact nx_ret1 rfl rfl rfl
theorem u64_sub {a b : Nat} (ha : a < 18446744073709551616) (hb : b < 18446744073709551616) : IntKind.u64.wrap ((a : Int) - (b : Int)) = (((a + 18446744073709551616 - b) % 18446744073709551616 : Nat) : Int) := by
  have : IntKind.u64.wrap ((a : Int) - (b : Int)) = ((a : Int) - b) % 18446744073709551616 := by simp [IntKind.wrap, IntKind.bits, IntKind.signed]
  rw [this]
  omega
theorem dnumber_fn (c i : Nat) (a e : En) (hc : c < 4) (hi : i ≤ 1000000) (ha : a.ok) (he : e.ok) : Fn Try.prog 55 [iq c, iq i, a.val, e.val] [] fun v _ => v = uq (numQ c i a e) := by
  have hao := ha
  have heo := he
  obtain ⟨a1, a2, a3, a4⟩ := ha
  obtain ⟨e1, e2, e3, e4⟩ := he
  have hn : a.next < 18446744073709551616 := by simp only [En.next]; omega
  refine Fn.enter (N := 42) Try.func55 rfl (by kernel_rfl) rfl (fun w0 => ?_)
  refine awp_seq_region (fun Z hZ => ?_)
  refine sx_box rfl rfl rfl (fun g1 => ?_)
  refine sx_box rfl rfl rfl (fun g2 => ?_)
  refine sx_assign rfl rfl ?_
  refine sx_nil (hZ _ _ ?_)
  refine awp_forget [(0, _), (1, _), (6, _), (7, _)] (Kn.cons rfl (Kn.cons rfl (Kn.cons rfl (Kn.cons rfl (Kn.nil))))) ?_
  refine awp_seq (awp_block ?_)
  refine awp_seq_region (fun Z hZ => ?_)
  refine sx_move rfl rfl ?_
  first | refine sx_eql rfl rfl rfl ?_ | refine sx_seql rfl rfl rfl ?_
  refine sx_assign rfl rfl ?_
  refine sx_nil (hZ _ _ ?_)
  refine awp_forget [(0, _), (1, _), (6, _), (7, _), (9, _)] (Kn.cons rfl (Kn.cons rfl (Kn.cons rfl (Kn.cons rfl (Kn.cons rfl (Kn.nil)))))) ?_
  first | refine awp_cond rfl (fun h => ?_) (fun h => ?_) | refine awp_seq (awp_cond rfl (fun h => ?_) (fun h => ?_))
  · have h0 : c = 0 := by simp at h; omega
    rw [show numQ c i a e = (e.id + 18446744073709551616 - a.id) % 18446744073709551616 by unfold numQ; rw [if_pos h0]]
    refine awp_seq_region (fun Z hZ => ?_)
    refine sx_fieldAddr rfl tyF52_0 (by first | (simp only [Nat.reduceAdd, Nat.add_zero, Nat.zero_add]; first | done | rfl) | rfl) rfl ?_
    first | refine sx_load 0 rfl rfl tyA47 tyS47 rfl rfl ?_ | refine sx_load 1 rfl rfl tyA47 tyS47 rfl rfl ?_
    refine sx_fieldAddr rfl tyF52_0 (by first | (simp only [Nat.reduceAdd, Nat.add_zero, Nat.zero_add]; first | done | rfl) | rfl) rfl ?_
    first | refine sx_load 0 rfl rfl tyA47 tyS47 rfl rfl ?_ | refine sx_load 1 rfl rfl tyA47 tyS47 rfl rfl ?_
    refine sx_sub rfl rfl _ (u64_sub e1 a1) rfl ?_
    refine sx_assign rfl rfl ?_
    refine sx_nil (hZ _ _ ?_)
    refine awp_forget [(8, _)] (Kn.cons rfl (Kn.nil)) ?_
    refine awp_ret ?_
    repeat (with_reducible (first | refine nx_then_ret ?_ | refine nx_block_ret ?_ | refine nx_scope_ret ?_))
    exact nx_ret1 rfl rfl rfl
  have h0 : c ≠ 0 := by simp at h; omega
  refine awp_seq_region (fun Z hZ => ?_)
  refine sx_move rfl rfl ?_
  first | refine sx_eql rfl rfl rfl ?_ | refine sx_seql rfl rfl rfl ?_
  refine sx_assign rfl rfl ?_
  refine sx_nil (hZ _ _ ?_)
  refine awp_forget [(0, _), (1, _), (6, _), (7, _), (17, _)] (Kn.cons rfl (Kn.cons rfl (Kn.cons rfl (Kn.cons rfl (Kn.cons rfl (Kn.nil)))))) ?_
  first | refine awp_cond rfl (fun h1 => ?_) (fun h1 => ?_) | refine awp_seq (awp_cond rfl (fun h1 => ?_) (fun h1 => ?_))
  · have h1' : c = 1 := by simp at h1; omega
    rw [show numQ c i a e = e.run by unfold numQ; rw [if_neg h0, if_pos h1']]
    refine awp_seq_region (fun Z hZ => ?_)
    refine sx_fieldAddr rfl tyF52_3 (by first | (simp only [Nat.reduceAdd, Nat.add_zero, Nat.zero_add]; first | done | rfl) | rfl) rfl ?_
    first | refine sx_load 0 rfl rfl tyA50 tyS50 rfl rfl ?_ | refine sx_load 1 rfl rfl tyA50 tyS50 rfl rfl ?_
    refine sx_conv Try.underlying50 Try.underlying47 rfl ((e.run : Nat) : Int) (by rw [IntWalk.u64_in _ (by omega)]) rfl ?_
    refine sx_assign rfl rfl ?_
    refine sx_nil (hZ _ _ ?_)
    refine awp_forget [(8, _)] (Kn.cons rfl (Kn.nil)) ?_
    refine awp_ret ?_
    repeat (with_reducible (first | refine nx_then_ret ?_ | refine nx_block_ret ?_ | refine nx_scope_ret ?_))
    exact nx_ret1 rfl rfl rfl
  have h1' : c ≠ 1 := by simp at h1; omega
  refine awp_seq_region (fun Z hZ => ?_)
  refine sx_move rfl rfl ?_
  first | refine sx_eql rfl rfl rfl ?_ | refine sx_seql rfl rfl rfl ?_
  refine sx_assign rfl rfl ?_
  refine sx_nil (hZ _ _ ?_)
  refine awp_forget [(1, _), (6, _), (7, _), (23, _)] (Kn.cons rfl (Kn.cons rfl (Kn.cons rfl (Kn.cons rfl (Kn.nil))))) ?_
  first | refine awp_cond rfl (fun h2 => ?_) (fun h2 => ?_) | refine awp_seq (awp_cond rfl (fun h2 => ?_) (fun h2 => ?_))
  · have h2' : c = 2 := by simp at h2; omega
    rw [show numQ c i a e = e.len by unfold numQ; rw [if_neg h0, if_neg h1', if_pos h2']]
    refine awp_seq_region (fun Z hZ => ?_)
    refine sx_fieldAddr rfl tyF52_2 (by first | (simp only [Nat.reduceAdd, Nat.add_zero, Nat.zero_add]; first | done | rfl) | rfl) rfl ?_
    first | refine sx_load 0 rfl rfl tyA50 tyS50 rfl rfl ?_ | refine sx_load 1 rfl rfl tyA50 tyS50 rfl rfl ?_
    refine sx_conv Try.underlying50 Try.underlying47 rfl ((e.len : Nat) : Int) (by rw [IntWalk.u64_in _ (by omega)]) rfl ?_
    refine sx_assign rfl rfl ?_
    refine sx_nil (hZ _ _ ?_)
    refine awp_forget [(8, _)] (Kn.cons rfl (Kn.nil)) ?_
    refine awp_ret ?_
    repeat (with_reducible (first | refine nx_then_ret ?_ | refine nx_block_ret ?_ | refine nx_scope_ret ?_))
    exact nx_ret1 rfl rfl rfl
  have h2' : c ≠ 2 := by simp at h2; omega
  refine awq_seq_meet [(7, ptr g2 0), (29, .bool (decide (0 < i ∧ e.off = a.next)))] [.own g2 52 e.cells, .own g1 52 a.cells] mixed (by kernel_rfl) (fun Z hZ => ?_) ?_
  · refine sq_move rfl rfl ?_
    first | refine sq_gtr rfl rfl rfl ?_ | refine sq_sgtr rfl rfl rfl ?_
    refine sq_move rfl rfl ?_
    refine sq_split 32 rfl (fun hb2 => ?_) (fun hb2 => ?_)
    · refine sq_on rfl rfl rfl ?_
      refine sq_fieldAddr rfl tyF52_1 (by first | (simp only [Nat.reduceAdd, Nat.add_zero, Nat.zero_add]; first | done | rfl) | rfl) rfl ?_
      refine sq_on rfl rfl rfl ?_
      first | refine sq_load 0 rfl rfl tyA47 tyS47 rfl rfl ?_ | refine sq_load 1 rfl rfl tyA47 tyS47 rfl rfl ?_
      refine sq_on rfl rfl rfl ?_
      first | refine sq_loadA 0 rfl rfl tyA52 tyS52 (by first | (simp only [List.length_cons, List.length_nil, Nat.reduceAdd, Nat.zero_add, Nat.add_zero]; first | done | rfl) | rfl) (by first | (simp only [List.take_succ_cons, List.take_zero, List.drop_succ_cons, List.drop_zero, List.cons_append, List.nil_append, List.append_nil, List.length_cons, List.length_nil, Nat.reduceAdd, Nat.zero_add, Nat.add_zero, Value.cells, wrV]; first | done | rfl) | rfl) rfl ?_ | refine sq_loadA 1 rfl rfl tyA52 tyS52 (by first | (simp only [List.length_cons, List.length_nil, Nat.reduceAdd, Nat.zero_add, Nat.add_zero]; first | done | rfl) | rfl) (by first | (simp only [List.take_succ_cons, List.take_zero, List.drop_succ_cons, List.drop_zero, List.cons_append, List.nil_append, List.append_nil, List.length_cons, List.length_nil, Nat.reduceAdd, Nat.zero_add, Nat.add_zero, Value.cells, wrV]; first | done | rfl) | rfl) rfl ?_
      refine sq_on rfl rfl rfl ?_
      refine sq_callP (dnext_fn a hao) rfl rfl ?_
      refine sq_on rfl rfl rfl ?_
      first | refine sq_eql rfl rfl rfl ?_ | refine sq_seql rfl rfl rfl ?_
      refine sq_pick rfl rfl rfl ?_
      refine sq_assign rfl rfl ?_
      refine sq_nil (hZ _ _ ?_ ?_)
      · exact Kn.cons rfl (Kn.cons (congrArg some (congrArg Value.bool (by simp at hb2; rw [Bool.eq_iff_iff]; simp; omega))) Kn.nil)
      · exact HLe.refl _
    · refine sq_off rfl rfl rfl rfl rfl ?_
      refine sq_off rfl rfl rfl rfl rfl ?_
      refine sq_off rfl rfl rfl rfl rfl ?_
      refine sq_off rfl rfl rfl rfl rfl ?_
      refine sq_off rfl rfl rfl rfl rfl ?_
      refine sq_pick rfl rfl rfl ?_
      refine sq_assign rfl rfl ?_
      refine sq_nil (hZ _ _ ?_ ?_)
      · exact Kn.cons rfl (Kn.cons (congrArg some (congrArg Value.bool (by simp at hb2; rw [Bool.eq_iff_iff]; simp; omega))) Kn.nil)
      · exact HLe.refl _
  first | refine awp_cond rfl (fun h3 => ?_) (fun h3 => ?_) | refine awp_seq (awp_cond rfl (fun h3 => ?_) (fun h3 => ?_))
  · have h3' : 0 < i ∧ e.off = a.next := by simpa using h3
    rw [show numQ c i a e = 0 by unfold numQ; rw [if_neg h0, if_neg h1', if_neg h2', if_pos h3']]
    refine awp_seq_region (fun Z hZ => ?_)
    refine sx_assign rfl rfl ?_
    refine sx_nil (hZ _ _ ?_)
    refine awp_forget [(8, _)] (Kn.cons rfl (Kn.nil)) ?_
    refine awp_ret ?_
    repeat (with_reducible (first | refine nx_then_ret ?_ | refine nx_block_ret ?_ | refine nx_scope_ret ?_))
    exact nx_ret1 rfl rfl rfl
  have h3' : ¬ (0 < i ∧ e.off = a.next) := by simpa using h3
  rw [show numQ c i a e = (e.off + 1) % 18446744073709551616 by unfold numQ; rw [if_neg h0, if_neg h1', if_neg h2', if_neg h3']]
  refine awp_skip ?_
  repeat (with_reducible (first | refine nx_block_normal ?_ | refine nx_scope_normal ?_))
  with_reducible first | refine nx_normal ?_ | refine nx_normalM ?_

  refine awp_seq_region (fun Z hZ => ?_)
  refine sx_fieldAddr rfl tyF52_1 (by first | (simp only [Nat.reduceAdd, Nat.add_zero, Nat.zero_add]; first | done | rfl) | rfl) rfl ?_
  first | refine sx_load 0 rfl rfl tyA47 tyS47 rfl rfl ?_ | refine sx_load 1 rfl rfl tyA47 tyS47 rfl rfl ?_
  refine sx_add rfl rfl (((e.off + 1) % 18446744073709551616 : Nat) : Int) (by rw [show (e.off : Int) + 1 = ((e.off + 1 : Nat) : Int) by omega, u64_w]) rfl ?_
  refine sx_assign rfl rfl ?_
  refine sx_nil (hZ _ _ ?_)
  refine awp_forget [(8, _)] (Kn.cons rfl (Kn.nil)) ?_
  refine awp_ret ?_
  repeat (with_reducible (first | refine nx_then_ret ?_ | refine nx_block_ret ?_ | refine nx_scope_ret ?_))
  exact nx_ret1 rfl rfl rfl
end Go.Proofs.Ytodclhiggafkbaa

namespace Go.Proofs.Ytodclhiggafkbaa
open Go.RowKit
set_option linter.unusedVariables false
set_option linter.unusedSimpArgs false
theorem wrs_flt {T K A : Heap} (h : Wrs T) : HLe T (A ++ (T.filter Ent.wr ++ K)) := by
  rw [h.filter]
  exact HLe.sub ((List.sublist_append_left T K).trans (List.sublist_append_right A _))
theorem numbers_fn (A : Option Addr) (n c : Nat) : Fn Try.prog 35 [.slice A n c] [] fun v H' => ∃ g, v = .func (.func 54) #[] #[ptr g 0] ∧ H' = [.own g 24 [.slice A n c]] := by
  refine Fn.enter (N := 4) Try.func35 rfl (by kernel_rfl) rfl (fun w0 => ?_)

  refine awp_seq_region (fun Z hZ => ?_)
  refine sx_box rfl rfl rfl (fun g1 => ?_)
  refine sx_assign rfl rfl ?_
  refine sx_nil (hZ _ _ ?_)
  refine awp_forget [(1, _)] (Kn.cons rfl (Kn.nil)) ?_
  refine awp_seq_region (fun Z hZ => ?_)
  refine sx_makeFunc rfl rfl ?_
  refine sx_assign rfl rfl ?_
  refine sx_nil (hZ _ _ ?_)
  refine awp_forget [(2, _)] (Kn.cons rfl (Kn.nil)) ?_
  refine awp_ret ?_
  repeat (with_reducible (first | refine nx_then_ret ?_ | refine nx_block_ret ?_ | refine nx_scope_ret ?_))
  exact nx_ret1 rfl rfl ⟨g1, rfl, rfl⟩
theorem numbers_it (g : Nat) (A : Option Addr) (cp : Nat) (L : List En) (T : Heap) (hA : ArgOk A L.length) (hT : 0 < L.length → T = roE A (ecells L)) (hL : L.length ≤ 100000) (hE : EnsOk L) :
    Iter Try.prog 54 [ptr g 0] (.ro g 0 [.slice A L.length cp] :: T) ((numsQ L).map fun x => [uq x]) := by
  intro l J Jr S hJ hS hJr hY T0 hT0
  have hlen : ((numsQ L).map fun x => [uq x]).length = 1 + 4 * L.length := by rw [List.length_map, numsQ_len]
  rw [hlen]
  have hitem : ∀ k x, (numsQ L)[k]? = some x → ((numsQ L).map fun x => [uq x])[k]? = some [uq x] := fun k x h => by rw [List.getElem?_map, h]; rfl
  refine Fn.enter (N := 34) Try.func54 rfl (by kernel_rfl) rfl (fun w0 => ?_)

  refine awp_heap (.ro g 0 [.slice A L.length cp] :: (T ++ (T0 ++ Jr))) (HLe.refl _) ?_
  refine awp_seq ?_
  refine awy_seq_region (fun Z hZ => ?_)
  refine sy_x rfl ?_
  refine sx_move rfl rfl ?_
  refine sx_nil ?_
  refine sy_x rfl ?_
  refine sx_loadRo 0 rfl rfl 0 rfl tyA24 tyS24 rfl rfl ?_
  refine sx_nil ?_
  refine sy_x rfl ?_
  first | refine sx_len Try.underlying24 rfl rfl ?_ | refine sx_lenS Try.underlying24 rfl rfl ?_
  refine sx_nil ?_
  refine sy_x rfl ?_
  refine sx_conv Try.underlying3 Try.underlying47 rfl ((L.length : Nat) : Int) (by rw [IntWalk.u64_in _ (by omega)]) rfl ?_
  refine sx_nil ?_
  refine sy_yield (.ro g 0 [.slice A L.length cp] :: T) T0 Jr Jr (hY 0 [uq L.length] T0 (hitem 0 _ rfl) hT0) rfl rfl rfl (List.Sublist.refl _) hJr rfl ?_
  rintro v T1 ⟨b, rfl, hb1, hb2⟩
  refine sy_x rfl ?_
  refine sx_not rfl rfl ?_
  refine sx_nil ?_
  refine sy_nil (hZ _ _ ?_)
  refine awp_forget [(0, _), (1, _), (12, _)] (Kn.cons rfl (Kn.cons rfl (Kn.cons rfl (Kn.nil)))) ?_
  first | refine awp_cond rfl (fun h => ?_) (fun h => ?_) | refine awp_seq (awp_cond rfl (fun h => ?_) (fun h => ?_))
  · have hb : b = false := by simpa using h
    refine awp_ret ?_
    repeat (with_reducible (first | refine nx_then_ret ?_ | refine nx_block_ret ?_ | refine nx_scope_ret ?_))
    exact nx_ret0h T1 rfl (wrs_flt (A := _ :: T) (hS T1 (hb2 hb))) (.inr (hb2 hb))
  have hb : b = true := by simpa using h
  have hT1 := hb1 hb
  rw [(hJ _ T1 hT1).filter]
  refine awp_skip ?_
  repeat (with_reducible (first | refine nx_block_normal ?_ | refine nx_scope_normal ?_))
  with_reducible first | refine nx_normal ?_ | refine nx_normalM ?_
  refine awp_seq_region (fun Z hZ => ?_)
  refine sx_move rfl rfl ?_
  refine sx_nil (hZ _ _ ?_)
  refine awp_forget [(0, _), (1, _), (13, _)] (Kn.cons rfl (Kn.cons rfl (Kn.cons rfl (Kn.nil)))) ?_
  refine awp_block ?_
  refine awp_loop (ι := Nat × Heap) (fun i => [(0, .func (.yield l) #[] #[]), (1, ptr g 0), (13, iq (i.1 : Nat))]) (fun i => .ro g 0 [.slice A L.length cp] :: (T ++ (i.2 ++ Jr)))
    (fun i => i.1 ≤ 4 ∧ J (1 + i.1 * L.length) i.2) (fun i => 4 - i.1) (0, T1) ⟨by simp, by simpa using hT1⟩ (Kn.cons rfl (Kn.cons rfl (Kn.cons rfl Kn.nil))) (HLe.refl _) ?_
  rintro ⟨c, T2⟩ ⟨hc, hT2⟩
  simp only at hc hT2
  refine awp_seq_region (fun Z hZ => ?_)
  first | refine sx_lss rfl rfl rfl ?_ | refine sx_slss rfl rfl rfl ?_
  refine sx_nil (hZ _ _ ?_)
  refine awp_forget [(0, _), (1, _), (13, _), (14, _)] (Kn.cons rfl (Kn.cons rfl (Kn.cons rfl (Kn.cons rfl (Kn.nil))))) ?_
  first | refine awp_cond rfl (fun h => ?_) (fun h => ?_) | refine awp_seq (awp_cond rfl (fun h => ?_) (fun h => ?_))
  · have hc4 : c < 4 := by simp at h; omega
    refine awp_skip ?_
    repeat (with_reducible (first | refine nx_block_normal ?_ | refine nx_scope_normal ?_))
    with_reducible first | refine nx_normal ?_ | refine nx_normalM ?_
    refine awp_seq (awp_block ?_)
    refine awp_seq_region (fun Z hZ => ?_)
    refine sx_move rfl rfl ?_
    refine sx_assign rfl rfl ?_
    refine sx_nil (hZ _ _ ?_)
    refine awp_forget [(0, _), (1, _), (3, _), (13, _)] (Kn.cons rfl (Kn.cons rfl (Kn.cons rfl (Kn.cons rfl (Kn.nil))))) ?_
    refine awp_seq_region (fun Z hZ => ?_)
    refine sx_alloc tyZ52 rfl (fun g1 => ?_)
    refine sx_nil (hZ _ _ ?_)
    refine awp_forget [(0, _), (1, _), (3, _), (4, _), (13, _)] (Kn.cons rfl (Kn.cons rfl (Kn.cons rfl (Kn.cons rfl (Kn.cons rfl (Kn.nil)))))) ?_
    refine awp_seq_region (fun Z hZ => ?_)
    refine sx_loadRo 1 rfl rfl 0 rfl tyA24 tyS24 rfl rfl ?_
    first | refine sx_len Try.underlying24 rfl rfl ?_ | refine sx_lenS Try.underlying24 rfl rfl ?_
    refine sx_move rfl rfl ?_
    refine sx_nil (hZ _ _ ?_)
    refine awp_forget [(0, _), (1, _), (3, _), (4, _), (13, _), (16, _), (17, _), (18, _)] (Kn.cons rfl (Kn.cons rfl (Kn.cons rfl (Kn.cons rfl (Kn.cons rfl (Kn.cons rfl (Kn.cons rfl (Kn.cons rfl (Kn.nil))))))))) ?_
    refine awp_block ?_
    refine awp_loop (ι := Nat × Heap) (fun i => [(0, .func (.yield l) #[] #[]), (1, ptr g 0), (3, iq (c : Nat)), (4, ptr g1 0), (13, iq (c : Nat)), (16, .slice A L.length cp), (17, iq (L.length : Nat)), (18, iq (i.1 : Nat))]) (fun i => .own g1 52 (prevE L i.1).cells :: .ro g 0 [.slice A L.length cp] :: (T ++ (i.2 ++ Jr)))
      (fun i => i.1 ≤ L.length ∧ J (1 + c * L.length + i.1) i.2) (fun i => L.length - i.1) (0, T2) ⟨by simp, by simpa using hT2⟩ (Kn.cons rfl (Kn.cons rfl (Kn.cons rfl (Kn.cons rfl (Kn.cons rfl (Kn.cons rfl (Kn.cons rfl (Kn.cons rfl Kn.nil)))))))) (HLe.refl _) ?_
    rintro ⟨i, T3⟩ ⟨hi, hT3⟩
    simp only at hi hT3

    refine awp_seq_region (fun Z hZ => ?_)
    first | refine sx_lss rfl rfl rfl ?_ | refine sx_slss rfl rfl rfl ?_
    refine sx_nil (hZ _ _ ?_)
    refine awp_forget [(0, _), (1, _), (3, _), (4, _), (13, _), (16, _), (17, _), (18, _), (19, _)] (Kn.cons rfl (Kn.cons rfl (Kn.cons rfl (Kn.cons rfl (Kn.cons rfl (Kn.cons rfl (Kn.cons rfl (Kn.cons rfl (Kn.cons rfl (Kn.nil)))))))))) ?_
    first | refine awp_cond rfl (fun hh => ?_) (fun hh => ?_) | refine awp_seq (awp_cond rfl (fun hh => ?_) (fun hh => ?_))
    · have hlt : i < L.length := by simpa using hh
      have hx := atE_at hlt
      have hxo := atE_ok hE i
      have hpo := prevE_ok hE i
      obtain ⟨ga, o, rfl⟩ := hA (by omega)
      obtain rfl := hT (by omega)
      refine awp_heap (.own g1 52 (prevE L i).cells :: .ro g 0 [.slice (some ⟨ga, o, none⟩) L.length cp] :: .ro ga o (ecells L) :: (T3 ++ Jr)) (HLe.refl _) ?_
      refine awp_skip ?_
      repeat (with_reducible (first | refine nx_block_normal ?_ | refine nx_scope_normal ?_))
      with_reducible first | refine nx_normal ?_ | refine nx_normalM ?_
      refine awp_seq (awp_block ?_)

      refine awp_seq_region (fun Z hZ => ?_)
      refine sx_move rfl rfl ?_
      refine sx_indexAddr (o + i * 4) Try.underlying24 tyS52 rfl rfl (by omega) (by simp) rfl ?_
      refine sx_loadRo 2 rfl rfl (i * 4) rfl tyA52 tyS52 (ecells_all hx) rfl ?_
      refine sx_alloc tyZ52 rfl (fun g2 => ?_)
      refine sx_assign rfl rfl ?_
      first | refine sx_store 0 rfl rfl rfl tyS52 (by first | (simp only [Value.cells]; first | done | rfl) | rfl) rfl rfl (by first | (simp only [List.length_cons, List.length_nil, Nat.reduceAdd, Nat.zero_add, Nat.add_zero]; first | done | rfl) | rfl) (by first | (simp only [List.take_succ_cons, List.take_zero, List.drop_succ_cons, List.drop_zero, List.cons_append, List.nil_append, List.append_nil, List.length_cons, List.length_nil, Nat.reduceAdd, Nat.zero_add, Nat.add_zero, Value.cells, wrV]; first | done | rfl) | rfl) (by first | (simp only [List.set_cons_succ, List.set_cons_zero]; first | done | rfl) | rfl) ?_ | refine sx_store 1 rfl rfl rfl tyS52 (by first | (simp only [Value.cells]; first | done | rfl) | rfl) rfl rfl (by first | (simp only [List.length_cons, List.length_nil, Nat.reduceAdd, Nat.zero_add, Nat.add_zero]; first | done | rfl) | rfl) (by first | (simp only [List.take_succ_cons, List.take_zero, List.drop_succ_cons, List.drop_zero, List.cons_append, List.nil_append, List.append_nil, List.length_cons, List.length_nil, Nat.reduceAdd, Nat.zero_add, Nat.add_zero, Value.cells, wrV]; first | done | rfl) | rfl) (by first | (simp only [List.set_cons_succ, List.set_cons_zero]; first | done | rfl) | rfl) ?_ | refine sx_store 2 rfl rfl rfl tyS52 (by first | (simp only [Value.cells]; first | done | rfl) | rfl) rfl rfl (by first | (simp only [List.length_cons, List.length_nil, Nat.reduceAdd, Nat.zero_add, Nat.add_zero]; first | done | rfl) | rfl) (by first | (simp only [List.take_succ_cons, List.take_zero, List.drop_succ_cons, List.drop_zero, List.cons_append, List.nil_append, List.append_nil, List.length_cons, List.length_nil, Nat.reduceAdd, Nat.zero_add, Nat.add_zero, Value.cells, wrV]; first | done | rfl) | rfl) (by first | (simp only [List.set_cons_succ, List.set_cons_zero]; first | done | rfl) | rfl) ?_ | refine sx_store 3 rfl rfl rfl tyS52 (by first | (simp only [Value.cells]; first | done | rfl) | rfl) rfl rfl (by first | (simp only [List.length_cons, List.length_nil, Nat.reduceAdd, Nat.zero_add, Nat.add_zero]; first | done | rfl) | rfl) (by first | (simp only [List.take_succ_cons, List.take_zero, List.drop_succ_cons, List.drop_zero, List.cons_append, List.nil_append, List.append_nil, List.length_cons, List.length_nil, Nat.reduceAdd, Nat.zero_add, Nat.add_zero, Value.cells, wrV]; first | done | rfl) | rfl) (by first | (simp only [List.set_cons_succ, List.set_cons_zero]; first | done | rfl) | rfl) ?_
      refine sx_nil (hZ _ _ ?_)
      refine awp_forget [(0, _), (1, _), (3, _), (4, _), (5, _), (6, _), (13, _), (16, _), (17, _), (18, _)] (Kn.cons rfl (Kn.cons rfl (Kn.cons rfl (Kn.cons rfl (Kn.cons rfl (Kn.cons rfl (Kn.cons rfl (Kn.cons rfl (Kn.cons rfl (Kn.cons rfl (Kn.nil))))))))))) ?_
      refine awp_seq ?_
      refine awy_seq_region (fun Z hZ => ?_)
      refine sy_x rfl ?_
      refine sx_move rfl rfl ?_
      refine sx_nil ?_
      refine sy_x rfl ?_
      refine sx_move rfl rfl ?_
      refine sx_nil ?_
      refine sy_x rfl ?_
      refine sx_move rfl rfl ?_
      refine sx_nil ?_
      refine sy_x rfl ?_
      first | refine sx_loadA 0 rfl rfl tyA52 tyS52 (by first | (simp only [List.length_cons, List.length_nil, Nat.reduceAdd, Nat.zero_add, Nat.add_zero]; first | done | rfl) | rfl) (by first | (simp only [List.take_succ_cons, List.take_zero, List.drop_succ_cons, List.drop_zero, List.cons_append, List.nil_append, List.append_nil, List.length_cons, List.length_nil, Nat.reduceAdd, Nat.zero_add, Nat.add_zero, Value.cells, wrV]; first | done | rfl) | rfl) rfl ?_ | refine sx_loadA 1 rfl rfl tyA52 tyS52 (by first | (simp only [List.length_cons, List.length_nil, Nat.reduceAdd, Nat.zero_add, Nat.add_zero]; first | done | rfl) | rfl) (by first | (simp only [List.take_succ_cons, List.take_zero, List.drop_succ_cons, List.drop_zero, List.cons_append, List.nil_append, List.append_nil, List.length_cons, List.length_nil, Nat.reduceAdd, Nat.zero_add, Nat.add_zero, Value.cells, wrV]; first | done | rfl) | rfl) rfl ?_ | refine sx_loadA 2 rfl rfl tyA52 tyS52 (by first | (simp only [List.length_cons, List.length_nil, Nat.reduceAdd, Nat.zero_add, Nat.add_zero]; first | done | rfl) | rfl) (by first | (simp only [List.take_succ_cons, List.take_zero, List.drop_succ_cons, List.drop_zero, List.cons_append, List.nil_append, List.append_nil, List.length_cons, List.length_nil, Nat.reduceAdd, Nat.zero_add, Nat.add_zero, Value.cells, wrV]; first | done | rfl) | rfl) rfl ?_ | refine sx_loadA 3 rfl rfl tyA52 tyS52 (by first | (simp only [List.length_cons, List.length_nil, Nat.reduceAdd, Nat.zero_add, Nat.add_zero]; first | done | rfl) | rfl) (by first | (simp only [List.take_succ_cons, List.take_zero, List.drop_succ_cons, List.drop_zero, List.cons_append, List.nil_append, List.append_nil, List.length_cons, List.length_nil, Nat.reduceAdd, Nat.zero_add, Nat.add_zero, Value.cells, wrV]; first | done | rfl) | rfl) rfl ?_
      refine sx_nil ?_
      refine sy_x rfl ?_
      first | refine sx_loadA 0 rfl rfl tyA52 tyS52 (by first | (simp only [List.length_cons, List.length_nil, Nat.reduceAdd, Nat.zero_add, Nat.add_zero]; first | done | rfl) | rfl) (by first | (simp only [List.take_succ_cons, List.take_zero, List.drop_succ_cons, List.drop_zero, List.cons_append, List.nil_append, List.append_nil, List.length_cons, List.length_nil, Nat.reduceAdd, Nat.zero_add, Nat.add_zero, Value.cells, wrV]; first | done | rfl) | rfl) rfl ?_ | refine sx_loadA 1 rfl rfl tyA52 tyS52 (by first | (simp only [List.length_cons, List.length_nil, Nat.reduceAdd, Nat.zero_add, Nat.add_zero]; first | done | rfl) | rfl) (by first | (simp only [List.take_succ_cons, List.take_zero, List.drop_succ_cons, List.drop_zero, List.cons_append, List.nil_append, List.append_nil, List.length_cons, List.length_nil, Nat.reduceAdd, Nat.zero_add, Nat.add_zero, Value.cells, wrV]; first | done | rfl) | rfl) rfl ?_ | refine sx_loadA 2 rfl rfl tyA52 tyS52 (by first | (simp only [List.length_cons, List.length_nil, Nat.reduceAdd, Nat.zero_add, Nat.add_zero]; first | done | rfl) | rfl) (by first | (simp only [List.take_succ_cons, List.take_zero, List.drop_succ_cons, List.drop_zero, List.cons_append, List.nil_append, List.append_nil, List.length_cons, List.length_nil, Nat.reduceAdd, Nat.zero_add, Nat.add_zero, Value.cells, wrV]; first | done | rfl) | rfl) rfl ?_ | refine sx_loadA 3 rfl rfl tyA52 tyS52 (by first | (simp only [List.length_cons, List.length_nil, Nat.reduceAdd, Nat.zero_add, Nat.add_zero]; first | done | rfl) | rfl) (by first | (simp only [List.take_succ_cons, List.take_zero, List.drop_succ_cons, List.drop_zero, List.cons_append, List.nil_append, List.append_nil, List.length_cons, List.length_nil, Nat.reduceAdd, Nat.zero_add, Nat.add_zero, Value.cells, wrV]; first | done | rfl) | rfl) rfl ?_
      refine sx_nil ?_
      refine sy_x rfl ?_
      refine sx_callP (dnumber_fn c i (prevE L i) (atE L i) hc4 (by omega) hpo hxo) rfl rfl ?_
      refine sx_nil ?_
      refine sy_yield [_, _, _, _] T3 Jr Jr (hY (1 + c * L.length + i) _ T3 (hitem _ _ (numsQ_at hc4 hlt)) hT3) rfl rfl rfl (List.Sublist.refl _) hJr rfl ?_
      rintro v T4 ⟨b, rfl, hb1, hb2⟩
      refine sy_x rfl ?_
      refine sx_not rfl rfl ?_
      refine sx_nil ?_
      refine sy_nil (hZ _ _ ?_)
      refine awp_forget [(0, _), (1, _), (3, _), (4, _), (6, _), (13, _), (16, _), (17, _), (18, _), (30, _)] (Kn.cons rfl (Kn.cons rfl (Kn.cons rfl (Kn.cons rfl (Kn.cons rfl (Kn.cons rfl (Kn.cons rfl (Kn.cons rfl (Kn.cons rfl (Kn.cons rfl (Kn.nil))))))))))) ?_
      first | refine awp_cond rfl (fun h3 => ?_) (fun h3 => ?_) | refine awp_seq (awp_cond rfl (fun h3 => ?_) (fun h3 => ?_))
      · have hb : b = false := by simpa using h3
        refine awp_ret ?_
        repeat (with_reducible (first | refine nx_then_ret ?_ | refine nx_block_ret ?_ | refine nx_scope_ret ?_))
        exact nx_ret0h T4 rfl (wrs_flt (A := [_, _, _, _]) (hS T4 (hb2 hb))) (.inr (hb2 hb))
      have hb : b = true := by simpa using h3
      have hT4 := hb1 hb
      rw [(hJ _ T4 hT4).filter]
      refine awp_skip ?_
      repeat (with_reducible (first | refine nx_block_normal ?_ | refine nx_scope_normal ?_))
      with_reducible first | refine nx_normal ?_ | refine nx_normalM ?_

      refine awp_region (fun Z hZ => ?_)
      first | refine sx_loadA 0 rfl rfl tyA52 tyS52 (by first | (simp only [List.length_cons, List.length_nil, Nat.reduceAdd, Nat.zero_add, Nat.add_zero]; first | done | rfl) | rfl) (by first | (simp only [List.take_succ_cons, List.take_zero, List.drop_succ_cons, List.drop_zero, List.cons_append, List.nil_append, List.append_nil, List.length_cons, List.length_nil, Nat.reduceAdd, Nat.zero_add, Nat.add_zero, Value.cells, wrV]; first | done | rfl) | rfl) rfl ?_ | refine sx_loadA 1 rfl rfl tyA52 tyS52 (by first | (simp only [List.length_cons, List.length_nil, Nat.reduceAdd, Nat.zero_add, Nat.add_zero]; first | done | rfl) | rfl) (by first | (simp only [List.take_succ_cons, List.take_zero, List.drop_succ_cons, List.drop_zero, List.cons_append, List.nil_append, List.append_nil, List.length_cons, List.length_nil, Nat.reduceAdd, Nat.zero_add, Nat.add_zero, Value.cells, wrV]; first | done | rfl) | rfl) rfl ?_ | refine sx_loadA 2 rfl rfl tyA52 tyS52 (by first | (simp only [List.length_cons, List.length_nil, Nat.reduceAdd, Nat.zero_add, Nat.add_zero]; first | done | rfl) | rfl) (by first | (simp only [List.take_succ_cons, List.take_zero, List.drop_succ_cons, List.drop_zero, List.cons_append, List.nil_append, List.append_nil, List.length_cons, List.length_nil, Nat.reduceAdd, Nat.zero_add, Nat.add_zero, Value.cells, wrV]; first | done | rfl) | rfl) rfl ?_ | refine sx_loadA 3 rfl rfl tyA52 tyS52 (by first | (simp only [List.length_cons, List.length_nil, Nat.reduceAdd, Nat.zero_add, Nat.add_zero]; first | done | rfl) | rfl) (by first | (simp only [List.take_succ_cons, List.take_zero, List.drop_succ_cons, List.drop_zero, List.cons_append, List.nil_append, List.append_nil, List.length_cons, List.length_nil, Nat.reduceAdd, Nat.zero_add, Nat.add_zero, Value.cells, wrV]; first | done | rfl) | rfl) rfl ?_
      first | refine sx_store 0 rfl rfl rfl tyS52 (by first | (simp only [Value.cells]; first | done | rfl) | rfl) rfl rfl (by first | (simp only [List.length_cons, List.length_nil, Nat.reduceAdd, Nat.zero_add, Nat.add_zero]; first | done | rfl) | rfl) (by first | (simp only [List.take_succ_cons, List.take_zero, List.drop_succ_cons, List.drop_zero, List.cons_append, List.nil_append, List.append_nil, List.length_cons, List.length_nil, Nat.reduceAdd, Nat.zero_add, Nat.add_zero, Value.cells, wrV]; first | done | rfl) | rfl) (by first | (simp only [List.set_cons_succ, List.set_cons_zero]; first | done | rfl) | rfl) ?_ | refine sx_store 1 rfl rfl rfl tyS52 (by first | (simp only [Value.cells]; first | done | rfl) | rfl) rfl rfl (by first | (simp only [List.length_cons, List.length_nil, Nat.reduceAdd, Nat.zero_add, Nat.add_zero]; first | done | rfl) | rfl) (by first | (simp only [List.take_succ_cons, List.take_zero, List.drop_succ_cons, List.drop_zero, List.cons_append, List.nil_append, List.append_nil, List.length_cons, List.length_nil, Nat.reduceAdd, Nat.zero_add, Nat.add_zero, Value.cells, wrV]; first | done | rfl) | rfl) (by first | (simp only [List.set_cons_succ, List.set_cons_zero]; first | done | rfl) | rfl) ?_ | refine sx_store 2 rfl rfl rfl tyS52 (by first | (simp only [Value.cells]; first | done | rfl) | rfl) rfl rfl (by first | (simp only [List.length_cons, List.length_nil, Nat.reduceAdd, Nat.zero_add, Nat.add_zero]; first | done | rfl) | rfl) (by first | (simp only [List.take_succ_cons, List.take_zero, List.drop_succ_cons, List.drop_zero, List.cons_append, List.nil_append, List.append_nil, List.length_cons, List.length_nil, Nat.reduceAdd, Nat.zero_add, Nat.add_zero, Value.cells, wrV]; first | done | rfl) | rfl) (by first | (simp only [List.set_cons_succ, List.set_cons_zero]; first | done | rfl) | rfl) ?_ | refine sx_store 3 rfl rfl rfl tyS52 (by first | (simp only [Value.cells]; first | done | rfl) | rfl) rfl rfl (by first | (simp only [List.length_cons, List.length_nil, Nat.reduceAdd, Nat.zero_add, Nat.add_zero]; first | done | rfl) | rfl) (by first | (simp only [List.take_succ_cons, List.take_zero, List.drop_succ_cons, List.drop_zero, List.cons_append, List.nil_append, List.append_nil, List.length_cons, List.length_nil, Nat.reduceAdd, Nat.zero_add, Nat.add_zero, Value.cells, wrV]; first | done | rfl) | rfl) (by first | (simp only [List.set_cons_succ, List.set_cons_zero]; first | done | rfl) | rfl) ?_
      refine sx_nil (hZ _ _ ?_)
      refine nx_forget [(0, _), (1, _), (3, _), (4, _), (13, _), (16, _), (17, _), (18, _)] (Kn.cons rfl (Kn.cons rfl (Kn.cons rfl (Kn.cons rfl (Kn.cons rfl (Kn.cons rfl (Kn.cons rfl (Kn.cons rfl (Kn.nil))))))))) ?_
      repeat (with_reducible (first | refine nx_block_normal ?_ | refine nx_scope_normal ?_))
      with_reducible first | refine nx_normal ?_ | refine nx_normalM ?_
      refine awp_region (fun Z hZ => ?_)
      refine sx_add rfl rfl ((i + 1 : Nat) : Int) (by rw [IntWalk.i64_in _ (by omega)]; omega) rfl ?_
      refine sx_move rfl rfl ?_
      refine sx_nil (hZ _ _ ?_)
      refine nx_forget [(0, _), (1, _), (3, _), (4, _), (13, _), (16, _), (17, _), (18, _)] (Kn.cons rfl (Kn.cons rfl (Kn.cons rfl (Kn.cons rfl (Kn.cons rfl (Kn.cons rfl (Kn.cons rfl (Kn.cons rfl (Kn.nil))))))))) ?_
      refine nx_round (i + 1, T4) ⟨by show i + 1 ≤ _; omega, hT4⟩ (by simp; omega) (Kn.cons rfl (Kn.cons rfl (Kn.cons rfl (Kn.cons rfl (Kn.cons rfl (Kn.cons rfl (Kn.cons rfl (Kn.cons rfl Kn.nil)))))))) ?_
      simp only [prevE_succ]
      exact HLe.drop 1 rfl
    · refine awp_exit ?_
      repeat (with_reducible (first | refine nx_then_exit ?_ | refine nx_block_other (by decide) ?_ | refine nx_scope_exit ?_))
      with_reducible refine nx_block_exit ?_
      repeat (with_reducible (first | refine nx_block_normal ?_ | refine nx_scope_normal ?_))
      with_reducible first | refine nx_normal ?_ | refine nx_normalM ?_
      have hie : i = L.length := by simp at hh; omega
      subst hie
      refine awp_region (fun Z hZ => ?_)
      refine sx_add rfl rfl ((c + 1 : Nat) : Int) (by rw [IntWalk.i64_in _ (by omega)]; omega) rfl ?_
      refine sx_move rfl rfl ?_
      refine sx_nil (hZ _ _ ?_)
      refine nx_forget [(0, _), (1, _), (13, _)] (Kn.cons rfl (Kn.cons rfl (Kn.cons rfl (Kn.nil)))) ?_
      refine nx_round (c + 1, T3) ⟨by show c + 1 ≤ _; omega, ?_⟩ (by simp; omega) (Kn.cons rfl (Kn.cons rfl (Kn.cons rfl Kn.nil))) (HLe.drop 1 rfl)
      rw [show 1 + (c + 1) * L.length = 1 + c * L.length + L.length by rw [Nat.add_mul]; omega]
      exact hT3
  · have hc4 : c = 4 := by simp at h; omega
    subst hc4
    refine awp_exit ?_
    repeat (with_reducible (first | refine nx_then_exit ?_ | refine nx_block_other (by decide) ?_ | refine nx_scope_exit ?_))
    with_reducible refine nx_block_exit ?_
    repeat (with_reducible (first | refine nx_block_normal ?_ | refine nx_scope_normal ?_))
    exact nx_end0h T2 rfl (HLe.sub (((List.sublist_append_left T2 Jr).trans (List.sublist_append_right T _)).trans (List.sublist_cons_self _ _))) (.inl hT2)
end Go.Proofs.Ytodclhiggafkbaa

namespace Go.Proofs.Ytodclhiggafkbaa
open Go.RowKit
set_option linter.unusedVariables false
set_option linter.unusedSimpArgs false
theorem elemU64 : ElemOk Try.prog 73 47 1 8 := ElemOk.mk_ (z := .int .u64 0) Try.underlying73 (by kernel_rfl) rfl (by omega)
theorem uqL_len (l : List Nat) : (uqL l).length = l.length := by simp
def sumB (l : List Nat) : Nat := (allB l).length
theorem sumB_take {xs : List Nat} {k : Nat} (h : k < xs.length) : sumB (xs.take (k + 1)) = sumB (xs.take k) + (vb xs[k]).length := by unfold sumB; rw [allB_take h]; simp
theorem allB_mono (xs : List Nat) (k : Nat) : sumB (xs.take k) ≤ sumB xs := by
  have := congrArg (fun l => (allB l).length) (List.take_append_drop k xs)
  simp only [allB, List.flatMap_append, List.length_append] at this
  unfold sumB allB
  omega
def sizeQ (L : List En) : Nat := if rowC L = 0 then sumB (numsQ L) else 0
theorem dsize_fn (A : Option Addr) (c : Nat) (L : List En) (T : Heap) (hA : ArgOk A L.length) (hT : 0 < L.length → T = roE A (ecells L)) (hro : Ro T) (hL : L.length ≤ 100000) (hE : EnsOk L) :
    Fn Try.prog 26 [.slice A L.length c] T fun v _ => v = iq (sizeQ L) := by
  have hmax : L.length ≤ maxLen := by show _ ≤ 9223372036854775807; omega
  have hnl := numsQ_lt hE (by omega)
  have hall := allB_len hnl
  have hlen := numsQ_len L
  refine Fn.enterM (n := 16) Try.func26 rfl (by kernel_rfl) rfl (fun w0 => ?_)

  refine awp_seq_region (fun Z hZ => ?_)
  refine sx_assign rfl rfl ?_
  refine sx_nil (hZ _ _ ?_)
  refine awp_forget [(0, _)] (Kn.cons rfl (Kn.nil)) ?_
  refine awp_seq ?_
  refine awp_seq_region (fun Z hZ => ?_)
  refine sx_move rfl rfl ?_
  refine sx_callPT T (erow_fn A c L T hA hT hro hmax hE) rfl (List.Sublist.refl _) hro rfl ?_
  first | refine sx_neq rfl rfl rfl ?_ | refine sx_sneq rfl rfl rfl ?_
  refine sx_nil (hZ _ _ ?_)
  refine awp_forget [(0, _), (7, _)] (Kn.cons rfl (Kn.cons rfl (Kn.nil))) ?_
  first | refine awp_cond rfl (fun h => ?_) (fun h => ?_) | refine awp_seq (awp_cond rfl (fun h => ?_) (fun h => ?_))
  · have h0 : rowC L ≠ 0 := by simp at h; omega
    rw [show sizeQ L = 0 by unfold sizeQ; rw [if_neg h0]]
    refine awp_seq_region (fun Z hZ => ?_)
    refine sx_assign rfl rfl ?_
    refine sx_nil (hZ _ _ ?_)
    refine awp_forget [(2, _)] (Kn.cons rfl (Kn.nil)) ?_
    refine awp_ret ?_
    repeat (with_reducible (first | refine nx_then_ret ?_ | refine nx_block_ret ?_ | refine nx_scope_ret ?_))
    exact nx_unmark [] trivial (nx_ret1 rfl rfl rfl)
  have h0 : rowC L = 0 := by simp at h; omega
  rw [show sizeQ L = sumB (numsQ L) by unfold sizeQ; rw [if_pos h0]]
  refine awp_skip ?_
  repeat (with_reducible (first | refine nx_block_normal ?_ | refine nx_scope_normal ?_))
  with_reducible first | refine nx_normal ?_ | refine nx_normalM ?_
  refine awp_seq_region (fun Z hZ => ?_)
  refine sx_alloc tyZ3 rfl (fun g1 => ?_)
  first | refine sx_store1 0 rfl rfl rfl tyS3 rfl (by first | (simp only [List.length_cons, List.length_nil, Nat.reduceAdd, Nat.zero_add, Nat.add_zero]; first | done | rfl) | rfl) (by first | (simp only [List.set_cons_succ, List.set_cons_zero, Nat.reduceAdd, Nat.add_zero, Nat.zero_add]; first | done | rfl) | rfl) (by first | (simp only [List.set_cons_succ, List.set_cons_zero]; first | done | rfl) | rfl) ?_
  refine sx_nil (hZ _ _ ?_)
  refine awp_forget [(0, _), (3, _)] (Kn.cons rfl (Kn.cons rfl (Kn.nil))) ?_
  refine awp_seq ?_
  refine awp_seq_region (fun Z hZ => ?_)
  refine sx_move rfl rfl ?_
  refine sx_callO [] (.own g1 3 [iq 0] :: T) (numbers_fn A L.length c) rfl (HLe.refl _) rfl ?_
  rintro v H' ⟨g, rfl, rfl⟩
  refine sx_heap (.own g1 3 [iq 0] :: .ro g 0 [.slice A L.length c] :: T) ((HLe.comm3 [_] [_] T).trans (HLe.toRo [] _)) ?_
  refine sx_nil (hZ _ _ ?_)
  refine awp_forget [(3, _), (9, _)] (Kn.cons rfl (Kn.cons rfl (Kn.nil))) ?_
  refine awp_block ?_
  refine awp_range (fun k H => H = [.own g1 3 [iq (sumB ((numsQ L).take k))]]) [] (fun _ _ => False) _ (numbers_it g A c L T hA hT hL hE) rfl (fun k H h => by subst h; exact .cons rfl .nil) (fun _ _ h => h.elim) Ro.nil (fun x hx => by rcases List.mem_cons.1 hx with rfl | hx; rfl; exact hro x hx) (fun k vs h => by rw [List.getElem?_map] at h; cases hk : (numsQ L)[k]? with | none => rw [hk] at h; cases h | some x => rw [hk] at h; obtain rfl := Option.some.inj h; rfl) rfl rfl (by rw [List.append_nil]; exact HLe.refl _) rfl ?_ ?_ (fun _ _ _ h => h.elim)
  · intro k vs H hk hH l w1
    subst hH
    rw [List.getElem?_map] at hk
    cases hkx : (numsQ L)[k]? with
    | none => rw [hkx] at hk; cases hk
    | some x =>
      rw [hkx] at hk
      obtain rfl := Option.some.inj hk
      have hlt : k < (numsQ L).length := (List.getElem?_eq_some_iff.1 hkx).1
      have hxe : (numsQ L)[k] = x := (List.getElem?_eq_some_iff.1 hkx).2
      have hx : x < 18446744073709551616 := hnl x (List.mem_of_getElem? hkx)
      have hs := sumB_take hlt
      rw [hxe] at hs
      have hm := allB_mono (numsQ L) (k + 1)
      unfold sumB at hm hs

      refine awp_region (fun Z hZ => ?_)
      refine sx_assign rfl rfl ?_
      refine sx_nil (hZ _ _ ?_)
      refine nx_forget [(3, _), (4, _)] (Kn.cons rfl (Kn.cons rfl (Kn.nil))) ?_
      refine nx_assign [] Wrs.nil (HLe.refl _) fun w2 => ?_
      refine awp_block ?_
      refine awp_heap [.own g1 3 [iq (sumB ((numsQ L).take k))]] (HLe.refl _) ?_
      refine awh_region [0, 1, 2, 3] [4] mixed (by kernel_rfl) rfl rfl (fun Z hZ => ?_)
      first | refine sq_load 0 rfl rfl tyA3 tyS3 rfl rfl ?_
      refine sq_move rfl rfl ?_
      refine sq_callP (vsize_fn x hx) rfl rfl ?_
      refine sq_add rfl rfl ((sumB ((numsQ L).take (k + 1)) : Nat) : Int) (by unfold sumB; rw [IntWalk.i64_in _ (by omega)]; omega) rfl ?_
      refine sq_nil ?_
      first | refine sx_store1 0 rfl rfl rfl tyS3 rfl (by first | (simp only [List.length_cons, List.length_nil, Nat.reduceAdd, Nat.zero_add, Nat.add_zero]; first | done | rfl) | rfl) (by first | (simp only [List.set_cons_succ, List.set_cons_zero, Nat.reduceAdd, Nat.add_zero, Nat.zero_add]; first | done | rfl) | rfl) (by first | (simp only [List.set_cons_succ, List.set_cons_zero]; first | done | rfl) | rfl) ?_
      refine sx_nil (hZ _ _ ?_)
      refine nx_forget [] (Kn.nil) ?_
      refine nx_block_normal ?_
      exact nx_next _ rfl (HLe.refl _)
  · intro D H hH
    subst hH
    rw [List.length_map, List.take_length]
    refine nx_block_normal ?_
    repeat (with_reducible (first | refine nx_block_normal ?_ | refine nx_scope_normal ?_))
    with_reducible first | refine nx_normal ?_ | refine nx_normalM ?_

    refine awp_heap (.ob D isDef :: .own g1 3 [iq (sumB (numsQ L))] :: (.ro g 0 [.slice A L.length c] :: T)) (by rw [List.append_nil]; exact HLe.refl _) ?_
    refine awp_seq_region (fun Z hZ => ?_)
    first | refine sx_load 0 rfl rfl tyA3 tyS3 rfl rfl ?_ | refine sx_load 1 rfl rfl tyA3 tyS3 rfl rfl ?_ | refine sx_load 2 rfl rfl tyA3 tyS3 rfl rfl ?_ | refine sx_load 3 rfl rfl tyA3 tyS3 rfl rfl ?_
    refine sx_assign rfl rfl ?_
    refine sx_nil (hZ _ _ ?_)
    refine awp_forget [(2, _)] (Kn.cons rfl (Kn.nil)) ?_
    refine awp_ret ?_
    repeat (with_reducible (first | refine nx_then_ret ?_ | refine nx_block_ret ?_ | refine nx_scope_ret ?_))
    exact nx_unmark [0] ⟨rfl, trivial⟩ (nx_ret1 rfl rfl rfl)
end Go.Proofs.Ytodclhiggafkbaa

namespace Go.Proofs.Ytodclhiggafkbaa
open Go.RowKit
set_option linter.unusedVariables false
set_option linter.unusedSimpArgs false
def encQ (L : List En) : List UInt8 × Nat := if rowC L = 0 then (if 65536 < sumB (numsQ L) then ([], 5) else (allB (numsQ L), 0)) else ([], rowC L)
theorem allB_pos (L : List En) : 0 < (allB (numsQ L)).length := by
  have := vb_pos L.length
  simp only [allB, numsQ, List.flatMap_cons, List.length_append]
  omega
theorem dencode_fn (A : Option Addr) (c : Nat) (L : List En) (T : Heap) (hA : ArgOk A L.length) (hT : 0 < L.length → T = roE A (ecells L)) (hro : Ro T) (hL : L.length ≤ 10000) (hE : EnsOk L) :
    Fn Try.prog 17 [.slice A L.length c] T fun v _ => v = .tuple #[.string (str (encQ L).1), iq (encQ L).2] := by
  have hmax : L.length ≤ maxLen := by show _ ≤ 9223372036854775807; omega
  have hnl := numsQ_lt hE (by omega)
  have hall := allB_len hnl
  have hlen := numsQ_len L
  refine Fn.enterM (n := 25) Try.func17 rfl (by kernel_rfl) rfl (fun w0 => ?_)

  refine awp_seq_region (fun Z hZ => ?_)
  refine sx_assign rfl rfl ?_
  refine sx_assign rfl rfl ?_
  refine sx_nil (hZ _ _ ?_)
  refine awp_forget [(0, _)] (Kn.cons rfl (Kn.nil)) ?_
  refine awp_seq ?_
  refine awp_seq_region (fun Z hZ => ?_)
  refine sx_move rfl rfl ?_
  refine sx_callPT T (erow_fn A c L T hA hT hro hmax hE) rfl (List.Sublist.refl _) hro rfl ?_
  refine sx_assign rfl rfl ?_
  refine sx_nil (hZ _ _ ?_)
  refine awp_forget [(0, _), (4, _)] (Kn.cons rfl (Kn.cons rfl (Kn.nil))) ?_
  refine awp_seq_region (fun Z hZ => ?_)
  refine sx_move rfl rfl ?_
  first | refine sx_neq rfl rfl rfl ?_ | refine sx_sneq rfl rfl rfl ?_
  refine sx_nil (hZ _ _ ?_)
  refine awp_forget [(0, _), (4, _), (10, _)] (Kn.cons rfl (Kn.cons rfl (Kn.cons rfl (Kn.nil)))) ?_
  first | refine awp_cond rfl (fun h => ?_) (fun h => ?_) | refine awp_seq (awp_cond rfl (fun h => ?_) (fun h => ?_))
  · have h0 : rowC L ≠ 0 := by simp at h; omega
    rw [show encQ L = ([], rowC L) by unfold encQ; rw [if_neg h0]]
    refine awp_seq_region (fun Z hZ => ?_)
    refine sx_move rfl rfl ?_
    refine sx_assign rfl rfl ?_
    refine sx_assign rfl rfl ?_
    refine sx_nil (hZ _ _ ?_)
    refine awp_forget [(2, _), (3, _)] (Kn.cons rfl (Kn.cons rfl (Kn.nil))) ?_
    refine awp_ret ?_
    repeat (with_reducible (first | refine nx_then_ret ?_ | refine nx_block_ret ?_ | refine nx_scope_ret ?_))
    exact nx_unmark [] trivial (nx_ret2 rfl rfl rfl rfl)
  have h0 : rowC L = 0 := by simp at h; omega
  have hsz : sizeQ L = sumB (numsQ L) := by unfold sizeQ; rw [if_pos h0]
  refine awp_skip ?_
  repeat (with_reducible (first | refine nx_block_normal ?_ | refine nx_scope_normal ?_))
  with_reducible first | refine nx_normal ?_ | refine nx_normalM ?_
  refine awp_seq ?_
  refine awp_seq_region (fun Z hZ => ?_)
  refine sx_move rfl rfl ?_
  refine sx_callPT T (dsize_fn A c L T hA hT hro (by omega) hE) rfl (List.Sublist.refl _) hro rfl ?_
  first | refine sx_gtr rfl rfl rfl ?_ | refine sx_sgtr rfl rfl rfl ?_
  refine sx_nil (hZ _ _ ?_)
  refine awp_forget [(0, _), (14, _)] (Kn.cons rfl (Kn.cons rfl (Kn.nil))) ?_
  rw [hsz]
  first | refine awp_cond rfl (fun h1 => ?_) (fun h1 => ?_) | refine awp_seq (awp_cond rfl (fun h1 => ?_) (fun h1 => ?_))
  · have h1' : 65536 < sumB (numsQ L) := by simp at h1; omega
    rw [show encQ L = ([], 5) by unfold encQ; rw [if_pos h0, if_pos h1']]
    refine awp_seq_region (fun Z hZ => ?_)
    refine sx_assign rfl rfl ?_
    refine sx_assign rfl rfl ?_
    refine sx_nil (hZ _ _ ?_)
    refine awp_forget [(2, _), (3, _)] (Kn.cons rfl (Kn.cons rfl (Kn.nil))) ?_
    refine awp_ret ?_
    repeat (with_reducible (first | refine nx_then_ret ?_ | refine nx_block_ret ?_ | refine nx_scope_ret ?_))
    exact nx_unmark [] trivial (nx_ret2 rfl rfl rfl rfl)
  have h1' : ¬ 65536 < sumB (numsQ L) := by simp at h1; omega
  rw [show encQ L = (allB (numsQ L), 0) by unfold encQ; rw [if_pos h0, if_neg h1']]
  refine awp_skip ?_
  repeat (with_reducible (first | refine nx_block_normal ?_ | refine nx_scope_normal ?_))
  with_reducible first | refine nx_normal ?_ | refine nx_normalM ?_
  refine awp_seq_region (fun Z hZ => ?_)
  refine sx_alloc tyZ73 rfl (fun g1 => ?_)
  refine sx_nil (hZ _ _ ?_)
  refine awp_forget [(0, _), (5, _)] (Kn.cons rfl (Kn.cons rfl (Kn.nil))) ?_
  refine awp_seq ?_
  refine awp_seq_region (fun Z hZ => ?_)
  refine sx_move rfl rfl ?_
  refine sx_callO [] (.own g1 73 [.slice none 0 0] :: T) (numbers_fn A L.length c) rfl (HLe.refl _) rfl ?_
  rintro v H' ⟨g, rfl, rfl⟩
  refine sx_heap (.own g1 73 [.slice none 0 0] :: .ro g 0 [.slice A L.length c] :: T) ((HLe.comm3 [_] [_] T).trans (HLe.toRo [] _)) ?_
  refine sx_nil (hZ _ _ ?_)
  refine awp_forget [(5, _), (16, _)] (Kn.cons rfl (Kn.cons rfl (Kn.nil))) ?_
  refine awp_block ?_
  refine awp_range (fun k H => ∃ v, RowOk v k ∧ H = .own g1 73 [v] :: rowE v 47 1 (uqL ((numsQ L).take k))) [] (fun _ _ => False) [.own g1 73 [.slice none 0 0]] (numbers_it g A c L T hA hT (by omega) hE) rfl (fun k H ⟨v, _, h⟩ => by subst h; exact .cons rfl (rowE_wrs _ _ _ _)) (fun _ _ h => h.elim) Ro.nil (fun x hx => by rcases List.mem_cons.1 hx with rfl | hx; rfl; exact hro x hx) (fun k vs h => by rw [List.getElem?_map] at h; cases hk : (numsQ L)[k]? with | none => rw [hk] at h; cases h | some x => rw [hk] at h; obtain rfl := Option.some.inj h; rfl) rfl ⟨_, RowOk.nil, rfl⟩ (by rw [List.append_nil]; exact HLe.refl _) rfl ?_ ?_ (fun _ _ _ h => h.elim)
  · rintro k vs H hk ⟨v, hv, rfl⟩ l w1
    rw [List.getElem?_map] at hk
    cases hkx : (numsQ L)[k]? with
    | none => rw [hkx] at hk; cases hk
    | some x =>
      rw [hkx] at hk
      obtain rfl := Option.some.inj hk
      have hlt : k < (numsQ L).length := (List.getElem?_eq_some_iff.1 hkx).1
      have htk : uqL ((numsQ L).take (k + 1)) = uqL ((numsQ L).take k) ++ [uq x] := by
        rw [List.take_succ_eq_append_getElem hlt, (List.getElem?_eq_some_iff.1 hkx).2]; simp

      refine awp_region (fun Z hZ => ?_)
      refine sx_assign rfl rfl ?_
      refine sx_nil (hZ _ _ ?_)
      refine nx_forget [(5, _), (6, _)] (Kn.cons rfl (Kn.cons rfl (Kn.nil))) ?_
      refine nx_assign [] Wrs.nil (HLe.refl _) fun w2 => ?_
      refine awp_block ?_
      refine awp_heap (.own g1 73 [v] :: rowE v 47 1 (uqL ((numsQ L).take k))) (by rw [List.append_nil]; exact HLe.refl _) ?_
      refine awp_region (fun Z hZ => ?_)
      first | refine sx_load 0 rfl rfl tyA73 tyS73 rfl rfl ?_
      refine sx_move rfl rfl ?_
      refine sx_buildSlice Try.underlying73 tyS47 tyZ47 rfl rfl rfl rfl (by first | (simp only [List.take_succ_cons, List.take_zero, List.drop_succ_cons, List.drop_zero, List.cons_append, List.nil_append, List.append_nil, List.length_cons, List.length_nil, Nat.reduceAdd, Nat.zero_add, Nat.add_zero, Value.cells, wrV, zrep_one, List.replicate_succ, List.replicate_zero, Nat.reduceMul, Nat.zero_mul]; first | done | rfl) | rfl) rfl (fun g2 => ?_)
      refine sx_appendE [_, _] elemU64 rfl hv (by rw [uqL_len, List.length_take, Nat.min_eq_left (by omega)]; omega) rfl (fun w hw => rd_own (i := 0) (xs := [uq x]) rfl rfl hw) rfl (by show _ ≤ 9223372036854775807; omega) (by omega) (HLe.refl _) rfl (fun v2 hv2 => ?_)
      obtain ⟨g4, c4, rfl⟩ := hv2.some (by omega)
      first | refine sx_store1 0 rfl rfl rfl tyS73 rfl (by first | (simp only [List.length_cons, List.length_nil, Nat.reduceAdd, Nat.zero_add, Nat.add_zero]; first | done | rfl) | rfl) (by first | (simp only [List.set_cons_succ, List.set_cons_zero, Nat.reduceAdd, Nat.add_zero, Nat.zero_add]; first | done | rfl) | rfl) (by first | (simp only [List.set_cons_succ, List.set_cons_zero]; first | done | rfl) | rfl) ?_ | refine sx_store1 1 rfl rfl rfl tyS73 rfl (by first | (simp only [List.length_cons, List.length_nil, Nat.reduceAdd, Nat.zero_add, Nat.add_zero]; first | done | rfl) | rfl) (by first | (simp only [List.set_cons_succ, List.set_cons_zero, Nat.reduceAdd, Nat.add_zero, Nat.zero_add]; first | done | rfl) | rfl) (by first | (simp only [List.set_cons_succ, List.set_cons_zero]; first | done | rfl) | rfl) ?_
      refine sx_nil (hZ _ _ ?_)
      refine nx_forget [] (Kn.nil) ?_
      refine nx_block_normal ?_
      exact nx_next _ ⟨.slice (some ⟨g4, 0, none⟩) (k + 1) c4, RowOk.mk _ _ _, rfl⟩ (by rw [htk]; exact HLe.drop 1 rfl)
  · rintro D H ⟨v, hv, rfl⟩
    rw [List.length_map] at hv ⊢
    rw [List.take_length]
    obtain ⟨gv, cv, rfl⟩ := hv.some (by omega)
    refine nx_block_normal ?_
    repeat (with_reducible (first | refine nx_block_normal ?_ | refine nx_scope_normal ?_))
    with_reducible first | refine nx_normal ?_ | refine nx_normalM ?_

    refine awp_heap (.ob D isDef :: .own g1 73 [.slice (some ⟨gv, 0, none⟩) (numsQ L).length cv] :: .ob gv (RowP 47 1 (numsQ L).length cv (uqL (numsQ L))) :: .ro g 0 [.slice A L.length c] :: T) (by rw [List.append_nil]; exact HLe.refl _) ?_
    refine awp_seq_region (fun Z hZ => ?_)
    first | refine sx_load 0 rfl rfl tyA73 tyS73 rfl rfl ?_ | refine sx_load 1 rfl rfl tyA73 tyS73 rfl rfl ?_ | refine sx_load 2 rfl rfl tyA73 tyS73 rfl rfl ?_ | refine sx_load 3 rfl rfl tyA73 tyS73 rfl rfl ?_
    refine sx_callO [_] (.ob D isDef :: .own g1 73 [.slice (some ⟨gv, 0, none⟩) (numsQ L).length cv] :: .ro g 0 [.slice A L.length c] :: T) (all_fn gv cv (numsQ L) hnl (by omega)) rfl (HLe.comm3 [_, _] [_] _) rfl ?_
    rintro u H' ⟨hu, rfl⟩
    rw [rowE_flt]
    obtain ⟨gu, cu, rfl⟩ := hu.some (allB_pos L)
    refine sx_strB (l := allB (numsQ L)) Try.underlying63 Try.underlying5 Try.underlying9 rfl (fun w hw => rd_row (i := 0) rfl hw) rfl ?_
    refine sx_assign rfl rfl ?_
    refine sx_assign rfl rfl ?_
    refine sx_nil (hZ _ _ ?_)
    refine awp_forget [(2, _), (3, _)] (Kn.cons rfl (Kn.cons rfl (Kn.nil))) ?_
    refine awp_ret ?_
    repeat (with_reducible (first | refine nx_then_ret ?_ | refine nx_block_ret ?_ | refine nx_scope_ret ?_))
    exact nx_unmark [1] ⟨rfl, trivial⟩ (nx_ret2 rfl rfl rfl rfl)
end Go.Proofs.Ytodclhiggafkbaa

namespace Go.Proofs.Ytodclhiggafkbaa
open Go.RowKit
set_option linter.unusedVariables false
set_option linter.unusedSimpArgs false
def colB (L : List En) (c k : Nat) : List UInt8 := allB ((colQ L c).take k)
theorem colB_succ {L : List En} {c k : Nat} (h : k < L.length) : colB L c (k + 1) = colB L c k ++ vb (numQ c k (prevE L k) (atE L k)) := by
  unfold colB
  have hk : k < (colQ L c).length := by rw [colQ_len]; exact h
  rw [allB_take hk, (List.getElem?_eq_some_iff.1 (colQ_at (c := c) h)).2]
theorem colB_len {L : List En} {c k : Nat} (hE : EnsOk L) (hk : k ≤ L.length) : (colB L c k).length ≤ 10 * k := by
  have h := allB_len (xs := (colQ L c).take k) fun x hx => by
    obtain ⟨i, _, rfl⟩ := List.mem_map.1 (List.mem_of_mem_take hx)
    exact numQ_lt (atE_ok hE i)
  rw [List.length_take, colQ_len, Nat.min_eq_left hk] at h
  exact h
theorem numsQ_cols (L : List En) : allB (numsQ L) = vb L.length ++ colB L 0 L.length ++ colB L 1 L.length ++ colB L 2 L.length ++ colB L 3 L.length := by
  have key : ∀ c, (colQ L c).take L.length = colQ L c := fun c => List.take_of_length_le (by rw [colQ_len]; omega)
  simp only [colB, key, numsQ, allB, List.flatMap_cons, List.flatMap_append, List.append_assoc]
theorem numQ_0 (i : Nat) (a e : En) : numQ 0 i a e = (e.id + 18446744073709551616 - a.id) % 18446744073709551616 := by unfold numQ; rw [if_pos rfl]
theorem numQ_1 (i : Nat) (a e : En) : numQ 1 i a e = e.run := by unfold numQ; rw [if_neg (by decide), if_pos rfl]
theorem numQ_2 (i : Nat) (a e : En) : numQ 2 i a e = e.len := by unfold numQ; rw [if_neg (by decide), if_neg (by decide), if_pos rfl]
theorem numQ_3 (i : Nat) (a e : En) : numQ 3 i a e = if 0 < i ∧ e.off = a.next then 0 else (e.off + 1) % 18446744073709551616 := by unfold numQ; rw [if_neg (by decide), if_neg (by decide), if_neg (by decide)]
theorem rtext_fn (A : Option Addr) (c : Nat) (L : List En) (T : Heap) (hA : ArgOk A L.length) (hT : 0 < L.length → T = roE A (ecells L)) (hro : Ro T) (hL : L.length ≤ 10000) (hE : EnsOk L) :
    Fn Try.prog 50 [.slice A L.length c] T fun v _ => v = .string (str (allB (numsQ L))) := by
  refine Fn.enter (N := 101) Try.func50 rfl (by kernel_rfl) rfl (fun w0 => ?_)

  refine awp_seq_region (fun Z hZ => ?_)
  refine sx_assign rfl rfl ?_
  refine sx_nil (hZ _ _ ?_)
  refine awp_forget [(0, _)] (Kn.cons rfl (Kn.nil)) ?_
  refine awp_seq_region (fun Z hZ => ?_)
  refine sx_assign rfl rfl ?_
  refine sx_assign rfl rfl ?_
  refine sx_assign rfl rfl ?_
  refine sx_assign rfl rfl ?_
  refine sx_nil (hZ _ _ ?_)
  refine awp_forget [(0, _), (3, _), (4, _), (5, _), (6, _)] (Kn.cons rfl (Kn.cons rfl (Kn.cons rfl (Kn.cons rfl (Kn.cons rfl (Kn.nil)))))) ?_
  refine awp_seq ?_
  refine awp_seq_region (fun Z hZ => ?_)
  refine sx_assign rfl rfl ?_
  refine sx_nil (hZ _ _ ?_)
  refine awp_forget [(0, _), (3, _), (4, _), (5, _), (6, _), (7, _)] (Kn.cons rfl (Kn.cons rfl (Kn.cons rfl (Kn.cons rfl (Kn.cons rfl (Kn.cons rfl (Kn.nil))))))) ?_
  refine awp_block ?_
  refine awp_loop (ι := Nat) (fun k => [(0, .slice A L.length c), (3, .string (str (colB L 0 k))), (4, .string (str (colB L 1 k))), (5, .string (str (colB L 2 k))), (6, .string (str (colB L 3 k))), (7, iq (k : Nat))]) (fun _ => T)
    (fun k => k ≤ L.length) (fun k => L.length - k) 0 (by omega) (Kn.cons rfl (Kn.cons rfl (Kn.cons rfl (Kn.cons rfl (Kn.cons rfl (Kn.cons rfl Kn.nil)))))) (HLe.refl _) ?_
  intro k hk
  have l0 := colB_len (c := 0) hE hk
  have l1 := colB_len (c := 1) hE hk
  have l2 := colB_len (c := 2) hE hk
  have l3 := colB_len (c := 3) hE hk
  refine awp_seq ?_
  refine awp_seq_region (fun Z hZ => ?_)
  refine sx_move rfl rfl ?_
  refine sx_move rfl rfl ?_
  first | refine sx_len Try.underlying22 rfl rfl ?_ | refine sx_lenS Try.underlying22 rfl rfl ?_
  first | refine sx_lss rfl rfl rfl ?_ | refine sx_slss rfl rfl rfl ?_
  refine sx_nil (hZ _ _ ?_)
  refine awp_forget [(0, _), (3, _), (4, _), (5, _), (6, _), (7, _), (13, _)] (Kn.cons rfl (Kn.cons rfl (Kn.cons rfl (Kn.cons rfl (Kn.cons rfl (Kn.cons rfl (Kn.cons rfl (Kn.nil)))))))) ?_
  first | refine awp_cond rfl (fun h => ?_) (fun h => ?_) | refine awp_seq (awp_cond rfl (fun h => ?_) (fun h => ?_))
  · have hlt : k < L.length := by simpa using h
    have hx := atE_at hlt
    have hxo := atE_ok hE k
    have hpo := prevE_ok hE k
    have n0 := vb_len10 (numQ_lt (c := 0) (i := k) (a := prevE L k) hxo)
    have n1 := vb_len10 (numQ_lt (c := 1) (i := k) (a := prevE L k) hxo)
    have n2 := vb_len10 (numQ_lt (c := 2) (i := k) (a := prevE L k) hxo)
    have n3 := vb_len10 (numQ_lt (c := 3) (i := k) (a := prevE L k) hxo)
    have m0 := numQ_lt (c := 0) (i := k) (a := prevE L k) hxo
    have e0 := colB_succ (c := 0) hlt
    have e1 := colB_succ (c := 1) hlt
    have e2 := colB_succ (c := 2) hlt
    have e3 := colB_succ (c := 3) hlt
    have hpl : 0 < k → L[k - 1]? = some (prevE L k) := fun h0 => by rw [atE_at (show k - 1 < L.length by omega)]; simp [prevE, atE, Nat.ne_of_gt h0]
    have hp0 : k = 0 → prevE L k = zeroEn := fun h0 => by simp [prevE, h0]
    obtain ⟨x, hxe⟩ : ∃ x, atE L k = x := ⟨_, rfl⟩
    obtain ⟨p, hpe⟩ : ∃ p, prevE L k = p := ⟨_, rfl⟩
    rw [hxe, hpe] at e0 e1 e2 e3 n0 n1 n2 n3
    rw [hxe, hpe] at m0
    rw [hxe] at hx hxo
    rw [hpe] at hpl hp0 hpo
    obtain ⟨x1, x2, x3, x4⟩ := hxo
    obtain ⟨p1, p2, p3, p4⟩ := hpo
    rw [numQ_0] at e0 n0 m0
    rw [numQ_1] at e1 n1
    rw [numQ_2] at e2 n2
    have c0 : rdV false 1 (ecells L) (k * 4) = some (uq x.id) := by have := fm_rd1 (j := 0) en_len hx rfl; simpa using this
    have c1 : rdV false 1 (ecells L) (k * 4 + 1) = some (uq x.off) := fm_rd1 (j := 1) en_len hx rfl
    have c2 : rdV false 1 (ecells L) (k * 4 + 2) = some (wq4 x.len) := fm_rd1 (j := 2) en_len hx rfl
    have c3 : rdV false 1 (ecells L) (k * 4 + 3) = some (wq4 x.run) := fm_rd1 (j := 3) en_len hx rfl
    obtain ⟨g, o, rfl⟩ := hA (by omega)
    obtain rfl := hT (by omega)
    refine awp_skip ?_
    repeat (with_reducible (first | refine nx_block_normal ?_ | refine nx_scope_normal ?_))
    with_reducible first | refine nx_normal ?_ | refine nx_normalM ?_
    refine awp_seq (awp_block ?_)

    refine awp_seq_region (fun Z hZ => ?_)
    refine sx_assign rfl rfl ?_
    refine sx_assign rfl rfl ?_
    refine sx_nil (hZ _ _ ?_)
    refine awp_forget [(0, _), (3, _), (4, _), (5, _), (6, _), (7, _), (8, _), (9, _)] (Kn.cons rfl (Kn.cons rfl (Kn.cons rfl (Kn.cons rfl (Kn.cons rfl (Kn.cons rfl (Kn.cons rfl (Kn.cons rfl (Kn.nil))))))))) ?_
    refine awp_cut (ι := Unit) (fun _ => [(0, .slice (some ⟨g, o, none⟩) L.length c), (3, .string (str (colB L 0 k))), (4, .string (str (colB L 1 k))), (5, .string (str (colB L 2 k))), (6, .string (str (colB L 3 k))), (7, iq (k : Nat)), (8, uq p.id), (9, uq p.next)]) (fun _ => [.ro g o (ecells L)]) (fun _ => True) ?_ ?_
    · refine awp_seq_region (fun Z hZ => ?_)
      refine sx_move rfl rfl ?_
      first | refine sx_gtr rfl rfl rfl ?_ | refine sx_sgtr rfl rfl rfl ?_
      refine sx_nil (hZ _ _ ?_)
      refine awp_forget [(0, _), (3, _), (4, _), (5, _), (6, _), (7, _), (8, _), (9, _), (17, _)] (Kn.cons rfl (Kn.cons rfl (Kn.cons rfl (Kn.cons rfl (Kn.cons rfl (Kn.cons rfl (Kn.cons rfl (Kn.cons rfl (Kn.cons rfl (Kn.nil)))))))))) ?_
      first | refine awp_cond rfl (fun hp => ?_) (fun hp => ?_) | refine awp_seq (awp_cond rfl (fun hp => ?_) (fun hp => ?_))
      · have hkp : 0 < k := by simpa using hp
        have hpx := hpl hkp
        have q0 : rdV false 1 (ecells L) ((k - 1) * 4) = some (uq p.id) := by have := fm_rd1 (j := 0) en_len hpx rfl; simpa using this
        have q1 : rdV false 1 (ecells L) ((k - 1) * 4 + 1) = some (uq p.off) := fm_rd1 (j := 1) en_len hpx rfl
        have q2 : rdV false 1 (ecells L) ((k - 1) * 4 + 2) = some (wq4 p.len) := fm_rd1 (j := 2) en_len hpx rfl
        refine awq_region mixed (by kernel_rfl) (fun Z hZ => ?_)
        refine sq_move rfl rfl ?_
        refine sq_move rfl rfl ?_
        refine sq_sub rfl rfl ((k - 1 : Nat) : Int) (by rw [IntWalk.i64_in _ (by omega)]; omega) rfl ?_
        refine sq_indexAddr (o + (k - 1) * 4) Try.underlying22 tyS58 rfl rfl (by omega) (by simp) rfl ?_
        refine sq_fieldAddr rfl tyF58_0 (by first | (simp only [Nat.reduceAdd, Nat.add_zero, Nat.zero_add]; first | done | rfl) | rfl) rfl ?_
        refine sq_loadRo 0 rfl rfl ((k - 1) * 4) rfl tyA47 tyS47 q0 rfl ?_
        refine sq_move rfl rfl ?_
        refine sq_move rfl rfl ?_
        refine sq_sub rfl rfl ((k - 1 : Nat) : Int) (by rw [IntWalk.i64_in _ (by omega)]; omega) rfl ?_
        refine sq_indexAddr (o + (k - 1) * 4) Try.underlying22 tyS58 rfl rfl (by omega) (by simp) rfl ?_
        refine sq_fieldAddr rfl tyF58_1 (by first | (simp only [Nat.reduceAdd, Nat.add_zero, Nat.zero_add]; first | done | rfl) | rfl) rfl ?_
        refine sq_loadRo 0 rfl rfl ((k - 1) * 4 + 1) rfl tyA47 tyS47 q1 rfl ?_
        refine sq_move rfl rfl ?_
        refine sq_move rfl rfl ?_
        refine sq_sub rfl rfl ((k - 1 : Nat) : Int) (by rw [IntWalk.i64_in _ (by omega)]; omega) rfl ?_
        refine sq_indexAddr (o + (k - 1) * 4) Try.underlying22 tyS58 rfl rfl (by omega) (by simp) rfl ?_
        refine sq_fieldAddr rfl tyF58_2 (by first | (simp only [Nat.reduceAdd, Nat.add_zero, Nat.zero_add]; first | done | rfl) | rfl) rfl ?_
        refine sq_loadRo 0 rfl rfl ((k - 1) * 4 + 2) rfl tyA50 tyS50 q2 rfl ?_
        refine sq_conv Try.underlying50 Try.underlying47 rfl ((p.len : Nat) : Int) (by rw [IntWalk.u64_in _ (by omega)]) rfl ?_
        refine sq_add rfl rfl ((p.next : Nat) : Int) (by rw [← Int.natCast_add, u64_w]; rfl) rfl ?_
        refine sq_assign rfl rfl ?_
        refine sq_assign rfl rfl ?_
        refine sq_nil (hZ _ _ ?_)
        refine nx_forget [(0, _), (3, _), (4, _), (5, _), (6, _), (7, _), (8, _), (9, _)] (Kn.cons rfl (Kn.cons rfl (Kn.cons rfl (Kn.cons rfl (Kn.cons rfl (Kn.cons rfl (Kn.cons rfl (Kn.cons rfl (Kn.nil))))))))) ?_
        exact nx_cut () trivial (Kn.cons rfl (Kn.cons rfl (Kn.cons rfl (Kn.cons rfl (Kn.cons rfl (Kn.cons rfl (Kn.cons rfl (Kn.cons rfl Kn.nil)))))))) (HLe.refl _)
      · have hk0 : k = 0 := by simp at hp; omega
        have hpz := hp0 hk0
        subst hpz
        refine awp_skip ?_
        exact nx_cut () trivial (Kn.cons rfl (Kn.cons rfl (Kn.cons rfl (Kn.cons rfl (Kn.cons rfl (Kn.cons rfl (Kn.cons rfl (Kn.cons rfl Kn.nil)))))))) (HLe.refl _)
    · rintro ⟨⟩ -
      refine awp_seq_region (fun Z hZ => ?_)
      refine sx_move rfl rfl ?_
      refine sx_move rfl rfl ?_
      refine sx_move rfl rfl ?_
      refine sx_indexAddr (o + k * 4) Try.underlying22 tyS58 rfl rfl (by omega) (by simp) rfl ?_
      refine sx_fieldAddr rfl tyF58_0 (by first | (simp only [Nat.reduceAdd, Nat.add_zero, Nat.zero_add]; first | done | rfl) | rfl) rfl ?_
      refine sx_loadRo 0 rfl rfl (k * 4) rfl tyA47 tyS47 c0 rfl ?_
      refine sx_move rfl rfl ?_
      refine sx_sub rfl rfl _ (u64_sub x1 p1) rfl ?_
      refine sx_callP (rbytes_fn _ m0) rfl rfl ?_
      refine sx_cat rfl rfl (by omega) rfl ?_
      rw [← e0]
      refine sx_assign rfl rfl ?_
      refine sx_nil (hZ _ _ ?_)
      refine awp_forget [(0, _), (3, _), (4, _), (5, _), (6, _), (7, _), (9, _)] (Kn.cons rfl (Kn.cons rfl (Kn.cons rfl (Kn.cons rfl (Kn.cons rfl (Kn.cons rfl (Kn.cons rfl (Kn.nil)))))))) ?_
      refine awp_seq_region (fun Z hZ => ?_)
      refine sx_move rfl rfl ?_
      refine sx_move rfl rfl ?_
      refine sx_move rfl rfl ?_
      refine sx_indexAddr (o + k * 4) Try.underlying22 tyS58 rfl rfl (by omega) (by simp) rfl ?_
      refine sx_fieldAddr rfl tyF58_3 (by first | (simp only [Nat.reduceAdd, Nat.add_zero, Nat.zero_add]; first | done | rfl) | rfl) rfl ?_
      refine sx_loadRo 0 rfl rfl (k * 4 + 3) rfl tyA50 tyS50 c3 rfl ?_
      refine sx_conv Try.underlying50 Try.underlying47 rfl ((x.run : Nat) : Int) (by rw [IntWalk.u64_in _ (by omega)]) rfl ?_
      refine sx_callP (rbytes_fn x.run (by omega)) rfl rfl ?_
      refine sx_cat rfl rfl (by omega) rfl ?_
      rw [← e1]
      refine sx_assign rfl rfl ?_
      refine sx_nil (hZ _ _ ?_)
      refine awp_forget [(0, _), (3, _), (4, _), (5, _), (6, _), (7, _), (9, _)] (Kn.cons rfl (Kn.cons rfl (Kn.cons rfl (Kn.cons rfl (Kn.cons rfl (Kn.cons rfl (Kn.cons rfl (Kn.nil)))))))) ?_
      refine awp_seq_region (fun Z hZ => ?_)
      refine sx_move rfl rfl ?_
      refine sx_move rfl rfl ?_
      refine sx_move rfl rfl ?_
      refine sx_indexAddr (o + k * 4) Try.underlying22 tyS58 rfl rfl (by omega) (by simp) rfl ?_
      refine sx_fieldAddr rfl tyF58_2 (by first | (simp only [Nat.reduceAdd, Nat.add_zero, Nat.zero_add]; first | done | rfl) | rfl) rfl ?_
      refine sx_loadRo 0 rfl rfl (k * 4 + 2) rfl tyA50 tyS50 c2 rfl ?_
      refine sx_conv Try.underlying50 Try.underlying47 rfl ((x.len : Nat) : Int) (by rw [IntWalk.u64_in _ (by omega)]) rfl ?_
      refine sx_callP (rbytes_fn x.len (by omega)) rfl rfl ?_
      refine sx_cat rfl rfl (by omega) rfl ?_
      rw [← e2]
      refine sx_assign rfl rfl ?_
      refine sx_nil (hZ _ _ ?_)
      refine awp_forget [(0, _), (3, _), (4, _), (5, _), (6, _), (7, _), (9, _)] (Kn.cons rfl (Kn.cons rfl (Kn.cons rfl (Kn.cons rfl (Kn.cons rfl (Kn.cons rfl (Kn.cons rfl (Kn.nil)))))))) ?_
      refine awp_seq_meet [(0, .slice (some ⟨g, o, none⟩) L.length c), (3, .string (str (colB L 0 (k + 1)))), (4, .string (str (colB L 1 (k + 1)))), (5, .string (str (colB L 2 (k + 1)))), (6, .string (str (colB L 3 k))), (7, iq (k : Nat)), (76, .bool (decide (0 < k ∧ x.off = p.next)))] [.ro g o (ecells L)] (fun Z hZ => ?_) ?_
      · refine sx_move rfl rfl ?_
        first | refine sx_gtr rfl rfl rfl ?_ | refine sx_sgtr rfl rfl rfl ?_
        refine sx_move rfl rfl ?_
        refine sx_split 68 rfl (fun hb2 => ?_) (fun hb2 => ?_)
        · refine sx_on rfl rfl rfl ?_
          refine sx_move rfl rfl ?_
          refine sx_on rfl rfl rfl ?_
          refine sx_move rfl rfl ?_
          refine sx_on rfl rfl rfl ?_
          refine sx_indexAddr (o + k * 4) Try.underlying22 tyS58 rfl rfl (by omega) (by simp) rfl ?_
          refine sx_on rfl rfl rfl ?_
          refine sx_fieldAddr rfl tyF58_1 (by first | (simp only [Nat.reduceAdd, Nat.add_zero, Nat.zero_add]; first | done | rfl) | rfl) rfl ?_
          refine sx_on rfl rfl rfl ?_
          refine sx_loadRo 0 rfl rfl (k * 4 + 1) rfl tyA47 tyS47 c1 rfl ?_
          refine sx_on rfl rfl rfl ?_
          refine sx_move rfl rfl ?_
          refine sx_on rfl rfl rfl ?_
          first | refine sx_eql rfl rfl rfl ?_ | refine sx_seql rfl rfl rfl ?_
          refine sx_pick rfl rfl rfl ?_
          refine sx_nil (hZ _ _ ?_ ?_)
          · exact Kn.cons rfl (Kn.cons rfl (Kn.cons rfl (Kn.cons rfl (Kn.cons rfl (Kn.cons rfl (Kn.cons (congrArg some (congrArg Value.bool (by simp at hb2; rw [Bool.eq_iff_iff]; simp; omega))) Kn.nil))))))
          · exact HLe.refl _
        · refine sx_off rfl rfl rfl rfl rfl ?_
          refine sx_off rfl rfl rfl rfl rfl ?_
          refine sx_off rfl rfl rfl rfl rfl ?_
          refine sx_off rfl rfl rfl rfl rfl ?_
          refine sx_off rfl rfl rfl rfl rfl ?_
          refine sx_off rfl rfl rfl rfl rfl ?_
          refine sx_off rfl rfl rfl rfl rfl ?_
          refine sx_pick rfl rfl rfl ?_
          refine sx_nil (hZ _ _ ?_ ?_)
          · exact Kn.cons rfl (Kn.cons rfl (Kn.cons rfl (Kn.cons rfl (Kn.cons rfl (Kn.cons rfl (Kn.cons (congrArg some (congrArg Value.bool (by simp at hb2; rw [Bool.eq_iff_iff]; simp; omega))) Kn.nil))))))
          · exact HLe.refl _
      first | refine awp_cond rfl (fun h3 => ?_) (fun h3 => ?_) | refine awp_seq (awp_cond rfl (fun h3 => ?_) (fun h3 => ?_))
      · have h3' : 0 < k ∧ x.off = p.next := by simpa using h3
        rw [numQ_3, if_pos h3'] at e3 n3
        refine awp_region (fun Z hZ => ?_)
        refine sx_move rfl rfl ?_
        refine sx_callP (rbytes_fn 0 (by omega)) rfl rfl ?_
        refine sx_cat rfl rfl (by omega) rfl ?_
        rw [← e3]
        refine sx_assign rfl rfl ?_
        refine sx_nil (hZ _ _ ?_)
        refine nx_forget [(0, _), (3, _), (4, _), (5, _), (6, _), (7, _)] (Kn.cons rfl (Kn.cons rfl (Kn.cons rfl (Kn.cons rfl (Kn.cons rfl (Kn.cons rfl (Kn.nil))))))) ?_
        repeat (with_reducible (first | refine nx_block_normal ?_ | refine nx_scope_normal ?_))
        with_reducible first | refine nx_normal ?_ | refine nx_normalM ?_
        refine awp_region (fun Z hZ => ?_)
        refine sx_move rfl rfl ?_
        refine sx_add rfl rfl ((k + 1 : Nat) : Int) (by rw [IntWalk.i64_in _ (by omega)]; omega) rfl ?_
        refine sx_assign rfl rfl ?_
        refine sx_nil (hZ _ _ ?_)
        refine nx_forget [(0, _), (3, _), (4, _), (5, _), (6, _), (7, _)] (Kn.cons rfl (Kn.cons rfl (Kn.cons rfl (Kn.cons rfl (Kn.cons rfl (Kn.cons rfl (Kn.nil))))))) ?_
        exact nx_round (k + 1) (by omega) (by omega) (Kn.cons rfl (Kn.cons rfl (Kn.cons rfl (Kn.cons rfl (Kn.cons rfl (Kn.cons rfl Kn.nil)))))) (HLe.refl _)
      · have h3' : ¬ (0 < k ∧ x.off = p.next) := by simpa using h3
        rw [numQ_3, if_neg h3'] at e3 n3
        refine awp_region (fun Z hZ => ?_)
        refine sx_move rfl rfl ?_
        refine sx_move rfl rfl ?_
        refine sx_move rfl rfl ?_
        refine sx_indexAddr (o + k * 4) Try.underlying22 tyS58 rfl rfl (by omega) (by simp) rfl ?_
        refine sx_fieldAddr rfl tyF58_1 (by first | (simp only [Nat.reduceAdd, Nat.add_zero, Nat.zero_add]; first | done | rfl) | rfl) rfl ?_
        refine sx_loadRo 0 rfl rfl (k * 4 + 1) rfl tyA47 tyS47 c1 rfl ?_
        refine sx_add rfl rfl (((x.off + 1) % 18446744073709551616 : Nat) : Int) (by rw [show (x.off : Int) + 1 = ((x.off + 1 : Nat) : Int) by omega, u64_w]) rfl ?_
        refine sx_callP (rbytes_fn _ (by omega)) rfl rfl ?_
        refine sx_cat rfl rfl (by omega) rfl ?_
        rw [← e3]
        refine sx_assign rfl rfl ?_
        refine sx_nil (hZ _ _ ?_)
        refine nx_forget [(0, _), (3, _), (4, _), (5, _), (6, _), (7, _)] (Kn.cons rfl (Kn.cons rfl (Kn.cons rfl (Kn.cons rfl (Kn.cons rfl (Kn.cons rfl (Kn.nil))))))) ?_
        repeat (with_reducible (first | refine nx_block_normal ?_ | refine nx_scope_normal ?_))
        with_reducible first | refine nx_normal ?_ | refine nx_normalM ?_
        refine awp_region (fun Z hZ => ?_)
        refine sx_move rfl rfl ?_
        refine sx_add rfl rfl ((k + 1 : Nat) : Int) (by rw [IntWalk.i64_in _ (by omega)]; omega) rfl ?_
        refine sx_assign rfl rfl ?_
        refine sx_nil (hZ _ _ ?_)
        refine nx_forget [(0, _), (3, _), (4, _), (5, _), (6, _), (7, _)] (Kn.cons rfl (Kn.cons rfl (Kn.cons rfl (Kn.cons rfl (Kn.cons rfl (Kn.cons rfl (Kn.nil))))))) ?_
        exact nx_round (k + 1) (by omega) (by omega) (Kn.cons rfl (Kn.cons rfl (Kn.cons rfl (Kn.cons rfl (Kn.cons rfl (Kn.cons rfl Kn.nil)))))) (HLe.refl _)
  · refine awp_exit ?_
    repeat (with_reducible (first | refine nx_then_exit ?_ | refine nx_block_other (by decide) ?_ | refine nx_scope_exit ?_))
    with_reducible refine nx_block_exit ?_
    repeat (with_reducible (first | refine nx_block_normal ?_ | refine nx_scope_normal ?_))
    with_reducible first | refine nx_normal ?_ | refine nx_normalM ?_
    have hke : k = L.length := by simp at h; omega
    subst hke
    have n0 := vb_len10 (x := L.length) (by omega)
    refine awp_seq_region (fun Z hZ => ?_)
    refine sx_move rfl rfl ?_
    first | refine sx_len Try.underlying22 rfl rfl ?_ | refine sx_lenS Try.underlying22 rfl rfl ?_
    refine sx_conv Try.underlying3 Try.underlying47 rfl ((L.length : Nat) : Int) (by rw [IntWalk.u64_in _ (by omega)]) rfl ?_
    refine sx_callP (rbytes_fn L.length (by omega)) rfl rfl ?_
    refine sx_move rfl rfl ?_
    refine sx_cat rfl rfl (by omega) rfl ?_
    refine sx_move rfl rfl ?_
    refine sx_cat rfl rfl (by simp; omega) rfl ?_
    refine sx_move rfl rfl ?_
    refine sx_cat rfl rfl (by simp; omega) rfl ?_
    refine sx_move rfl rfl ?_
    refine sx_cat rfl rfl (by simp; omega) rfl ?_
    rw [← numsQ_cols]
    refine sx_assign rfl rfl ?_
    refine sx_nil (hZ _ _ ?_)
    refine awp_forget [(2, _)] (Kn.cons rfl (Kn.nil)) ?_
    refine awp_ret ?_
    repeat (with_reducible (first | refine nx_then_ret ?_ | refine nx_block_ret ?_ | refine nx_scope_ret ?_))
    exact nx_ret1 rfl rfl rfl
theorem rencode_fn (A : Option Addr) (c : Nat) (L : List En) (T : Heap) (hA : ArgOk A L.length) (hT : 0 < L.length → T = roE A (ecells L)) (hro : Ro T) (hL : L.length ≤ 10000) (hE : EnsOk L) :
    Fn Try.prog 51 [.slice A L.length c] T fun v _ => v = .tuple #[.string (str (encQ L).1), iq (encQ L).2] := by
  have hmax : L.length ≤ maxLen := by show _ ≤ 9223372036854775807; omega
  have hall := allB_len (numsQ_lt hE (by omega))
  have hlen := numsQ_len L
  refine Fn.enter (N := 17) Try.func51 rfl (by kernel_rfl) rfl (fun w0 => ?_)

  refine awp_seq_region (fun Z hZ => ?_)
  refine sx_assign rfl rfl ?_
  refine sx_assign rfl rfl ?_
  refine sx_nil (hZ _ _ ?_)
  refine awp_forget [(0, _)] (Kn.cons rfl (Kn.nil)) ?_
  refine awp_seq ?_
  refine awp_seq_region (fun Z hZ => ?_)
  refine sx_move rfl rfl ?_
  refine sx_callPT T (rrow_fn A c L T hA hT hro hmax hE) rfl (List.Sublist.refl _) hro rfl ?_
  refine sx_assign rfl rfl ?_
  refine sx_nil (hZ _ _ ?_)
  refine awp_forget [(0, _), (4, _)] (Kn.cons rfl (Kn.cons rfl (Kn.nil))) ?_
  refine awp_seq_region (fun Z hZ => ?_)
  refine sx_move rfl rfl ?_
  first | refine sx_neq rfl rfl rfl ?_ | refine sx_sneq rfl rfl rfl ?_
  refine sx_nil (hZ _ _ ?_)
  refine awp_forget [(0, _), (4, _), (9, _)] (Kn.cons rfl (Kn.cons rfl (Kn.cons rfl (Kn.nil)))) ?_
  first | refine awp_cond rfl (fun h => ?_) (fun h => ?_) | refine awp_seq (awp_cond rfl (fun h => ?_) (fun h => ?_))
  · have h0 : rowC L ≠ 0 := by simp at h; omega
    rw [show encQ L = ([], rowC L) by unfold encQ; rw [if_neg h0]]
    refine awp_seq_region (fun Z hZ => ?_)
    refine sx_move rfl rfl ?_
    refine sx_assign rfl rfl ?_
    refine sx_assign rfl rfl ?_
    refine sx_nil (hZ _ _ ?_)
    refine awp_forget [(2, _), (3, _)] (Kn.cons rfl (Kn.cons rfl (Kn.nil))) ?_
    refine awp_ret ?_
    repeat (with_reducible (first | refine nx_then_ret ?_ | refine nx_block_ret ?_ | refine nx_scope_ret ?_))
    exact nx_ret2 rfl rfl rfl rfl
  have h0 : rowC L = 0 := by simp at h; omega
  refine awp_skip ?_
  repeat (with_reducible (first | refine nx_block_normal ?_ | refine nx_scope_normal ?_))
  with_reducible first | refine nx_normal ?_ | refine nx_normalM ?_
  refine awp_seq_region (fun Z hZ => ?_)
  refine sx_move rfl rfl ?_
  refine sx_callPT T (rtext_fn A c L T hA hT hro hL hE) rfl (List.Sublist.refl _) hro rfl ?_
  refine sx_assign rfl rfl ?_
  refine sx_nil (hZ _ _ ?_)
  refine awp_forget [(5, _)] (Kn.cons rfl (Kn.nil)) ?_
  refine awp_seq ?_
  refine awp_seq_region (fun Z hZ => ?_)
  refine sx_move rfl rfl ?_
  first | refine sx_len Try.underlying9 rfl rfl ?_ | refine sx_lenS Try.underlying9 rfl rfl ?_
  first | refine sx_gtr rfl rfl rfl ?_ | refine sx_sgtr rfl rfl rfl ?_
  refine sx_nil (hZ _ _ ?_)
  refine awp_forget [(5, _), (15, _)] (Kn.cons rfl (Kn.cons rfl (Kn.nil))) ?_
  first | refine awp_cond rfl (fun h1 => ?_) (fun h1 => ?_) | refine awp_seq (awp_cond rfl (fun h1 => ?_) (fun h1 => ?_))
  · have h1' : 65536 < sumB (numsQ L) := by unfold sumB; simp at h1; omega
    rw [show encQ L = ([], 5) by unfold encQ; rw [if_pos h0, if_pos h1']]
    refine awp_seq_region (fun Z hZ => ?_)
    refine sx_assign rfl rfl ?_
    refine sx_assign rfl rfl ?_
    refine sx_nil (hZ _ _ ?_)
    refine awp_forget [(2, _), (3, _)] (Kn.cons rfl (Kn.cons rfl (Kn.nil))) ?_
    refine awp_ret ?_
    repeat (with_reducible (first | refine nx_then_ret ?_ | refine nx_block_ret ?_ | refine nx_scope_ret ?_))
    exact nx_ret2 rfl rfl rfl rfl
  have h1' : ¬ 65536 < sumB (numsQ L) := by unfold sumB; simp at h1; omega
  rw [show encQ L = (allB (numsQ L), 0) by unfold encQ; rw [if_pos h0, if_neg h1']]
  refine awp_skip ?_
  repeat (with_reducible (first | refine nx_block_normal ?_ | refine nx_scope_normal ?_))
  with_reducible first | refine nx_normal ?_ | refine nx_normalM ?_
  refine awp_seq_region (fun Z hZ => ?_)
  refine sx_move rfl rfl ?_
  refine sx_assign rfl rfl ?_
  refine sx_assign rfl rfl ?_
  refine sx_nil (hZ _ _ ?_)
  refine awp_forget [(2, _), (3, _)] (Kn.cons rfl (Kn.cons rfl (Kn.nil))) ?_
  refine awp_ret ?_
  repeat (with_reducible (first | refine nx_then_ret ?_ | refine nx_block_ret ?_ | refine nx_scope_ret ?_))
  exact nx_ret2 rfl rfl rfl rfl
theorem rsize_fn (A : Option Addr) (c : Nat) (L : List En) (T : Heap) (hA : ArgOk A L.length) (hT : 0 < L.length → T = roE A (ecells L)) (hro : Ro T) (hL : L.length ≤ 10000) (hE : EnsOk L) :
    Fn Try.prog 30 [.slice A L.length c] T fun v _ => v = iq (sizeQ L) := by
  have hmax : L.length ≤ maxLen := by show _ ≤ 9223372036854775807; omega
  have hall := allB_len (numsQ_lt hE (by omega))
  have hlen := numsQ_len L
  refine Fn.enter (N := 9) Try.func30 rfl (by kernel_rfl) rfl (fun w0 => ?_)

  refine awp_seq_region (fun Z hZ => ?_)
  refine sx_assign rfl rfl ?_
  refine sx_nil (hZ _ _ ?_)
  refine awp_forget [(0, _)] (Kn.cons rfl (Kn.nil)) ?_
  refine awp_seq ?_
  refine awp_seq_region (fun Z hZ => ?_)
  refine sx_move rfl rfl ?_
  refine sx_callPT T (rrow_fn A c L T hA hT hro hmax hE) rfl (List.Sublist.refl _) hro rfl ?_
  first | refine sx_neq rfl rfl rfl ?_ | refine sx_sneq rfl rfl rfl ?_
  refine sx_nil (hZ _ _ ?_)
  refine awp_forget [(0, _), (5, _)] (Kn.cons rfl (Kn.cons rfl (Kn.nil))) ?_
  first | refine awp_cond rfl (fun h => ?_) (fun h => ?_) | refine awp_seq (awp_cond rfl (fun h => ?_) (fun h => ?_))
  · have h0 : rowC L ≠ 0 := by simp at h; omega
    rw [show sizeQ L = 0 by unfold sizeQ; rw [if_neg h0]]
    refine awp_seq_region (fun Z hZ => ?_)
    refine sx_assign rfl rfl ?_
    refine sx_nil (hZ _ _ ?_)
    refine awp_forget [(2, _)] (Kn.cons rfl (Kn.nil)) ?_
    refine awp_ret ?_
    repeat (with_reducible (first | refine nx_then_ret ?_ | refine nx_block_ret ?_ | refine nx_scope_ret ?_))
    exact nx_ret1 rfl rfl rfl
  have h0 : rowC L = 0 := by simp at h; omega
  rw [show sizeQ L = sumB (numsQ L) by unfold sizeQ; rw [if_pos h0]]
  refine awp_skip ?_
  repeat (with_reducible (first | refine nx_block_normal ?_ | refine nx_scope_normal ?_))
  with_reducible first | refine nx_normal ?_ | refine nx_normalM ?_
  refine awp_seq_region (fun Z hZ => ?_)
  refine sx_move rfl rfl ?_
  refine sx_callPT T (rtext_fn A c L T hA hT hro hL hE) rfl (List.Sublist.refl _) hro rfl ?_
  first | refine sx_len Try.underlying9 rfl rfl ?_ | refine sx_lenS Try.underlying9 rfl rfl ?_
  refine sx_assign rfl rfl ?_
  refine sx_nil (hZ _ _ ?_)
  refine awp_forget [(2, _)] (Kn.cons rfl (Kn.nil)) ?_
  refine awp_ret ?_
  repeat (with_reducible (first | refine nx_then_ret ?_ | refine nx_block_ret ?_ | refine nx_scope_ret ?_))
  exact nx_ret1 rfl rfl rfl
end Go.Proofs.Ytodclhiggafkbaa
