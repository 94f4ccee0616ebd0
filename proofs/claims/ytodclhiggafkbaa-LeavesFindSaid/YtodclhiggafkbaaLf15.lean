/- What a split may be; the walks of seek.Leaves and entry.End. Conditions: the lists are not too long. -/
import Derived.Test.YtodclhiggafkbaaLf14
namespace Go.Proofs.Ytodclhiggafkbaa
open Go.RowKit
set_option linter.unusedVariables false
set_option linter.unusedSimpArgs false
theorem rowC_q {L : List En} (h : rowC L = 0) : rowQ 0 L = 0 ∧ L.length ≤ 4096 := by
  unfold rowC at h
  split at h
  · cases h
  · exact ⟨h, by omega⟩
theorem q_rowC {L : List En} (h : rowQ 0 L = 0) (hl : L.length ≤ 4096) : rowC L = 0 := by
  unfold rowC
  rw [if_neg (by omega), h]
theorem splitG_cases {L : List En} {b : Int} : ∀ (k z : Nat), 0 < z → splitG L b k z = ([], [], 0, 15) ∨ ∃ y, 0 < y ∧ okQ L b y = true ∧ splitG L b k z = (rootR 0 (pcs L y), textP (pcs L y), y, 0)
  | 0, _, _ => .inl rfl
  | k + 1, z, hz => by
    rw [splitG]
    by_cases h : okQ L b z = true
    · rw [if_pos h]
      exact .inr ⟨z, hz, h, rfl⟩
    · rw [if_neg h]
      exact splitG_cases k (2 * z) (by omega)
theorem splitQ_cases (L : List En) (b : Int) : (∃ e, e ≠ 0 ∧ splitQ L b = ([], [], 0, e)) ∨
    (rowC L = 0 ∧ hasPtr L = false ∧ 1 ≤ b ∧ b ≤ 16257 ∧ ((splitQ L b = (L, [], 0, 0) ∧ (sizeQ L : Int) ≤ b) ∨ ∃ y, 0 < y ∧ okQ L b y = true ∧ splitQ L b = (rootR 0 (pcs L y), textP (pcs L y), y, 0))) := by
  unfold splitQ
  by_cases h1 : b < 1 ∨ 16257 < b
  · rw [if_pos h1]; exact .inl ⟨2, by decide, rfl⟩
  rw [if_neg h1]
  by_cases h2 : rowC L ≠ 0
  · rw [if_pos h2]; exact .inl ⟨_, h2, rfl⟩
  rw [if_neg h2]
  by_cases h3 : hasPtr L = true
  · rw [if_pos h3]; exact .inl ⟨14, by decide, rfl⟩
  rw [if_neg h3]
  have h2' : rowC L = 0 := by omega
  have h3' : hasPtr L = false := by simpa using h3
  by_cases h4 : (sizeQ L : Int) ≤ b
  · rw [if_pos h4]
    exact .inr ⟨h2', h3', by omega, by omega, .inl ⟨rfl, h4⟩⟩
  rw [if_neg h4]
  rcases splitG_cases (L := L) (b := b) 13 1 (by omega) with h | ⟨y, hy, ho, h⟩
  · rw [h]; exact .inl ⟨15, by decide, rfl⟩
  · exact .inr ⟨h2', h3', by omega, by omega, .inr ⟨y, hy, ho, h⟩⟩
theorem okQ_facts {L : List En} {b : Int} {y : Nat} (hy : 0 < y) (hE : EnsOk L) (hh : hasPtr L = false) (h : okQ L b y = true) : (∀ P ∈ pcs L y, 0 < P.length ∧ EnsOk P ∧ (encQ P).2 = 0 ∧ hasPtr P = false) ∧ (sizeQ (rootR 0 (pcs L y)) : Int) ≤ b := by
  unfold okQ at h
  rw [Bool.and_eq_true, List.all_eq_true, decide_eq_true_eq] at h
  refine ⟨fun P hP => ⟨pcs_pos hy hP, fun e he => hE e (pcs_mem hP e he), by simpa using h.1 P hP, ?_⟩, h.2⟩
  rw [hasPtr, List.any_eq_false] at hh ⊢
  exact fun e he => hh e (pcs_mem hP e he)
theorem sleaves_fn (A : Option Addr) (c : Nat) (L : List En) (T : Heap) (hA : ArgOk A L.length) (hT : 0 < L.length → T = roE A (ecells L)) (hro : Ro T) (hL : L.length ≤ 1000000) :
    Fn Try.prog 19 [.slice A L.length c] T fun v H' => RowOk v (L.filter isPtr).length ∧ H' = rowE v 52 4 (ecells (L.filter isPtr)) := by
  refine Fn.enter (N := 21) Try.func19 rfl (by kernel_rfl) rfl (fun w0 => ?_)

  refine awp_seq_region (fun Z hZ => ?_)
  refine sx_assign rfl rfl ?_
  refine sx_nil (hZ _ _ ?_)
  refine awp_forget [(0, _)] (Kn.cons rfl (Kn.nil)) ?_
  refine awp_seq_region (fun Z hZ => ?_)
  refine sx_assign rfl rfl ?_
  refine sx_nil (hZ _ _ ?_)
  refine awp_forget [(0, _), (3, _)] (Kn.cons rfl (Kn.cons rfl (Kn.nil))) ?_
  refine awp_seq ?_
  refine awp_seq_region (fun Z hZ => ?_)
  refine sx_move rfl rfl ?_
  first | refine sx_len Try.underlying24 rfl rfl ?_ | refine sx_lenS Try.underlying24 rfl rfl ?_
  refine sx_move rfl rfl ?_
  refine sx_nil (hZ _ _ ?_)
  refine awp_forget [(3, _), (6, _), (7, _), (8, _)] (Kn.cons rfl (Kn.cons rfl (Kn.cons rfl (Kn.cons rfl (Kn.nil))))) ?_
  refine awp_block ?_
  refine awp_loop (ι := Nat × Value) (fun i => [(3, i.2), (6, .slice A L.length c), (7, iq (L.length : Nat)), (8, iq (i.1 : Nat))]) (fun i => T ++ rowE i.2 52 4 (ecells ((L.take i.1).filter isPtr)))
    (fun i => i.1 ≤ L.length ∧ RowOk i.2 ((L.take i.1).filter isPtr).length) (fun i => L.length - i.1) (0, .slice none 0 0) ⟨by simp, RowOk.nil⟩ (Kn.cons rfl (Kn.cons rfl (Kn.cons rfl (Kn.cons rfl Kn.nil)))) (by simp [rowE]; exact HLe.refl _) ?_
  rintro ⟨k, v⟩ ⟨hk, hv⟩
  simp only at hk hv
  refine awp_seq_region (fun Z hZ => ?_)
  first | refine sx_lss rfl rfl rfl ?_ | refine sx_slss rfl rfl rfl ?_
  refine sx_nil (hZ _ _ ?_)
  refine awp_forget [(3, _), (6, _), (7, _), (8, _), (9, _)] (Kn.cons rfl (Kn.cons rfl (Kn.cons rfl (Kn.cons rfl (Kn.cons rfl (Kn.nil)))))) ?_
  first | refine awp_cond rfl (fun h => ?_) (fun h => ?_) | refine awp_seq (awp_cond rfl (fun h => ?_) (fun h => ?_))
  · have hlt : k < L.length := by simpa using h
    obtain ⟨x, hx⟩ : ∃ x, L[k]? = some x := ⟨_, List.getElem?_eq_getElem hlt⟩
    have hfl : ((L.take k).filter isPtr).length ≤ k := by
      refine Nat.le_trans (List.length_filter_le _ _) ?_
      rw [List.length_take]
      omega
    have htk : (L.take (k + 1)).filter isPtr = (L.take k).filter isPtr ++ (if isPtr x = true then [x] else []) := by
      rw [List.take_add_one, hx, List.filter_append]
      congr 1
      simp only [Option.toList, List.filter_cons, List.filter_nil]
    obtain ⟨g, o, rfl⟩ := hA (by omega)
    obtain rfl := hT (by omega)
    refine awp_skip ?_
    repeat (with_reducible (first | refine nx_block_normal ?_ | refine nx_scope_normal ?_))
    with_reducible first | refine nx_normal ?_ | refine nx_normalM ?_
    refine awp_cut (ι := Value) (fun v => [(3, v), (6, .slice (some ⟨g, o, none⟩) L.length c), (7, iq (L.length : Nat)), (8, iq (k : Nat))]) (fun v => [.ro g o (ecells L)] ++ rowE v 52 4 (ecells ((L.take (k + 1)).filter isPtr))) (fun v => RowOk v ((L.take (k + 1)).filter isPtr).length) ?_ ?_
    · refine awp_block ?_

      refine awp_seq_region (fun Z hZ => ?_)
      refine sx_indexAddr (o + k * 4) Try.underlying24 tyS52 rfl rfl (by omega) (by simp) rfl ?_
      refine sx_loadRo 0 rfl rfl (k * 4) rfl tyA52 tyS52 (ecells_all hx) rfl ?_
      refine sx_alloc tyZ52 rfl (fun g1 => ?_)
      first | refine sx_store 0 rfl rfl rfl tyS52 (by first | (simp only [Value.cells]; first | done | rfl) | rfl) rfl rfl (by first | (simp only [List.length_cons, List.length_nil, Nat.reduceAdd, Nat.zero_add, Nat.add_zero]; first | done | rfl) | rfl) (by first | (simp only [List.take_succ_cons, List.take_zero, List.drop_succ_cons, List.drop_zero, List.cons_append, List.nil_append, List.append_nil, List.length_cons, List.length_nil, Nat.reduceAdd, Nat.zero_add, Nat.add_zero, Value.cells, wrV]; first | done | rfl) | rfl) (by first | (simp only [List.set_cons_succ, List.set_cons_zero]; first | done | rfl) | rfl) ?_ | refine sx_store 1 rfl rfl rfl tyS52 (by first | (simp only [Value.cells]; first | done | rfl) | rfl) rfl rfl (by first | (simp only [List.length_cons, List.length_nil, Nat.reduceAdd, Nat.zero_add, Nat.add_zero]; first | done | rfl) | rfl) (by first | (simp only [List.take_succ_cons, List.take_zero, List.drop_succ_cons, List.drop_zero, List.cons_append, List.nil_append, List.append_nil, List.length_cons, List.length_nil, Nat.reduceAdd, Nat.zero_add, Nat.add_zero, Value.cells, wrV]; first | done | rfl) | rfl) (by first | (simp only [List.set_cons_succ, List.set_cons_zero]; first | done | rfl) | rfl) ?_
      refine sx_nil (hZ _ _ ?_)
      refine awp_forget [(3, _), (5, _), (6, _), (7, _), (8, _)] (Kn.cons rfl (Kn.cons rfl (Kn.cons rfl (Kn.cons rfl (Kn.cons rfl (Kn.nil)))))) ?_

      refine awp_seq_region (fun Z hZ => ?_)
      refine sx_fieldAddr rfl tyF52_3 (by first | (simp only [Nat.reduceAdd, Nat.add_zero, Nat.zero_add]; first | done | rfl) | rfl) rfl ?_
      first | refine sx_load 0 rfl rfl tyA50 tyS50 rfl rfl ?_ | refine sx_load 1 rfl rfl tyA50 tyS50 rfl rfl ?_
      first | refine sx_eql rfl rfl rfl ?_ | refine sx_seql rfl rfl rfl ?_
      refine sx_nil (hZ _ _ ?_)
      refine awp_forget [(3, _), (5, _), (6, _), (7, _), (8, _), (14, _)] (Kn.cons rfl (Kn.cons rfl (Kn.cons rfl (Kn.cons rfl (Kn.cons rfl (Kn.cons rfl (Kn.nil))))))) ?_
      first | refine awp_cond rfl (fun h1 => ?_) (fun h1 => ?_) | refine awp_seq (awp_cond rfl (fun h1 => ?_) (fun h1 => ?_))
      · have hp : isPtr x = true := by simp at h1; simp [isPtr]; omega
        rw [hp, if_pos rfl] at htk
        refine awp_region (fun Z hZ => ?_)
        refine sx_move rfl rfl ?_
        first | refine sx_loadA 0 rfl rfl tyA52 tyS52 (by first | (simp only [List.length_cons, List.length_nil, Nat.reduceAdd, Nat.zero_add, Nat.add_zero]; first | done | rfl) | rfl) (by first | (simp only [List.take_succ_cons, List.take_zero, List.drop_succ_cons, List.drop_zero, List.cons_append, List.nil_append, List.append_nil, List.length_cons, List.length_nil, Nat.reduceAdd, Nat.zero_add, Nat.add_zero, Value.cells, wrV]; first | done | rfl) | rfl) rfl ?_ | refine sx_loadA 1 rfl rfl tyA52 tyS52 (by first | (simp only [List.length_cons, List.length_nil, Nat.reduceAdd, Nat.zero_add, Nat.add_zero]; first | done | rfl) | rfl) (by first | (simp only [List.take_succ_cons, List.take_zero, List.drop_succ_cons, List.drop_zero, List.cons_append, List.nil_append, List.append_nil, List.length_cons, List.length_nil, Nat.reduceAdd, Nat.zero_add, Nat.add_zero, Value.cells, wrV]; first | done | rfl) | rfl) rfl ?_
        refine sx_buildSlice Try.underlying24 tyS52 tyZ52 rfl rfl rfl rfl (by first | (simp only [List.take_succ_cons, List.take_zero, List.drop_succ_cons, List.drop_zero, List.cons_append, List.nil_append, List.append_nil, List.length_cons, List.length_nil, Nat.reduceAdd, Nat.zero_add, Nat.add_zero, Value.cells, wrV, zrep_one, List.replicate_succ, List.replicate_zero, Nat.reduceMul, Nat.zero_mul]; first | done | rfl) | rfl) rfl (fun g2 => ?_)
        refine sx_appendE [_, _, _] elemEn rfl hv (ecells_len _) rfl (fun w hw => rd_own (i := 0) (xs := x.cells) rfl rfl hw) rfl (by show _ ≤ 9223372036854775807; omega) (by omega) (HLe.refl _) rfl (fun v2 hv2 => ?_)
        refine sx_assign rfl rfl ?_
        refine sx_nil (hZ _ _ ?_)
        refine nx_forget [(3, _), (6, _), (7, _), (8, _)] (Kn.cons rfl (Kn.cons rfl (Kn.cons rfl (Kn.cons rfl (Kn.nil))))) ?_
        repeat (with_reducible refine nx_block_normal ?_)
        refine nx_cut v2 (by rw [htk]; simpa using hv2) (Kn.cons rfl (Kn.cons rfl (Kn.cons rfl (Kn.cons rfl Kn.nil)))) ?_
        rw [htk, show ecells ((L.take k).filter isPtr ++ [x]) = ecells ((L.take k).filter isPtr) ++ x.cells from fm_snoc _ _]
        exact HLe.drop 2 rfl
      · have hp : isPtr x = false := by simp at h1; simp [isPtr]; omega
        rw [hp, if_neg (by decide), List.append_nil] at htk
        refine awp_skip ?_
        repeat (with_reducible refine nx_block_normal ?_)
        refine nx_cut v (by rw [htk]; exact hv) (Kn.cons rfl (Kn.cons rfl (Kn.cons rfl (Kn.cons rfl Kn.nil)))) ?_
        rw [htk]
        exact HLe.drop 1 rfl
    · rintro v2 hv2
      refine awp_region (fun Z hZ => ?_)
      refine sx_add rfl rfl ((k + 1 : Nat) : Int) (by rw [IntWalk.i64_in _ (by omega)]; omega) rfl ?_
      refine sx_move rfl rfl ?_
      refine sx_nil (hZ _ _ ?_)
      refine nx_forget [(3, _), (6, _), (7, _), (8, _)] (Kn.cons rfl (Kn.cons rfl (Kn.cons rfl (Kn.cons rfl (Kn.nil))))) ?_
      exact nx_round (k + 1, v2) ⟨by show k + 1 ≤ _; omega, hv2⟩ (by simp; omega) (Kn.cons rfl (Kn.cons rfl (Kn.cons rfl (Kn.cons rfl Kn.nil)))) (HLe.refl _)
  · refine awp_exit ?_
    repeat (with_reducible (first | refine nx_then_exit ?_ | refine nx_block_other (by decide) ?_ | refine nx_scope_exit ?_))
    with_reducible refine nx_block_exit ?_
    repeat (with_reducible (first | refine nx_block_normal ?_ | refine nx_scope_normal ?_))
    with_reducible first | refine nx_normal ?_ | refine nx_normalM ?_
    have hke : k = L.length := by simp at h; omega
    subst hke
    rw [List.take_length] at hv ⊢
    refine awp_seq_region (fun Z hZ => ?_)
    refine sx_move rfl rfl ?_
    refine sx_assign rfl rfl ?_
    refine sx_nil (hZ _ _ ?_)
    refine awp_forget [(2, _)] (Kn.cons rfl (Kn.nil)) ?_
    refine awp_ret ?_
    repeat (with_reducible (first | refine nx_then_ret ?_ | refine nx_block_ret ?_ | refine nx_scope_ret ?_))
    exact nx_ret1h _ rfl rfl (HLe.sub (List.sublist_append_right _ _)) ⟨hv, rfl⟩
theorem endQ_lt : ∀ (L : List En) (n : Nat), n < 18446744073709551616 → endQ n L < 18446744073709551616
  | [], n, h => h
  | e :: r, n, h => by
    have := next_lt e
    rw [endQ]
    refine endQ_lt r _ ?_
    split <;> omega
theorem end_fn (A : Option Addr) (c : Nat) (L : List En) (T : Heap) (hA : ArgOk A L.length) (hT : 0 < L.length → T = roE A (ecells L)) (hL : L.length ≤ 1000000) (hE : EnsOk L) :
    Fn Try.prog 20 [.slice A L.length c] T fun v _ => v = uq (endQ 0 L) := by
  refine Fn.enter (N := 20) Try.func20 rfl (by kernel_rfl) rfl (fun w0 => ?_)

  refine awp_seq_region (fun Z hZ => ?_)
  refine sx_assign rfl rfl ?_
  refine sx_nil (hZ _ _ ?_)
  refine awp_forget [(0, _)] (Kn.cons rfl (Kn.nil)) ?_
  refine awp_seq_region (fun Z hZ => ?_)
  refine sx_assign rfl rfl ?_
  refine sx_nil (hZ _ _ ?_)
  refine awp_forget [(0, _), (3, _)] (Kn.cons rfl (Kn.cons rfl (Kn.nil))) ?_
  refine awp_seq ?_
  refine awp_seq_region (fun Z hZ => ?_)
  refine sx_move rfl rfl ?_
  first | refine sx_len Try.underlying24 rfl rfl ?_ | refine sx_lenS Try.underlying24 rfl rfl ?_
  refine sx_move rfl rfl ?_
  refine sx_nil (hZ _ _ ?_)
  refine awp_forget [(3, _), (6, _), (7, _), (8, _)] (Kn.cons rfl (Kn.cons rfl (Kn.cons rfl (Kn.cons rfl (Kn.nil))))) ?_
  refine awp_block ?_
  refine awp_loop (ι := Nat × Nat) (fun i => [(3, uq i.2), (6, .slice A L.length c), (7, iq (L.length : Nat)), (8, iq (i.1 : Nat))]) (fun _ => T)
    (fun i => i.1 ≤ L.length ∧ i.2 < 18446744073709551616 ∧ endQ i.2 (L.drop i.1) = endQ 0 L) (fun i => L.length - i.1) (0, 0) ⟨by simp, by simp, rfl⟩ (Kn.cons rfl (Kn.cons rfl (Kn.cons rfl (Kn.cons rfl Kn.nil)))) (HLe.refl _) ?_
  rintro ⟨k, n⟩ ⟨hk, hn, hq⟩
  simp only at hk hn hq
  refine awp_seq_region (fun Z hZ => ?_)
  first | refine sx_lss rfl rfl rfl ?_ | refine sx_slss rfl rfl rfl ?_
  refine sx_nil (hZ _ _ ?_)
  refine awp_forget [(3, _), (6, _), (7, _), (8, _), (9, _)] (Kn.cons rfl (Kn.cons rfl (Kn.cons rfl (Kn.cons rfl (Kn.cons rfl (Kn.nil)))))) ?_
  first | refine awp_cond rfl (fun h => ?_) (fun h => ?_) | refine awp_seq (awp_cond rfl (fun h => ?_) (fun h => ?_))
  · have hlt : k < L.length := by simpa using h
    have hx := atE_at hlt
    have hxo := atE_ok hE k
    obtain ⟨x, hxe⟩ : ∃ x, atE L k = x := ⟨_, rfl⟩
    rw [hxe] at hx hxo
    have hdr : L.drop k = x :: L.drop (k + 1) := by rw [List.drop_eq_getElem_cons hlt]; congr 1; exact (List.getElem?_eq_some_iff.1 hx).2
    rw [hdr, endQ] at hq
    have hnx := next_lt x
    obtain ⟨g, o, rfl⟩ := hA (by omega)
    obtain rfl := hT (by omega)
    refine awp_skip ?_
    repeat (with_reducible (first | refine nx_block_normal ?_ | refine nx_scope_normal ?_))
    with_reducible first | refine nx_normal ?_ | refine nx_normalM ?_
    refine awp_cut (ι := Nat) (fun m => [(3, uq m), (6, .slice (some ⟨g, o, none⟩) L.length c), (7, iq (L.length : Nat)), (8, iq (k : Nat))]) (fun _ => [.ro g o (ecells L)]) (fun m => m < 18446744073709551616 ∧ endQ m (L.drop (k + 1)) = endQ 0 L) ?_ ?_
    · refine awp_block ?_

      refine awp_seq_region (fun Z hZ => ?_)
      refine sx_indexAddr (o + k * 4) Try.underlying24 tyS52 rfl rfl (by omega) (by simp) rfl ?_
      refine sx_loadRo 0 rfl rfl (k * 4) rfl tyA52 tyS52 (ecells_all hx) rfl ?_
      refine sx_alloc tyZ52 rfl (fun g1 => ?_)
      first | refine sx_store 0 rfl rfl rfl tyS52 (by first | (simp only [Value.cells]; first | done | rfl) | rfl) rfl rfl (by first | (simp only [List.length_cons, List.length_nil, Nat.reduceAdd, Nat.zero_add, Nat.add_zero]; first | done | rfl) | rfl) (by first | (simp only [List.take_succ_cons, List.take_zero, List.drop_succ_cons, List.drop_zero, List.cons_append, List.nil_append, List.append_nil, List.length_cons, List.length_nil, Nat.reduceAdd, Nat.zero_add, Nat.add_zero, Value.cells, wrV]; first | done | rfl) | rfl) (by first | (simp only [List.set_cons_succ, List.set_cons_zero]; first | done | rfl) | rfl) ?_ | refine sx_store 1 rfl rfl rfl tyS52 (by first | (simp only [Value.cells]; first | done | rfl) | rfl) rfl rfl (by first | (simp only [List.length_cons, List.length_nil, Nat.reduceAdd, Nat.zero_add, Nat.add_zero]; first | done | rfl) | rfl) (by first | (simp only [List.take_succ_cons, List.take_zero, List.drop_succ_cons, List.drop_zero, List.cons_append, List.nil_append, List.append_nil, List.length_cons, List.length_nil, Nat.reduceAdd, Nat.zero_add, Nat.add_zero, Value.cells, wrV]; first | done | rfl) | rfl) (by first | (simp only [List.set_cons_succ, List.set_cons_zero]; first | done | rfl) | rfl) ?_
      refine sx_nil (hZ _ _ ?_)
      refine awp_forget [(3, _), (5, _), (6, _), (7, _), (8, _)] (Kn.cons rfl (Kn.cons rfl (Kn.cons rfl (Kn.cons rfl (Kn.cons rfl (Kn.nil)))))) ?_

      refine awp_seq_region (fun Z hZ => ?_)
      first | refine sx_loadA 0 rfl rfl tyA52 tyS52 (by first | (simp only [List.length_cons, List.length_nil, Nat.reduceAdd, Nat.zero_add, Nat.add_zero]; first | done | rfl) | rfl) (by first | (simp only [List.take_succ_cons, List.take_zero, List.drop_succ_cons, List.drop_zero, List.cons_append, List.nil_append, List.append_nil, List.length_cons, List.length_nil, Nat.reduceAdd, Nat.zero_add, Nat.add_zero, Value.cells, wrV]; first | done | rfl) | rfl) rfl ?_ | refine sx_loadA 1 rfl rfl tyA52 tyS52 (by first | (simp only [List.length_cons, List.length_nil, Nat.reduceAdd, Nat.zero_add, Nat.add_zero]; first | done | rfl) | rfl) (by first | (simp only [List.take_succ_cons, List.take_zero, List.drop_succ_cons, List.drop_zero, List.cons_append, List.nil_append, List.append_nil, List.length_cons, List.length_nil, Nat.reduceAdd, Nat.zero_add, Nat.add_zero, Value.cells, wrV]; first | done | rfl) | rfl) rfl ?_
      refine sx_callP (emay_fn x hxo) rfl rfl ?_
      refine sx_nil (hZ _ _ ?_)
      refine awp_forget [(3, _), (5, _), (6, _), (7, _), (8, _), (13, _)] (Kn.cons rfl (Kn.cons rfl (Kn.cons rfl (Kn.cons rfl (Kn.cons rfl (Kn.cons rfl (Kn.nil))))))) ?_
      first | refine awp_cond rfl (fun h1 => ?_) (fun h1 => ?_) | refine awp_seq (awp_cond rfl (fun h1 => ?_) (fun h1 => ?_))
      · have hp : chkE x = 0 := by simpa using h1
        rw [if_pos hp] at hq
        refine awp_region (fun Z hZ => ?_)
        refine sx_move rfl rfl ?_
        first | refine sx_loadA 0 rfl rfl tyA52 tyS52 (by first | (simp only [List.length_cons, List.length_nil, Nat.reduceAdd, Nat.zero_add, Nat.add_zero]; first | done | rfl) | rfl) (by first | (simp only [List.take_succ_cons, List.take_zero, List.drop_succ_cons, List.drop_zero, List.cons_append, List.nil_append, List.append_nil, List.length_cons, List.length_nil, Nat.reduceAdd, Nat.zero_add, Nat.add_zero, Value.cells, wrV]; first | done | rfl) | rfl) rfl ?_ | refine sx_loadA 1 rfl rfl tyA52 tyS52 (by first | (simp only [List.length_cons, List.length_nil, Nat.reduceAdd, Nat.zero_add, Nat.add_zero]; first | done | rfl) | rfl) (by first | (simp only [List.take_succ_cons, List.take_zero, List.drop_succ_cons, List.drop_zero, List.cons_append, List.nil_append, List.append_nil, List.length_cons, List.length_nil, Nat.reduceAdd, Nat.zero_add, Nat.add_zero, Value.cells, wrV]; first | done | rfl) | rfl) rfl ?_
        refine sx_callP (eend_fn x hxo) rfl rfl ?_
        refine sx_max rfl rfl ((max n x.next : Nat) : Int) (by omega) rfl ?_
        refine sx_assign rfl rfl ?_
        refine sx_nil (hZ _ _ ?_)
        refine nx_forget [(3, _), (6, _), (7, _), (8, _)] (Kn.cons rfl (Kn.cons rfl (Kn.cons rfl (Kn.cons rfl (Kn.nil))))) ?_
        repeat (with_reducible refine nx_block_normal ?_)
        exact nx_cut (max n x.next) ⟨by omega, hq⟩ (Kn.cons rfl (Kn.cons rfl (Kn.cons rfl (Kn.cons rfl Kn.nil)))) (HLe.drop 1 rfl)
      · have hp : chkE x ≠ 0 := by simpa using h1
        rw [if_neg hp] at hq
        refine awp_skip ?_
        repeat (with_reducible refine nx_block_normal ?_)
        exact nx_cut n ⟨hn, hq⟩ (Kn.cons rfl (Kn.cons rfl (Kn.cons rfl (Kn.cons rfl Kn.nil)))) (HLe.drop 1 rfl)
    · rintro m ⟨hm, hq2⟩
      refine awp_region (fun Z hZ => ?_)
      refine sx_add rfl rfl ((k + 1 : Nat) : Int) (by rw [IntWalk.i64_in _ (by omega)]; omega) rfl ?_
      refine sx_move rfl rfl ?_
      refine sx_nil (hZ _ _ ?_)
      refine nx_forget [(3, _), (6, _), (7, _), (8, _)] (Kn.cons rfl (Kn.cons rfl (Kn.cons rfl (Kn.cons rfl (Kn.nil))))) ?_
      exact nx_round (k + 1, m) ⟨by show k + 1 ≤ _; omega, hm, hq2⟩ (by simp; omega) (Kn.cons rfl (Kn.cons rfl (Kn.cons rfl (Kn.cons rfl Kn.nil)))) (HLe.refl _)
  · refine awp_exit ?_
    repeat (with_reducible (first | refine nx_then_exit ?_ | refine nx_block_other (by decide) ?_ | refine nx_scope_exit ?_))
    with_reducible refine nx_block_exit ?_
    repeat (with_reducible (first | refine nx_block_normal ?_ | refine nx_scope_normal ?_))
    with_reducible first | refine nx_normal ?_ | refine nx_normalM ?_
    have hke : k = L.length := by simp at h; omega
    subst hke
    rw [List.drop_length, endQ] at hq
    rw [← hq]
    refine awp_seq_region (fun Z hZ => ?_)
    refine sx_move rfl rfl ?_
    refine sx_assign rfl rfl ?_
    refine sx_nil (hZ _ _ ?_)
    refine awp_forget [(2, _)] (Kn.cons rfl (Kn.nil)) ?_
    refine awp_ret ?_
    repeat (with_reducible (first | refine nx_then_ret ?_ | refine nx_block_ret ?_ | refine nx_scope_ret ?_))
    exact nx_ret1 rfl rfl rfl
end Go.Proofs.Ytodclhiggafkbaa
