/- The walk of shelf's Keep. No conditions but of lengths. -/
import Derived.Test.YtjelakmndcecoaaSh3
namespace Go.Proofs.Ytjelakmndcecoaa
open Go.RowKit
set_option linter.unusedVariables false
set_option linter.unusedSimpArgs false
set_option maxRecDepth 100000
/-- The document's list behind Keep. -/
def keepX (most : Nat) (X : List Item) (k : Ky) (t : List UInt8) : List Item := if (decQ t).2.2 = 0 then rPutL most X k t else X
theorem rPutL_few {most : Nat} {X : List Item} {k : Ky} {t : List UInt8} (h : (rDrop X k).length < most) : rPutL most X k t = rDrop X k ++ [(k, t)] := by
  unfold rPutL
  rw [if_pos (by rw [List.length_append]; exact h)]
theorem rPutL_full {most : Nat} {X : List Item} {k : Ky} {t : List UInt8} (h : (rDrop X k).length = most) (h0 : 0 < most) : rPutL most X k t = (rDrop X k).tail ++ [(k, t)] := by
  unfold rPutL
  rw [if_neg (by rw [List.length_append, h]; show ¬ most + 1 ≤ most; omega)]
  cases hx : rDrop X k with
  | nil => rw [hx] at h; simp at h; omega
  | cons x r => rfl
theorem ShOk.xlen {most : Nat} {S : Sh} {X : List Item} {T : Heap} {L : List LI.Item} {tx : Nat → List UInt8} (h : ShOk most S X T L tx) : X.length = L.length := by
  rw [h.val, List.length_map]
theorem ShOk.first {most : Nat} {S : Sh} {X : List Item} {T : Heap} {x : LI.Item} {L : List LI.Item} {tx : Nat → List UInt8} (h : ShOk most S X T (x :: L) tx) : LI.rDrop (x :: L) x.1 = L ∧ rDrop X x.1 = X.tail := by
  have h1 : LI.rDrop (x :: L) x.1 = L := h.rep.drop (i := 0) (k := x.1) (v := x.2) rfl
  refine ⟨h1, ?_⟩
  rw [h.val, tx_drop, h1]
  rfl
theorem fresh_put {L : List LI.Item} {k : Ky} {n most : Nat} (hk : LI.hasK L k = false) (hl : L.length < most) : LI.rPutL most L k n = L ++ [(k, n)] := by
  unfold LI.rPutL
  rw [LI.drop_none hk, if_pos (by rw [List.length_append]; exact hl)]
theorem drop_has2 {L : List LI.Item} {k k2 : Ky} (h : LI.hasK L k = false) : LI.hasK (LI.rDrop L k2) k = false := by
  rw [Bool.eq_false_iff] at h ⊢
  intro h2
  obtain ⟨x, hx, he⟩ := List.any_eq_true.1 h2
  exact h (List.any_eq_true.2 ⟨x, (List.mem_filter.1 hx).1, he⟩)
theorem shkeep_fn (B : Bk) (most : Nat) (S : Sh) (X : List Item) (T : Heap) (k : Ky) (t : List UInt8) (hS : ShIs most S X T) (hm : most ≤ 64) (ht : t.length ≤ 1000000) (hb : S.nx ≤ 1000000) :
    Fn Try.prog 13 [ptr B.g 0, LI.encK k, .string (str t)] (shH B most S)
    fun v H' => ∃ v1 S' W T1, v = .tuple #[v1, iq (decQ t).2.2] ∧ RowOk v1 (decL t).length ∧ H' = rowE v1 65 4 (ecells (decL t)) ++ (W ++ shH B most S') ∧ Wrs W ∧ Ro T1 ∧ (∀ Y Z, HLe (Y ++ (T1 ++ Z)) (Y ++ (W ++ Z))) ∧
      ShIs most S' (keepX most X k t) (T1 ++ T) ∧ S'.nx ≤ S.nx + 1 ∧ S'.hi = S.hi ∧ S'.mi = S.mi := by
  obtain ⟨L, tx, hS⟩ := hS
  have hD := ddecode_fn t ht
  obtain ⟨d1, d2, d3, d4⟩ := decQ_ok t
  unfold keepX
  obtain ⟨D, hDl⟩ : ∃ D, decL t = D := ⟨_, rfl⟩
  obtain ⟨e, he⟩ : ∃ e, (decQ t).2.2 = e := ⟨_, rfl⟩
  obtain ⟨q, hq⟩ : ∃ q, (decQ t).2.1 = q := ⟨_, rfl⟩
  have hDl' : (decQ t).1 = D := hDl
  rw [hDl', hq, he] at hD
  rw [hDl'] at d1 d4
  rw [he] at d4
  rw [hDl, he]
  have hroS : ∀ S', (shH B most S').filter Ent.wr = shH B most S' := fun _ => rfl
  refine Fn.enter (N := 68) Try.func13 rfl (by kernel_rfl) rfl (fun w0 => ?_)

  refine awp_seq_region (fun Z hZ => ?_)
  refine sx_box rfl rfl rfl (fun g1 => ?_)
  refine sx_assign rfl rfl ?_
  refine sx_assign rfl rfl ?_
  refine sx_nil (hZ _ _ ?_)
  refine awp_forget [(0, _), (2, _), (4, _)] (Kn.cons rfl (Kn.cons rfl (Kn.cons rfl (Kn.nil)))) ?_
  refine awp_seq ?_
  refine awp_seq_region (fun Z hZ => ?_)
  refine sx_move rfl rfl ?_
  refine sx_ptrNil Try.underlying23 rfl rfl ?_
  refine sx_nil (hZ _ _ ?_)
  refine awp_forget [(0, _), (2, _), (4, _), (12, _)] (Kn.cons rfl (Kn.cons rfl (Kn.cons rfl (Kn.cons rfl (Kn.nil))))) ?_
  first | refine awp_cond rfl (fun h => ?_) (fun h => ?_) | refine awp_seq (awp_cond rfl (fun h => ?_) (fun h => ?_))
  · cases h
  refine awp_skip ?_
  repeat (with_reducible (first | refine nx_block_normal ?_ | refine nx_scope_normal ?_))
  with_reducible first | refine nx_normal ?_ | refine nx_normalM ?_
  refine awp_seq_region (fun Z hZ => ?_)
  refine sx_move rfl rfl ?_
  refine sx_callO [] (keyE g1 k :: shH B most S) hD rfl (HLe.refl _) rfl ?_
  rintro v H' ⟨u, rfl, hu, rfl⟩
  rw [rowE_flt]
  refine sx_heap (shH B most S ++ (keyE g1 k :: rowE u 65 4 (ecells D))) (fun _ _ _ hw => hw.perm (List.perm_append_comm.trans ((List.Perm.append_right _ (List.perm_append_comm (l₁ := [_]) (l₂ := [_, _, _, _])))))) ?_
  refine sx_move rfl rfl ?_
  refine sx_extract rfl rfl rfl ?_
  refine sx_extract rfl rfl rfl ?_
  refine sx_extract rfl rfl rfl ?_
  refine sx_assign rfl rfl ?_
  refine sx_assign rfl rfl ?_
  refine sx_assign rfl rfl ?_
  refine sx_nil (hZ _ _ ?_)
  refine awp_forget [(0, _), (4, _), (8, _), (10, _)] (Kn.cons rfl (Kn.cons rfl (Kn.cons rfl (Kn.cons rfl (Kn.nil))))) ?_

  refine awp_seq ?_
  refine awp_seq_region (fun Z hZ => ?_)
  refine sx_move rfl rfl ?_
  first | refine sx_neq rfl rfl rfl ?_ | refine sx_sneq rfl rfl rfl ?_
  refine sx_nil (hZ _ _ ?_)
  refine awp_forget [(0, _), (4, _), (8, _), (10, _), (20, _)] (Kn.cons rfl (Kn.cons rfl (Kn.cons rfl (Kn.cons rfl (Kn.cons rfl (Kn.nil)))))) ?_
  first | refine awp_cond rfl (fun h => ?_) (fun h => ?_) | refine awp_seq (awp_cond rfl (fun h => ?_) (fun h => ?_))
  · have he0 : e ≠ 0 := by simpa using h
    have hD0 := d4 he0
    subst hD0
    refine awp_seq_region (fun Z hZ => ?_)
    refine sx_move rfl rfl ?_
    refine sx_assign rfl rfl ?_
    refine sx_assign rfl rfl ?_
    refine sx_nil (hZ _ _ ?_)
    refine awp_forget [(6, _), (7, _)] (Kn.cons rfl (Kn.cons rfl (Kn.nil))) ?_
    refine awp_ret ?_
    repeat (with_reducible (first | refine nx_then_ret ?_ | refine nx_block_ret ?_ | refine nx_scope_ret ?_))
    exact nx_ret2h (shH B most S) rfl rfl rfl (HLe.sub (List.sublist_append_left [_, _, _, _] _)) ⟨_, S, [], [], rfl, RowOk.nil, rfl, Wrs.nil, Ro.nil, fun _ _ => HLe.refl _, by rw [if_neg he0]; exact hS.is, Nat.le_succ _, rfl, rfl⟩
  refine awp_skip ?_
  repeat (with_reducible (first | refine nx_block_normal ?_ | refine nx_scope_normal ?_))
  with_reducible first | refine nx_normal ?_ | refine nx_normalM ?_
  have he0 : e = 0 := by simpa using h
  subst he0
  rw [if_pos rfl]
  refine awp_seq ?_
  refine awp_seq_region (fun Z hZ => ?_)
  refine sx_move rfl rfl ?_
  refine sx_callA (shH B most S) [] _ (by rw [List.append_nil]; exact shmost_fn B most S) rfl (HLe.refl _) (List.nil_sublist _) Ro.nil rfl ?_
  rintro v H' ⟨rfl, rfl⟩
  refine sx_heap (shH B most S ++ (keyE g1 k :: rowE u 65 4 (ecells D))) (HLe.refl _) ?_
  first | refine sx_eql rfl rfl rfl ?_ | refine sx_seql rfl rfl rfl ?_
  refine sx_nil (hZ _ _ ?_)
  refine awp_forget [(0, _), (4, _), (8, _), (24, _)] (Kn.cons rfl (Kn.cons rfl (Kn.cons rfl (Kn.cons rfl (Kn.nil))))) ?_
  first | refine awp_cond rfl (fun h => ?_) (fun h => ?_) | refine awp_seq (awp_cond rfl (fun h => ?_) (fun h => ?_))
  · have h0 : most = 0 := by simpa using h
    subst h0
    have hX : X = [] := List.eq_nil_of_length_eq_zero (by rw [hS.xlen]; exact Nat.le_zero.1 hS.len)
    subst hX
    refine awp_seq_region (fun Z hZ => ?_)
    refine sx_move rfl rfl ?_
    refine sx_assign rfl rfl ?_
    refine sx_assign rfl rfl ?_
    refine sx_nil (hZ _ _ ?_)
    refine awp_forget [(6, _), (7, _)] (Kn.cons rfl (Kn.cons rfl (Kn.nil))) ?_
    refine awp_ret ?_
    repeat (with_reducible (first | refine nx_then_ret ?_ | refine nx_block_ret ?_ | refine nx_scope_ret ?_))
    refine nx_ret2h (rowE u 65 4 (ecells D) ++ shH B 0 S) rfl rfl rfl (fun _ _ _ hw => (hw.perm (List.perm_append_comm)).sub ?_) ⟨_, S, [], [], rfl, hu, rfl, Wrs.nil, Ro.nil, fun _ _ => HLe.refl _, hS.is, Nat.le_succ _, rfl, rfl⟩
    exact List.sublist_cons_self _ _
  refine awp_skip ?_
  repeat (with_reducible (first | refine nx_block_normal ?_ | refine nx_scope_normal ?_))
  with_reducible first | refine nx_normal ?_ | refine nx_normalM ?_
  have hm0 : 0 < most := by simp at h; omega
  refine awp_seq_region (fun Z hZ => ?_)
  refine sx_move rfl rfl ?_
  first | refine sx_loadA 0 rfl rfl tyA47 tyS47 (by first | (simp only [List.length_cons, List.length_nil, Nat.reduceAdd, Nat.zero_add, Nat.add_zero]; first | done | rfl) | rfl) (by first | (simp only [List.take_succ_cons, List.take_zero, List.drop_succ_cons, List.drop_zero, List.cons_append, List.nil_append, List.append_nil, List.length_cons, List.length_nil, Nat.reduceAdd, Nat.zero_add, Nat.add_zero, Value.cells, wrV]; first | done | rfl) | rfl) rfl ?_ | refine sx_loadA 1 rfl rfl tyA47 tyS47 (by first | (simp only [List.length_cons, List.length_nil, Nat.reduceAdd, Nat.zero_add, Nat.add_zero]; first | done | rfl) | rfl) (by first | (simp only [List.take_succ_cons, List.take_zero, List.drop_succ_cons, List.drop_zero, List.cons_append, List.nil_append, List.append_nil, List.length_cons, List.length_nil, Nat.reduceAdd, Nat.zero_add, Nat.add_zero, Value.cells, wrV]; first | done | rfl) | rfl) rfl ?_ | refine sx_loadA 2 rfl rfl tyA47 tyS47 (by first | (simp only [List.length_cons, List.length_nil, Nat.reduceAdd, Nat.zero_add, Nat.add_zero]; first | done | rfl) | rfl) (by first | (simp only [List.take_succ_cons, List.take_zero, List.drop_succ_cons, List.drop_zero, List.cons_append, List.nil_append, List.append_nil, List.length_cons, List.length_nil, Nat.reduceAdd, Nat.zero_add, Nat.add_zero, Value.cells, wrV]; first | done | rfl) | rfl) rfl ?_ | refine sx_loadA 3 rfl rfl tyA47 tyS47 (by first | (simp only [List.length_cons, List.length_nil, Nat.reduceAdd, Nat.zero_add, Nat.add_zero]; first | done | rfl) | rfl) (by first | (simp only [List.take_succ_cons, List.take_zero, List.drop_succ_cons, List.drop_zero, List.cons_append, List.nil_append, List.append_nil, List.length_cons, List.length_nil, Nat.reduceAdd, Nat.zero_add, Nat.add_zero, Value.cells, wrV]; first | done | rfl) | rfl) rfl ?_ | refine sx_loadA 4 rfl rfl tyA47 tyS47 (by first | (simp only [List.length_cons, List.length_nil, Nat.reduceAdd, Nat.zero_add, Nat.add_zero]; first | done | rfl) | rfl) (by first | (simp only [List.take_succ_cons, List.take_zero, List.drop_succ_cons, List.drop_zero, List.cons_append, List.nil_append, List.append_nil, List.length_cons, List.length_nil, Nat.reduceAdd, Nat.zero_add, Nat.add_zero, Value.cells, wrV]; first | done | rfl) | rfl) rfl ?_
  refine sx_callA (shH B most S) [] _ (by rw [List.append_nil]; exact shdrop_fn B most S X T L tx k hS) rfl (HLe.refl _) (List.nil_sublist _) Ro.nil rfl ?_
  rintro v H' ⟨S1, rfl, rfl, hS1, hn1, hh1, hi1⟩
  refine sx_heap (shH B most S1 ++ (keyE g1 k :: rowE u 65 4 (ecells D))) (HLe.refl _) ?_
  refine sx_nil (hZ _ _ ?_)
  refine awp_forget [(0, _), (4, _), (8, _)] (Kn.cons rfl (Kn.cons rfl (Kn.cons rfl (Kn.nil)))) ?_
  obtain ⟨L1, hL1⟩ : ∃ L1, LI.rDrop L k = L1 := ⟨_, rfl⟩
  have hno : LI.hasK L1 k = false := by rw [← hL1]; exact LI.drop_has L k
  rw [hL1] at hS1
  have hl1 := hS1.len
  have hx1 := hS1.xlen
  refine awp_cut (ι := Sh × List LI.Item) (fun s => [(0, ptr B.g 0), (4, ptr g1 0), (8, u)]) (fun s => shH B most s.1 ++ (keyE g1 k :: rowE u 65 4 (ecells D)))
    (fun s => ∃ X2, ShOk most s.1 X2 T s.2 tx ∧ LI.hasK s.2 k = false ∧ s.2.length < most ∧ X2 ++ [(k, t)] = rPutL most X k t ∧ s.1.nx = S.nx ∧ s.1.hi = S.hi ∧ s.1.mi = S.mi) ?_ ?_
  · skip
    refine awp_seq_region (fun Z hZ => ?_)
    refine sx_move rfl rfl ?_
    refine sx_callA (shH B most S1) [] _ (by rw [List.append_nil]; exact shlen_fn B most S1 L1 hS1.rep) rfl (HLe.refl _) (List.nil_sublist _) Ro.nil rfl ?_
    rintro v H' ⟨rfl, rfl⟩
    refine sx_heap (shH B most S1 ++ (keyE g1 k :: rowE u 65 4 (ecells D))) (HLe.refl _) ?_
    refine sx_move rfl rfl ?_
    refine sx_callA (shH B most S1) [] _ (by rw [List.append_nil]; exact shmost_fn B most S1) rfl (HLe.refl _) (List.nil_sublist _) Ro.nil rfl ?_
    rintro v H' ⟨rfl, rfl⟩
    refine sx_heap (shH B most S1 ++ (keyE g1 k :: rowE u 65 4 (ecells D))) (HLe.refl _) ?_
    first | refine sx_eql rfl rfl rfl ?_ | refine sx_seql rfl rfl rfl ?_
    refine sx_nil (hZ _ _ ?_)
    refine awp_forget [(0, _), (4, _), (8, _), (33, _)] (Kn.cons rfl (Kn.cons rfl (Kn.cons rfl (Kn.cons rfl (Kn.nil))))) ?_
    first | refine awp_cond rfl (fun h => ?_) (fun h => ?_) | refine awp_seq (awp_cond rfl (fun h => ?_) (fun h => ?_))
    · have hfull : L1.length = most := by simp at h; omega
      obtain ⟨x, L2, rfl⟩ : ∃ x L2, L1 = x :: L2 := by
        cases L1 with
        | nil => simp at hfull; omega
        | cons x L2 => exact ⟨x, L2, rfl⟩
      obtain ⟨f1, f2⟩ := hS1.first
      have hL1k : (x :: L2).length ≤ 1000 := by rw [hfull]; omega
      have hL2l : L2.length + 1 = most := hfull
      have hrd : rdV true 2 (LI.kcells (x :: L2)) 0 = some (.agg #[uq x.1.1, uq x.1.2]) := fm_rd (i := 0) LI.kcell_len rfl
      have hdr := shdrop_fn B most S1 _ T _ tx x.1 hS1
      refine awp_region (fun Z hZ => ?_)
      refine sx_move rfl rfl ?_
      refine sx_move rfl rfl ?_
      refine sx_callA (shH B most S1) [] _ (by rw [List.append_nil]; exact shkeys_fn B most S1 (x :: L2) hS1.rep hL1k) rfl (HLe.refl _) (List.nil_sublist _) Ro.nil rfl ?_
      rintro v H' ⟨hv, rfl⟩
      rw [List.filter_append, clipE_wr, List.append_assoc]
      obtain ⟨gk, ck, rfl⟩ := hv.some (by simp)
      refine sx_heap (.ro gk 0 (LI.kcells (x :: L2)) :: (shH B most S1 ++ (keyE g1 k :: rowE u 65 4 (ecells D)))) (clip_ro _) ?_
      refine sx_indexAddr 0 Try.underlying42 tyS47 rfl rfl (by simp) rfl rfl ?_
      refine sx_loadRo 0 rfl rfl 0 rfl tyA47 tyS47 hrd rfl ?_
      refine sx_callA (shH B most S1) [] (keyE g1 k :: rowE u 65 4 (ecells D)) (by rw [List.append_nil]; exact hdr) rfl (HLe.sub (List.sublist_cons_self _ _)) (List.nil_sublist _) Ro.nil rfl ?_
      rintro v H' ⟨S2, rfl, rfl, hS2, hn2, hh2, hi2⟩
      refine sx_nil (hZ _ _ ?_)
      refine nx_forget [(0, _), (4, _), (8, _)] (Kn.cons rfl (Kn.cons rfl (Kn.cons rfl (Kn.nil)))) ?_
      rw [f1, f2] at hS2
      refine nx_cut (S2, L2) ⟨_, hS2, ?_, by show L2.length < most; omega, ?_, hn2.trans hn1, hh2.trans hh1, hi2.trans hi1⟩ (Kn.cons rfl (Kn.cons rfl (Kn.cons rfl Kn.nil))) (HLe.refl _)
      · rw [← f1]; exact drop_has2 hno
      · rw [rPutL_full (by rw [hx1]; exact hfull) hm0]
    · have hlt : L1.length < most := by simp at h; omega
      refine awp_skip ?_
      exact nx_cut (S1, L1) ⟨_, hS1, hno, hlt, by rw [rPutL_few (by rw [hx1]; exact hlt)], hn1, hh1, hi1⟩ (Kn.cons rfl (Kn.cons rfl (Kn.cons rfl Kn.nil))) (HLe.refl _)
  rintro ⟨S2, L2⟩ ⟨X2, hS2, hno2, hlt, hX2, hn2, hh2, hi2⟩
  simp only at hS2 hno2 hlt hn2 hh2 hi2 ⊢
  obtain ⟨Au, cu, rfl, hAu, hleu⟩ := hu.ro

  refine awp_seq_region (fun Z hZ => ?_)
  refine sx_move rfl rfl ?_
  refine sx_nilCheck rfl rfl ?_
  refine sx_fieldAddr rfl tyF60_2 (by first | (simp only [Nat.reduceAdd, Nat.add_zero, Nat.zero_add]; first | done | rfl) | rfl) rfl ?_
  first | refine sx_load 0 rfl rfl tyA3 tyS3 rfl rfl ?_ | refine sx_load 1 rfl rfl tyA3 tyS3 rfl rfl ?_ | refine sx_load 2 rfl rfl tyA3 tyS3 rfl rfl ?_ | refine sx_load 3 rfl rfl tyA3 tyS3 rfl rfl ?_ | refine sx_load 4 rfl rfl tyA3 tyS3 rfl rfl ?_
  refine sx_add rfl rfl ((S2.nx + 1 : Nat) : Int) (by rw [IntWalk.i64_in _ (by omega)]; omega) rfl ?_
  refine sx_nilCheck rfl rfl ?_
  refine sx_fieldAddr rfl tyF60_2 (by first | (simp only [Nat.reduceAdd, Nat.add_zero, Nat.zero_add]; first | done | rfl) | rfl) rfl ?_
  first | refine sx_store1 0 rfl rfl rfl tyS3 rfl (by first | (simp only [List.length_cons, List.length_nil, Nat.reduceAdd, Nat.zero_add, Nat.add_zero]; first | done | rfl) | rfl) (by first | (simp only [List.set_cons_succ, List.set_cons_zero, Nat.reduceAdd, Nat.add_zero, Nat.zero_add]; first | done | rfl) | rfl) (by first | (simp only [List.set_cons_succ, List.set_cons_zero]; first | done | rfl) | rfl) ?_ | refine sx_store1 1 rfl rfl rfl tyS3 rfl (by first | (simp only [List.length_cons, List.length_nil, Nat.reduceAdd, Nat.zero_add, Nat.add_zero]; first | done | rfl) | rfl) (by first | (simp only [List.set_cons_succ, List.set_cons_zero, Nat.reduceAdd, Nat.add_zero, Nat.zero_add]; first | done | rfl) | rfl) (by first | (simp only [List.set_cons_succ, List.set_cons_zero]; first | done | rfl) | rfl) ?_ | refine sx_store1 2 rfl rfl rfl tyS3 rfl (by first | (simp only [List.length_cons, List.length_nil, Nat.reduceAdd, Nat.zero_add, Nat.add_zero]; first | done | rfl) | rfl) (by first | (simp only [List.set_cons_succ, List.set_cons_zero, Nat.reduceAdd, Nat.add_zero, Nat.zero_add]; first | done | rfl) | rfl) (by first | (simp only [List.set_cons_succ, List.set_cons_zero]; first | done | rfl) | rfl) ?_ | refine sx_store1 3 rfl rfl rfl tyS3 rfl (by first | (simp only [List.length_cons, List.length_nil, Nat.reduceAdd, Nat.zero_add, Nat.add_zero]; first | done | rfl) | rfl) (by first | (simp only [List.set_cons_succ, List.set_cons_zero, Nat.reduceAdd, Nat.add_zero, Nat.zero_add]; first | done | rfl) | rfl) (by first | (simp only [List.set_cons_succ, List.set_cons_zero]; first | done | rfl) | rfl) ?_ | refine sx_store1 4 rfl rfl rfl tyS3 rfl (by first | (simp only [List.length_cons, List.length_nil, Nat.reduceAdd, Nat.zero_add, Nat.add_zero]; first | done | rfl) | rfl) (by first | (simp only [List.set_cons_succ, List.set_cons_zero, Nat.reduceAdd, Nat.add_zero, Nat.zero_add]; first | done | rfl) | rfl) (by first | (simp only [List.set_cons_succ, List.set_cons_zero]; first | done | rfl) | rfl) ?_
  refine sx_nil (hZ _ _ ?_)
  refine awp_forget [(0, _), (4, _), (8, _)] (Kn.cons rfl (Kn.cons rfl (Kn.cons rfl (Kn.nil)))) ?_
  have hcl := clone_fn Au cu D (roE Au (ecells D)) hAu.arg (fun _ => rfl) hAu.nil (Ro.roE _ _) (by omega)
  refine aww_seq_region _ [(0, true), (1, true), (2, true), (3, true), (4, true), (5, true), (6, true), (7, true), (8, true), (9, false), (10, false)] mixed (by kernel_rfl) (HLe.pick [0] (by simp) (by simp only [pick, List.filterMap_cons, List.filterMap_nil, List.getElem?_cons_succ, List.getElem?_cons_zero]; rfl)) (fun Z hZ => ?_)
  refine tw_p rfl ?_
  refine sv_move rfl rfl ?_
  refine sv_nil ?_
  refine tw_p rfl ?_
  refine sv_nilCheck rfl rfl ?_
  refine sv_nil ?_
  refine tw_p rfl ?_
  refine sv_fieldAddr rfl tyF60_1 (by first | (simp only [Nat.reduceAdd, Nat.add_zero, Nat.zero_add]; first | done | rfl) | rfl) rfl ?_
  refine sv_nil ?_
  refine tw_p rfl ?_
  first | refine sv_load 0 rfl rfl tyA58 tyS58 rfl rfl ?_
  refine sv_nil ?_
  refine tw_p rfl ?_
  refine sv_move rfl rfl ?_
  refine sv_nil ?_
  refine tw_p rfl ?_
  refine sv_nilCheck rfl rfl ?_
  refine sv_nil ?_
  refine tw_p rfl ?_
  refine sv_fieldAddr rfl tyF60_2 (by first | (simp only [Nat.reduceAdd, Nat.add_zero, Nat.zero_add]; first | done | rfl) | rfl) rfl ?_
  refine sv_nil ?_
  refine tw_p rfl ?_
  first | refine sv_load 0 rfl rfl tyA3 tyS3 rfl rfl ?_
  refine sv_nil ?_
  refine tw_p rfl ?_
  refine sv_move rfl rfl ?_
  refine sv_nil ?_
  refine tw_g rfl ?_
  refine sx_callVU (roE Au (ecells D)) hcl rfl (row_view hleu (_ :: _ :: _ :: _ :: _ :: []) 65 4 _) (Ro.roE _ _) rfl ?_
  rintro v H' ⟨hv, rfl⟩
  rw [rowE_flt]
  obtain ⟨A2, c2, rfl, hA2, hle2⟩ := hv.ro
  refine sx_heap (_ :: _ :: _ :: _ :: _ :: (rowE (.slice Au D.length cu) 65 4 (ecells D) ++ rowE (.slice A2 D.length c2) 65 4 (ecells D))) (HLe.swap _ _) ?_
  refine sx_nil ⟨HLe.pick [0] (by simp) rfl, ?_⟩
  refine tw_g rfl ?_
  refine sx_mapUpdateW 1 keyI Try.underlying58 (S2.nx + 1) ⟨A2, c2, D⟩ rfl rfl rfl rfl rfl ?_
  refine sx_nil ⟨HLe.pick [0] (by simp) rfl, ?_⟩
  refine tw_nil (hZ _ _ ?_)
  refine awp_forget [(0, _), (4, _), (8, _)] (Kn.cons rfl (Kn.cons rfl (Kn.cons rfl (Kn.nil)))) ?_
  have hput := LI.put_fn B.cg B.cb most S2.s L2 k (S2.nx + 1) hS2.rep hS2.len hm
  rw [fresh_put hno2 hlt] at hput
  refine aww_seq_region _ [(0, true), (1, true), (2, true), (3, true), (4, true), (5, true), (6, true), (7, true), (8, true), (9, false)] mixed (by kernel_rfl) (HLe.pick [0, 4] (by simp) (by simp only [pick, List.filterMap_cons, List.filterMap_nil, List.getElem?_cons_succ, List.getElem?_cons_zero]; rfl)) (fun Z hZ => ?_)
  refine tw_p rfl ?_
  refine sv_move rfl rfl ?_
  refine sv_nil ?_
  refine tw_p rfl ?_
  refine sv_nilCheck rfl rfl ?_
  refine sv_nil ?_
  refine tw_p rfl ?_
  refine sv_fieldAddr rfl tyF60_0 (by first | (simp only [Nat.reduceAdd, Nat.add_zero, Nat.zero_add]; first | done | rfl) | rfl) rfl ?_
  refine sv_nil ?_
  refine tw_p rfl ?_
  first | refine sv_load 0 rfl rfl tyA55 tyS55 rfl rfl ?_ | refine sv_load 1 rfl rfl tyA55 tyS55 rfl rfl ?_
  refine sv_nil ?_
  refine tw_p rfl ?_
  first | refine sv_loadA 0 rfl rfl tyA47 tyS47 (by first | (simp only [List.length_cons, List.length_nil, Nat.reduceAdd, Nat.zero_add, Nat.add_zero]; first | done | rfl) | rfl) (by first | (simp only [List.take_succ_cons, List.take_zero, List.drop_succ_cons, List.drop_zero, List.cons_append, List.nil_append, List.append_nil, List.length_cons, List.length_nil, Nat.reduceAdd, Nat.zero_add, Nat.add_zero, Value.cells, wrV]; first | done | rfl) | rfl) rfl ?_ | refine sv_loadA 1 rfl rfl tyA47 tyS47 (by first | (simp only [List.length_cons, List.length_nil, Nat.reduceAdd, Nat.zero_add, Nat.add_zero]; first | done | rfl) | rfl) (by first | (simp only [List.take_succ_cons, List.take_zero, List.drop_succ_cons, List.drop_zero, List.cons_append, List.nil_append, List.append_nil, List.length_cons, List.length_nil, Nat.reduceAdd, Nat.zero_add, Nat.add_zero, Value.cells, wrV]; first | done | rfl) | rfl) rfl ?_
  refine sv_nil ?_
  refine tw_p rfl ?_
  refine sv_move rfl rfl ?_
  refine sv_nil ?_
  refine tw_p rfl ?_
  refine sv_nilCheck rfl rfl ?_
  refine sv_nil ?_
  refine tw_p rfl ?_
  refine sv_fieldAddr rfl tyF60_2 (by first | (simp only [Nat.reduceAdd, Nat.add_zero, Nat.zero_add]; first | done | rfl) | rfl) rfl ?_
  refine sv_nil ?_
  refine tw_p rfl ?_
  first | refine sv_load 0 rfl rfl tyA3 tyS3 rfl rfl ?_ | refine sv_load 1 rfl rfl tyA3 tyS3 rfl rfl ?_
  refine sv_nil ?_
  refine tw_g rfl ?_
  refine sx_callA (LI.cacheH B.cg B.cb most S2.s) [] ([_, _] ++ (_ :: (rowE (.slice Au D.length cu) 65 4 (ecells D) ++ rowE (.slice A2 D.length c2) 65 4 (ecells D)))) (by rw [List.append_nil]; exact hput) rfl (HLe.comm3 [_, _] (LI.cacheH B.cg B.cb most S2.s) (_ :: _)) (List.nil_sublist _) Ro.nil rfl ?_
  rintro v H' ⟨s3, rfl, hR3, rfl⟩
  refine sx_heap ([_, _] ++ (LI.cacheH B.cg B.cb most s3 ++ (_ :: (rowE (.slice Au D.length cu) 65 4 (ecells D) ++ rowE (.slice A2 D.length c2) 65 4 (ecells D))))) (HLe.comm3 (LI.cacheH B.cg B.cb most s3) [_, _] (_ :: _)) ?_
  refine sx_nil ⟨HLe.pick [0, 4] (by simp) rfl, ?_⟩
  refine tw_nil (hZ _ _ ?_)
  refine awp_forget [(8, _)] (Kn.cons rfl (Kn.nil)) ?_
  refine awp_seq_region (fun Z hZ => ?_)
  refine sx_move rfl rfl ?_
  refine sx_assign rfl rfl ?_
  refine sx_assign rfl rfl ?_
  refine sx_nil (hZ _ _ ?_)
  refine awp_forget [(6, _), (7, _)] (Kn.cons rfl (Kn.cons rfl (Kn.nil))) ?_
  refine awp_ret ?_
  repeat (with_reducible (first | refine nx_then_ret ?_ | refine nx_block_ret ?_ | refine nx_scope_ret ?_))
  have hfin := hS2.put (k := k) (t := t) hlt hR3 (r := ⟨A2, c2, D⟩) (T' := roE A2 (ecells D) ++ T) ⟨hA2, List.sublist_append_left _ _⟩ hDl.symm (fun x hx => hx.more _) d1
  rw [hX2] at hfin
  refine nx_ret2h (rowE (.slice Au D.length cu) 65 4 (ecells D) ++ (rowE (.slice A2 D.length c2) 65 4 (ecells D) ++ shH B most { S2 with s := s3, M := aput S2.M (S2.nx + 1) ⟨A2, c2, D⟩, nx := S2.nx + 1 })) rfl rfl rfl ?_ ⟨_, _, rowE (.slice A2 D.length c2) 65 4 (ecells D), roE A2 (ecells D), rfl, hu, rfl, ?_, Ro.roE _ _, fun Y Z => hle2 Y Z _ _ _, hfin, by show S2.nx + 1 ≤ _; omega, hh2, hi2⟩
  · rw [← List.append_assoc]
    exact fun _ _ _ hw => (hw.perm (List.perm_append_comm (l₁ := [_, _, _, _]))).sub (List.Sublist.cons _ (List.Sublist.refl _))
  · exact rowE_wrs _ _ _ _
end Go.Proofs.Ytjelakmndcecoaa
