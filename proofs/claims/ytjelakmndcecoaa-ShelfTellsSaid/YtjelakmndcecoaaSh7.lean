/- The walks of the document's shelf: Keep, Look, Keys. No conditions but of lengths. -/
import Derived.Test.YtjelakmndcecoaaSh6
namespace Go.Proofs.Ytjelakmndcecoaa
open Go.RowKit
set_option linter.unusedVariables false
set_option linter.unusedSimpArgs false
set_option maxRecDepth 100000
/-- The document's items behind a call: where they stand, and what is new. -/
structure FreshT (A A' : Option Addr) (X X' : List Item) (W T1 : Heap) : Prop where
  wrs : Wrs W
  turn : Turn W T1
  sub : (roE A' (tcells X')).Sublist (T1 ++ roE A (tcells X))
  ok : SlOk A' X'.length
theorem FreshT.same {A : Option Addr} {X : List Item} (h : SlOk A X.length) : FreshT A A X X [] [] := ⟨Wrs.nil, Turn.nil, List.Sublist.refl _, h⟩
theorem HLe.readRo {g o : Nat} {xs : List Value} (Y Z : Heap) : HLe (Y ++ ([.ro g o xs] ++ Z)) (Y ++ ([.ob g (ReadP o xs)] ++ Z)) := fun w0 Wr w h => by
  have h2 := read_ro (Y ++ Z) w0 Wr w (h.perm List.perm_middle)
  exact h2.perm List.perm_middle.symm
theorem FreshT.made {A : Option Addr} {X X' : List Item} (g o : Nat) : FreshT A (some ⟨g, o, none⟩) X X' [.ob g (ReadP o (tcells X'))] [.ro g o (tcells X')] :=
  ⟨Wrs.cons rfl Wrs.nil, ⟨Ro.roE (some ⟨g, o, none⟩) (tcells X'), fun Y Z => HLe.readRo Y Z⟩, List.sublist_append_left (roE (some ⟨g, o, none⟩) (tcells X')) _, .inr ⟨g, o, rfl⟩⟩
/-- The document's shelf as a value. -/
abbrev rsV (most : Nat) (A : Option Addr) (n c hi mi : Nat) : List Value := [iq most, .slice A n c, iq hi, iq mi]
theorem elemKeyR : ElemOk Try.prog 74 37 2 16 := ElemOk.mk_ (z := .agg #[.int .u64 0, .int .u64 0]) Try.underlying74 (by kernel_rfl) rfl (by omega)
theorem rskeep_fn (A : Option Addr) (c most hi mi : Nat) (X : List Item) (k : Ky) (t : List UInt8) (hA : SlOk A X.length) (hX : X.length ≤ 100000) (ht : t.length ≤ 1000000) :
    Fn Try.prog 23 [.agg (rsV most A X.length c hi mi).toArray, encK k, .string (str t)] (roE A (tcells X))
    fun v H' => ∃ A' c' u W T1, v = .tuple #[.agg (rsV most A' (keepX most X k t).length c' hi mi).toArray, u, iq (decQ t).2.2] ∧ RowOk u (decL t).length ∧ H' = rowE u 98 4 (ecells (decL t)) ++ W ∧ FreshT A A' X (keepX most X k t) W T1 := by
  have hD := rdecode_fn t ht
  obtain ⟨d1, d2, d3, d4⟩ := decQ_ok t
  unfold keepX
  obtain ⟨D, hDl⟩ : ∃ D, decL t = D := ⟨_, rfl⟩
  obtain ⟨e, he⟩ : ∃ e, (decQ t).2.2 = e := ⟨_, rfl⟩
  obtain ⟨q, hq⟩ : ∃ q, (decQ t).2.1 = q := ⟨_, rfl⟩
  have hDl' : (decQ t).1 = D := hDl
  rw [hDl', hq, he] at hD
  rw [hDl'] at d1 d4
  rw [he] at d4
  rw [hDl, he]
  refine Fn.enter (N := 36) Try.func23 rfl (by kernel_rfl) rfl (fun w0 => ?_)

  refine awp_seq_region (fun Z hZ => ?_)
  refine sx_box rfl rfl rfl (fun g1 => ?_)
  refine sx_box rfl rfl rfl (fun g2 => ?_)
  refine sx_alloc tyZ32 rfl (fun g3 => ?_)
  refine sx_assign rfl rfl ?_
  refine sx_assign rfl rfl ?_
  refine sx_nil (hZ _ _ ?_)
  refine awp_forget [(2, _), (3, _), (4, _), (6, _)] (Kn.cons rfl (Kn.cons rfl (Kn.cons rfl (Kn.cons rfl (Kn.nil))))) ?_
  refine awp_seq_region (fun Z hZ => ?_)
  refine sx_move rfl rfl ?_
  refine sx_callO [] (_ :: _ :: _ :: roE A (tcells X)) hD rfl (HLe.refl _) rfl ?_
  rintro v H' ⟨u, rfl, hu, rfl⟩
  rw [rowE_flt]
  refine sx_heap (_ :: _ :: _ :: (roE A (tcells X) ++ rowE u 98 4 (ecells D))) (HLe.swap _ (_ :: _ :: _ :: roE A (tcells X))) ?_
  refine sx_move rfl rfl ?_
  refine sx_extract rfl rfl rfl ?_
  refine sx_extract rfl rfl rfl ?_
  refine sx_extract rfl rfl rfl ?_
  refine sx_assign rfl rfl ?_
  refine sx_assign rfl rfl ?_
  refine sx_assign rfl rfl ?_
  refine sx_nil (hZ _ _ ?_)
  refine awp_forget [(2, _), (3, _), (4, _), (6, _), (9, _), (11, _)] (Kn.cons rfl (Kn.cons rfl (Kn.cons rfl (Kn.cons rfl (Kn.cons rfl (Kn.cons rfl (Kn.nil))))))) ?_

  refine awp_seq ?_
  refine awp_seq_region (fun Z hZ => ?_)
  refine sx_move rfl rfl ?_
  refine sx_neq rfl rfl rfl ?_
  refine sx_nil (hZ _ _ ?_)
  refine awp_forget [(2, _), (3, _), (4, _), (6, _), (9, _), (11, _), (19, _)] (Kn.cons rfl (Kn.cons rfl (Kn.cons rfl (Kn.cons rfl (Kn.cons rfl (Kn.cons rfl (Kn.cons rfl (Kn.nil)))))))) ?_
  refine awp_cond rfl (fun h => ?_) (fun h => ?_)
  · have he0 : e ≠ 0 := by simpa using h
    have hD0 := d4 he0
    subst hD0
    rw [if_neg he0]
    refine awp_seq_region (fun Z hZ => ?_)
    refine sx_loadA 2 rfl rfl tyA32 tyS32 (by first | (simp only [List.length_cons, List.length_nil, Nat.reduceAdd, Nat.zero_add, Nat.add_zero]; first | done | rfl) | rfl) (by first | (simp only [List.take_succ_cons, List.take_zero, List.drop_succ_cons, List.drop_zero, List.cons_append, List.nil_append, List.append_nil, List.length_cons, List.length_nil, Nat.reduceAdd, Nat.zero_add, Nat.add_zero, Value.cells, wrV]; first | done | rfl) | rfl) rfl ?_
    refine sx_move rfl rfl ?_
    refine sx_store 0 rfl rfl rfl tyS32 (by first | (simp only [Value.cells]; first | done | rfl) | rfl) rfl rfl (by first | (simp only [List.length_cons, List.length_nil, Nat.reduceAdd, Nat.zero_add, Nat.add_zero]; first | done | rfl) | rfl) (by first | (simp only [List.take_succ_cons, List.take_zero, List.drop_succ_cons, List.drop_zero, List.cons_append, List.nil_append, List.append_nil, List.length_cons, List.length_nil, Nat.reduceAdd, Nat.zero_add, Nat.add_zero, Value.cells, wrV]; first | done | rfl) | rfl) (by first | (simp only [List.set_cons_succ, List.set_cons_zero]; first | done | rfl) | rfl) ?_
    refine sx_assign rfl rfl ?_
    refine sx_assign rfl rfl ?_
    refine sx_nil (hZ _ _ ?_)
    refine awp_forget [(6, _), (7, _), (8, _)] (Kn.cons rfl (Kn.cons rfl (Kn.cons rfl (Kn.nil)))) ?_
    refine awp_ret ?_
    repeat (with_reducible refine nx_then_ret ?_)
    exact nx_ret3h [] rfl (ResOk.cell 0 rfl rfl tyA32 tyS32 rfl) rfl rfl (HLe.sub (List.nil_sublist _)) ⟨A, c, _, [], [], rfl, RowOk.nil, rfl, FreshT.same hA⟩
  refine awp_skip ?_
  with_reducible refine nx_normal ?_
  have he0 : e = 0 := by simpa using h
  subst he0
  rw [if_pos rfl]
  refine awp_seq_region (fun Z hZ => ?_)
  refine sx_fieldAddr rfl tyF32_1 (by first | (simp only [Nat.reduceAdd, Nat.add_zero, Nat.zero_add]; first | done | rfl) | rfl) rfl ?_
  refine sx_load 2 rfl rfl tyA30 tyS30 rfl rfl ?_
  refine sx_fieldAddr rfl tyF32_0 (by first | (simp only [Nat.reduceAdd, Nat.add_zero, Nat.zero_add]; first | done | rfl) | rfl) rfl ?_
  refine sx_load 2 rfl rfl tyA3 tyS3 rfl rfl ?_
  refine sx_loadA 1 rfl rfl tyA37 tyS37 (by first | (simp only [List.length_cons, List.length_nil, Nat.reduceAdd, Nat.zero_add, Nat.add_zero]; first | done | rfl) | rfl) (by first | (simp only [List.take_succ_cons, List.take_zero, List.drop_succ_cons, List.drop_zero, List.cons_append, List.nil_append, List.append_nil, List.length_cons, List.length_nil, Nat.reduceAdd, Nat.zero_add, Nat.add_zero, Value.cells, wrV]; first | done | rfl) | rfl) rfl ?_
  refine sx_move rfl rfl ?_
  refine sx_callVU (roE A (tcells X)) (lrput_fn A c most X k t hA hX) rfl (HLe.sub ((List.sublist_append_left (roE A (tcells X)) _).trans (List.sublist_append_right [_, _, _] _))) (Ro.roE _ _) rfl ?_
  rintro v H' ⟨g', o', c', rfl, rfl⟩
  refine sx_heap (_ :: _ :: _ :: ((roE A (tcells X) ++ rowE u 98 4 (ecells D)) ++ [.ob g' (ReadP o' (tcells (rPutL most X k t)))])) (HLe.swap _ (_ :: _ :: _ :: (roE A (tcells X) ++ rowE u 98 4 (ecells D)))) ?_
  refine sx_move rfl rfl ?_
  refine sx_extract rfl rfl rfl ?_
  refine sx_extract rfl rfl rfl ?_
  refine sx_extract rfl rfl rfl ?_
  refine sx_fieldAddr rfl tyF32_1 (by first | (simp only [Nat.reduceAdd, Nat.add_zero, Nat.zero_add]; first | done | rfl) | rfl) rfl ?_
  refine sx_store1 2 rfl rfl rfl tyS30 rfl (by first | (simp only [List.length_cons, List.length_nil, Nat.reduceAdd, Nat.zero_add, Nat.add_zero]; first | done | rfl) | rfl) (by first | (simp only [List.set_cons_succ, List.set_cons_zero, Nat.reduceAdd, Nat.add_zero, Nat.zero_add]; first | done | rfl) | rfl) (by first | (simp only [List.set_cons_succ, List.set_cons_zero]; first | done | rfl) | rfl) ?_
  refine sx_nil (hZ _ _ ?_)
  refine awp_forget [(3, _), (6, _), (9, _)] (Kn.cons rfl (Kn.cons rfl (Kn.cons rfl (Kn.nil)))) ?_

  refine awp_seq_region (fun Z hZ => ?_)
  refine sx_loadA 2 rfl rfl tyA32 tyS32 (by first | (simp only [List.length_cons, List.length_nil, Nat.reduceAdd, Nat.zero_add, Nat.add_zero]; first | done | rfl) | rfl) (by first | (simp only [List.take_succ_cons, List.take_zero, List.drop_succ_cons, List.drop_zero, List.cons_append, List.nil_append, List.append_nil, List.length_cons, List.length_nil, Nat.reduceAdd, Nat.zero_add, Nat.add_zero, Value.cells, wrV]; first | done | rfl) | rfl) rfl ?_
  refine sx_move rfl rfl ?_
  refine sx_store 0 rfl rfl rfl tyS32 (by first | (simp only [Value.cells]; first | done | rfl) | rfl) rfl rfl (by first | (simp only [List.length_cons, List.length_nil, Nat.reduceAdd, Nat.zero_add, Nat.add_zero]; first | done | rfl) | rfl) (by first | (simp only [List.take_succ_cons, List.take_zero, List.drop_succ_cons, List.drop_zero, List.cons_append, List.nil_append, List.append_nil, List.length_cons, List.length_nil, Nat.reduceAdd, Nat.zero_add, Nat.add_zero, Value.cells, wrV]; first | done | rfl) | rfl) (by first | (simp only [List.set_cons_succ, List.set_cons_zero]; first | done | rfl) | rfl) ?_
  refine sx_assign rfl rfl ?_
  refine sx_assign rfl rfl ?_
  refine sx_nil (hZ _ _ ?_)
  refine awp_forget [(6, _), (7, _), (8, _)] (Kn.cons rfl (Kn.cons rfl (Kn.cons rfl (Kn.nil)))) ?_
  refine awp_ret ?_
  refine nx_ret3h (rowE u 98 4 (ecells D) ++ [.ob g' (ReadP o' (tcells (rPutL most X k t)))]) rfl (ResOk.cell 0 rfl rfl tyA32 tyS32 rfl) rfl rfl ?_ ⟨some ⟨g', o', none⟩, c', u, _, _, rfl, hu, rfl, FreshT.made g' o'⟩
  exact HLe.sub (.cons _ (.cons _ (.cons _ (List.Sublist.append_right (List.sublist_append_right _ _) _))))
theorem rslook_fn (A : Option Addr) (c most hi mi : Nat) (X : List Item) (k : Ky) (hA : SlOk A X.length) (hX : X.length ≤ 100000) (ht : (valK X k).length ≤ 1000000) (hb : hi ≤ 1000000 ∧ mi ≤ 1000000) :
    Fn Try.prog 26 [.agg (rsV most A X.length c hi mi).toArray, encK k] (roE A (tcells X))
    fun v H' => ∃ A' c' u W T1, v = .tuple #[.agg (rsV most A' (rGetL X k).length c' (if hasK X k then hi + 1 else hi) (if hasK X k then mi else mi + 1)).toArray, u, .bool (hasK X k)] ∧ RowOk u (lookL X k).length ∧ H' = rowE u 98 4 (ecells (lookL X k)) ++ W ∧ FreshT A A' X (rGetL X k) W T1 := by
  have hD := rdecode_fn (valK X k) ht
  have hG := lrget_fn A c X k hA hX
  unfold lookL
  obtain ⟨D, hDl⟩ : ∃ D, decL (valK X k) = D := ⟨_, rfl⟩
  obtain ⟨e, he⟩ : ∃ e, (decQ (valK X k)).2.2 = e := ⟨_, rfl⟩
  obtain ⟨q, hq⟩ : ∃ q, (decQ (valK X k)).2.1 = q := ⟨_, rfl⟩
  have hDl' : (decQ (valK X k)).1 = D := hDl
  rw [hDl', hq, he] at hD
  rw [hDl]
  obtain ⟨x, hx⟩ : ∃ x, hasK X k = x := ⟨_, rfl⟩
  rw [hx] at hG ⊢
  refine Fn.enter (N := 42) Try.func26 rfl (by kernel_rfl) rfl (fun w0 => ?_)

  refine awp_seq_region (fun Z hZ => ?_)
  refine sx_box rfl rfl rfl (fun g1 => ?_)
  refine sx_box rfl rfl rfl (fun g2 => ?_)
  refine sx_alloc tyZ32 rfl (fun g3 => ?_)
  refine sx_assign rfl rfl ?_
  refine sx_assign rfl rfl ?_
  refine sx_nil (hZ _ _ ?_)
  refine awp_forget [(2, _), (3, _), (4, _)] (Kn.cons rfl (Kn.cons rfl (Kn.cons rfl (Kn.nil)))) ?_
  refine awp_seq_region (fun Z hZ => ?_)
  refine sx_fieldAddr rfl tyF32_1 (by first | (simp only [Nat.reduceAdd, Nat.add_zero, Nat.zero_add]; first | done | rfl) | rfl) rfl ?_
  refine sx_load 2 rfl rfl tyA30 tyS30 rfl rfl ?_
  refine sx_loadA 1 rfl rfl tyA37 tyS37 (by first | (simp only [List.length_cons, List.length_nil, Nat.reduceAdd, Nat.zero_add, Nat.add_zero]; first | done | rfl) | rfl) (by first | (simp only [List.take_succ_cons, List.take_zero, List.drop_succ_cons, List.drop_zero, List.cons_append, List.nil_append, List.append_nil, List.length_cons, List.length_nil, Nat.reduceAdd, Nat.zero_add, Nat.add_zero, Value.cells, wrV]; first | done | rfl) | rfl) rfl ?_
  refine sx_callVU (roE A (tcells X)) hG rfl (HLe.sub (List.sublist_append_right [_, _, _] _)) (Ro.roE _ _) rfl ?_
  rintro v H' ⟨A', c', rfl, hor⟩
  obtain ⟨W, T1, hW, hF⟩ : ∃ W T1, H'.filter Ent.wr = W ∧ FreshT A A' X (rGetL X k) W T1 := (by rcases hor with ⟨h1, rfl, rfl⟩ | ⟨g', o', rfl, rfl⟩; (exact ⟨_, _, rfl, by (rw [show rGetL X k = X from by unfold rGetL; rw [hx, h1]; rfl]); exact FreshT.same hA⟩); exact ⟨_, _, rfl, FreshT.made g' o'⟩)
  rw [hW]
  refine sx_heap (_ :: _ :: _ :: (roE A (tcells X) ++ W)) (HLe.swap _ (_ :: _ :: _ :: roE A (tcells X))) ?_
  refine sx_move rfl rfl ?_
  refine sx_extract rfl rfl rfl ?_
  refine sx_extract rfl rfl rfl ?_
  refine sx_extract rfl rfl rfl ?_
  refine sx_assign rfl rfl ?_
  refine sx_assign rfl rfl ?_
  refine sx_assign rfl rfl ?_
  refine sx_nil (hZ _ _ ?_)
  refine awp_forget [(2, _), (4, _), (7, _), (8, _), (9, _)] (Kn.cons rfl (Kn.cons rfl (Kn.cons rfl (Kn.cons rfl (Kn.cons rfl (Kn.nil)))))) ?_

  refine awp_seq ?_
  refine awp_seq_region (fun Z hZ => ?_)
  refine sx_move rfl rfl ?_
  refine sx_not rfl rfl ?_
  refine sx_nil (hZ _ _ ?_)
  refine awp_forget [(2, _), (4, _), (7, _), (8, _), (22, _)] (Kn.cons rfl (Kn.cons rfl (Kn.cons rfl (Kn.cons rfl (Kn.cons rfl (Kn.nil)))))) ?_
  refine awp_cond rfl (fun h => ?_) (fun h => ?_)
  · have hf : x = false := by simpa using h
    subst hf
    refine awp_seq_region (fun Z hZ => ?_)
    refine sx_fieldAddr rfl tyF32_3 (by first | (simp only [Nat.reduceAdd, Nat.add_zero, Nat.zero_add]; first | done | rfl) | rfl) rfl ?_
    refine sx_load 2 rfl rfl tyA3 tyS3 rfl rfl ?_
    refine sx_add rfl rfl ((mi + 1 : Nat) : Int) (by rw [IntWalk.i64_in _ (by omega)]; omega) rfl ?_
    refine sx_fieldAddr rfl tyF32_3 (by first | (simp only [Nat.reduceAdd, Nat.add_zero, Nat.zero_add]; first | done | rfl) | rfl) rfl ?_
    refine sx_store1 2 rfl rfl rfl tyS3 rfl (by first | (simp only [List.length_cons, List.length_nil, Nat.reduceAdd, Nat.zero_add, Nat.add_zero]; first | done | rfl) | rfl) (by first | (simp only [List.set_cons_succ, List.set_cons_zero, Nat.reduceAdd, Nat.add_zero, Nat.zero_add]; first | done | rfl) | rfl) (by first | (simp only [List.set_cons_succ, List.set_cons_zero]; first | done | rfl) | rfl) ?_
    refine sx_nil (hZ _ _ ?_)
    refine awp_forget [(2, _), (4, _)] (Kn.cons rfl (Kn.cons rfl (Kn.nil))) ?_
    refine awp_seq_region (fun Z hZ => ?_)
    refine sx_loadA 2 rfl rfl tyA32 tyS32 (by first | (simp only [List.length_cons, List.length_nil, Nat.reduceAdd, Nat.zero_add, Nat.add_zero]; first | done | rfl) | rfl) (by first | (simp only [List.take_succ_cons, List.take_zero, List.drop_succ_cons, List.drop_zero, List.cons_append, List.nil_append, List.append_nil, List.length_cons, List.length_nil, Nat.reduceAdd, Nat.zero_add, Nat.add_zero, Value.cells, wrV]; first | done | rfl) | rfl) rfl ?_
    refine sx_store 0 rfl rfl rfl tyS32 (by first | (simp only [Value.cells]; first | done | rfl) | rfl) rfl rfl (by first | (simp only [List.length_cons, List.length_nil, Nat.reduceAdd, Nat.zero_add, Nat.add_zero]; first | done | rfl) | rfl) (by first | (simp only [List.take_succ_cons, List.take_zero, List.drop_succ_cons, List.drop_zero, List.cons_append, List.nil_append, List.append_nil, List.length_cons, List.length_nil, Nat.reduceAdd, Nat.zero_add, Nat.add_zero, Value.cells, wrV]; first | done | rfl) | rfl) (by first | (simp only [List.set_cons_succ, List.set_cons_zero]; first | done | rfl) | rfl) ?_
    refine sx_assign rfl rfl ?_
    refine sx_assign rfl rfl ?_
    refine sx_nil (hZ _ _ ?_)
    refine awp_forget [(4, _), (5, _), (6, _)] (Kn.cons rfl (Kn.cons rfl (Kn.cons rfl (Kn.nil)))) ?_
    refine awp_ret ?_
    repeat (with_reducible refine nx_then_ret ?_)
    have e1 : rGetL X k = X := by unfold rGetL; rw [hx]; rfl
    rw [e1]
    exact nx_ret3h [] rfl (ResOk.cell 0 rfl rfl tyA32 tyS32 rfl) rfl rfl (HLe.sub (List.nil_sublist _)) ⟨A, c, _, [], [], rfl, RowOk.nil, rfl, FreshT.same hA⟩
  refine awp_skip ?_
  with_reducible refine nx_normal ?_
  have hf : x = true := by simpa using h
  subst hf
  refine awp_seq_region (fun Z hZ => ?_)
  refine sx_move rfl rfl ?_
  refine sx_fieldAddr rfl tyF32_1 (by first | (simp only [Nat.reduceAdd, Nat.add_zero, Nat.zero_add]; first | done | rfl) | rfl) rfl ?_
  refine sx_store1 2 rfl rfl rfl tyS30 rfl (by first | (simp only [List.length_cons, List.length_nil, Nat.reduceAdd, Nat.zero_add, Nat.add_zero]; first | done | rfl) | rfl) (by first | (simp only [List.set_cons_succ, List.set_cons_zero, Nat.reduceAdd, Nat.add_zero, Nat.zero_add]; first | done | rfl) | rfl) (by first | (simp only [List.set_cons_succ, List.set_cons_zero]; first | done | rfl) | rfl) ?_
  refine sx_nil (hZ _ _ ?_)
  refine awp_forget [(2, _), (4, _), (8, _)] (Kn.cons rfl (Kn.cons rfl (Kn.cons rfl (Kn.nil)))) ?_
  refine awp_seq_region (fun Z hZ => ?_)
  refine sx_fieldAddr rfl tyF32_2 (by first | (simp only [Nat.reduceAdd, Nat.add_zero, Nat.zero_add]; first | done | rfl) | rfl) rfl ?_
  refine sx_load 2 rfl rfl tyA3 tyS3 rfl rfl ?_
  refine sx_add rfl rfl ((hi + 1 : Nat) : Int) (by rw [IntWalk.i64_in _ (by omega)]; omega) rfl ?_
  refine sx_fieldAddr rfl tyF32_2 (by first | (simp only [Nat.reduceAdd, Nat.add_zero, Nat.zero_add]; first | done | rfl) | rfl) rfl ?_
  refine sx_store1 2 rfl rfl rfl tyS3 rfl (by first | (simp only [List.length_cons, List.length_nil, Nat.reduceAdd, Nat.zero_add, Nat.add_zero]; first | done | rfl) | rfl) (by first | (simp only [List.set_cons_succ, List.set_cons_zero, Nat.reduceAdd, Nat.add_zero, Nat.zero_add]; first | done | rfl) | rfl) (by first | (simp only [List.set_cons_succ, List.set_cons_zero]; first | done | rfl) | rfl) ?_
  refine sx_nil (hZ _ _ ?_)
  refine awp_forget [(2, _), (4, _), (8, _)] (Kn.cons rfl (Kn.cons rfl (Kn.cons rfl (Kn.nil)))) ?_
  refine awp_seq_region (fun Z hZ => ?_)
  refine sx_move rfl rfl ?_
  refine sx_callO [] (_ :: _ :: _ :: (roE A (tcells X) ++ W)) hD rfl (HLe.refl _) rfl ?_
  rintro v H' ⟨u, rfl, hu, rfl⟩
  rw [rowE_flt]
  refine sx_heap (_ :: _ :: _ :: ((roE A (tcells X) ++ W) ++ rowE u 98 4 (ecells D))) (HLe.swap _ (_ :: _ :: _ :: (roE A (tcells X) ++ W))) ?_
  refine sx_move rfl rfl ?_
  refine sx_extract rfl rfl rfl ?_
  refine sx_extract rfl rfl rfl ?_
  refine sx_extract rfl rfl rfl ?_
  refine sx_assign rfl rfl ?_
  refine sx_assign rfl rfl ?_
  refine sx_assign rfl rfl ?_
  refine sx_nil (hZ _ _ ?_)
  refine awp_forget [(2, _), (4, _), (10, _)] (Kn.cons rfl (Kn.cons rfl (Kn.cons rfl (Kn.nil)))) ?_
  refine awp_seq_region (fun Z hZ => ?_)
  refine sx_loadA 2 rfl rfl tyA32 tyS32 (by first | (simp only [List.length_cons, List.length_nil, Nat.reduceAdd, Nat.zero_add, Nat.add_zero]; first | done | rfl) | rfl) (by first | (simp only [List.take_succ_cons, List.take_zero, List.drop_succ_cons, List.drop_zero, List.cons_append, List.nil_append, List.append_nil, List.length_cons, List.length_nil, Nat.reduceAdd, Nat.zero_add, Nat.add_zero, Value.cells, wrV]; first | done | rfl) | rfl) rfl ?_
  refine sx_move rfl rfl ?_
  refine sx_store 0 rfl rfl rfl tyS32 (by first | (simp only [Value.cells]; first | done | rfl) | rfl) rfl rfl (by first | (simp only [List.length_cons, List.length_nil, Nat.reduceAdd, Nat.zero_add, Nat.add_zero]; first | done | rfl) | rfl) (by first | (simp only [List.take_succ_cons, List.take_zero, List.drop_succ_cons, List.drop_zero, List.cons_append, List.nil_append, List.append_nil, List.length_cons, List.length_nil, Nat.reduceAdd, Nat.zero_add, Nat.add_zero, Value.cells, wrV]; first | done | rfl) | rfl) (by first | (simp only [List.set_cons_succ, List.set_cons_zero]; first | done | rfl) | rfl) ?_
  refine sx_assign rfl rfl ?_
  refine sx_assign rfl rfl ?_
  refine sx_nil (hZ _ _ ?_)
  refine awp_forget [(4, _), (5, _), (6, _)] (Kn.cons rfl (Kn.cons rfl (Kn.cons rfl (Kn.nil)))) ?_
  refine awp_ret ?_
  exact nx_ret3h (rowE u 98 4 (ecells D) ++ W) rfl (ResOk.cell 0 rfl rfl tyA32 tyS32 rfl) rfl rfl ((HLe.swap W (rowE u 98 4 (ecells D))).trans (HLe.sub (.cons _ (.cons _ (.cons _ (List.Sublist.append_right (List.sublist_append_right _ _) _)))))) ⟨A', c', u, W, T1, rfl, hu, rfl, hF⟩
theorem rskeys_fn (A : Option Addr) (c most hi mi : Nat) (X : List Item) (hA : SlOk A X.length) (hX : X.length ≤ 100000) :
    Fn Try.prog 28 [.agg (rsV most A X.length c hi mi).toArray] (roE A (tcells X)) fun v H' => RowOk v X.length ∧ H' = rowE v 37 2 (X.flatMap fun x => [uq x.1.1, uq x.1.2]) := by
  have hkl : ∀ x : Item, [uq x.1.1, uq x.1.2].length = 2 := fun _ => rfl
  refine Fn.enter (N := 22) Try.func28 rfl (by kernel_rfl) rfl (fun w0 => ?_)

  refine awp_seq_region (fun Z hZ => ?_)
  refine sx_box rfl rfl rfl (fun g1 => ?_)
  refine sx_assign rfl rfl ?_
  refine sx_nil (hZ _ _ ?_)
  refine awp_forget [(1, _)] (Kn.cons rfl (Kn.nil)) ?_
  refine awp_seq_region (fun Z hZ => ?_)
  refine sx_assign rfl rfl ?_
  refine sx_nil (hZ _ _ ?_)
  refine awp_forget [(1, _), (3, _)] (Kn.cons rfl (Kn.cons rfl (Kn.nil))) ?_
  refine awp_seq ?_
  refine awp_seq_region (fun Z hZ => ?_)
  refine sx_assign rfl rfl ?_
  refine sx_nil (hZ _ _ ?_)
  refine awp_forget [(1, _), (3, _), (4, _)] (Kn.cons rfl (Kn.cons rfl (Kn.cons rfl (Kn.nil)))) ?_
  refine awp_block ?_
  refine awp_loop (ι := Nat × Value) (fun i => [(1, ptr g1 0), (3, i.2), (4, iq (i.1 : Nat))]) (fun i => .own g1 32 (rsV most A X.length c hi mi) :: (roE A (tcells X) ++ rowE i.2 37 2 ((X.take i.1).flatMap fun x => [uq x.1.1, uq x.1.2])))
    (fun i => i.1 ≤ X.length ∧ RowOk i.2 i.1) (fun i => X.length - i.1) (0, .slice none 0 0) ⟨by simp, RowOk.nil⟩ (Kn.cons rfl (Kn.cons rfl (Kn.cons rfl Kn.nil))) (by simp [rowE]; exact HLe.refl _) ?_
  rintro ⟨i, v⟩ ⟨hi, hv⟩
  simp only at hi hv

  refine awp_seq ?_
  refine awp_seq_region (fun Z hZ => ?_)
  refine sx_move rfl rfl ?_
  refine sx_fieldAddr rfl tyF32_1 (by first | (simp only [Nat.reduceAdd, Nat.add_zero, Nat.zero_add]; first | done | rfl) | rfl) rfl ?_
  first | refine sx_load 0 rfl rfl tyA30 tyS30 rfl rfl ?_
  refine sx_len Try.underlying30 rfl rfl ?_
  refine sx_lss rfl rfl rfl ?_
  refine sx_nil (hZ _ _ ?_)
  refine awp_forget [(1, _), (3, _), (4, _), (9, _)] (Kn.cons rfl (Kn.cons rfl (Kn.cons rfl (Kn.cons rfl (Kn.nil))))) ?_
  refine awp_cond rfl (fun h => ?_) (fun h => ?_)
  · have hlt : i < X.length := by simpa using h
    obtain ⟨x, hx⟩ : ∃ x, X[i]? = some x := ⟨_, List.getElem?_eq_getElem hlt⟩
    obtain ⟨g, o, rfl⟩ := hA.some (by omega)
    refine awp_skip ?_
    with_reducible refine nx_normal ?_
    refine awp_seq (awp_block ?_)

    refine awp_region (fun Z hZ => ?_)
    refine sx_move rfl rfl ?_
    refine sx_fieldAddr rfl tyF32_1 (by first | (simp only [Nat.reduceAdd, Nat.add_zero, Nat.zero_add]; first | done | rfl) | rfl) rfl ?_
    refine sx_load 0 rfl rfl tyA30 tyS30 rfl rfl ?_
    refine sx_move rfl rfl ?_
    refine sx_indexAddr (o + i * 3) Try.underlying30 tyS102 rfl rfl (by omega) (by simp) rfl ?_
    refine sx_fieldAddr rfl tyF102_0 (by first | (simp only [Nat.reduceAdd, Nat.add_zero, Nat.zero_add]; first | done | rfl) | rfl) rfl ?_
    refine sx_loadRo 1 rfl rfl (i * 3) rfl tyA37 tyS37 (tcells_key hx) rfl ?_
    refine sx_buildSlice Try.underlying74 tyS37 tyZ37 rfl rfl rfl rfl (by first | (simp only [List.take_succ_cons, List.take_zero, List.drop_succ_cons, List.drop_zero, List.cons_append, List.nil_append, List.append_nil, List.length_cons, List.length_nil, Nat.reduceAdd, Nat.zero_add, Nat.add_zero, Value.cells, wrV, zrep_one, List.replicate_succ, List.replicate_zero, Nat.reduceMul, Nat.zero_mul]; first | done | rfl) | rfl) rfl (fun g2 => ?_)
    refine sx_appendE [_, _, _] elemKeyR rfl hv (by rw [fm_len hkl, List.length_take, Nat.min_eq_left hi]) rfl (fun w hw => rd_own (i := 0) (xs := [uq x.1.1, uq x.1.2]) rfl rfl hw) rfl (by show _ ≤ 9223372036854775807; omega) (by omega) (HLe.refl _) rfl (fun v2 hv2 => ?_)
    rw [← fm_take (f := fun x : Item => [uq x.1.1, uq x.1.2]) hx]
    refine sx_assign rfl rfl ?_
    refine sx_nil (hZ _ _ ?_)
    refine nx_forget [(1, _), (3, _), (4, _)] (Kn.cons rfl (Kn.cons rfl (Kn.cons rfl (Kn.nil)))) ?_
    repeat (with_reducible refine nx_block_normal ?_)
    with_reducible refine nx_normal ?_
    refine awp_region (fun Z hZ => ?_)
    refine sx_move rfl rfl ?_
    refine sx_add rfl rfl ((i + 1 : Nat) : Int) (by rw [IntWalk.i64_in _ (by omega)]; omega) rfl ?_
    refine sx_assign rfl rfl ?_
    refine sx_nil (hZ _ _ ?_)
    refine nx_forget [(1, _), (3, _), (4, _)] (Kn.cons rfl (Kn.cons rfl (Kn.cons rfl (Kn.nil)))) ?_
    exact nx_round (i + 1, v2) ⟨by show i + 1 ≤ _; omega, hv2⟩ (by simp; omega) (Kn.cons rfl (Kn.cons rfl (Kn.cons rfl Kn.nil))) (HLe.drop 1 rfl)
  · refine awp_exit ?_
    repeat (with_reducible refine nx_then_exit ?_)
    with_reducible refine nx_block_exit ?_
    with_reducible refine nx_normal ?_
    have hke : i = X.length := by simp at h; omega
    subst hke
    rw [List.take_length]
    refine awp_seq_region (fun Z hZ => ?_)
    refine sx_move rfl rfl ?_
    refine sx_assign rfl rfl ?_
    refine sx_nil (hZ _ _ ?_)
    refine awp_forget [(2, _)] (Kn.cons rfl (Kn.nil)) ?_
    refine awp_ret ?_
    exact nx_ret1h _ rfl rfl (HLe.sub ((List.sublist_append_right _ _).cons _)) ⟨hv, rfl⟩
end Go.Proofs.Ytjelakmndcecoaa
