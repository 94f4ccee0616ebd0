/- The walk of lru's reference: Get. Conditions: the lists are not too long. -/
import Derived.Test.YtoadkdlhbmmdlaaLr6
namespace Go.Proofs.Ytoadkdlhbmmdlaa
open Go.RowKit
set_option linter.unusedVariables false
set_option linter.unusedSimpArgs false
theorem place_is (L : List Item) (k : Ky) : (hasK L k = false ∧ placeV L k = -1) ∨ ∃ i : Nat, hasK L k = true ∧ placeV L k = i ∧ L[i]? = some (k, valK L k) := by
  cases hf : L.findIdx? (fun x => decide (x.1 = k)) with
  | none =>
    refine .inl ⟨?_, by unfold placeV; rw [hf]⟩
    rw [List.findIdx?_eq_none_iff] at hf
    rw [hasK, List.any_eq_false]
    intro x hx
    simpa using hf x hx
  | some i =>
    refine .inr ⟨i, ?_, by unfold placeV; rw [hf], ?_⟩
    · rw [List.findIdx?_eq_some_iff_getElem] at hf
      obtain ⟨h1, h2, _⟩ := hf
      exact List.any_eq_true.2 ⟨_, List.getElem_mem h1, h2⟩
    · rw [List.findIdx?_eq_some_iff_getElem] at hf
      obtain ⟨h1, h2, h3⟩ := hf
      have : L.find? (fun x => decide (x.1 = k)) = some L[i] := by
        rw [List.find?_eq_some_iff_append]
        refine ⟨h2, L.take i, L.drop (i + 1), ?_, fun x hx => ?_⟩
        · rw [← List.drop_eq_getElem_cons h1, List.take_append_drop]
        · obtain ⟨j, hj⟩ := List.mem_iff_getElem?.1 hx
          obtain ⟨h4, h5⟩ := List.getElem?_eq_some_iff.1 hj
          simp only [List.length_take] at h4
          rw [List.getElem_take] at h5
          rw [← h5]
          simpa using h3 j (by omega)
      unfold valK
      rw [this, List.getElem?_eq_getElem h1]
      have hk : L[i].1 = k := of_decide_eq_true h2
      rw [← hk]
      rfl
theorem rget_fn (A : Option Addr) (c : Nat) (L : List Item) (k : Ky) (hA : SlOk A L.length) (hL : L.length ≤ 100000) :
    Fn Try.prog 26 [.slice A L.length c, encK k] (roE A (icells L))
    fun u H' => ∃ A' c', u = .tuple #[.slice A' (rGetL L k).length c', .string (str (valK L k)), .bool (hasK L k)] ∧
      ((hasK L k = false ∧ A' = A ∧ H' = []) ∨ (∃ g' o', A' = some ⟨g', o', none⟩ ∧ H' = [.ob g' (ReadP o' (icells (rGetL L k)))])) := by
  have hdl := drop_len L k
  refine Fn.enter (N := 27) Try.func26 rfl (by kernel_rfl) rfl (fun w0 => ?_)

  refine awp_seq_region (fun Z hZ => ?_)
  refine sx_box rfl rfl rfl (fun g1 => ?_)
  refine sx_assign rfl rfl ?_
  refine sx_assign rfl rfl ?_
  refine sx_assign rfl rfl ?_
  refine sx_nil (hZ _ _ ?_)
  refine awp_forget [(0, _), (3, _)] (Kn.cons rfl (Kn.cons rfl (Kn.nil))) ?_

  refine awp_seq_region (fun Z hZ => ?_)
  refine sx_move rfl rfl ?_
  first | refine sx_loadA 0 rfl rfl tyA32 tyS32 (by first | (simp only [List.length_cons, List.length_nil, Nat.reduceAdd, Nat.zero_add, Nat.add_zero]; first | done | rfl) | rfl) (by first | (simp only [List.take_succ_cons, List.take_zero, List.drop_succ_cons, List.drop_zero, List.cons_append, List.nil_append, List.append_nil, List.length_cons, List.length_nil, Nat.reduceAdd, Nat.zero_add, Nat.add_zero, Value.cells, wrV]; first | done | rfl) | rfl) rfl ?_
  refine sx_callPT (roE A (icells L)) (place_fn A c L k hA hL) rfl (List.sublist_append_right [_] _) (Ro.roE _ _) rfl ?_
  refine sx_assign rfl rfl ?_
  refine sx_nil (hZ _ _ ?_)
  refine awp_forget [(0, _), (3, _), (7, _)] (Kn.cons rfl (Kn.cons rfl (Kn.cons rfl (Kn.nil)))) ?_
  refine awp_seq ?_
  refine awp_seq_region (fun Z hZ => ?_)
  refine sx_move rfl rfl ?_
  first | refine sx_lss rfl rfl rfl ?_ | refine sx_slss rfl rfl rfl ?_
  refine sx_nil (hZ _ _ ?_)
  refine awp_forget [(0, _), (3, _), (7, _), (13, _)] (Kn.cons rfl (Kn.cons rfl (Kn.cons rfl (Kn.cons rfl (Kn.nil))))) ?_
  rcases place_is L k with ⟨hf, hp⟩ | ⟨i, hf, hp, hx⟩
  · rw [hp, hf, valK_none hf, show rGetL L k = L by unfold rGetL; rw [hf]; rfl]
    first | refine awp_cond rfl (fun h => ?_) (fun h => ?_) | refine awp_seq (awp_cond rfl (fun h => ?_) (fun h => ?_))
    · refine awp_seq_region (fun Z hZ => ?_)
      refine sx_move rfl rfl ?_
      refine sx_assign rfl rfl ?_
      refine sx_assign rfl rfl ?_
      refine sx_assign rfl rfl ?_
      refine sx_nil (hZ _ _ ?_)
      refine awp_forget [(4, _), (5, _), (6, _)] (Kn.cons rfl (Kn.cons rfl (Kn.cons rfl (Kn.nil)))) ?_
      refine awp_ret ?_
      repeat (with_reducible (first | refine nx_then_ret ?_ | refine nx_block_ret ?_))
      exact nx_ret3h [] rfl rfl rfl rfl (HLe.sub (List.nil_sublist _)) ⟨A, c, rfl, .inl ⟨rfl, rfl, rfl⟩⟩
    · simp at h
  · have hlt : i < L.length := (List.getElem?_eq_some_iff.1 hx).1
    have hG : rGetL L k = rDrop L k ++ [(k, valK L k)] := by unfold rGetL; rw [hf]; rfl
    rw [hp, hf, hG]
    obtain ⟨v, hv⟩ : ∃ v, valK L k = v := ⟨_, rfl⟩
    rw [hv] at hx ⊢
    first | refine awp_cond rfl (fun h => ?_) (fun h => ?_) | refine awp_seq (awp_cond rfl (fun h => ?_) (fun h => ?_))
    · simp at h; omega
    refine awp_skip ?_
    repeat (with_reducible refine nx_block_normal ?_)
    with_reducible refine nx_normal ?_
    obtain ⟨g, o, rfl⟩ := hA.some (by omega)

    refine awp_seq_region (fun Z hZ => ?_)
    refine sx_move rfl rfl ?_
    refine sx_move rfl rfl ?_
    refine sx_indexAddr (o + i * 3) Try.underlying43 tyS69 rfl rfl (by omega) (by simp) rfl ?_
    refine sx_loadRo 1 rfl rfl (i * 3) rfl tyA69 tyS69 (icells_all hx) rfl ?_
    refine sx_alloc tyZ69 rfl (fun g2 => ?_)
    first | refine sx_store 0 rfl rfl rfl tyS69 (by first | (simp only [Value.cells]; first | done | rfl) | rfl) rfl rfl (by first | (simp only [List.length_cons, List.length_nil, Nat.reduceAdd, Nat.zero_add, Nat.add_zero]; first | done | rfl) | rfl) (by first | (simp only [List.take_succ_cons, List.take_zero, List.drop_succ_cons, List.drop_zero, List.cons_append, List.nil_append, List.append_nil, List.length_cons, List.length_nil, Nat.reduceAdd, Nat.zero_add, Nat.add_zero, Value.cells, wrV]; first | done | rfl) | rfl) (by first | (simp only [List.set_cons_succ, List.set_cons_zero]; first | done | rfl) | rfl) ?_ | refine sx_store 1 rfl rfl rfl tyS69 (by first | (simp only [Value.cells]; first | done | rfl) | rfl) rfl rfl (by first | (simp only [List.length_cons, List.length_nil, Nat.reduceAdd, Nat.zero_add, Nat.add_zero]; first | done | rfl) | rfl) (by first | (simp only [List.take_succ_cons, List.take_zero, List.drop_succ_cons, List.drop_zero, List.cons_append, List.nil_append, List.append_nil, List.length_cons, List.length_nil, Nat.reduceAdd, Nat.zero_add, Nat.add_zero, Value.cells, wrV]; first | done | rfl) | rfl) (by first | (simp only [List.set_cons_succ, List.set_cons_zero]; first | done | rfl) | rfl) ?_ | refine sx_store 2 rfl rfl rfl tyS69 (by first | (simp only [Value.cells]; first | done | rfl) | rfl) rfl rfl (by first | (simp only [List.length_cons, List.length_nil, Nat.reduceAdd, Nat.zero_add, Nat.add_zero]; first | done | rfl) | rfl) (by first | (simp only [List.take_succ_cons, List.take_zero, List.drop_succ_cons, List.drop_zero, List.cons_append, List.nil_append, List.append_nil, List.length_cons, List.length_nil, Nat.reduceAdd, Nat.zero_add, Nat.add_zero, Value.cells, wrV]; first | done | rfl) | rfl) (by first | (simp only [List.set_cons_succ, List.set_cons_zero]; first | done | rfl) | rfl) ?_
    refine sx_nil (hZ _ _ ?_)
    refine awp_forget [(0, _), (3, _), (8, _)] (Kn.cons rfl (Kn.cons rfl (Kn.cons rfl (Kn.nil)))) ?_
    refine awp_heap (.own g2 69 [uq k.1, uq k.2, .string (str v)] :: .own g1 32 [uq k.1, uq k.2] :: roE (some ⟨g, o, none⟩) (icells L)) (HLe.refl _) ?_

    refine awk_seq_region (fun i : Nat × Nat => [(4, .slice (some ⟨i.1, 0, none⟩) ((rDrop L k).length + 1) i.2), (5, .string (str v)), (6, .bool true)]) (fun i => [.ob i.1 (RowP 69 3 ((rDrop L k).length + 1) i.2 (icells (rDrop L k) ++ icell (k, v)))]) (fun _ => True) _ [2, 4, 5] [(0, true), (1, true), (3, true), (6, true), (7, true), (2, false), (4, false), (5, false), (8, true), (9, true), (10, true)] [(0, true), (1, true), (3, true), (6, true), (7, true), (4, false), (2, false), (5, false), (8, true), (9, true), (10, true)] mixed (by kernel_rfl) (HLe.pick [0, 1] (by simp) (by simp only [pick, List.filterMap_cons, List.filterMap_nil, List.getElem?_cons_succ, List.getElem?_cons_zero]; rfl)) ?_ ?_ ?_
    · refine tw_p rfl ?_
      refine sv_move rfl rfl ?_
      refine sv_nil ?_
      refine tw_p rfl ?_
      first | refine sv_loadA 0 rfl rfl tyA32 tyS32 (by first | (simp only [List.length_cons, List.length_nil, Nat.reduceAdd, Nat.zero_add, Nat.add_zero]; first | done | rfl) | rfl) (by first | (simp only [List.take_succ_cons, List.take_zero, List.drop_succ_cons, List.drop_zero, List.cons_append, List.nil_append, List.append_nil, List.length_cons, List.length_nil, Nat.reduceAdd, Nat.zero_add, Nat.add_zero, Value.cells, wrV]; first | done | rfl) | rfl) rfl ?_ | refine sv_loadA 1 rfl rfl tyA32 tyS32 (by first | (simp only [List.length_cons, List.length_nil, Nat.reduceAdd, Nat.zero_add, Nat.add_zero]; first | done | rfl) | rfl) (by first | (simp only [List.take_succ_cons, List.take_zero, List.drop_succ_cons, List.drop_zero, List.cons_append, List.nil_append, List.append_nil, List.length_cons, List.length_nil, Nat.reduceAdd, Nat.zero_add, Nat.add_zero, Value.cells, wrV]; first | done | rfl) | rfl) rfl ?_
      refine sv_nil ?_
      refine tw_p rfl ?_
      first | refine sv_loadA 0 rfl rfl tyA69 tyS69 (by first | (simp only [List.length_cons, List.length_nil, Nat.reduceAdd, Nat.zero_add, Nat.add_zero]; first | done | rfl) | rfl) (by first | (simp only [List.take_succ_cons, List.take_zero, List.drop_succ_cons, List.drop_zero, List.cons_append, List.nil_append, List.append_nil, List.length_cons, List.length_nil, Nat.reduceAdd, Nat.zero_add, Nat.add_zero, Value.cells, wrV]; first | done | rfl) | rfl) rfl ?_ | refine sv_loadA 1 rfl rfl tyA69 tyS69 (by first | (simp only [List.length_cons, List.length_nil, Nat.reduceAdd, Nat.zero_add, Nat.add_zero]; first | done | rfl) | rfl) (by first | (simp only [List.take_succ_cons, List.take_zero, List.drop_succ_cons, List.drop_zero, List.cons_append, List.nil_append, List.append_nil, List.length_cons, List.length_nil, Nat.reduceAdd, Nat.zero_add, Nat.add_zero, Value.cells, wrV]; first | done | rfl) | rfl) rfl ?_
      refine sv_nil ?_
      refine tw_p rfl ?_
      refine sv_fieldAddr rfl tyF69_1 (by first | (simp only [Nat.reduceAdd, Nat.add_zero, Nat.zero_add]; first | done | rfl) | rfl) rfl ?_
      refine sv_nil ?_
      refine tw_p rfl ?_
      first | refine sv_load 0 rfl rfl tyA9 tyS9 rfl rfl ?_ | refine sv_load 1 rfl rfl tyA9 tyS9 rfl rfl ?_
      refine sv_nil ?_
      refine tw_g rfl ?_
      refine sx_callRE (roE (some ⟨g, o, none⟩) (icells L)) (rdrop_fn (some ⟨g, o, none⟩) c L k hA hL) rfl (by first | exact List.sublist_append_right [_, _] _ | exact List.sublist_append_right [_, _, _] _) (Ro.roE _ _) rfl (fun v1 hv1 => ?_)
      refine sx_nil ⟨HLe.pick [0, 1] (by simp) rfl, ?_⟩
      refine tw_g rfl ?_
      refine sx_buildSlice Try.underlying43 tyS69 tyZ69 rfl rfl rfl rfl (by first | (simp only [List.take_succ_cons, List.take_zero, List.drop_succ_cons, List.drop_zero, List.cons_append, List.nil_append, List.append_nil, List.length_cons, List.length_nil, Nat.reduceAdd, Nat.zero_add, Nat.add_zero, Value.cells, wrV, zrep_one, List.replicate_succ, List.replicate_zero, Nat.reduceMul, Nat.zero_mul]; first | done | rfl) | rfl) rfl (fun g3 => ?_)
      refine sx_nil ⟨HLe.pick [1, 2] (by simp) rfl, ?_⟩
      refine tw_g rfl ?_
      refine sx_appendE ([_, _, _] ++ roE (some ⟨g, o, none⟩) (icells L)) elemItem rfl hv1 (icells_len _) rfl (fun w hw => rd_own (i := 0) (xs := icell (k, v)) rfl rfl hw) rfl (by show _ ≤ 9223372036854775807; omega) (by omega) (HLe.refl _) rfl (fun v2 hv2 => ?_)
      obtain ⟨g3', c3, rfl⟩ := hv2.some (by omega)
      refine sx_nil ⟨HLe.pick [1, 2] (by simp) rfl, ?_⟩
      refine tw_p rfl ?_
      refine sv_assign rfl rfl ?_
      refine sv_nil ?_
      refine tw_p rfl ?_
      refine sv_assign rfl rfl ?_
      refine sv_nil ?_
      refine tw_p rfl ?_
      refine sv_assign rfl rfl ?_
      refine sv_nil ?_
      refine tw_nil ?_
      exact ⟨(g3', c3), trivial, Kn.cons rfl (Kn.cons rfl (Kn.cons rfl Kn.nil)), (HLe.pick [3] (by simp) rfl).trans (HLe.mid [_, _, _] (roE (some ⟨g, o, none⟩) (icells L)) [_])⟩
    · refine tw_p rfl ?_
      refine sv_move rfl rfl ?_
      refine sv_nil ?_
      refine tw_p rfl ?_
      first | refine sv_loadA 0 rfl rfl tyA32 tyS32 (by first | (simp only [List.length_cons, List.length_nil, Nat.reduceAdd, Nat.zero_add, Nat.add_zero]; first | done | rfl) | rfl) (by first | (simp only [List.take_succ_cons, List.take_zero, List.drop_succ_cons, List.drop_zero, List.cons_append, List.nil_append, List.append_nil, List.length_cons, List.length_nil, Nat.reduceAdd, Nat.zero_add, Nat.add_zero, Value.cells, wrV]; first | done | rfl) | rfl) rfl ?_ | refine sv_loadA 1 rfl rfl tyA32 tyS32 (by first | (simp only [List.length_cons, List.length_nil, Nat.reduceAdd, Nat.zero_add, Nat.add_zero]; first | done | rfl) | rfl) (by first | (simp only [List.take_succ_cons, List.take_zero, List.drop_succ_cons, List.drop_zero, List.cons_append, List.nil_append, List.append_nil, List.length_cons, List.length_nil, Nat.reduceAdd, Nat.zero_add, Nat.add_zero, Value.cells, wrV]; first | done | rfl) | rfl) rfl ?_
      refine sv_nil ?_
      refine tw_p rfl ?_
      first | refine sv_loadA 0 rfl rfl tyA69 tyS69 (by first | (simp only [List.length_cons, List.length_nil, Nat.reduceAdd, Nat.zero_add, Nat.add_zero]; first | done | rfl) | rfl) (by first | (simp only [List.take_succ_cons, List.take_zero, List.drop_succ_cons, List.drop_zero, List.cons_append, List.nil_append, List.append_nil, List.length_cons, List.length_nil, Nat.reduceAdd, Nat.zero_add, Nat.add_zero, Value.cells, wrV]; first | done | rfl) | rfl) rfl ?_ | refine sv_loadA 1 rfl rfl tyA69 tyS69 (by first | (simp only [List.length_cons, List.length_nil, Nat.reduceAdd, Nat.zero_add, Nat.add_zero]; first | done | rfl) | rfl) (by first | (simp only [List.take_succ_cons, List.take_zero, List.drop_succ_cons, List.drop_zero, List.cons_append, List.nil_append, List.append_nil, List.length_cons, List.length_nil, Nat.reduceAdd, Nat.zero_add, Nat.add_zero, Value.cells, wrV]; first | done | rfl) | rfl) rfl ?_
      refine sv_nil ?_
      refine tw_p rfl ?_
      refine sv_fieldAddr rfl tyF69_1 (by first | (simp only [Nat.reduceAdd, Nat.add_zero, Nat.zero_add]; first | done | rfl) | rfl) rfl ?_
      refine sv_nil ?_
      refine tw_p rfl ?_
      first | refine sv_load 0 rfl rfl tyA9 tyS9 rfl rfl ?_ | refine sv_load 1 rfl rfl tyA9 tyS9 rfl rfl ?_
      refine sv_nil ?_
      refine tw_g rfl ?_
      refine sx_buildSlice Try.underlying43 tyS69 tyZ69 rfl rfl rfl rfl (by first | (simp only [List.take_succ_cons, List.take_zero, List.drop_succ_cons, List.drop_zero, List.cons_append, List.nil_append, List.append_nil, List.length_cons, List.length_nil, Nat.reduceAdd, Nat.zero_add, Nat.add_zero, Value.cells, wrV, zrep_one, List.replicate_succ, List.replicate_zero, Nat.reduceMul, Nat.zero_mul]; first | done | rfl) | rfl) rfl (fun g3 => ?_)
      refine sx_nil ⟨HLe.pick [1, 2] (by simp) rfl, ?_⟩
      refine tw_g rfl ?_
      refine sx_callRE (roE (some ⟨g, o, none⟩) (icells L)) (rdrop_fn (some ⟨g, o, none⟩) c L k hA hL) rfl (by first | exact List.sublist_append_right [_, _] _ | exact List.sublist_append_right [_, _, _] _) (Ro.roE _ _) rfl (fun v1 hv1 => ?_)
      refine sx_nil ⟨HLe.pick [1, 2] (by simp) rfl, ?_⟩
      refine tw_g rfl ?_
      refine sx_appendE ([_, _, _] ++ roE (some ⟨g, o, none⟩) (icells L)) elemItem rfl hv1 (icells_len _) rfl (fun w hw => rd_own (i := 0) (xs := icell (k, v)) rfl rfl hw) rfl (by show _ ≤ 9223372036854775807; omega) (by omega) (HLe.refl _) rfl (fun v2 hv2 => ?_)
      obtain ⟨g3', c3, rfl⟩ := hv2.some (by omega)
      refine sx_nil ⟨HLe.pick [1, 2] (by simp) rfl, ?_⟩
      refine tw_p rfl ?_
      refine sv_assign rfl rfl ?_
      refine sv_nil ?_
      refine tw_p rfl ?_
      refine sv_assign rfl rfl ?_
      refine sv_nil ?_
      refine tw_p rfl ?_
      refine sv_assign rfl rfl ?_
      refine sv_nil ?_
      refine tw_nil ?_
      exact ⟨(g3', c3), trivial, Kn.cons rfl (Kn.cons rfl (Kn.cons rfl Kn.nil)), (HLe.pick [3] (by simp) rfl).trans (HLe.mid [_, _, _] (roE (some ⟨g, o, none⟩) (icells L)) [_])⟩
    rintro ⟨g3, c3⟩ -
    refine awp_ret ?_
    repeat (with_reducible (first | refine nx_then_ret ?_ | refine nx_block_ret ?_))
    refine nx_ret3h [.ob g3 (ReadP 0 (icells (rDrop L k ++ [(k, v)])))] rfl rfl rfl rfl ?_ ⟨some ⟨g3, 0, none⟩, c3, by simp, .inr ⟨g3, 0, rfl, rfl⟩⟩
    rw [show icells (rDrop L k ++ [(k, v)]) = icells (rDrop L k) ++ icell (k, v) from fm_snoc _ _]
    exact row_read []
end Go.Proofs.Ytoadkdlhbmmdlaa
