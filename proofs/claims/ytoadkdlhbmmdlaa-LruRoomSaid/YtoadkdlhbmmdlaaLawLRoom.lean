/- LruRoom. No conditions. -/
import Derived.Test.YtoadkdlhbmmdlaaLr14
namespace Go.Proofs.Ytoadkdlhbmmdlaa
open Go.RowKit
set_option linter.unusedVariables false
set_option linter.unusedSimpArgs false
theorem room_fn (n : Int) (A : Option Addr) (c : Nat) (OL : List Opn) (hA : ArgOk A OL.length) (hL : OL.length ≤ maxLen) (hO : ∀ x ∈ OL, x.d < 256) (T : Heap) (hT : 0 < OL.length → T = roE A (ocells OL)) (hro : Ro T) :
    Fn Try.prog 3 [iq n, .slice A OL.length c] T fun v _ => v = .bool true := by
  by_cases hn : 0 ≤ n ∧ n ≤ 64
  · obtain ⟨most, rfl⟩ : ∃ m : Nat, n = m := ⟨n.toNat, by omega⟩
    refine Fn.enter (N := 131) Try.func3 rfl (by kernel_rfl) rfl (fun w0 => ?_)

    refine awp_seq_region (fun Z hZ => ?_)
    refine sx_assign rfl rfl ?_
    refine sx_nil (hZ _ _ ?_)
    refine awp_forget [(0, _), (1, _)] (Kn.cons rfl (Kn.cons rfl (Kn.nil))) ?_
    refine awp_seq_region (fun Z hZ => ?_)
    refine sx_move rfl rfl ?_
    refine sx_callA [] [] T (new_fn most hn) rfl (HLe.refl _) (List.nil_sublist _) Ro.nil rfl ?_
    rintro v H' ⟨g, b, rfl, rfl⟩
    refine sx_move rfl rfl ?_
    refine sx_extract rfl rfl rfl ?_
    refine sx_extract rfl rfl rfl ?_
    refine sx_assign rfl rfl ?_
    refine sx_assign rfl rfl ?_
    refine sx_nil (hZ _ _ ?_)
    refine awp_forget [(0, _), (1, _), (5, _), (6, _)] (Kn.cons rfl (Kn.cons rfl (Kn.cons rfl (Kn.cons rfl (Kn.nil))))) ?_
    refine awp_heap (cacheH g b most ⟨[], (0, 0), (0, 0)⟩ ++ T) (HLe.refl _) ?_

    refine awp_seq ?_
    refine awp_seq_meet [(0, iq most), (1, .slice A OL.length c), (5, ptr g 0), (28, .bool false)] (cacheH g b most ⟨[], (0, 0), (0, 0)⟩ ++ T) (fun Z hZ => ?_) ?_
    · refine sx_move rfl rfl ?_
      first | refine sx_neq rfl rfl rfl ?_ | refine sx_sneq rfl rfl rfl ?_
      refine sx_move rfl rfl ?_
      refine sx_force 25 rfl false (by decide) ?_
      refine sx_on rfl rfl rfl ?_
      refine sx_move rfl rfl ?_
      refine sx_on rfl rfl rfl ?_
      refine sx_ptrNil Try.underlying23 rfl rfl ?_
      refine sx_pick rfl rfl rfl ?_
      refine sx_nil (hZ _ _ ?_ ?_)
      · exact Kn.cons rfl (Kn.cons rfl (Kn.cons rfl (Kn.cons rfl Kn.nil)))
      · exact HLe.refl _
    first | refine awp_cond rfl (fun h => ?_) (fun h => ?_) | refine awp_seq (awp_cond rfl (fun h => ?_) (fun h => ?_))
    · cases h
    refine awp_skip ?_
    repeat (with_reducible refine nx_block_normal ?_)
    with_reducible refine nx_normal ?_
    refine awp_seq ?_
    refine awp_seq_region (fun Z hZ => ?_)
    refine sx_move rfl rfl ?_
    refine sx_callPT T (over_fn A c OL 100 hA hL T hT) rfl (List.sublist_append_right [_, _] _) hro rfl ?_
    refine sx_nil (hZ _ _ ?_)
    refine awp_forget [(0, _), (1, _), (5, _), (39, _)] (Kn.cons rfl (Kn.cons rfl (Kn.cons rfl (Kn.cons rfl (Kn.nil))))) ?_
    first | refine awp_cond rfl (fun h => ?_) (fun h => ?_) | refine awp_seq (awp_cond rfl (fun h => ?_) (fun h => ?_))
    · refine awp_seq_region (fun Z hZ => ?_)
      refine sx_callP awake_fn rfl rfl ?_
      refine sx_assign rfl rfl ?_
      refine sx_nil (hZ _ _ ?_)
      refine awp_forget [(4, _)] (Kn.cons rfl (Kn.nil)) ?_
      refine awp_ret ?_
      repeat (with_reducible (first | refine nx_then_ret ?_ | refine nx_block_ret ?_))
      exact nx_ret1 rfl rfl rfl
    refine awp_skip ?_
    repeat (with_reducible refine nx_block_normal ?_)
    with_reducible refine nx_normal ?_
    have hov : OL.length ≤ 100 := by
      simp only [overV, Bool.or_eq_false_iff, decide_eq_false_iff_not] at h
      omega
    refine awp_seq ?_
    refine awp_seq_region (fun Z hZ => ?_)
    refine sx_assign rfl rfl ?_
    refine sx_nil (hZ _ _ ?_)
    refine awp_forget [(0, _), (1, _), (5, _), (7, _)] (Kn.cons rfl (Kn.cons rfl (Kn.cons rfl (Kn.cons rfl (Kn.nil))))) ?_
    refine awp_block ?_
    refine awp_loop (ι := Nat × CS × List Item) (fun i => [(0, iq most), (1, .slice A OL.length c), (5, ptr g 0), (7, iq (i.1 : Nat))]) (fun i => cacheH g b most i.2.1 ++ T)
      (fun i => i.1 ≤ OL.length ∧ Rep i.2.1 i.2.2 ∧ i.2.2.length ≤ most) (fun i => OL.length - i.1) (0, ⟨[], (0, 0), (0, 0)⟩, []) ⟨by simp, Rep.empty, by simp⟩ (Kn.cons rfl (Kn.cons rfl (Kn.cons rfl (Kn.cons rfl Kn.nil)))) (HLe.refl _) ?_
    rintro ⟨i, s, L⟩ ⟨hi, hR, hLm⟩
    simp only at hi hR hLm

    refine awp_seq ?_
    refine awp_seq_region (fun Z hZ => ?_)
    refine sx_move rfl rfl ?_
    refine sx_move rfl rfl ?_
    first | refine sx_len Try.underlying22 rfl rfl ?_ | refine sx_lenS Try.underlying22 rfl rfl ?_
    first | refine sx_lss rfl rfl rfl ?_ | refine sx_slss rfl rfl rfl ?_
    refine sx_nil (hZ _ _ ?_)
    refine awp_forget [(0, _), (1, _), (5, _), (7, _), (44, _)] (Kn.cons rfl (Kn.cons rfl (Kn.cons rfl (Kn.cons rfl (Kn.cons rfl (Kn.nil)))))) ?_
    first | refine awp_cond rfl (fun h => ?_) (fun h => ?_) | refine awp_seq (awp_cond rfl (fun h => ?_) (fun h => ?_))
    · have hlt : i < OL.length := by simpa using h
      obtain ⟨x, hx⟩ : ∃ x, OL[i]? = some x := ⟨_, List.getElem?_eq_getElem hlt⟩
      obtain ⟨ga, o, rfl⟩ := hA (by omega)
      obtain rfl := hT (by omega)
      have hput := put_fn g b most s L x.k x.v hR hLm (by omega)
      have hlen2 := rPut_len (k := x.k) (v := x.v) hLm
      have hroom := fun s2 => put_room (s2 := s2) (k := x.k) (v := x.v) hR hLm
      generalize rPutL most L x.k x.v = L2 at hput hlen2 hroom
      generalize rPutK most L x.k x.v = K at hput hroom
      generalize rPutB most L x.k x.v = B at hput hroom
      refine awp_skip ?_
      repeat (with_reducible refine nx_block_normal ?_)
      with_reducible refine nx_normal ?_
      refine awp_seq (awp_block ?_)

      refine awp_seq_region (fun Z hZ => ?_)
      refine sx_move rfl rfl ?_
      refine sx_move rfl rfl ?_
      refine sx_indexAddr (o + i * 4) Try.underlying22 tyS34 rfl rfl (by omega) (by simp) rfl ?_
      refine sx_fieldAddr rfl tyF34_1 (by first | (simp only [Nat.reduceAdd, Nat.add_zero, Nat.zero_add]; first | done | rfl) | rfl) rfl ?_
      refine sx_loadRo 2 rfl rfl (i * 4 + 1) rfl tyA32 tyS32 (ocells_key hx) rfl ?_
      refine sx_alloc tyZ31 rfl (fun g1 => ?_)
      first | refine sx_store 0 rfl rfl rfl tyS31 (by first | (simp only [Value.cells]; first | done | rfl) | rfl) rfl rfl (by first | (simp only [List.length_cons, List.length_nil, Nat.reduceAdd, Nat.zero_add, Nat.add_zero]; first | done | rfl) | rfl) (by first | (simp only [List.take_succ_cons, List.take_zero, List.drop_succ_cons, List.drop_zero, List.cons_append, List.nil_append, List.append_nil, List.length_cons, List.length_nil, Nat.reduceAdd, Nat.zero_add, Nat.add_zero, Value.cells, wrV]; first | done | rfl) | rfl) (by first | (simp only [List.set_cons_succ, List.set_cons_zero]; first | done | rfl) | rfl) ?_ | refine sx_store 1 rfl rfl rfl tyS31 (by first | (simp only [Value.cells]; first | done | rfl) | rfl) rfl rfl (by first | (simp only [List.length_cons, List.length_nil, Nat.reduceAdd, Nat.zero_add, Nat.add_zero]; first | done | rfl) | rfl) (by first | (simp only [List.take_succ_cons, List.take_zero, List.drop_succ_cons, List.drop_zero, List.cons_append, List.nil_append, List.append_nil, List.length_cons, List.length_nil, Nat.reduceAdd, Nat.zero_add, Nat.add_zero, Value.cells, wrV]; first | done | rfl) | rfl) (by first | (simp only [List.set_cons_succ, List.set_cons_zero]; first | done | rfl) | rfl) ?_ | refine sx_store 2 rfl rfl rfl tyS31 (by first | (simp only [Value.cells]; first | done | rfl) | rfl) rfl rfl (by first | (simp only [List.length_cons, List.length_nil, Nat.reduceAdd, Nat.zero_add, Nat.add_zero]; first | done | rfl) | rfl) (by first | (simp only [List.take_succ_cons, List.take_zero, List.drop_succ_cons, List.drop_zero, List.cons_append, List.nil_append, List.append_nil, List.length_cons, List.length_nil, Nat.reduceAdd, Nat.zero_add, Nat.add_zero, Value.cells, wrV]; first | done | rfl) | rfl) (by first | (simp only [List.set_cons_succ, List.set_cons_zero]; first | done | rfl) | rfl) ?_ | refine sx_store 3 rfl rfl rfl tyS31 (by first | (simp only [Value.cells]; first | done | rfl) | rfl) rfl rfl (by first | (simp only [List.length_cons, List.length_nil, Nat.reduceAdd, Nat.zero_add, Nat.add_zero]; first | done | rfl) | rfl) (by first | (simp only [List.take_succ_cons, List.take_zero, List.drop_succ_cons, List.drop_zero, List.cons_append, List.nil_append, List.append_nil, List.length_cons, List.length_nil, Nat.reduceAdd, Nat.zero_add, Nat.add_zero, Value.cells, wrV]; first | done | rfl) | rfl) (by first | (simp only [List.set_cons_succ, List.set_cons_zero]; first | done | rfl) | rfl) ?_
      refine sx_nil (hZ _ _ ?_)
      refine awp_forget [(0, _), (1, _), (5, _), (7, _), (8, _)] (Kn.cons rfl (Kn.cons rfl (Kn.cons rfl (Kn.cons rfl (Kn.cons rfl (Kn.nil)))))) ?_

      refine awp_heap (.own g1 31 [uq x.k.1, uq x.k.2] :: (cacheH g b most s ++ [.ro ga o (ocells OL)])) (HLe.refl _) ?_
      refine awk_seq_region (fun j : Nat × CS => [(0, iq most), (1, .slice (some ⟨ga, o, none⟩) OL.length c), (5, ptr g 0), (7, iq (i : Nat)), (8, ptr g1 0), (9, ptr j.1 0), (10, .bool B)]) (fun j => .own j.1 31 [uq K.1, uq K.2] :: .own g1 31 [uq x.k.1, uq x.k.2] :: (cacheH g b most j.2 ++ [.ro ga o (ocells OL)])) (fun j => Rep j.2 L2) _ [7, 11, 12] [(0, true), (1, true), (2, true), (3, true), (4, true), (5, true), (6, true), (7, false), (8, true), (9, true), (10, true), (11, false), (12, false), (13, true)] [(0, true), (1, true), (2, true), (3, true), (4, true), (5, true), (6, true), (11, false), (7, false), (8, true), (9, true), (10, true), (12, false), (13, true)] mixed (by kernel_rfl) (HLe.pick [0, 3] (by simp) (by simp only [pick, List.filterMap_cons, List.filterMap_nil, List.getElem?_cons_succ, List.getElem?_cons_zero]; rfl)) ?_ ?_ ?_
      · refine tw_p rfl ?_
        refine sv_move rfl rfl ?_
        refine sv_nil ?_
        refine tw_p rfl ?_
        first | refine sv_loadA 0 rfl rfl tyA31 tyS31 (by first | (simp only [List.length_cons, List.length_nil, Nat.reduceAdd, Nat.zero_add, Nat.add_zero]; first | done | rfl) | rfl) (by first | (simp only [List.take_succ_cons, List.take_zero, List.drop_succ_cons, List.drop_zero, List.cons_append, List.nil_append, List.append_nil, List.length_cons, List.length_nil, Nat.reduceAdd, Nat.zero_add, Nat.add_zero, Value.cells, wrV]; first | done | rfl) | rfl) rfl ?_ | refine sv_loadA 1 rfl rfl tyA31 tyS31 (by first | (simp only [List.length_cons, List.length_nil, Nat.reduceAdd, Nat.zero_add, Nat.add_zero]; first | done | rfl) | rfl) (by first | (simp only [List.take_succ_cons, List.take_zero, List.drop_succ_cons, List.drop_zero, List.cons_append, List.nil_append, List.append_nil, List.length_cons, List.length_nil, Nat.reduceAdd, Nat.zero_add, Nat.add_zero, Value.cells, wrV]; first | done | rfl) | rfl) rfl ?_
        refine sv_nil ?_
        refine tw_p rfl ?_
        refine sv_move rfl rfl ?_
        refine sv_nil ?_
        refine tw_p rfl ?_
        refine sv_move rfl rfl ?_
        refine sv_nil ?_
        refine tw_p rfl ?_
        refine sv_indexAddr (o + i * 4) Try.underlying22 tyS34 rfl rfl (by omega) (by simp) rfl ?_
        refine sv_nil ?_
        refine tw_p rfl ?_
        refine sv_fieldAddr rfl tyF34_2 (by first | (simp only [Nat.reduceAdd, Nat.add_zero, Nat.zero_add]; first | done | rfl) | rfl) rfl ?_
        refine sv_nil ?_
        refine tw_p rfl ?_
        refine sv_loadRo 1 rfl rfl (i * 4 + 3) rfl tyA9 tyS9 (ocells_v hx) rfl ?_
        refine sv_nil ?_
        refine tw_g rfl ?_
        first | (refine sx_callA (cacheH g b most s) [] [_, _] (by rw [List.append_nil]; exact hput) rfl (HLe.pick [1, 2, 0, 3] (by simp) rfl) (List.nil_sublist _) Ro.nil rfl ?_; rintro v H' ⟨s2, rfl, hR2, rfl⟩; refine sx_heap (_ :: (cacheH g b most s2 ++ [_])) (HLe.pick [2, 0, 1, 3] (by simp) rfl) ?_) | (refine sx_callA (cacheH g b most s) [] [_, _, _] (by rw [List.append_nil]; exact hput) rfl (HLe.pick [2, 3, 0, 1, 4] (by simp) rfl) (List.nil_sublist _) Ro.nil rfl ?_; rintro v H' ⟨s2, rfl, hR2, rfl⟩; refine sx_heap (_ :: _ :: (cacheH g b most s2 ++ [_])) (HLe.pick [2, 3, 0, 1, 4] (by simp) rfl) ?_)
        refine sx_nil ⟨HLe.pick [0, 3] (by simp) rfl, ?_⟩
        refine tw_p rfl ?_
        refine sv_move rfl rfl ?_
        refine sv_nil ?_
        refine tw_p rfl ?_
        refine sv_extract rfl rfl rfl ?_
        refine sv_nil ?_
        refine tw_p rfl ?_
        refine sv_extract rfl rfl rfl ?_
        refine sv_nil ?_
        refine tw_g rfl ?_
        refine sx_alloc tyZ31 rfl (fun g2 => ?_)
        refine sx_nil ⟨HLe.pick [1, 4] (by simp) rfl, ?_⟩
        refine tw_g rfl ?_
        first | refine sx_store 0 rfl rfl rfl tyS31 (by first | (simp only [Value.cells]; first | done | rfl) | rfl) rfl rfl (by first | (simp only [List.length_cons, List.length_nil, Nat.reduceAdd, Nat.zero_add, Nat.add_zero]; first | done | rfl) | rfl) (by first | (simp only [List.take_succ_cons, List.take_zero, List.drop_succ_cons, List.drop_zero, List.cons_append, List.nil_append, List.append_nil, List.length_cons, List.length_nil, Nat.reduceAdd, Nat.zero_add, Nat.add_zero, Value.cells, wrV]; first | done | rfl) | rfl) (by first | (simp only [List.set_cons_succ, List.set_cons_zero]; first | done | rfl) | rfl) ?_ | refine sx_store 1 rfl rfl rfl tyS31 (by first | (simp only [Value.cells]; first | done | rfl) | rfl) rfl rfl (by first | (simp only [List.length_cons, List.length_nil, Nat.reduceAdd, Nat.zero_add, Nat.add_zero]; first | done | rfl) | rfl) (by first | (simp only [List.take_succ_cons, List.take_zero, List.drop_succ_cons, List.drop_zero, List.cons_append, List.nil_append, List.append_nil, List.length_cons, List.length_nil, Nat.reduceAdd, Nat.zero_add, Nat.add_zero, Value.cells, wrV]; first | done | rfl) | rfl) (by first | (simp only [List.set_cons_succ, List.set_cons_zero]; first | done | rfl) | rfl) ?_ | refine sx_store 2 rfl rfl rfl tyS31 (by first | (simp only [Value.cells]; first | done | rfl) | rfl) rfl rfl (by first | (simp only [List.length_cons, List.length_nil, Nat.reduceAdd, Nat.zero_add, Nat.add_zero]; first | done | rfl) | rfl) (by first | (simp only [List.take_succ_cons, List.take_zero, List.drop_succ_cons, List.drop_zero, List.cons_append, List.nil_append, List.append_nil, List.length_cons, List.length_nil, Nat.reduceAdd, Nat.zero_add, Nat.add_zero, Value.cells, wrV]; first | done | rfl) | rfl) (by first | (simp only [List.set_cons_succ, List.set_cons_zero]; first | done | rfl) | rfl) ?_ | refine sx_store 3 rfl rfl rfl tyS31 (by first | (simp only [Value.cells]; first | done | rfl) | rfl) rfl rfl (by first | (simp only [List.length_cons, List.length_nil, Nat.reduceAdd, Nat.zero_add, Nat.add_zero]; first | done | rfl) | rfl) (by first | (simp only [List.take_succ_cons, List.take_zero, List.drop_succ_cons, List.drop_zero, List.cons_append, List.nil_append, List.append_nil, List.length_cons, List.length_nil, Nat.reduceAdd, Nat.zero_add, Nat.add_zero, Value.cells, wrV]; first | done | rfl) | rfl) (by first | (simp only [List.set_cons_succ, List.set_cons_zero]; first | done | rfl) | rfl) ?_ | refine sx_store 4 rfl rfl rfl tyS31 (by first | (simp only [Value.cells]; first | done | rfl) | rfl) rfl rfl (by first | (simp only [List.length_cons, List.length_nil, Nat.reduceAdd, Nat.zero_add, Nat.add_zero]; first | done | rfl) | rfl) (by first | (simp only [List.take_succ_cons, List.take_zero, List.drop_succ_cons, List.drop_zero, List.cons_append, List.nil_append, List.append_nil, List.length_cons, List.length_nil, Nat.reduceAdd, Nat.zero_add, Nat.add_zero, Value.cells, wrV]; first | done | rfl) | rfl) (by first | (simp only [List.set_cons_succ, List.set_cons_zero]; first | done | rfl) | rfl) ?_
        refine sx_nil ⟨HLe.pick [1, 4] (by simp) rfl, ?_⟩
        refine tw_p rfl ?_
        refine sv_assign rfl rfl ?_
        refine sv_nil ?_
        refine tw_nil ?_
        exact ⟨(g2, s2), hR2, Kn.cons rfl (Kn.cons rfl (Kn.cons rfl (Kn.cons rfl (Kn.cons rfl (Kn.cons rfl (Kn.cons rfl Kn.nil)))))), HLe.pick [0, 1, 2, 3, 4] (by simp) rfl⟩
      · refine tw_p rfl ?_
        refine sv_move rfl rfl ?_
        refine sv_nil ?_
        refine tw_p rfl ?_
        first | refine sv_loadA 0 rfl rfl tyA31 tyS31 (by first | (simp only [List.length_cons, List.length_nil, Nat.reduceAdd, Nat.zero_add, Nat.add_zero]; first | done | rfl) | rfl) (by first | (simp only [List.take_succ_cons, List.take_zero, List.drop_succ_cons, List.drop_zero, List.cons_append, List.nil_append, List.append_nil, List.length_cons, List.length_nil, Nat.reduceAdd, Nat.zero_add, Nat.add_zero, Value.cells, wrV]; first | done | rfl) | rfl) rfl ?_ | refine sv_loadA 1 rfl rfl tyA31 tyS31 (by first | (simp only [List.length_cons, List.length_nil, Nat.reduceAdd, Nat.zero_add, Nat.add_zero]; first | done | rfl) | rfl) (by first | (simp only [List.take_succ_cons, List.take_zero, List.drop_succ_cons, List.drop_zero, List.cons_append, List.nil_append, List.append_nil, List.length_cons, List.length_nil, Nat.reduceAdd, Nat.zero_add, Nat.add_zero, Value.cells, wrV]; first | done | rfl) | rfl) rfl ?_
        refine sv_nil ?_
        refine tw_p rfl ?_
        refine sv_move rfl rfl ?_
        refine sv_nil ?_
        refine tw_p rfl ?_
        refine sv_move rfl rfl ?_
        refine sv_nil ?_
        refine tw_p rfl ?_
        refine sv_indexAddr (o + i * 4) Try.underlying22 tyS34 rfl rfl (by omega) (by simp) rfl ?_
        refine sv_nil ?_
        refine tw_p rfl ?_
        refine sv_fieldAddr rfl tyF34_2 (by first | (simp only [Nat.reduceAdd, Nat.add_zero, Nat.zero_add]; first | done | rfl) | rfl) rfl ?_
        refine sv_nil ?_
        refine tw_p rfl ?_
        refine sv_loadRo 1 rfl rfl (i * 4 + 3) rfl tyA9 tyS9 (ocells_v hx) rfl ?_
        refine sv_nil ?_
        refine tw_g rfl ?_
        refine sx_alloc tyZ31 rfl (fun g2 => ?_)
        refine sx_nil ⟨HLe.pick [1, 4] (by simp) rfl, ?_⟩
        refine tw_g rfl ?_
        first | (refine sx_callA (cacheH g b most s) [] [_, _] (by rw [List.append_nil]; exact hput) rfl (HLe.pick [1, 2, 0, 3] (by simp) rfl) (List.nil_sublist _) Ro.nil rfl ?_; rintro v H' ⟨s2, rfl, hR2, rfl⟩; refine sx_heap (_ :: (cacheH g b most s2 ++ [_])) (HLe.pick [2, 0, 1, 3] (by simp) rfl) ?_) | (refine sx_callA (cacheH g b most s) [] [_, _, _] (by rw [List.append_nil]; exact hput) rfl (HLe.pick [2, 3, 0, 1, 4] (by simp) rfl) (List.nil_sublist _) Ro.nil rfl ?_; rintro v H' ⟨s2, rfl, hR2, rfl⟩; refine sx_heap (_ :: _ :: (cacheH g b most s2 ++ [_])) (HLe.pick [2, 3, 0, 1, 4] (by simp) rfl) ?_)
        refine sx_nil ⟨HLe.pick [1, 4] (by simp) rfl, ?_⟩
        refine tw_p rfl ?_
        refine sv_move rfl rfl ?_
        refine sv_nil ?_
        refine tw_p rfl ?_
        refine sv_extract rfl rfl rfl ?_
        refine sv_nil ?_
        refine tw_p rfl ?_
        refine sv_extract rfl rfl rfl ?_
        refine sv_nil ?_
        refine tw_g rfl ?_
        first | refine sx_store 0 rfl rfl rfl tyS31 (by first | (simp only [Value.cells]; first | done | rfl) | rfl) rfl rfl (by first | (simp only [List.length_cons, List.length_nil, Nat.reduceAdd, Nat.zero_add, Nat.add_zero]; first | done | rfl) | rfl) (by first | (simp only [List.take_succ_cons, List.take_zero, List.drop_succ_cons, List.drop_zero, List.cons_append, List.nil_append, List.append_nil, List.length_cons, List.length_nil, Nat.reduceAdd, Nat.zero_add, Nat.add_zero, Value.cells, wrV]; first | done | rfl) | rfl) (by first | (simp only [List.set_cons_succ, List.set_cons_zero]; first | done | rfl) | rfl) ?_ | refine sx_store 1 rfl rfl rfl tyS31 (by first | (simp only [Value.cells]; first | done | rfl) | rfl) rfl rfl (by first | (simp only [List.length_cons, List.length_nil, Nat.reduceAdd, Nat.zero_add, Nat.add_zero]; first | done | rfl) | rfl) (by first | (simp only [List.take_succ_cons, List.take_zero, List.drop_succ_cons, List.drop_zero, List.cons_append, List.nil_append, List.append_nil, List.length_cons, List.length_nil, Nat.reduceAdd, Nat.zero_add, Nat.add_zero, Value.cells, wrV]; first | done | rfl) | rfl) (by first | (simp only [List.set_cons_succ, List.set_cons_zero]; first | done | rfl) | rfl) ?_ | refine sx_store 2 rfl rfl rfl tyS31 (by first | (simp only [Value.cells]; first | done | rfl) | rfl) rfl rfl (by first | (simp only [List.length_cons, List.length_nil, Nat.reduceAdd, Nat.zero_add, Nat.add_zero]; first | done | rfl) | rfl) (by first | (simp only [List.take_succ_cons, List.take_zero, List.drop_succ_cons, List.drop_zero, List.cons_append, List.nil_append, List.append_nil, List.length_cons, List.length_nil, Nat.reduceAdd, Nat.zero_add, Nat.add_zero, Value.cells, wrV]; first | done | rfl) | rfl) (by first | (simp only [List.set_cons_succ, List.set_cons_zero]; first | done | rfl) | rfl) ?_ | refine sx_store 3 rfl rfl rfl tyS31 (by first | (simp only [Value.cells]; first | done | rfl) | rfl) rfl rfl (by first | (simp only [List.length_cons, List.length_nil, Nat.reduceAdd, Nat.zero_add, Nat.add_zero]; first | done | rfl) | rfl) (by first | (simp only [List.take_succ_cons, List.take_zero, List.drop_succ_cons, List.drop_zero, List.cons_append, List.nil_append, List.append_nil, List.length_cons, List.length_nil, Nat.reduceAdd, Nat.zero_add, Nat.add_zero, Value.cells, wrV]; first | done | rfl) | rfl) (by first | (simp only [List.set_cons_succ, List.set_cons_zero]; first | done | rfl) | rfl) ?_ | refine sx_store 4 rfl rfl rfl tyS31 (by first | (simp only [Value.cells]; first | done | rfl) | rfl) rfl rfl (by first | (simp only [List.length_cons, List.length_nil, Nat.reduceAdd, Nat.zero_add, Nat.add_zero]; first | done | rfl) | rfl) (by first | (simp only [List.take_succ_cons, List.take_zero, List.drop_succ_cons, List.drop_zero, List.cons_append, List.nil_append, List.append_nil, List.length_cons, List.length_nil, Nat.reduceAdd, Nat.zero_add, Nat.add_zero, Value.cells, wrV]; first | done | rfl) | rfl) (by first | (simp only [List.set_cons_succ, List.set_cons_zero]; first | done | rfl) | rfl) ?_
        refine sx_nil ⟨HLe.pick [1, 4] (by simp) rfl, ?_⟩
        refine tw_p rfl ?_
        refine sv_assign rfl rfl ?_
        refine sv_nil ?_
        refine tw_nil ?_
        exact ⟨(g2, s2), hR2, Kn.cons rfl (Kn.cons rfl (Kn.cons rfl (Kn.cons rfl (Kn.cons rfl (Kn.cons rfl (Kn.cons rfl Kn.nil)))))), HLe.pick [0, 1, 2, 3, 4] (by simp) rfl⟩
      rintro ⟨g2, s2⟩ hR2
      obtain ⟨hth, hval, hgone⟩ := hroom s2 hR2

      refine awp_seq_region (fun Z hZ => ?_)
      refine sx_move rfl rfl ?_
      first | refine sx_loadA 0 rfl rfl tyA31 tyS31 (by first | (simp only [List.length_cons, List.length_nil, Nat.reduceAdd, Nat.zero_add, Nat.add_zero]; first | done | rfl) | rfl) (by first | (simp only [List.take_succ_cons, List.take_zero, List.drop_succ_cons, List.drop_zero, List.cons_append, List.nil_append, List.append_nil, List.length_cons, List.length_nil, Nat.reduceAdd, Nat.zero_add, Nat.add_zero, Value.cells, wrV]; first | done | rfl) | rfl) rfl ?_ | refine sx_loadA 1 rfl rfl tyA31 tyS31 (by first | (simp only [List.length_cons, List.length_nil, Nat.reduceAdd, Nat.zero_add, Nat.add_zero]; first | done | rfl) | rfl) (by first | (simp only [List.take_succ_cons, List.take_zero, List.drop_succ_cons, List.drop_zero, List.cons_append, List.nil_append, List.append_nil, List.length_cons, List.length_nil, Nat.reduceAdd, Nat.zero_add, Nat.add_zero, Value.cells, wrV]; first | done | rfl) | rfl) rfl ?_ | refine sx_loadA 2 rfl rfl tyA31 tyS31 (by first | (simp only [List.length_cons, List.length_nil, Nat.reduceAdd, Nat.zero_add, Nat.add_zero]; first | done | rfl) | rfl) (by first | (simp only [List.take_succ_cons, List.take_zero, List.drop_succ_cons, List.drop_zero, List.cons_append, List.nil_append, List.append_nil, List.length_cons, List.length_nil, Nat.reduceAdd, Nat.zero_add, Nat.add_zero, Value.cells, wrV]; first | done | rfl) | rfl) rfl ?_ | refine sx_loadA 3 rfl rfl tyA31 tyS31 (by first | (simp only [List.length_cons, List.length_nil, Nat.reduceAdd, Nat.zero_add, Nat.add_zero]; first | done | rfl) | rfl) (by first | (simp only [List.take_succ_cons, List.take_zero, List.drop_succ_cons, List.drop_zero, List.cons_append, List.nil_append, List.append_nil, List.length_cons, List.length_nil, Nat.reduceAdd, Nat.zero_add, Nat.add_zero, Value.cells, wrV]; first | done | rfl) | rfl) rfl ?_ | refine sx_loadA 4 rfl rfl tyA31 tyS31 (by first | (simp only [List.length_cons, List.length_nil, Nat.reduceAdd, Nat.zero_add, Nat.add_zero]; first | done | rfl) | rfl) (by first | (simp only [List.take_succ_cons, List.take_zero, List.drop_succ_cons, List.drop_zero, List.cons_append, List.nil_append, List.append_nil, List.length_cons, List.length_nil, Nat.reduceAdd, Nat.zero_add, Nat.add_zero, Value.cells, wrV]; first | done | rfl) | rfl) rfl ?_
      refine sx_callA (cacheH g b most s2) [] [_, _, _] (by rw [List.append_nil]; exact peekL_fn g b most s2 L2 x.k hR2) rfl (HLe.pick [2, 3, 0, 1, 4] (by simp) rfl) (List.nil_sublist _) Ro.nil rfl ?_
      rintro v H' ⟨rfl, rfl⟩
      rw [hth]
      refine sx_move rfl rfl ?_
      refine sx_extract rfl rfl rfl ?_
      refine sx_extract rfl rfl rfl ?_
      refine sx_assign rfl rfl ?_
      refine sx_assign rfl rfl ?_
      refine sx_nil (hZ _ _ ?_)
      refine awp_forget [(0, _), (1, _), (5, _), (7, _), (9, _), (10, _), (11, _), (12, _)] (Kn.cons rfl (Kn.cons rfl (Kn.cons rfl (Kn.cons rfl (Kn.cons rfl (Kn.cons rfl (Kn.cons rfl (Kn.cons rfl (Kn.nil))))))))) ?_
      refine awp_heap (cacheH g b most s2 ++ [.own g2 31 [uq K.1, uq K.2], .own g1 31 [uq x.k.1, uq x.k.2], .ro ga o (ocells OL)]) (HLe.refl _) ?_
      have hml := hR2.len

      refine awp_cut (ι := Unit) (fun _ => [(0, iq most), (1, .slice (some ⟨ga, o, none⟩) OL.length c), (5, ptr g 0), (7, iq (i : Nat)), (9, ptr g2 0), (10, .bool B)]) (fun _ => cacheH g b most s2 ++ [.own g2 31 [uq K.1, uq K.2], .own g1 31 [uq x.k.1, uq x.k.2], .ro ga o (ocells OL)]) (fun _ => True) ?_ ?_
      · refine awp_seq_meet [(0, iq most), (1, .slice (some ⟨ga, o, none⟩) OL.length c), (5, ptr g 0), (7, iq (i : Nat)), (9, ptr g2 0), (10, .bool B), (90, .bool false)] (cacheH g b most s2 ++ [.own g2 31 [uq K.1, uq K.2], .own g1 31 [uq x.k.1, uq x.k.2], .ro ga o (ocells OL)]) (fun Z hZ => ?_) ?_
        · refine sx_move rfl rfl ?_
          refine sx_move rfl rfl ?_
          first | refine sx_gtr rfl rfl rfl ?_ | refine sx_sgtr rfl rfl rfl ?_
          refine sx_bneq Try.underlying4 rfl rfl rfl ?_
          refine sx_move rfl rfl ?_
          refine sx_split 73 rfl (fun hb4 => ?_) (fun hb4 => ?_)
          · refine sx_off rfl rfl rfl rfl rfl ?_
            refine sx_off rfl rfl rfl rfl rfl ?_
            refine sx_offU rfl rfl rfl rfl ?_
            refine sx_offU rfl rfl rfl rfl ?_
            refine sx_offU rfl rfl rfl rfl ?_
            refine sx_offU rfl rfl rfl rfl ?_
            refine sx_offU rfl rfl rfl rfl ?_
            refine sx_offU rfl rfl rfl rfl ?_
            refine sx_offU rfl rfl rfl rfl ?_
            refine sx_off rfl rfl rfl rfl rfl ?_
            refine sx_pick rfl rfl rfl ?_
            refine sx_move rfl rfl ?_
            refine sx_off rfl rfl rfl rfl rfl ?_
            refine sx_off rfl rfl rfl rfl rfl ?_
            refine sx_off rfl rfl rfl rfl rfl ?_
            refine sx_off rfl rfl rfl rfl rfl ?_
            refine sx_pick rfl rfl rfl ?_
            refine sx_nil (hZ _ _ ?_ ?_)
            · exact Kn.cons rfl (Kn.cons rfl (Kn.cons rfl (Kn.cons rfl (Kn.cons rfl (Kn.cons rfl (Kn.cons (congrArg some (congrArg Value.bool (by first | (exfalso; simp at hb4; done) | (exfalso; rw [hval (of_decide_eq_true hb6)] at hb16; simp at hb16; done) | (simp; omega)))) Kn.nil))))))
            · exact HLe.refl _
          · refine sx_on rfl rfl rfl ?_
            refine sx_move rfl rfl ?_
            refine sx_on rfl rfl rfl ?_
            refine sx_move rfl rfl ?_
            refine sx_split 75 rfl (fun hb6 => ?_) (fun hb6 => ?_)
            · refine sx_on rfl rfl rfl ?_
              refine sx_move rfl rfl ?_
              refine sx_on rfl rfl rfl ?_
              refine sx_move rfl rfl ?_
              refine sx_on rfl rfl rfl ?_
              refine sx_move rfl rfl ?_
              refine sx_on rfl rfl rfl ?_
              refine sx_indexAddr (o + i * 4) Try.underlying22 tyS34 rfl rfl (by omega) (by simp) rfl ?_
              refine sx_on rfl rfl rfl ?_
              refine sx_fieldAddr rfl tyF34_2 (by first | (simp only [Nat.reduceAdd, Nat.add_zero, Nat.zero_add]; first | done | rfl) | rfl) rfl ?_
              refine sx_on rfl rfl rfl ?_
              refine sx_loadRo 4 rfl rfl (i * 4 + 3) rfl tyA9 tyS9 (ocells_v hx) rfl ?_
              refine sx_on rfl rfl rfl ?_
              first | refine sx_neq rfl rfl rfl ?_ | refine sx_sneq rfl rfl rfl ?_
              refine sx_on rfl rfl rfl ?_
              refine sx_pick rfl rfl rfl ?_
              refine sx_pick rfl rfl rfl ?_
              refine sx_move rfl rfl ?_
              refine sx_split 85 rfl (fun hb16 => ?_) (fun hb16 => ?_)
              · refine sx_off rfl rfl rfl rfl rfl ?_
                refine sx_off rfl rfl rfl rfl rfl ?_
                refine sx_off rfl rfl rfl rfl rfl ?_
                refine sx_off rfl rfl rfl rfl rfl ?_
                refine sx_pick rfl rfl rfl ?_
                refine sx_nil (hZ _ _ ?_ ?_)
                · exact Kn.cons rfl (Kn.cons rfl (Kn.cons rfl (Kn.cons rfl (Kn.cons rfl (Kn.cons rfl (Kn.cons (congrArg some (congrArg Value.bool (by first | (exfalso; simp at hb4; done) | (exfalso; rw [hval (of_decide_eq_true hb6)] at hb16; simp at hb16; done) | (simp; omega)))) Kn.nil))))))
                · exact HLe.refl _
              · refine sx_on rfl rfl rfl ?_
                refine sx_move rfl rfl ?_
                refine sx_on rfl rfl rfl ?_
                refine sx_callA (cacheH g b most s2) [] [_, _, _] (by rw [List.append_nil]; exact len_fn g b most s2) rfl (HLe.refl _) (List.nil_sublist _) Ro.nil rfl ?_
                rintro v H' ⟨rfl, rfl⟩
                rw [hml]
                refine sx_on rfl rfl rfl ?_
                refine sx_move rfl rfl ?_
                refine sx_on rfl rfl rfl ?_
                first | refine sx_gtr rfl rfl rfl ?_ | refine sx_sgtr rfl rfl rfl ?_
                refine sx_pick rfl rfl rfl ?_
                refine sx_nil (hZ _ _ ?_ ?_)
                · exact Kn.cons rfl (Kn.cons rfl (Kn.cons rfl (Kn.cons rfl (Kn.cons rfl (Kn.cons rfl (Kn.cons (congrArg some (congrArg Value.bool (by first | (exfalso; simp at hb4; done) | (exfalso; rw [hval (of_decide_eq_true hb6)] at hb16; simp at hb16; done) | (simp; omega)))) Kn.nil))))))
                · exact HLe.refl _
            · refine sx_off rfl rfl rfl rfl rfl ?_
              refine sx_off rfl rfl rfl rfl rfl ?_
              refine sx_off rfl rfl rfl rfl rfl ?_
              refine sx_off rfl rfl rfl rfl rfl ?_
              refine sx_off rfl rfl rfl rfl rfl ?_
              refine sx_off rfl rfl rfl rfl rfl ?_
              refine sx_off rfl rfl rfl rfl rfl ?_
              refine sx_on rfl rfl rfl ?_
              refine sx_pick rfl rfl rfl ?_
              refine sx_pick rfl rfl rfl ?_
              refine sx_move rfl rfl ?_
              refine sx_on rfl rfl rfl ?_
              refine sx_move rfl rfl ?_
              refine sx_on rfl rfl rfl ?_
              refine sx_callA (cacheH g b most s2) [] [_, _, _] (by rw [List.append_nil]; exact len_fn g b most s2) rfl (HLe.refl _) (List.nil_sublist _) Ro.nil rfl ?_
              rintro v H' ⟨rfl, rfl⟩
              rw [hml]
              refine sx_on rfl rfl rfl ?_
              refine sx_move rfl rfl ?_
              refine sx_on rfl rfl rfl ?_
              first | refine sx_gtr rfl rfl rfl ?_ | refine sx_sgtr rfl rfl rfl ?_
              refine sx_pick rfl rfl rfl ?_
              refine sx_nil (hZ _ _ ?_ ?_)
              · exact Kn.cons rfl (Kn.cons rfl (Kn.cons rfl (Kn.cons rfl (Kn.cons rfl (Kn.cons rfl (Kn.cons (congrArg some (congrArg Value.bool (by first | (exfalso; simp at hb4; done) | (exfalso; rw [hval (of_decide_eq_true hb6)] at hb16; simp at hb16; done) | (simp; omega)))) Kn.nil))))))
              · exact HLe.refl _
        first | refine awp_cond rfl (fun hf => ?_) (fun hf => ?_) | refine awp_seq (awp_cond rfl (fun hf => ?_) (fun hf => ?_))
        · cases hf
        refine awp_skip ?_
        exact nx_cut () trivial (Kn.cons rfl (Kn.cons rfl (Kn.cons rfl (Kn.cons rfl (Kn.cons rfl (Kn.cons rfl Kn.nil)))))) (HLe.refl _)
      rintro ⟨⟩ -

      refine awp_seq_region (fun Z hZ => ?_)
      refine sx_move rfl rfl ?_
      first | refine sx_loadA 0 rfl rfl tyA31 tyS31 (by first | (simp only [List.length_cons, List.length_nil, Nat.reduceAdd, Nat.zero_add, Nat.add_zero]; first | done | rfl) | rfl) (by first | (simp only [List.take_succ_cons, List.take_zero, List.drop_succ_cons, List.drop_zero, List.cons_append, List.nil_append, List.append_nil, List.length_cons, List.length_nil, Nat.reduceAdd, Nat.zero_add, Nat.add_zero, Value.cells, wrV]; first | done | rfl) | rfl) rfl ?_ | refine sx_loadA 1 rfl rfl tyA31 tyS31 (by first | (simp only [List.length_cons, List.length_nil, Nat.reduceAdd, Nat.zero_add, Nat.add_zero]; first | done | rfl) | rfl) (by first | (simp only [List.take_succ_cons, List.take_zero, List.drop_succ_cons, List.drop_zero, List.cons_append, List.nil_append, List.append_nil, List.length_cons, List.length_nil, Nat.reduceAdd, Nat.zero_add, Nat.add_zero, Value.cells, wrV]; first | done | rfl) | rfl) rfl ?_ | refine sx_loadA 2 rfl rfl tyA31 tyS31 (by first | (simp only [List.length_cons, List.length_nil, Nat.reduceAdd, Nat.zero_add, Nat.add_zero]; first | done | rfl) | rfl) (by first | (simp only [List.take_succ_cons, List.take_zero, List.drop_succ_cons, List.drop_zero, List.cons_append, List.nil_append, List.append_nil, List.length_cons, List.length_nil, Nat.reduceAdd, Nat.zero_add, Nat.add_zero, Value.cells, wrV]; first | done | rfl) | rfl) rfl ?_ | refine sx_loadA 3 rfl rfl tyA31 tyS31 (by first | (simp only [List.length_cons, List.length_nil, Nat.reduceAdd, Nat.zero_add, Nat.add_zero]; first | done | rfl) | rfl) (by first | (simp only [List.take_succ_cons, List.take_zero, List.drop_succ_cons, List.drop_zero, List.cons_append, List.nil_append, List.append_nil, List.length_cons, List.length_nil, Nat.reduceAdd, Nat.zero_add, Nat.add_zero, Value.cells, wrV]; first | done | rfl) | rfl) rfl ?_ | refine sx_loadA 4 rfl rfl tyA31 tyS31 (by first | (simp only [List.length_cons, List.length_nil, Nat.reduceAdd, Nat.zero_add, Nat.add_zero]; first | done | rfl) | rfl) (by first | (simp only [List.take_succ_cons, List.take_zero, List.drop_succ_cons, List.drop_zero, List.cons_append, List.nil_append, List.append_nil, List.length_cons, List.length_nil, Nat.reduceAdd, Nat.zero_add, Nat.add_zero, Value.cells, wrV]; first | done | rfl) | rfl) rfl ?_
      refine sx_callA (cacheH g b most s2) [] [_, _, _] (by rw [List.append_nil]; exact peekL_fn g b most s2 L2 K hR2) rfl (HLe.refl _) (List.nil_sublist _) Ro.nil rfl ?_
      rintro v H' ⟨rfl, rfl⟩
      refine sx_move rfl rfl ?_
      refine sx_extract rfl rfl rfl ?_
      refine sx_extract rfl rfl rfl ?_
      refine sx_assign rfl rfl ?_
      refine sx_assign rfl rfl ?_
      refine sx_nil (hZ _ _ ?_)
      refine awp_forget [(0, _), (1, _), (5, _), (7, _), (10, _), (14, _)] (Kn.cons rfl (Kn.cons rfl (Kn.cons rfl (Kn.cons rfl (Kn.cons rfl (Kn.cons rfl (Kn.nil))))))) ?_
      refine awp_seq_meet [(0, iq most), (1, .slice (some ⟨ga, o, none⟩) OL.length c), (5, ptr g 0), (7, iq (i : Nat)), (100, .bool false)] (cacheH g b most s2 ++ roE (some ⟨ga, o, none⟩) (ocells OL)) (fun Z hZ => ?_) ?_
      · refine sx_move rfl rfl ?_
        refine sx_move rfl rfl ?_
        refine sx_split 98 rfl (fun hb1 => ?_) (fun hb1 => ?_)
        · refine sx_on rfl rfl rfl ?_
          refine sx_move rfl rfl ?_
          refine sx_pick rfl rfl rfl ?_
          refine sx_nil (hZ _ _ ?_ ?_)
          · exact Kn.cons rfl (Kn.cons rfl (Kn.cons rfl (Kn.cons rfl (Kn.cons (congrArg some (congrArg Value.bool (by first | exact hgone hb1 | exact hb1 | rfl))) Kn.nil))))
          · exact HLe.pick [0, 1, 4] (by simp) rfl
        · refine sx_off rfl rfl rfl rfl rfl ?_
          refine sx_pick rfl rfl rfl ?_
          refine sx_nil (hZ _ _ ?_ ?_)
          · exact Kn.cons rfl (Kn.cons rfl (Kn.cons rfl (Kn.cons rfl (Kn.cons (congrArg some (congrArg Value.bool (by first | exact hgone hb1 | exact hb1 | rfl))) Kn.nil))))
          · exact HLe.pick [0, 1, 4] (by simp) rfl
      first | refine awp_cond rfl (fun hf => ?_) (fun hf => ?_) | refine awp_seq (awp_cond rfl (fun hf => ?_) (fun hf => ?_))
      · cases hf
      refine awp_skip ?_
      repeat (with_reducible refine nx_block_normal ?_)
      with_reducible refine nx_normal ?_
      refine awp_region (fun Z hZ => ?_)
      refine sx_move rfl rfl ?_
      refine sx_add rfl rfl ((i + 1 : Nat) : Int) (by rw [IntWalk.i64_in _ (by omega)]; omega) rfl ?_
      refine sx_assign rfl rfl ?_
      refine sx_nil (hZ _ _ ?_)
      refine nx_forget [(0, _), (1, _), (5, _), (7, _)] (Kn.cons rfl (Kn.cons rfl (Kn.cons rfl (Kn.cons rfl (Kn.nil))))) ?_
      exact nx_round (i + 1, s2, L2) ⟨by omega, hR2, hlen2⟩ (by simp; omega) (Kn.cons rfl (Kn.cons rfl (Kn.cons rfl (Kn.cons rfl Kn.nil)))) (HLe.refl _)
    · refine awp_exit ?_
      repeat (with_reducible (first | refine nx_then_exit ?_ | refine nx_block_other (by decide) ?_))
      with_reducible refine nx_block_exit ?_
      repeat (with_reducible refine nx_block_normal ?_)
      with_reducible refine nx_normal ?_

      refine awp_seq_region (fun Z hZ => ?_)
      refine sx_move rfl rfl ?_
      refine sx_callA (cacheH g b most s) [] T (by rw [List.append_nil]; exact keys_fn g b most s L hR (by omega)) rfl (HLe.refl _) (List.nil_sublist _) Ro.nil rfl ?_
      rintro v H' ⟨hv, rfl⟩
      rw [List.filter_append, clipE_wr, List.append_assoc]
      obtain ⟨Ak, ck, rfl, hAk⟩ := hv.form
      refine sx_heap (cacheH g b most s ++ roE Ak (kcells L)) ((HLe.swap _ _).trans ((clip_roE (cacheH g b most s) hv).trans (HLe.sub (List.Sublist.append_left (List.sublist_append_left (cacheH g b most s) T) _)))) ?_
      refine sx_assign rfl rfl ?_
      refine sx_nil (hZ _ _ ?_)
      refine awp_forget [(5, _), (15, _)] (Kn.cons rfl (Kn.cons rfl (Kn.nil))) ?_
      refine awp_seq ?_
      refine awp_seq_region (fun Z hZ => ?_)
      refine sx_assign rfl rfl ?_
      refine sx_nil (hZ _ _ ?_)
      refine awp_forget [(5, _), (15, _), (16, _)] (Kn.cons rfl (Kn.cons rfl (Kn.cons rfl (Kn.nil)))) ?_
      refine awp_block ?_
      refine awp_loop (ι := Nat) (fun j => [(5, ptr g 0), (15, .slice Ak L.length ck), (16, iq (j : Nat))]) (fun _ => cacheH g b most s ++ roE Ak (kcells L)) (fun j => j ≤ L.length) (fun j => L.length - j) 0 (by omega) (Kn.cons rfl (Kn.cons rfl (Kn.cons rfl Kn.nil))) (HLe.refl _) ?_
      intro j hj

      refine awp_seq ?_
      refine awp_seq_region (fun Z hZ => ?_)
      refine sx_move rfl rfl ?_
      refine sx_move rfl rfl ?_
      first | refine sx_len Try.underlying40 rfl rfl ?_ | refine sx_lenS Try.underlying40 rfl rfl ?_
      first | refine sx_lss rfl rfl rfl ?_ | refine sx_slss rfl rfl rfl ?_
      refine sx_nil (hZ _ _ ?_)
      refine awp_forget [(5, _), (15, _), (16, _), (106, _)] (Kn.cons rfl (Kn.cons rfl (Kn.cons rfl (Kn.cons rfl (Kn.nil))))) ?_
      first | refine awp_cond rfl (fun h => ?_) (fun h => ?_) | refine awp_seq (awp_cond rfl (fun h => ?_) (fun h => ?_))
      · have hjl : j < L.length := by simpa using h
        obtain ⟨y, hy⟩ : ∃ y, L[j]? = some y := ⟨_, List.getElem?_eq_getElem hjl⟩
        obtain ⟨gk, ok, rfl⟩ := hAk.some (by omega)
        refine awp_skip ?_
        repeat (with_reducible refine nx_block_normal ?_)
        with_reducible refine nx_normal ?_
        refine awp_seq (awp_block ?_)
        refine awp_seq_region (fun Z hZ => ?_)
        refine sx_assign rfl rfl ?_
        refine sx_nil (hZ _ _ ?_)
        refine awp_forget [(5, _), (15, _), (16, _), (17, _)] (Kn.cons rfl (Kn.cons rfl (Kn.cons rfl (Kn.cons rfl (Kn.nil))))) ?_
        refine awp_block ?_
        refine awp_loop (ι := Nat) (fun m => [(5, ptr g 0), (15, .slice (some ⟨gk, ok, none⟩) L.length ck), (16, iq (j : Nat)), (17, iq (m : Nat))]) (fun _ => cacheH g b most s ++ roE (some ⟨gk, ok, none⟩) (kcells L)) (fun m => m ≤ j) (fun m => j - m) 0 (by omega) (Kn.cons rfl (Kn.cons rfl (Kn.cons rfl (Kn.cons rfl Kn.nil)))) (HLe.refl _) ?_
        intro m hm
        refine awp_seq ?_
        refine awp_seq_region (fun Z hZ => ?_)
        refine sx_move rfl rfl ?_
        refine sx_move rfl rfl ?_
        first | refine sx_lss rfl rfl rfl ?_ | refine sx_slss rfl rfl rfl ?_
        refine sx_nil (hZ _ _ ?_)
        refine awp_forget [(5, _), (15, _), (16, _), (17, _), (111, _)] (Kn.cons rfl (Kn.cons rfl (Kn.cons rfl (Kn.cons rfl (Kn.cons rfl (Kn.nil)))))) ?_
        first | refine awp_cond rfl (fun h => ?_) (fun h => ?_) | refine awp_seq (awp_cond rfl (fun h => ?_) (fun h => ?_))
        · have hml : m < j := by simpa using h
          obtain ⟨z, hz⟩ : ∃ z, L[m]? = some z := ⟨_, List.getElem?_eq_getElem (by omega)⟩
          have hne : keq z.1 y.1 = false := decide_eq_false fun e => by
            have := hR.inj m j z.1 z.2 y.2 hz (by rw [e]; exact hy)
            omega
          refine awp_skip ?_
          repeat (with_reducible refine nx_block_normal ?_)
          with_reducible refine nx_normal ?_
          refine awp_seq (awp_block ?_)

          refine awq_seq_region mixed (by kernel_rfl) (fun Z hZ => ?_)
          refine sq_move rfl rfl ?_
          refine sq_move rfl rfl ?_
          refine sq_indexAddr (ok + m * 2) Try.underlying40 tyS31 rfl rfl (by omega) (by simp) rfl ?_
          refine sq_loadRo 2 rfl rfl (m * 2) rfl tyA31 tyS31 (kcells_at hz) rfl ?_
          refine sq_move rfl rfl ?_
          refine sq_move rfl rfl ?_
          refine sq_indexAddr (ok + j * 2) Try.underlying40 tyS31 rfl rfl (by omega) (by simp) rfl ?_
          refine sq_loadRo 2 rfl rfl (j * 2) rfl tyA31 tyS31 (kcells_at hy) rfl ?_
          refine sq_aeql (key_eq z.1 y.1) guard_key rfl rfl rfl ?_
          refine sq_nil (hZ _ _ ?_)
          refine awp_forget [(5, _), (15, _), (16, _), (17, _), (122, _)] (Kn.cons rfl (Kn.cons rfl (Kn.cons rfl (Kn.cons rfl (Kn.cons rfl (Kn.nil)))))) ?_
          first | refine awp_cond rfl (fun hf => ?_) (fun hf => ?_) | refine awp_seq (awp_cond rfl (fun hf => ?_) (fun hf => ?_))
          · rw [hne] at hf; cases hf
          refine awp_skip ?_
          repeat (with_reducible refine nx_block_normal ?_)
          with_reducible refine nx_normal ?_
          refine awp_region (fun Z hZ => ?_)
          refine sx_move rfl rfl ?_
          refine sx_add rfl rfl ((m + 1 : Nat) : Int) (by rw [IntWalk.i64_in _ (by omega)]; omega) rfl ?_
          refine sx_assign rfl rfl ?_
          refine sx_nil (hZ _ _ ?_)
          refine nx_forget [(5, _), (15, _), (16, _), (17, _)] (Kn.cons rfl (Kn.cons rfl (Kn.cons rfl (Kn.cons rfl (Kn.nil))))) ?_
          exact nx_round (m + 1) (by omega) (by omega) (Kn.cons rfl (Kn.cons rfl (Kn.cons rfl (Kn.cons rfl Kn.nil)))) (HLe.refl _)
        · refine awp_exit ?_
          repeat (with_reducible (first | refine nx_then_exit ?_ | refine nx_block_other (by decide) ?_))
          with_reducible refine nx_block_exit ?_
          repeat (with_reducible refine nx_block_normal ?_)
          with_reducible refine nx_normal ?_
          refine awp_region (fun Z hZ => ?_)
          refine sx_move rfl rfl ?_
          refine sx_add rfl rfl ((j + 1 : Nat) : Int) (by rw [IntWalk.i64_in _ (by omega)]; omega) rfl ?_
          refine sx_assign rfl rfl ?_
          refine sx_nil (hZ _ _ ?_)
          refine nx_forget [(5, _), (15, _), (16, _)] (Kn.cons rfl (Kn.cons rfl (Kn.cons rfl (Kn.nil)))) ?_
          exact nx_round (j + 1) (by omega) (by omega) (Kn.cons rfl (Kn.cons rfl (Kn.cons rfl Kn.nil))) (HLe.refl _)
      · refine awp_exit ?_
        repeat (with_reducible (first | refine nx_then_exit ?_ | refine nx_block_other (by decide) ?_))
        with_reducible refine nx_block_exit ?_
        repeat (with_reducible refine nx_block_normal ?_)
        with_reducible refine nx_normal ?_
        have hml := hR.len
        refine awp_seq_meet [(4, .bool true)] [] (fun Z hZ => ?_) ?_
        · refine sx_move rfl rfl ?_
          first | refine sx_len Try.underlying40 rfl rfl ?_ | refine sx_lenS Try.underlying40 rfl rfl ?_
          refine sx_move rfl rfl ?_
          refine sx_callA (cacheH g b most s) [] (roE Ak (kcells L)) (by rw [List.append_nil]; exact len_fn g b most s) rfl (HLe.refl _) (List.nil_sublist _) Ro.nil rfl ?_
          rintro v H' ⟨rfl, rfl⟩
          rw [hml]
          first | refine sx_eql rfl rfl rfl ?_ | refine sx_seql rfl rfl rfl ?_
          refine sx_move rfl rfl ?_
          refine sx_force 128 rfl true (by simp) ?_
          refine sx_on rfl rfl rfl ?_
          refine sx_callP awake_fn rfl rfl ?_
          refine sx_pick rfl rfl rfl ?_
          refine sx_assign rfl rfl ?_
          refine sx_nil (hZ _ _ ?_ ?_)
          · exact Kn.cons rfl Kn.nil
          · exact HLe.sub (List.nil_sublist _)
        refine awp_ret ?_
        repeat (with_reducible (first | refine nx_then_ret ?_ | refine nx_block_ret ?_))
        exact nx_ret1 rfl rfl rfl
  · refine Fn.enter (N := 131) Try.func3 rfl (by kernel_rfl) rfl (fun w0 => ?_)

    refine awp_seq_region (fun Z hZ => ?_)
    refine sx_assign rfl rfl ?_
    refine sx_nil (hZ _ _ ?_)
    refine awp_forget [(0, _), (1, _)] (Kn.cons rfl (Kn.cons rfl (Kn.nil))) ?_
    refine awp_seq_region (fun Z hZ => ?_)
    refine sx_move rfl rfl ?_
    refine sx_callP (newE_fn n hn) rfl rfl ?_
    refine sx_move rfl rfl ?_
    refine sx_extract rfl rfl rfl ?_
    refine sx_extract rfl rfl rfl ?_
    refine sx_assign rfl rfl ?_
    refine sx_assign rfl rfl ?_
    refine sx_nil (hZ _ _ ?_)
    refine awp_forget [(0, _), (1, _), (5, _), (6, _)] (Kn.cons rfl (Kn.cons rfl (Kn.cons rfl (Kn.cons rfl (Kn.nil))))) ?_
    refine awp_seq ?_
    refine awp_seq_meet [(0, iq n), (1, .slice A OL.length c), (5, .pointer none), (28, .bool true)] T (fun Z hZ => ?_) ?_
    · refine sx_move rfl rfl ?_
      first | refine sx_neq rfl rfl rfl ?_ | refine sx_sneq rfl rfl rfl ?_
      refine sx_move rfl rfl ?_
      refine sx_split 25 rfl (fun hb2 => ?_) (fun hb2 => ?_)
      · refine sx_off rfl rfl rfl rfl rfl ?_
        refine sx_off rfl rfl rfl rfl rfl ?_
        refine sx_pick rfl rfl rfl ?_
        refine sx_nil (hZ _ _ ?_ ?_)
        · exact Kn.cons rfl (Kn.cons rfl (Kn.cons rfl (Kn.cons rfl Kn.nil)))
        · exact HLe.refl _
      · refine sx_on rfl rfl rfl ?_
        refine sx_move rfl rfl ?_
        refine sx_on rfl rfl rfl ?_
        refine sx_nilNil Try.underlying23 rfl rfl ?_
        refine sx_pick rfl rfl rfl ?_
        refine sx_nil (hZ _ _ ?_ ?_)
        · exact Kn.cons rfl (Kn.cons rfl (Kn.cons rfl (Kn.cons rfl Kn.nil)))
        · exact HLe.refl _
    first | refine awp_cond rfl (fun h => ?_) (fun h => ?_) | refine awp_seq (awp_cond rfl (fun h => ?_) (fun h => ?_))
    · refine awp_seq_meet [(4, .bool true)] T (fun Z hZ => ?_) ?_
      · refine sx_move rfl rfl ?_
        first | refine sx_lss rfl rfl rfl ?_ | refine sx_slss rfl rfl rfl ?_
        refine sx_move rfl rfl ?_
        refine sx_split 31 rfl (fun hb2 => ?_) (fun hb2 => ?_)
        · refine sx_off rfl rfl rfl rfl rfl ?_
          refine sx_off rfl rfl rfl rfl rfl ?_
          refine sx_pick rfl rfl rfl ?_
          refine sx_move rfl rfl ?_
          refine sx_on rfl rfl rfl ?_
          refine sx_callP awake_fn rfl rfl ?_
          refine sx_pick rfl rfl rfl ?_
          refine sx_assign rfl rfl ?_
          refine sx_nil (hZ _ _ ?_ ?_)
          · exact Kn.cons (congrArg some (congrArg Value.bool (by simp at *; try omega))) Kn.nil
          · exact HLe.refl _
        · refine sx_on rfl rfl rfl ?_
          refine sx_move rfl rfl ?_
          refine sx_on rfl rfl rfl ?_
          first | refine sx_gtr rfl rfl rfl ?_ | refine sx_sgtr rfl rfl rfl ?_
          refine sx_pick rfl rfl rfl ?_
          refine sx_move rfl rfl ?_
          refine sx_split 35 rfl (fun hb6 => ?_) (fun hb6 => ?_)
          · refine sx_on rfl rfl rfl ?_
            refine sx_callP awake_fn rfl rfl ?_
            refine sx_pick rfl rfl rfl ?_
            refine sx_assign rfl rfl ?_
            refine sx_nil (hZ _ _ ?_ ?_)
            · exact Kn.cons (congrArg some (congrArg Value.bool (by simp at *; try omega))) Kn.nil
            · exact HLe.refl _
          · refine sx_off rfl rfl rfl rfl rfl ?_
            refine sx_pick rfl rfl rfl ?_
            refine sx_assign rfl rfl ?_
            refine sx_nil (hZ _ _ ?_ ?_)
            · exact Kn.cons (congrArg some (congrArg Value.bool (by simp at *; try omega))) Kn.nil
            · exact HLe.refl _
      refine awp_ret ?_
      repeat (with_reducible (first | refine nx_then_ret ?_ | refine nx_block_ret ?_))
      exact nx_ret1 rfl rfl rfl
    · cases h
theorem LruRoom_read {H : Type} {enc : TypeId × Value → H} (w : World) {base : Nat} {v0 v1 : Value} {d0 d1 : DataW H} {p0 p1 : List MemPlace}
    (k0 : Value.okWide Try.prog w .any base 3 v0) (h0 : DataW.Trod enc Try.prog w 0 (fun _ => true) true 3 v0 d0 p0)
    (k1 : Value.okWide Try.prog w .any base 22 v1) (h1 : DataW.Trod enc Try.prog w 0 (fun _ => true) true 22 v1 d1 p1) :
    Calls Try.prog 3 #[v0, v1] w fun e w' => e = .returned (.bool true) ∧ Bel w w' := by
  obtain ⟨n, rfl, _, _, hn⟩ := ChangeShapes.open_int Try.underlying3 k0 h0
  obtain ⟨A, c, OL, T, rfl, hA, hL, hO, hT, hro, hS⟩ := open_ops k1 h1
  exact tail_bel hro hS (room_fn n A c OL hA hL hO T hT hro)
namespace lruRoom
open Go.ChangeShapes Go.WideShapes Go.ChangeAt Go.RowKit
theorem own : ownKnob Try.prog.godebug = none := by kernel_rfl
theorem laidOut : laidOutB Try.prog = true := by kernel_rfl
set_option maxRecDepth 100000 in
theorem lifted (os : Os) (started : os.Started) (H : Type) (enc : TypeId × Value → H) :
    ReturnsInHanded {} Try.checked os 3 .any (Rows.lruRoomSpec.pre6 enc Try.prog Try.f3 Rows.lruRoomRow.domain false) (Rows.lruRoomSpec.post enc Try.prog Try.f3 false true false false) := by
  refine returnsInHanded_of_change (C := Try.checked) own started (by kernel_rfl) Try.func3
    (ChangeSpec.witness6 (enc := enc) (C := Try.checked) false ⟨#[], #[.int .i64 0, .slice none 0 0], []⟩ 8 (by kernel_rfl) (by kernel_rfl) (by kernel_rfl) (by kernel_rfl)) ?_
  intro W base args ds gs before hval0 hW hcnd _
  have hval : ∀ (j : Nat) t v, Try.f3.params[j]? = some t → args[j]? = some v → Value.okWide Try.prog W .any base t v := hval0
  have hW' := hW
  obtain ⟨p, q, hA0, hV, rfl, hfz, hnd⟩ := hW
  have hA : DataW.TrodAll enc Try.prog W 0 (fun _ => true) true Try.f3.params.toList args.toList ds p := hA0
  rw [Try.params3] at hA hval
  obtain ⟨v0, vs0, d0, ds0, p0, q0, hargs, rfl, rfl, h0, r0⟩ := trodAll_cons hA
  obtain ⟨v1, vs1, d1, ds1, p1, q1, rfl, rfl, rfl, h1, r1⟩ := trodAll_cons r0
  obtain ⟨rfl, rfl, rfl⟩ := trodAll_nil r1
  obtain rfl : args = #[v0, v1] := by cases args; simp_all
  obtain ⟨rfl, rfl⟩ := trodVars_none hV
  have lt0 : ∀ x ∈ p0, x.block < W.heap.size := by obtain ⟨m, hm⟩ := h0; exact DataW.trod_lt m _ _ _ hm
  have lt1 : ∀ x ∈ p1, x.block < W.heap.size := by obtain ⟨m, hm⟩ := h1; exact DataW.trod_lt m _ _ _ hm
  refine (LruRoom_read W (hval 0 3 v0 rfl rfl) h0 (hval 1 22 v1 rfl rfl) h1).mono fun e W' ⟨he, bel0⟩ => ?_
  have bel : Below W.heap.size W W' := bel0
  subst he
  exact ⟨_, rfl, _, _, _, [], _, [], hW', trodAll_mk1 (shut_bool Try.underlying4 _), (trodAll_cons_mk (Below.trod laidOut (by kernel_rfl) (of_decide_eq_true (by kernel_rfl)) h0 bel lt0) (trodAll_cons_mk (Below.trod laidOut (by kernel_rfl) (of_decide_eq_true (by kernel_rfl)) h1 bel lt1) trodAll_mk0)), rfl, bel.frame _, fun h => by cases h⟩
theorem over : Rows.lruRoomRow.holds Try.pinned (OpenSpec.ofChange Rows.lruRoomSpec) :=
  OpenClaim.holds_of_wide 3 Try.f3 rfl rfl rfl rfl rfl rfl rfl ⟨rfl, rfl, rfl, rfl, rfl⟩ rfl rfl rfl rfl rfl (by kernel_rfl) Try.func3 (by kernel_rfl)
    (of_decide_eq_true (by kernel_rfl)) (by unfold Func.isWrapper; first | (rw [if_pos (by decide +kernel)]; kernel_rfl) | (rw [if_neg (by decide +kernel)]; exact ⟨rfl, rfl⟩))
    (fun os started H enc _ => lifted os started H enc)
theorem proved : Rows.LruRoomSaid := over
#print axioms proved
end lruRoom
end Go.Proofs.Ytoadkdlhbmmdlaa
