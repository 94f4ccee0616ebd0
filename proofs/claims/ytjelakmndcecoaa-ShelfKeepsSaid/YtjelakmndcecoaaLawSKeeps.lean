/- ShelfKeeps. No conditions. -/
import Derived.Test.YtjelakmndcecoaaSh11
namespace Go.Proofs.Ytjelakmndcecoaa
open Go.RowKit
set_option linter.unusedVariables false
set_option linter.unusedSimpArgs false
set_option maxRecDepth 100000
theorem keeps_fn (n : Int) (A : Option Addr) (c : Nat) (OL : List Opn) (hA : ArgOk A OL.length) (hL : OL.length ≤ maxLen) (hO : ∀ x ∈ OL, x.d < 256) (T0 : Heap) (hT : 0 < OL.length → T0 = roE A (ocells OL)) (hro : Ro T0) :
    Fn Try.prog 3 [iq n, .slice A OL.length c] T0 fun v _ => v = .bool true := by
  by_cases hn : 0 ≤ n ∧ n ≤ 64
  · obtain ⟨most, rfl⟩ : ∃ m : Nat, n = m := ⟨n.toNat, by omega⟩
    refine Fn.enter (N := 74) Try.func3 rfl (by kernel_rfl) rfl (fun w0 => ?_)

    refine awp_seq_region (fun Z hZ => ?_)
    refine sx_assign rfl rfl ?_
    refine sx_nil (hZ _ _ ?_)
    refine awp_forget [(0, _), (1, _)] (Kn.cons rfl (Kn.cons rfl (Kn.nil))) ?_
    refine awp_seq_region (fun Z hZ => ?_)
    refine sx_move rfl rfl ?_
    refine sx_callA [] [] T0 (shnew_fn most (by omega)) rfl (HLe.refl _) (List.nil_sublist _) Ro.nil rfl ?_
    rintro v H' ⟨B, rfl, rfl⟩
    refine sx_move rfl rfl ?_
    refine sx_extract rfl rfl rfl ?_
    refine sx_extract rfl rfl rfl ?_
    refine sx_assign rfl rfl ?_
    refine sx_assign rfl rfl ?_
    refine sx_nil (hZ _ _ ?_)
    refine awp_forget [(0, _), (1, _), (5, _), (6, _)] (Kn.cons rfl (Kn.cons rfl (Kn.cons rfl (Kn.cons rfl (Kn.nil))))) ?_
    refine awp_heap (shH B most sh0 ++ T0) (HLe.refl _) ?_

    refine awp_seq ?_
    refine awp_seq_meet [(0, iq most), (1, .slice A OL.length c), (5, ptr B.g 0), (6, iq 0), (21, .bool false)] (shH B most sh0 ++ T0) (fun Z hZ => ?_) ?_
    · refine sx_move rfl rfl ?_
      refine sx_lss rfl rfl rfl ?_
      refine sx_move rfl rfl ?_
      refine sx_split 18 rfl (fun hb2 => ?_) (fun hb2 => ?_)
      · refine sx_off rfl rfl rfl rfl rfl ?_
        refine sx_off rfl rfl rfl rfl rfl ?_
        refine sx_pick rfl rfl rfl ?_
        refine sx_nil (hZ _ _ ?_ ?_)
        · exact Kn.cons rfl (Kn.cons rfl (Kn.cons rfl (Kn.cons rfl (Kn.cons (congrArg some (congrArg Value.bool (by simp at *; omega))) Kn.nil))))
        · exact HLe.refl _
      · refine sx_on rfl rfl rfl ?_
        refine sx_move rfl rfl ?_
        refine sx_on rfl rfl rfl ?_
        refine sx_gtr rfl rfl rfl ?_
        refine sx_pick rfl rfl rfl ?_
        refine sx_nil (hZ _ _ ?_ ?_)
        · exact Kn.cons rfl (Kn.cons rfl (Kn.cons rfl (Kn.cons rfl (Kn.cons (congrArg some (congrArg Value.bool (by simp at *; omega))) Kn.nil))))
        · exact HLe.refl _
    refine awp_cond rfl (fun h => ?_) (fun h => ?_)
    · cases h
    refine awp_skip ?_
    with_reducible refine nx_normal ?_
    refine awp_seq ?_
    refine awp_seq_meet [(0, iq most), (1, .slice A OL.length c), (5, ptr B.g 0), (42, .bool false)] (shH B most sh0 ++ T0) (fun Z hZ => ?_) ?_
    · refine sx_move rfl rfl ?_
      refine sx_neq rfl rfl rfl ?_
      refine sx_move rfl rfl ?_
      refine sx_force 33 rfl false (by simp) ?_
      refine sx_on rfl rfl rfl ?_
      refine sx_move rfl rfl ?_
      refine sx_on rfl rfl rfl ?_
      refine sx_ptrNil Try.underlying23 rfl rfl ?_
      refine sx_pick rfl rfl rfl ?_
      refine sx_move rfl rfl ?_
      refine sx_force 37 rfl false (by simp) ?_
      refine sx_on rfl rfl rfl ?_
      refine sx_move rfl rfl ?_
      refine sx_on rfl rfl rfl ?_
      refine sx_callA (shH B most sh0) [] T0 (by rw [List.append_nil]; exact shmost_fn B most sh0) rfl (HLe.refl _) (List.nil_sublist _) Ro.nil rfl ?_
      rintro v H' ⟨rfl, rfl⟩
      refine sx_on rfl rfl rfl ?_
      refine sx_move rfl rfl ?_
      refine sx_on rfl rfl rfl ?_
      refine sx_neq rfl rfl rfl ?_
      refine sx_pick rfl rfl rfl ?_
      refine sx_nil (hZ _ _ ?_ ?_)
      · exact Kn.cons rfl (Kn.cons rfl (Kn.cons rfl (Kn.cons (congrArg some (congrArg Value.bool (by simp))) Kn.nil)))
      · exact HLe.refl _
    refine awp_cond rfl (fun h => ?_) (fun h => ?_)
    · cases h
    refine awp_skip ?_
    with_reducible refine nx_normal ?_
    refine awp_seq ?_
    refine awp_seq_region (fun Z hZ => ?_)
    refine sx_move rfl rfl ?_
    refine sx_callPT T0 (over_fn A c OL 40 hA hL T0 hT) rfl (List.sublist_append_right [_, _, _, _] _) hro rfl ?_
    refine sx_nil (hZ _ _ ?_)
    refine awp_forget [(0, _), (1, _), (5, _), (44, _)] (Kn.cons rfl (Kn.cons rfl (Kn.cons rfl (Kn.cons rfl (Kn.nil))))) ?_
    refine awp_cond rfl (fun h => ?_) (fun h => ?_)
    · refine awp_seq_region (fun Z hZ => ?_)
      refine sx_callP awake_fn rfl rfl ?_
      refine sx_assign rfl rfl ?_
      refine sx_nil (hZ _ _ ?_)
      refine awp_forget [(4, _)] (Kn.cons rfl (Kn.nil)) ?_
      refine awp_ret ?_
      repeat (with_reducible refine nx_then_ret ?_)
      exact nx_ret1 rfl rfl rfl
    refine awp_skip ?_
    with_reducible refine nx_normal ?_
    obtain ⟨hov, hsh⟩ := over_short h
    refine awp_seq_region (fun Z hZ => ?_)
    refine sx_move rfl rfl ?_
    refine sx_build tyZ32 tyP32 rfl rfl (by first | (simp only [List.take_succ_cons, List.take_zero, List.drop_succ_cons, List.drop_zero, List.cons_append, List.nil_append, List.append_nil, List.length_cons, List.length_nil, Nat.reduceAdd, Nat.zero_add, Nat.add_zero, Value.cells, wrV, zrep_one, List.replicate_succ, List.replicate_zero, Nat.reduceMul, Nat.zero_mul]; first | done | rfl) | rfl) rfl ?_
    refine sx_alloc tyZ32 rfl (fun g1 => ?_)
    refine sx_store 0 rfl rfl rfl tyS32 (by first | (simp only [Value.cells]; first | done | rfl) | rfl) rfl rfl (by first | (simp only [List.length_cons, List.length_nil, Nat.reduceAdd, Nat.zero_add, Nat.add_zero]; first | done | rfl) | rfl) (by first | (simp only [List.take_succ_cons, List.take_zero, List.drop_succ_cons, List.drop_zero, List.cons_append, List.nil_append, List.append_nil, List.length_cons, List.length_nil, Nat.reduceAdd, Nat.zero_add, Nat.add_zero, Value.cells, wrV]; first | done | rfl) | rfl) (by first | (simp only [List.set_cons_succ, List.set_cons_zero]; first | done | rfl) | rfl) ?_
    refine sx_nil (hZ _ _ ?_)
    refine awp_forget [(1, _), (5, _), (7, _)] (Kn.cons rfl (Kn.cons rfl (Kn.cons rfl (Kn.nil)))) ?_
    refine awp_heap (shH B most sh0 ++ ([.own g1 32 (rsV most none 0 0 0 0)] ++ T0)) (HLe.mv (shH B most sh0) [.own g1 32 (rsV most none 0 0 0 0)] T0) ?_

    refine awp_seq ?_
    refine awp_seq_region (fun Z hZ => ?_)
    refine sx_assign rfl rfl ?_
    refine sx_nil (hZ _ _ ?_)
    refine awp_forget [(1, _), (5, _), (7, _), (8, _)] (Kn.cons rfl (Kn.cons rfl (Kn.cons rfl (Kn.cons rfl (Kn.nil))))) ?_
    refine awp_block ?_
    refine awp_loop (ι := Nat × Option Addr × Nat × Sh × List Item × Heap) (fun i => [(1, .slice A OL.length c), (5, ptr B.g 0), (7, ptr g1 0), (8, iq (i.1 : Nat))]) (fun i => shH B most i.2.2.2.1 ++ ([.own g1 32 (rsV most i.2.1 i.2.2.2.2.1.length i.2.2.1 i.2.2.2.1.hi i.2.2.2.1.mi)] ++ (T0 ++ i.2.2.2.2.2)))
      (fun i => i.1 ≤ OL.length ∧ SlOk i.2.1 i.2.2.2.2.1.length ∧ ShIs most i.2.2.2.1 i.2.2.2.2.1 i.2.2.2.2.2 ∧ Ro i.2.2.2.2.2 ∧ (roE i.2.1 (tcells i.2.2.2.2.1)).Sublist i.2.2.2.2.2 ∧ ShortX i.2.2.2.2.1 ∧ i.2.2.2.1.nx ≤ i.1 ∧ i.2.2.2.1.hi ≤ i.1 ∧ i.2.2.2.1.mi ≤ i.1) (fun i => OL.length - i.1) (0, none, 0, sh0, [], []) ⟨by simp, .inl ⟨rfl, rfl⟩, sh0_ok most, Ro.nil, List.Sublist.refl _, ShortX.nil, Nat.le_refl _, Nat.le_refl _, Nat.le_refl _⟩ (Kn.cons rfl (Kn.cons rfl (Kn.cons rfl (Kn.cons rfl Kn.nil)))) (by simp only [List.append_nil]; exact HLe.refl _) ?_
    rintro ⟨i, A1, c1, S, X, T⟩ ⟨hi, hA1, hS, hTro, hAT, hSX, hb1, hb2, hb3⟩
    simp only at hi hA1 hS hTro hAT hSX hb1 hb2 hb3

    refine awp_seq ?_
    refine awp_seq_region (fun Z hZ => ?_)
    refine sx_move rfl rfl ?_
    refine sx_move rfl rfl ?_
    refine sx_len Try.underlying22 rfl rfl ?_
    refine sx_lss rfl rfl rfl ?_
    refine sx_nil (hZ _ _ ?_)
    refine awp_forget [(1, _), (5, _), (7, _), (8, _), (51, _)] (Kn.cons rfl (Kn.cons rfl (Kn.cons rfl (Kn.cons rfl (Kn.cons rfl (Kn.nil)))))) ?_
    refine awp_cond rfl (fun h => ?_) (fun h => ?_)
    · have hlt : i < OL.length := by simpa using h
      obtain ⟨x, hx⟩ : ∃ x, OL[i]? = some x := ⟨_, List.getElem?_eq_getElem hlt⟩
      have hxm := List.mem_of_getElem? hx
      have hxd := hO x hxm
      have hxv := hsh x hxm
      obtain ⟨ga, o, rfl⟩ := hA (by omega)
      obtain rfl := hT (by omega)
      have hstep := step_fn B most S X T A1 c1 x.d x.k x.v hTro hS hA1 hAT (by omega) hxd hxv (by omega) hSX.val
      have hSX2 := hSX.step most x.d x.k hxv
      generalize stepX most x.d X x.k x.v = X2 at hstep hSX2
      refine awp_skip ?_
      with_reducible refine nx_normal ?_
      refine awp_seq (awp_block ?_)
      refine awp_heap (_ :: _ :: _ :: _ :: .own g1 32 (rsV most A1 X.length c1 S.hi S.mi) :: .ro ga o (ocells OL) :: T) (HLe.refl _) ?_

      refine awr_seq_region (fun j : Sh × Option Addr × Nat × Heap × Heap × Nat => [(1, .slice (some ⟨ga, o, none⟩) OL.length c), (5, ptr B.g 0), (7, ptr g1 0), (8, iq (i : Nat)), (9, ptr j.2.2.2.2.2 0), (10, .bool true)]) (fun j => .own j.2.2.2.2.2 32 (rsV most j.2.1 X2.length j.2.2.1 j.1.hi j.1.mi) :: (shH B most j.1 ++ ([.own g1 32 (rsV most A1 X.length c1 S.hi S.mi)] ++ (roE (some ⟨ga, o, none⟩) (ocells OL) ++ (j.2.2.2.2.1 ++ T))))) (fun j => StepT most S j.1 j.2.1 X2 j.2.2.2.1 j.2.2.2.2.1 T) _ [6, 10, 11] (Tr.step (0, true) (Tr.step (1, true) (Tr.step (2, true) (Tr.step (3, true) (Tr.step (4, true) (Tr.step (5, true) (Tr.fork (Tr.step (6, false) (Tr.step (7, true) (Tr.step (8, true) (Tr.step (9, true) (Tr.step (10, false) (Tr.step (11, false) (Tr.step (12, true) Tr.nil))))))) (Tr.step (10, false) (Tr.step (6, false) (Tr.step (7, true) (Tr.step (8, true) (Tr.step (9, true) (Tr.step (11, false) (Tr.step (12, true) Tr.nil)))))))))))))) mixed (by kernel_rfl) (HLe.pick [4, 5] (by simp) (by simp only [pick, List.filterMap_cons, List.filterMap_nil, List.getElem?_cons_succ, List.getElem?_cons_zero]; rfl)) ?_ ?_
      · refine tt_p rfl ?_
        refine sv_move rfl rfl ?_
        refine sv_nil ?_
        refine tt_p rfl ?_
        refine sv_loadA 0 rfl rfl tyA32 tyS32 (by first | (simp only [List.length_cons, List.length_nil, Nat.reduceAdd, Nat.zero_add, Nat.add_zero]; first | done | rfl) | rfl) (by first | (simp only [List.take_succ_cons, List.take_zero, List.drop_succ_cons, List.drop_zero, List.cons_append, List.nil_append, List.append_nil, List.length_cons, List.length_nil, Nat.reduceAdd, Nat.zero_add, Nat.add_zero, Value.cells, wrV]; first | done | rfl) | rfl) rfl ?_
        refine sv_nil ?_
        refine tt_p rfl ?_
        refine sv_move rfl rfl ?_
        refine sv_nil ?_
        refine tt_p rfl ?_
        refine sv_move rfl rfl ?_
        refine sv_nil ?_
        refine tt_p rfl ?_
        refine sv_indexAddr (o + i * 4) Try.underlying22 tyS39 rfl rfl (by omega) (by simp) rfl ?_
        refine sv_nil ?_
        refine tt_p rfl ?_
        refine sv_loadRo 1 rfl rfl (i * 4) rfl tyA39 tyS39 (ocells_all hx) rfl ?_
        refine sv_nil ?_
        refine tt_fork ?_ ?_
        · refine tt_g rfl ?_
          refine sx_callA (shH B most S) T ([.own g1 32 (rsV most A1 X.length c1 S.hi S.mi)] ++ (roE (some ⟨ga, o, none⟩) (ocells OL) ++ T)) hstep rfl (HLe.refl _) ((List.sublist_append_right _ T).trans (List.sublist_append_right [_] _)) hTro rfl ?_
          rintro v H' ⟨S2, A2, c2, W, T1, rfl, rfl, hST⟩
          refine sx_heap (shH B most S2 ++ ([.own g1 32 (rsV most A1 X.length c1 S.hi S.mi)] ++ (roE (some ⟨ga, o, none⟩) (ocells OL) ++ (T1 ++ T)))) (after_step2 hST [.own g1 32 (rsV most A1 X.length c1 S.hi S.mi)] _) ?_
          refine sx_nil ⟨HLe.pick [4, 5] (by simp) rfl, ?_⟩
          refine tt_p rfl ?_
          refine sv_move rfl rfl ?_
          refine sv_nil ?_
          refine tt_p rfl ?_
          refine sv_extract rfl rfl rfl ?_
          refine sv_nil ?_
          refine tt_p rfl ?_
          refine sv_extract rfl rfl rfl ?_
          refine sv_nil ?_
          refine tt_g rfl ?_
          refine sx_alloc tyZ32 rfl (fun g2 => ?_)
          refine sx_nil ⟨HLe.pick [5, 6] (by simp) rfl, ?_⟩
          refine tt_g rfl ?_
          refine sx_store 0 rfl rfl rfl tyS32 (by first | (simp only [Value.cells]; first | done | rfl) | rfl) rfl rfl (by first | (simp only [List.length_cons, List.length_nil, Nat.reduceAdd, Nat.zero_add, Nat.add_zero]; first | done | rfl) | rfl) (by first | (simp only [List.take_succ_cons, List.take_zero, List.drop_succ_cons, List.drop_zero, List.cons_append, List.nil_append, List.append_nil, List.length_cons, List.length_nil, Nat.reduceAdd, Nat.zero_add, Nat.add_zero, Value.cells, wrV]; first | done | rfl) | rfl) (by first | (simp only [List.set_cons_succ, List.set_cons_zero]; first | done | rfl) | rfl) ?_
          refine sx_nil ⟨HLe.pick [5, 6] (by simp) rfl, ?_⟩
          refine tt_p rfl ?_
          refine sv_assign rfl rfl ?_
          refine sv_nil ?_
          refine tt_nil ?_
          exact ⟨(S2, A2, c2, W, T1, g2), hST, Kn.cons rfl (Kn.cons rfl (Kn.cons rfl (Kn.cons rfl (Kn.cons rfl (Kn.cons rfl Kn.nil))))), HLe.refl _⟩
        · refine tt_g rfl ?_
          refine sx_alloc tyZ32 rfl (fun g2 => ?_)
          refine sx_nil ⟨HLe.pick [5, 6] (by simp) rfl, ?_⟩
          refine tt_g rfl ?_
          refine sx_callA (shH B most S) T ([.own g2 32 (rsV 0 none 0 0 0 0)] ++ ([.own g1 32 (rsV most A1 X.length c1 S.hi S.mi)] ++ (roE (some ⟨ga, o, none⟩) (ocells OL) ++ T))) hstep rfl (HLe.mv (shH B most S) _ _) (((List.sublist_append_right _ T).trans (List.sublist_append_right [_] _)).trans (List.sublist_append_right [_] _)) hTro rfl ?_
          rintro v H' ⟨S2, A2, c2, W, T1, rfl, rfl, hST⟩
          refine sx_heap ([.own g2 32 (rsV 0 none 0 0 0 0)] ++ (shH B most S2 ++ ([.own g1 32 (rsV most A1 X.length c1 S.hi S.mi)] ++ (roE (some ⟨ga, o, none⟩) (ocells OL) ++ (T1 ++ T))))) ((HLe.mv' _ _ _).trans (after_step3 hST _ [.own g1 32 (rsV most A1 X.length c1 S.hi S.mi)] _)) ?_
          refine sx_nil ⟨HLe.pick [5, 6] (by simp) rfl, ?_⟩
          refine tt_p rfl ?_
          refine sv_move rfl rfl ?_
          refine sv_nil ?_
          refine tt_p rfl ?_
          refine sv_extract rfl rfl rfl ?_
          refine sv_nil ?_
          refine tt_p rfl ?_
          refine sv_extract rfl rfl rfl ?_
          refine sv_nil ?_
          refine tt_g rfl ?_
          refine sx_store 0 rfl rfl rfl tyS32 (by first | (simp only [Value.cells]; first | done | rfl) | rfl) rfl rfl (by first | (simp only [List.length_cons, List.length_nil, Nat.reduceAdd, Nat.zero_add, Nat.add_zero]; first | done | rfl) | rfl) (by first | (simp only [List.take_succ_cons, List.take_zero, List.drop_succ_cons, List.drop_zero, List.cons_append, List.nil_append, List.append_nil, List.length_cons, List.length_nil, Nat.reduceAdd, Nat.zero_add, Nat.add_zero, Value.cells, wrV]; first | done | rfl) | rfl) (by first | (simp only [List.set_cons_succ, List.set_cons_zero]; first | done | rfl) | rfl) ?_
          refine sx_nil ⟨HLe.pick [5, 6] (by simp) rfl, ?_⟩
          refine tt_p rfl ?_
          refine sv_assign rfl rfl ?_
          refine sv_nil ?_
          refine tt_nil ?_
          exact ⟨(S2, A2, c2, W, T1, g2), hST, Kn.cons rfl (Kn.cons rfl (Kn.cons rfl (Kn.cons rfl (Kn.cons rfl (Kn.cons rfl Kn.nil))))), HLe.refl _⟩
      rintro ⟨S2, A2, c2, W, T1, g2⟩ hST
      simp only at hST

      refine awp_seq_region (fun Z hZ => ?_)
      refine sx_loadA 0 rfl rfl tyA32 tyS32 (by first | (simp only [List.length_cons, List.length_nil, Nat.reduceAdd, Nat.zero_add, Nat.add_zero]; first | done | rfl) | rfl) (by first | (simp only [List.take_succ_cons, List.take_zero, List.drop_succ_cons, List.drop_zero, List.cons_append, List.nil_append, List.append_nil, List.length_cons, List.length_nil, Nat.reduceAdd, Nat.zero_add, Nat.add_zero, Value.cells, wrV]; first | done | rfl) | rfl) rfl ?_
      refine sx_store 5 rfl rfl rfl tyS32 (by first | (simp only [Value.cells]; first | done | rfl) | rfl) rfl rfl (by first | (simp only [List.length_cons, List.length_nil, Nat.reduceAdd, Nat.zero_add, Nat.add_zero]; first | done | rfl) | rfl) (by first | (simp only [List.take_succ_cons, List.take_zero, List.drop_succ_cons, List.drop_zero, List.cons_append, List.nil_append, List.append_nil, List.length_cons, List.length_nil, Nat.reduceAdd, Nat.zero_add, Nat.add_zero, Value.cells, wrV]; first | done | rfl) | rfl) (by first | (simp only [List.set_cons_succ, List.set_cons_zero]; first | done | rfl) | rfl) ?_
      refine sx_nil (hZ _ _ ?_)
      refine awp_forget [(1, _), (5, _), (7, _), (8, _), (10, _)] (Kn.cons rfl (Kn.cons rfl (Kn.cons rfl (Kn.cons rfl (Kn.cons rfl (Kn.nil)))))) ?_
      refine awp_heap (shH B most S2 ++ ([.own g1 32 (rsV most A2 X2.length c2 S2.hi S2.mi)] ++ (roE (some ⟨ga, o, none⟩) (ocells OL) ++ (T1 ++ T)))) (HLe.drop 1 rfl) ?_

      refine awp_seq_meet [(1, .slice (some ⟨ga, o, none⟩) OL.length c), (5, ptr B.g 0), (7, ptr g1 0), (8, iq (i : Nat)), (72, .bool false)] (shH B most S2 ++ ([.own g1 32 (rsV most A2 X2.length c2 S2.hi S2.mi)] ++ (roE (some ⟨ga, o, none⟩) (ocells OL) ++ (T1 ++ T)))) (fun Z hZ => ?_) ?_
      · refine sx_move rfl rfl ?_
        refine sx_not rfl rfl ?_
        refine sx_move rfl rfl ?_
        refine sx_force 67 rfl false (by first | rfl | (simp; done)) ?_
        refine sx_on rfl rfl rfl ?_
        refine sx_move rfl rfl ?_
        refine sx_on rfl rfl rfl ?_
        refine sx_loadA 4 rfl rfl tyA32 tyS32 (by first | (simp only [List.length_cons, List.length_nil, Nat.reduceAdd, Nat.zero_add, Nat.add_zero]; first | done | rfl) | rfl) (by first | (simp only [List.take_succ_cons, List.take_zero, List.drop_succ_cons, List.drop_zero, List.cons_append, List.nil_append, List.append_nil, List.length_cons, List.length_nil, Nat.reduceAdd, Nat.zero_add, Nat.add_zero, Value.cells, wrV]; first | done | rfl) | rfl) rfl ?_
        refine sx_on rfl rfl rfl ?_
        refine sx_callA (shH B most S2) (roE A2 (tcells X2)) ([.own g1 32 (rsV most A2 X2.length c2 S2.hi S2.mi)] ++ (roE (some ⟨ga, o, none⟩) (ocells OL) ++ (T1 ++ T))) (alike_fn B most S2 X2 (T1 ++ T) A2 c2 hST.is (by omega) hST.ok) rfl (HLe.refl _) (hST.sub.trans ((List.sublist_append_right _ _).trans (List.sublist_append_right [_] _))) (Ro.roE _ _) rfl ?_
        rintro v H' ⟨rfl, rfl⟩
        refine sx_heap (shH B most S2 ++ ([.own g1 32 (rsV most A2 X2.length c2 S2.hi S2.mi)] ++ (roE (some ⟨ga, o, none⟩) (ocells OL) ++ (T1 ++ T)))) (HLe.refl _) ?_
        refine sx_on rfl rfl rfl ?_
        refine sx_not rfl rfl ?_
        refine sx_pick rfl rfl rfl ?_
        refine sx_nil (hZ _ _ ?_ ?_)
        · exact Kn.cons rfl (Kn.cons rfl (Kn.cons rfl (Kn.cons rfl (Kn.cons rfl Kn.nil))))
        · exact HLe.refl _
      refine awp_cond rfl (fun hf => ?_) (fun hf => ?_)
      · cases hf
      refine awp_skip ?_
      repeat (with_reducible refine nx_block_normal ?_)
      with_reducible refine nx_normal ?_
      refine awp_region (fun Z hZ => ?_)
      refine sx_move rfl rfl ?_
      refine sx_add rfl rfl ((i + 1 : Nat) : Int) (by rw [IntWalk.i64_in _ (by omega)]; omega) rfl ?_
      refine sx_assign rfl rfl ?_
      refine sx_nil (hZ _ _ ?_)
      refine nx_forget [(1, _), (5, _), (7, _), (8, _)] (Kn.cons rfl (Kn.cons rfl (Kn.cons rfl (Kn.cons rfl (Kn.nil))))) ?_
      exact nx_round (i + 1, A2, c2, S2, X2, T1 ++ T) ⟨by omega, hST.ok, hST.is, hST.turn.1.append hTro, hST.sub, hSX2, by have := hST.nx; show S2.nx ≤ i + 1; omega, by have := hST.hi; show S2.hi ≤ i + 1; omega, by have := hST.mi; show S2.mi ≤ i + 1; omega⟩ (by simp; omega) (Kn.cons rfl (Kn.cons rfl (Kn.cons rfl (Kn.cons rfl Kn.nil)))) (HLe.refl _)
    · refine awp_exit ?_
      repeat (with_reducible refine nx_then_exit ?_)
      with_reducible refine nx_block_exit ?_
      with_reducible refine nx_normal ?_
      refine awp_seq_region (fun Z hZ => ?_)
      refine sx_callP awake_fn rfl rfl ?_
      refine sx_assign rfl rfl ?_
      refine sx_nil (hZ _ _ ?_)
      refine awp_forget [(4, _)] (Kn.cons rfl (Kn.nil)) ?_
      refine awp_ret ?_
      exact nx_ret1 rfl rfl rfl
  · refine Fn.enter (N := 74) Try.func3 rfl (by kernel_rfl) rfl (fun w0 => ?_)

    refine awp_seq_region (fun Z hZ => ?_)
    refine sx_assign rfl rfl ?_
    refine sx_nil (hZ _ _ ?_)
    refine awp_forget [(0, _), (1, _)] (Kn.cons rfl (Kn.cons rfl (Kn.nil))) ?_
    refine awp_seq_region (fun Z hZ => ?_)
    refine sx_move rfl rfl ?_
    refine sx_callP (shnewE_fn n hn) rfl rfl ?_
    refine sx_move rfl rfl ?_
    refine sx_extract rfl rfl rfl ?_
    refine sx_extract rfl rfl rfl ?_
    refine sx_assign rfl rfl ?_
    refine sx_assign rfl rfl ?_
    refine sx_nil (hZ _ _ ?_)
    refine awp_forget [(0, _), (1, _), (5, _), (6, _)] (Kn.cons rfl (Kn.cons rfl (Kn.cons rfl (Kn.cons rfl (Kn.nil))))) ?_
    refine awp_seq ?_
    refine awp_seq_meet [(0, iq n), (1, .slice A OL.length c), (5, .pointer none), (6, iq 2), (21, .bool true)] T0 (fun Z hZ => ?_) ?_
    · refine sx_move rfl rfl ?_
      refine sx_lss rfl rfl rfl ?_
      refine sx_move rfl rfl ?_
      refine sx_split 18 rfl (fun hb2 => ?_) (fun hb2 => ?_)
      · refine sx_off rfl rfl rfl rfl rfl ?_
        refine sx_off rfl rfl rfl rfl rfl ?_
        refine sx_pick rfl rfl rfl ?_
        refine sx_nil (hZ _ _ ?_ ?_)
        · exact Kn.cons rfl (Kn.cons rfl (Kn.cons rfl (Kn.cons rfl (Kn.cons (congrArg some (congrArg Value.bool (by simp at *; try omega))) Kn.nil))))
        · exact HLe.refl _
      · refine sx_on rfl rfl rfl ?_
        refine sx_move rfl rfl ?_
        refine sx_on rfl rfl rfl ?_
        refine sx_gtr rfl rfl rfl ?_
        refine sx_pick rfl rfl rfl ?_
        refine sx_nil (hZ _ _ ?_ ?_)
        · exact Kn.cons rfl (Kn.cons rfl (Kn.cons rfl (Kn.cons rfl (Kn.cons (congrArg some (congrArg Value.bool (by simp at *; try omega))) Kn.nil))))
        · exact HLe.refl _
    refine awp_cond rfl (fun h => ?_) (fun h => ?_)
    · refine awp_seq_meet [(4, .bool true)] T0 (fun Z hZ => ?_) ?_
      · refine sx_move rfl rfl ?_
        refine sx_nilNil Try.underlying23 rfl rfl ?_
        refine sx_move rfl rfl ?_
        refine sx_force 24 rfl true (by decide) ?_
        refine sx_on rfl rfl rfl ?_
        refine sx_move rfl rfl ?_
        refine sx_on rfl rfl rfl ?_
        refine sx_eql rfl rfl rfl ?_
        refine sx_pick rfl rfl rfl ?_
        refine sx_move rfl rfl ?_
        refine sx_force 28 rfl true (by decide) ?_
        refine sx_on rfl rfl rfl ?_
        refine sx_callP awake_fn rfl rfl ?_
        refine sx_pick rfl rfl rfl ?_
        refine sx_assign rfl rfl ?_
        refine sx_nil (hZ _ _ ?_ ?_)
        · exact Kn.cons rfl Kn.nil
        · exact HLe.refl _
      refine awp_ret ?_
      repeat (with_reducible refine nx_then_ret ?_)
      exact nx_ret1 rfl rfl rfl
    · cases h
theorem ShelfKeeps_read {H : Type} {enc : TypeId × Value → H} (w : World) {base : Nat} {v0 v1 : Value} {d0 d1 : DataW H} {p0 p1 : List MemPlace}
    (k0 : Value.okWide Try.prog w .any base 3 v0) (h0 : DataW.Trod enc Try.prog w 0 (fun _ => true) true 3 v0 d0 p0)
    (k1 : Value.okWide Try.prog w .any base 22 v1) (h1 : DataW.Trod enc Try.prog w 0 (fun _ => true) true 22 v1 d1 p1) :
    Calls Try.prog 3 #[v0, v1] w fun e w' => e = .returned (.bool true) ∧ Bel w w' := by
  obtain ⟨n, rfl, _, _, hn⟩ := ChangeShapes.open_int Try.underlying3 k0 h0
  obtain ⟨A, c, OL, T, rfl, hA, hL, hO, hT, hro, hS⟩ := open_ops k1 h1
  exact tail_bel hro hS (keeps_fn n A c OL hA hL hO T hT hro)
namespace shelfKeeps
open Go.ChangeShapes Go.WideShapes Go.ChangeAt Go.RowKit
theorem own : ownKnob Try.prog.godebug = none := by kernel_rfl
theorem laidOut : laidOutB Try.prog = true := by kernel_rfl
set_option maxRecDepth 100000 in
theorem lifted (os : Os) (started : os.Started) (H : Type) (enc : TypeId × Value → H) :
    ReturnsInHanded {} Try.checked os 3 .any (Rows.shelfKeepsSpec.pre6 enc Try.prog Try.f3 Rows.shelfKeepsRow.domain false) (Rows.shelfKeepsSpec.post enc Try.prog Try.f3 false true false false) := by
  refine returnsInHanded_of_change (C := Try.checked) own started (by kernel_rfl) Try.func3
    (ChangeSpec.witness6 (enc := enc) (C := Try.checked) false ⟨#[], #[.int .i64 0, .slice none 0 0], []⟩ 8 (by kernel_rfl) (by kernel_rfl) (by kernel_rfl) (by kernel_rfl)) ?_
  intro W base args ds gs before hval0 hW hcnd _
  have hval : ∀ (j : Nat) t v, Try.f3.params[j]? = some t → args[j]? = some v → Value.okWide Try.prog W .any base t v := hval0
  have hW' := hW
  obtain ⟨p, q, hA0, hV, rfl, hfz, hnd⟩ := hW
  have hA : DataW.TrodAll enc Try.prog W 0 (fun _ => true) true Try.f3.params.toList args.toList ds p := hA0
  rw [Try.params3] at hA hval
  obtain ⟨v0, vs0, d0, ds0, p0, q0, hargs, rfl, rfl, h0, r0⟩ := trodAll_cons hA
  obtain ⟨v1, vs1, d1, ds1, p1, q1, rfl, rfl, rfl, h1, r1⟩ := trodAll_cons r0
  obtain ⟨rfl, rfl, rfl⟩ := trodAll_nil r1
  obtain rfl : args = #[v0, v1] := by cases args; simp_all
  obtain ⟨rfl, rfl⟩ := trodVars_none hV
  have lt0 : ∀ x ∈ p0, x.block < W.heap.size := by obtain ⟨m, hm⟩ := h0; exact DataW.trod_lt m _ _ _ hm
  have lt1 : ∀ x ∈ p1, x.block < W.heap.size := by obtain ⟨m, hm⟩ := h1; exact DataW.trod_lt m _ _ _ hm
  refine (ShelfKeeps_read W (hval 0 3 v0 rfl rfl) h0 (hval 1 22 v1 rfl rfl) h1).mono fun e W' ⟨he, bel0⟩ => ?_
  have bel : Below W.heap.size W W' := bel0
  subst he
  exact ⟨_, rfl, _, _, _, [], _, [], hW', trodAll_mk1 (shut_bool Try.underlying4 _), (trodAll_cons_mk (Below.trod laidOut (by kernel_rfl) (of_decide_eq_true (by kernel_rfl)) h0 bel lt0) (trodAll_cons_mk (Below.trod laidOut (by kernel_rfl) (of_decide_eq_true (by kernel_rfl)) h1 bel lt1) trodAll_mk0)), rfl, bel.frame _, fun h => by cases h⟩
theorem over : Rows.shelfKeepsRow.holds Try.pinned (OpenSpec.ofChange Rows.shelfKeepsSpec) :=
  OpenClaim.holds_of_wide 3 Try.f3 rfl rfl rfl rfl rfl rfl rfl ⟨rfl, rfl, rfl, rfl, rfl⟩ rfl rfl rfl rfl rfl (by kernel_rfl) Try.func3 (by kernel_rfl)
    (of_decide_eq_true (by kernel_rfl)) (by unfold Func.isWrapper; first | (rw [if_pos (by decide +kernel)]; kernel_rfl) | (rw [if_neg (by decide +kernel)]; exact ⟨rfl, rfl⟩))
    (fun os started H enc _ => lifted os started H enc)
theorem proved : Rows.ShelfKeepsSaid := over
#print axioms proved
end shelfKeeps
end Go.Proofs.Ytjelakmndcecoaa
