/- ChartOrder. No conditions. -/
import Derived.Test.YtllclbbjfnipoaaCh17
namespace Go.Proofs.Ytllclbbjfnipoaa
open Go.RowKit
set_option linter.unusedVariables false
set_option linter.unusedSimpArgs false
set_option maxRecDepth 100000
theorem row_end {A : Option Addr} {n c : Nat} (hle : ∀ (X Y : Heap) (t : TypeId) (size : Nat) (xs : List Value), HLe (X ++ (roE A xs ++ Y)) (X ++ (rowE (.slice A n c) t size xs ++ Y))) (X : Heap) (t : TypeId) (size : Nat) (xs : List Value) : HLe (X ++ roE A xs) (X ++ rowE (.slice A n c) t size xs) := by
  have := hle X [] t size xs
  rwa [List.append_nil, List.append_nil] at this
theorem order_fn (A : Option Addr) (c : Nat) (L : List It) (T : Heap) (hA : ArgOk A L.length) (hT : 0 < L.length → T = roE A (icells L)) (hro : Ro T) (hL : L.length ≤ maxLen) (hE : ItsTx L) (turn : Nat) (ht : turn < 256) :
    Fn Try.prog 5 [.slice A L.length c, .int .u8 (turn : Nat)] T fun v _ => v = .bool true := by
  have o1 := over_fn A c L T hA hT hro hL hE 60 3000 (by decide) (by decide)
  refine Fn.enter (N := 130) Try.func5 rfl (by kernel_rfl) rfl (fun w0 => ?_)

  refine awp_seq_region (fun Z hZ => ?_)
  refine sx_assign rfl rfl ?_
  refine sx_nil (hZ _ _ ?_)
  refine awp_forget [(0, _), (1, _)] (Kn.cons rfl (Kn.cons rfl (Kn.nil))) ?_
  refine awp_seq ?_
  refine awp_seq_region (fun Z hZ => ?_)
  refine sx_move rfl rfl ?_
  refine sx_callPT T o1 rfl (by repeat (first | exact List.Sublist.refl _ | exact List.nil_sublist _ | exact List.sublist_append_right _ _ | refine List.Sublist.trans ?_ (List.sublist_append_left _ _) | exact List.Sublist.cons_cons _ (List.nil_sublist _) | refine List.Sublist.cons _ ?_)) hro rfl ?_
  refine sx_nil (hZ _ _ ?_)
  refine awp_forget [(0, _), (1, _), (16, _)] (Kn.cons rfl (Kn.cons rfl (Kn.cons rfl (Kn.nil)))) ?_
  first | refine awp_cond rfl (fun h => ?_) (fun h => ?_) | refine awp_seq (awp_cond rfl (fun h => ?_) (fun h => ?_))
  · refine awp_seq_region (fun Z hZ => ?_)
    refine sx_callP cawake_fn rfl rfl ?_
    refine sx_assign rfl rfl ?_
    refine sx_nil (hZ _ _ ?_)
    refine awp_forget [(4, _)] (Kn.cons rfl (Kn.nil)) ?_
    refine awp_ret ?_
    repeat (with_reducible (first | refine nx_then_ret ?_ | refine nx_block_ret ?_ | refine nx_scope_ret ?_))
    exact nx_ret1 rfl rfl rfl
  have n1 : cBytes L ≤ 3000 ∧ L.length ≤ 60 := by simp at h; omega
  refine awp_skip ?_
  repeat (with_reducible (first | refine nx_block_normal ?_ | refine nx_scope_normal ?_))
  with_reducible first | refine nx_normal ?_ | refine nx_normalM ?_
  have hok := ownQ_ok L
  refine awp_seq_region (fun Z hZ => ?_)
  refine sx_move rfl rfl ?_
  refine sx_ownE L T hA hT hro (by repeat (first | exact List.Sublist.refl _ | exact List.nil_sublist _ | exact List.sublist_append_right _ _ | refine List.Sublist.trans ?_ (List.sublist_append_left _ _) | exact List.Sublist.cons_cons _ (List.nil_sublist _) | refine List.Sublist.cons _ ?_)) (by omega) rfl rfl (fun A1 c1 A2 c2 hA1 hA2 => ?_)
  refine sx_move rfl rfl ?_
  refine sx_extract rfl rfl rfl ?_
  refine sx_extract rfl rfl rfl ?_
  refine sx_alloc tyZ26 rfl (fun g1 => ?_)
  first | refine sx_store 0 rfl rfl rfl tyS26 (by first | (simp only [Value.cells]; first | done | rfl) | rfl) rfl rfl (by first | (simp only [List.length_cons, List.length_nil, Nat.reduceAdd, Nat.zero_add, Nat.add_zero]; first | done | rfl) | rfl) (by first | (simp only [List.take_succ_cons, List.take_zero, List.drop_succ_cons, List.drop_zero, List.cons_append, List.nil_append, List.append_nil, List.length_cons, List.length_nil, Nat.reduceAdd, Nat.zero_add, Nat.add_zero, Value.cells, wrV]; first | done | rfl) | rfl) (by first | (simp only [List.set_cons_succ, List.set_cons_zero]; first | done | rfl) | rfl) ?_
  refine sx_assign rfl rfl ?_
  refine sx_nil (hZ _ _ ?_)
  refine awp_forget [(1, _), (5, _)] (Kn.cons rfl (Kn.cons rfl (Kn.nil))) ?_
  obtain ⟨O, hO⟩ : ∃ O, ownQ L = O := ⟨_, rfl⟩
  rw [hO] at hok hA1 hA2 ⊢
  have hll := hok.len
  have hby := hok.bytes
  have m1 : O.length ≤ maxLen := by show _ ≤ 9223372036854775807; omega
  refine awp_heap (.own g1 26 [.slice A1 O.length c1] :: roE A1 (icells O)) (HLe.sub (.cons_cons _ ((List.sublist_append_right _ _).trans (List.sublist_append_left _ _)))) ?_

  refine awp_seq_region (fun Z hZ => ?_)
  first | refine sx_loadA 0 rfl rfl tyA26 tyS26 (by first | (simp only [List.length_cons, List.length_nil, Nat.reduceAdd, Nat.zero_add, Nat.add_zero]; first | done | rfl) | rfl) (by first | (simp only [List.take_succ_cons, List.take_zero, List.drop_succ_cons, List.drop_zero, List.cons_append, List.nil_append, List.append_nil, List.length_cons, List.length_nil, Nat.reduceAdd, Nat.zero_add, Nat.add_zero, Value.cells, wrV]; first | done | rfl) | rfl) rfl ?_
  refine sx_itemsE O hA1 (by repeat (first | exact List.Sublist.refl _ | exact List.nil_sublist _ | exact List.sublist_append_right _ _ | refine List.Sublist.trans ?_ (List.sublist_append_left _ _) | exact List.Sublist.cons_cons _ (List.nil_sublist _) | refine List.Sublist.cons _ ?_)) (by omega) rfl rfl (fun A5 c5 hA5 => ?_)
  refine sx_assign rfl rfl ?_
  refine sx_nil (hZ _ _ ?_)
  refine awp_forget [(1, _), (5, _), (7, _)] (Kn.cons rfl (Kn.cons rfl (Kn.cons rfl (Kn.nil)))) ?_
  refine awp_seq_region (fun Z hZ => ?_)
  refine sx_assign rfl rfl ?_
  refine sx_nil (hZ _ _ ?_)
  refine awp_forget [(1, _), (5, _), (7, _), (8, _)] (Kn.cons rfl (Kn.cons rfl (Kn.cons rfl (Kn.cons rfl (Kn.nil))))) ?_
  refine awp_cut (ι := Unit) (fun _ => [(1, .int .u8 (turn : Nat)), (5, ptr g1 0), (7, .slice A5 O.length c5), (8, iq (cBytes O : Nat))]) (fun _ => .own g1 26 [.slice A1 O.length c1] :: (roE A1 (icells O) ++ roE A5 (icells O))) (fun _ => True) ?_ ?_
  · refine awp_seq_region (fun Z hZ => ?_)
    refine sx_assign rfl rfl ?_
    refine sx_nil (hZ _ _ ?_)
    refine awp_forget [(1, _), (5, _), (7, _), (8, _), (9, _)] (Kn.cons rfl (Kn.cons rfl (Kn.cons rfl (Kn.cons rfl (Kn.cons rfl (Kn.nil)))))) ?_
    refine awp_block ?_
    refine awp_loop (ι := Nat) (fun i => [(1, .int .u8 (turn : Nat)), (5, ptr g1 0), (7, .slice A5 O.length c5), (8, iq (cBytes (O.take i) : Nat)), (9, iq (i : Nat))]) (fun _ => .own g1 26 [.slice A1 O.length c1] :: (roE A1 (icells O) ++ roE A5 (icells O)))
      (fun i => i ≤ O.length) (fun i => O.length - i) 0 (by simp) (Kn.cons rfl (Kn.cons rfl (Kn.cons rfl (Kn.cons rfl (Kn.cons rfl Kn.nil))))) (HLe.refl _) ?_
    rintro i hi

    refine awp_seq ?_
    refine awp_seq_region (fun Z hZ => ?_)
    refine sx_move rfl rfl ?_
    refine sx_move rfl rfl ?_
    first | refine sx_len Try.underlying24 rfl rfl ?_ | refine sx_lenS Try.underlying24 rfl rfl ?_
    first | refine sx_lss rfl rfl rfl ?_ | refine sx_slss rfl rfl rfl ?_
    refine sx_nil (hZ _ _ ?_)
    refine awp_forget [(1, _), (5, _), (7, _), (8, _), (9, _), (28, _)] (Kn.cons rfl (Kn.cons rfl (Kn.cons rfl (Kn.cons rfl (Kn.cons rfl (Kn.cons rfl (Kn.nil))))))) ?_
    first | refine awp_cond rfl (fun h => ?_) (fun h => ?_) | refine awp_seq (awp_cond rfl (fun h => ?_) (fun h => ?_))
    · have hlt : i < O.length := by simpa using h
      have hx := itAt_at hlt
      have hs := cBytes_snoc hx
      have hl := cBytes_le O (i + 1)
      obtain ⟨hg1, hg2⟩ := get_at hok.rise hlt
      have hrise : ∀ j, j + 1 = i → (itAt O j).id < (itAt O i).id := fun j hj => rise_lt hok.rise (by omega) hlt
      have hmem := List.mem_of_getElem? hx
      have hid := hok.lt _ hmem
      have htx := hok.tx _ hmem
      obtain ⟨x, hxe⟩ : ∃ x, itAt O i = x := ⟨_, rfl⟩
      rw [hxe] at hx hs hg1 hg2 hrise hid htx
      obtain ⟨g5, o5, rfl⟩ := slIn_pos hA5 (by omega)
      obtain ⟨ga, oa, rfl⟩ := slIn_pos hA1 (by omega)
      refine awp_heap [.own g1 26 [.slice (some ⟨ga, oa, none⟩) O.length c1], .ro g5 o5 (icells O), .ro ga oa (icells O)] (HLe.pick [0, 2, 1] (by simp) rfl) ?_
      refine awp_skip ?_
      repeat (with_reducible (first | refine nx_block_normal ?_ | refine nx_scope_normal ?_))
      with_reducible first | refine nx_normal ?_ | refine nx_normalM ?_
      refine awp_seq (awp_block ?_)

      refine aww_seq_region _ [(0, true), (1, true), (2, true), (3, true), (4, true), (5, true), (6, false), (7, true), (8, true), (9, true), (10, true), (11, true)] mixed (by kernel_rfl) (HLe.pick [0, 1] (by simp) (by simp only [pick, List.filterMap_cons, List.filterMap_nil, List.getElem?_cons_succ, List.getElem?_cons_zero]; rfl)) (fun Z hZ => ?_)
      refine tw_p rfl ?_
      first | refine sv_loadA 0 rfl rfl tyA26 tyS26 (by first | (simp only [List.length_cons, List.length_nil, Nat.reduceAdd, Nat.zero_add, Nat.add_zero]; first | done | rfl) | rfl) (by first | (simp only [List.take_succ_cons, List.take_zero, List.drop_succ_cons, List.drop_zero, List.cons_append, List.nil_append, List.append_nil, List.length_cons, List.length_nil, Nat.reduceAdd, Nat.zero_add, Nat.add_zero, Value.cells, wrV]; first | done | rfl) | rfl) rfl ?_ | refine sv_loadA 1 rfl rfl tyA26 tyS26 (by first | (simp only [List.length_cons, List.length_nil, Nat.reduceAdd, Nat.zero_add, Nat.add_zero]; first | done | rfl) | rfl) (by first | (simp only [List.take_succ_cons, List.take_zero, List.drop_succ_cons, List.drop_zero, List.cons_append, List.nil_append, List.append_nil, List.length_cons, List.length_nil, Nat.reduceAdd, Nat.zero_add, Nat.add_zero, Value.cells, wrV]; first | done | rfl) | rfl) rfl ?_
      refine sv_nil ?_
      refine tw_p rfl ?_
      refine sv_move rfl rfl ?_
      refine sv_nil ?_
      refine tw_p rfl ?_
      refine sv_move rfl rfl ?_
      refine sv_nil ?_
      refine tw_p rfl ?_
      refine sv_indexAddr (o5 + i * 2) Try.underlying24 tyS52 rfl rfl (by omega) (by simp) rfl ?_
      refine sv_nil ?_
      refine tw_p rfl ?_
      refine sv_fieldAddr rfl tyF52_0 (by first | (simp only [Nat.reduceAdd, Nat.add_zero, Nat.zero_add]; first | done | rfl) | rfl) rfl ?_
      refine sv_nil ?_
      refine tw_p rfl ?_
      refine sv_loadRo 1 rfl rfl (i * 2) rfl tyA23 tyS23 (icells_id hx) rfl ?_
      refine sv_nil ?_
      refine tw_g rfl ?_
      refine sx_cget O x.id hA1 (.cons _ (.cons _ (List.Sublist.refl _))) hok rfl rfl ?_
      rw [hg1, hg2]
      refine sx_nil ⟨HLe.pick [0, 1] (by simp) rfl, ?_⟩
      refine tw_p rfl ?_
      refine sv_move rfl rfl ?_
      refine sv_nil ?_
      refine tw_p rfl ?_
      refine sv_extract rfl rfl rfl ?_
      refine sv_nil ?_
      refine tw_p rfl ?_
      refine sv_extract rfl rfl rfl ?_
      refine sv_nil ?_
      refine tw_p rfl ?_
      refine sv_assign rfl rfl ?_
      refine sv_nil ?_
      refine tw_p rfl ?_
      refine sv_assign rfl rfl ?_
      refine sv_nil ?_
      refine tw_nil (hZ _ _ ?_)
      refine awp_forget [(1, _), (5, _), (7, _), (8, _), (9, _), (10, _), (11, _)] (Kn.cons rfl (Kn.cons rfl (Kn.cons rfl (Kn.cons rfl (Kn.cons rfl (Kn.cons rfl (Kn.cons rfl (Kn.nil)))))))) ?_
      refine awp_cut (ι := Unit) (fun _ => [(1, .int .u8 (turn : Nat)), (5, ptr g1 0), (7, .slice (some ⟨g5, o5, none⟩) O.length c5), (8, iq (cBytes (O.take i) : Nat)), (9, iq (i : Nat)), (10, .string (str x.tx))]) (fun _ => [.own g1 26 [.slice (some ⟨ga, oa, none⟩) O.length c1], .ro g5 o5 (icells O), .ro ga oa (icells O)]) (fun _ => True) ?_ ?_
      · rcases Nat.eq_zero_or_pos i with h0 | h0
        · refine awq_seq_meet [(1, .int .u8 (turn : Nat)), (5, ptr g1 0), (7, .slice (some ⟨g5, o5, none⟩) O.length c5), (8, iq (cBytes (O.take i) : Nat)), (9, iq (i : Nat)), (10, .string (str x.tx)), (81, .bool false)] [.own g1 26 [.slice (some ⟨ga, oa, none⟩) O.length c1], .ro g5 o5 (icells O), .ro ga oa (icells O)] mixed (by kernel_rfl) (fun Z hZ => ?_) ?_
          · refine sq_move rfl rfl ?_
            first | refine sq_gtr rfl rfl rfl ?_ | refine sq_sgtr rfl rfl rfl ?_
            refine sq_move rfl rfl ?_
            refine sq_force 43 rfl false (by simp; omega) ?_
            refine sq_off rfl rfl rfl rfl rfl ?_
            refine sq_off rfl rfl rfl rfl rfl ?_
            refine sq_off rfl rfl rfl rfl rfl ?_
            refine sq_off rfl rfl rfl rfl rfl ?_
            refine sq_off rfl rfl rfl rfl rfl ?_
            refine sq_off rfl rfl rfl rfl rfl ?_
            refine sq_off rfl rfl rfl rfl rfl ?_
            refine sq_off rfl rfl rfl rfl rfl ?_
            refine sq_off rfl rfl rfl rfl rfl ?_
            refine sq_off rfl rfl rfl rfl rfl ?_
            refine sq_off rfl rfl rfl rfl rfl ?_
            refine sq_off rfl rfl rfl rfl rfl ?_
            refine sq_pick rfl rfl rfl ?_
            refine sq_move rfl rfl ?_
            refine sq_on rfl rfl rfl ?_
            refine sq_move rfl rfl ?_
            refine sq_on rfl rfl rfl ?_
            refine sq_not rfl rfl ?_
            refine sq_pick rfl rfl rfl ?_
            refine sq_move rfl rfl ?_
            refine sq_force 61 rfl false (by first | rfl | (simp; done) | (simp; omega) | (simp [htx.1]; done)) ?_
            refine sq_on rfl rfl rfl ?_
            refine sq_move rfl rfl ?_
            refine sq_on rfl rfl rfl ?_
            refine sq_move rfl rfl ?_
            refine sq_on rfl rfl rfl ?_
            refine sq_move rfl rfl ?_
            refine sq_on rfl rfl rfl ?_
            refine sq_indexAddr (o5 + i * 2) Try.underlying24 tyS52 rfl rfl (by omega) (by simp) rfl ?_
            refine sq_on rfl rfl rfl ?_
            refine sq_fieldAddr rfl tyF52_1 (by first | (simp only [Nat.reduceAdd, Nat.add_zero, Nat.zero_add]; first | done | rfl) | rfl) rfl ?_
            refine sq_on rfl rfl rfl ?_
            refine sq_loadRo 1 rfl rfl (i * 2 + 1) rfl tyA9 tyS9 (icells_tx hx) rfl ?_
            refine sq_on rfl rfl rfl ?_
            first | refine sq_neq rfl rfl rfl ?_ | refine sq_sneq rfl rfl rfl ?_
            refine sq_pick rfl rfl rfl ?_
            refine sq_move rfl rfl ?_
            refine sq_force 70 rfl false (by first | rfl | (simp; done) | (simp; omega) | (simp [htx.1]; done)) ?_
            refine sq_on rfl rfl rfl ?_
            refine sq_move rfl rfl ?_
            refine sq_on rfl rfl rfl ?_
            first | refine sq_eql rfl rfl rfl ?_ | refine sq_seql rfl rfl rfl ?_
            refine sq_pick rfl rfl rfl ?_
            refine sq_move rfl rfl ?_
            refine sq_force 74 rfl false (by first | rfl | (simp; done) | (simp; omega) | (simp [htx.1]; done)) ?_
            refine sq_on rfl rfl rfl ?_
            refine sq_move rfl rfl ?_
            refine sq_on rfl rfl rfl ?_
            refine sq_move rfl rfl ?_
            refine sq_on rfl rfl rfl ?_
            refine sq_indexAddr (o5 + i * 2) Try.underlying24 tyS52 rfl rfl (by omega) (by simp) rfl ?_
            refine sq_on rfl rfl rfl ?_
            refine sq_fieldAddr rfl tyF52_0 (by first | (simp only [Nat.reduceAdd, Nat.add_zero, Nat.zero_add]; first | done | rfl) | rfl) rfl ?_
            refine sq_on rfl rfl rfl ?_
            refine sq_loadRo 1 rfl rfl (i * 2) rfl tyA23 tyS23 (icells_id hx) rfl ?_
            refine sq_on rfl rfl rfl ?_
            first | refine sq_geq rfl rfl rfl ?_ | refine sq_sgeq rfl rfl rfl ?_
            refine sq_pick rfl rfl rfl ?_
            refine sq_nil (hZ _ _ ?_ ?_)
            · exact Kn.cons rfl (Kn.cons rfl (Kn.cons rfl (Kn.cons rfl (Kn.cons rfl (Kn.cons rfl (Kn.cons (congrArg some (congrArg Value.bool (by simp; omega))) Kn.nil))))))
            · exact HLe.refl _
          first | refine awp_cond rfl (fun h2 => ?_) (fun h2 => ?_) | refine awp_seq (awp_cond rfl (fun h2 => ?_) (fun h2 => ?_))
          · cases h2
          refine awp_skip ?_
          exact nx_cut () trivial (Kn.cons rfl (Kn.cons rfl (Kn.cons rfl (Kn.cons rfl (Kn.cons rfl (Kn.cons rfl Kn.nil)))))) (HLe.refl _)
        · obtain ⟨j, hj⟩ : ∃ j, j + 1 = i := ⟨i - 1, by omega⟩
          have hy := itAt_at (L := O) (i := j) (by omega)
          have hlt2 := hrise j hj
          obtain ⟨y, hye⟩ : ∃ y, itAt O j = y := ⟨_, rfl⟩
          rw [hye] at hy hlt2
          refine awq_seq_meet [(1, .int .u8 (turn : Nat)), (5, ptr g1 0), (7, .slice (some ⟨g5, o5, none⟩) O.length c5), (8, iq (cBytes (O.take i) : Nat)), (9, iq (i : Nat)), (10, .string (str x.tx)), (81, .bool false)] [.own g1 26 [.slice (some ⟨ga, oa, none⟩) O.length c1], .ro g5 o5 (icells O), .ro ga oa (icells O)] mixed (by kernel_rfl) (fun Z hZ => ?_) ?_
          · refine sq_move rfl rfl ?_
            first | refine sq_gtr rfl rfl rfl ?_ | refine sq_sgtr rfl rfl rfl ?_
            refine sq_move rfl rfl ?_
            refine sq_force 43 rfl true (by first | rfl | (simp; done) | (simp; omega) | (simp [htx.1]; done)) ?_
            refine sq_on rfl rfl rfl ?_
            refine sq_move rfl rfl ?_
            refine sq_on rfl rfl rfl ?_
            refine sq_move rfl rfl ?_
            refine sq_on rfl rfl rfl ?_
            refine sq_sub rfl rfl ((j : Nat) : Int) (by rw [IntWalk.i64_in _ (by omega)]; omega) rfl ?_
            refine sq_on rfl rfl rfl ?_
            refine sq_indexAddr (o5 + j * 2) Try.underlying24 tyS52 rfl rfl (by omega) (by simp) rfl ?_
            refine sq_on rfl rfl rfl ?_
            refine sq_fieldAddr rfl tyF52_0 (by first | (simp only [Nat.reduceAdd, Nat.add_zero, Nat.zero_add]; first | done | rfl) | rfl) rfl ?_
            refine sq_on rfl rfl rfl ?_
            refine sq_loadRo 1 rfl rfl (j * 2) rfl tyA23 tyS23 (icells_id hy) rfl ?_
            refine sq_on rfl rfl rfl ?_
            refine sq_move rfl rfl ?_
            refine sq_on rfl rfl rfl ?_
            refine sq_move rfl rfl ?_
            refine sq_on rfl rfl rfl ?_
            refine sq_indexAddr (o5 + i * 2) Try.underlying24 tyS52 rfl rfl (by omega) (by simp) rfl ?_
            refine sq_on rfl rfl rfl ?_
            refine sq_fieldAddr rfl tyF52_0 (by first | (simp only [Nat.reduceAdd, Nat.add_zero, Nat.zero_add]; first | done | rfl) | rfl) rfl ?_
            refine sq_on rfl rfl rfl ?_
            refine sq_loadRo 1 rfl rfl (i * 2) rfl tyA23 tyS23 (icells_id hx) rfl ?_
            refine sq_on rfl rfl rfl ?_
            first | refine sq_geq rfl rfl rfl ?_ | refine sq_sgeq rfl rfl rfl ?_
            refine sq_pick rfl rfl rfl ?_
            refine sq_move rfl rfl ?_
            refine sq_force 57 rfl false (by first | rfl | (simp; done) | (simp; omega) | (simp [htx.1]; done)) ?_
            refine sq_on rfl rfl rfl ?_
            refine sq_move rfl rfl ?_
            refine sq_on rfl rfl rfl ?_
            refine sq_not rfl rfl ?_
            refine sq_pick rfl rfl rfl ?_
            refine sq_move rfl rfl ?_
            refine sq_force 61 rfl false (by first | rfl | (simp; done) | (simp; omega) | (simp [htx.1]; done)) ?_
            refine sq_on rfl rfl rfl ?_
            refine sq_move rfl rfl ?_
            refine sq_on rfl rfl rfl ?_
            refine sq_move rfl rfl ?_
            refine sq_on rfl rfl rfl ?_
            refine sq_move rfl rfl ?_
            refine sq_on rfl rfl rfl ?_
            refine sq_indexAddr (o5 + i * 2) Try.underlying24 tyS52 rfl rfl (by omega) (by simp) rfl ?_
            refine sq_on rfl rfl rfl ?_
            refine sq_fieldAddr rfl tyF52_1 (by first | (simp only [Nat.reduceAdd, Nat.add_zero, Nat.zero_add]; first | done | rfl) | rfl) rfl ?_
            refine sq_on rfl rfl rfl ?_
            refine sq_loadRo 1 rfl rfl (i * 2 + 1) rfl tyA9 tyS9 (icells_tx hx) rfl ?_
            refine sq_on rfl rfl rfl ?_
            first | refine sq_neq rfl rfl rfl ?_ | refine sq_sneq rfl rfl rfl ?_
            refine sq_pick rfl rfl rfl ?_
            refine sq_move rfl rfl ?_
            refine sq_force 70 rfl false (by first | rfl | (simp; done) | (simp; omega) | (simp [htx.1]; done)) ?_
            refine sq_on rfl rfl rfl ?_
            refine sq_move rfl rfl ?_
            refine sq_on rfl rfl rfl ?_
            first | refine sq_eql rfl rfl rfl ?_ | refine sq_seql rfl rfl rfl ?_
            refine sq_pick rfl rfl rfl ?_
            refine sq_move rfl rfl ?_
            refine sq_force 74 rfl false (by first | rfl | (simp; done) | (simp; omega) | (simp [htx.1]; done)) ?_
            refine sq_on rfl rfl rfl ?_
            refine sq_move rfl rfl ?_
            refine sq_on rfl rfl rfl ?_
            refine sq_move rfl rfl ?_
            refine sq_on rfl rfl rfl ?_
            refine sq_indexAddr (o5 + i * 2) Try.underlying24 tyS52 rfl rfl (by omega) (by simp) rfl ?_
            refine sq_on rfl rfl rfl ?_
            refine sq_fieldAddr rfl tyF52_0 (by first | (simp only [Nat.reduceAdd, Nat.add_zero, Nat.zero_add]; first | done | rfl) | rfl) rfl ?_
            refine sq_on rfl rfl rfl ?_
            refine sq_loadRo 1 rfl rfl (i * 2) rfl tyA23 tyS23 (icells_id hx) rfl ?_
            refine sq_on rfl rfl rfl ?_
            first | refine sq_geq rfl rfl rfl ?_ | refine sq_sgeq rfl rfl rfl ?_
            refine sq_pick rfl rfl rfl ?_
            refine sq_nil (hZ _ _ ?_ ?_)
            · exact Kn.cons rfl (Kn.cons rfl (Kn.cons rfl (Kn.cons rfl (Kn.cons rfl (Kn.cons rfl (Kn.cons (congrArg some (congrArg Value.bool (by simp; omega))) Kn.nil))))))
            · exact HLe.refl _
          first | refine awp_cond rfl (fun h2 => ?_) (fun h2 => ?_) | refine awp_seq (awp_cond rfl (fun h2 => ?_) (fun h2 => ?_))
          · cases h2
          refine awp_skip ?_
          exact nx_cut () trivial (Kn.cons rfl (Kn.cons rfl (Kn.cons rfl (Kn.cons rfl (Kn.cons rfl (Kn.cons rfl Kn.nil)))))) (HLe.refl _)
      rintro ⟨⟩ -

      refine awp_region (fun Z hZ => ?_)
      refine sx_move rfl rfl ?_
      refine sx_move rfl rfl ?_
      first | refine sx_len Try.underlying9 rfl rfl ?_ | refine sx_lenS Try.underlying9 rfl rfl ?_
      refine sx_add rfl rfl ((cBytes (O.take (i + 1)) : Nat) : Int) (by rw [IntWalk.i64_in _ (by omega), hs]; omega) rfl ?_
      refine sx_assign rfl rfl ?_
      refine sx_nil (hZ _ _ ?_)
      refine nx_forget [(1, _), (5, _), (7, _), (8, _), (9, _)] (Kn.cons rfl (Kn.cons rfl (Kn.cons rfl (Kn.cons rfl (Kn.cons rfl (Kn.nil)))))) ?_
      repeat (with_reducible (first | refine nx_block_normal ?_ | refine nx_scope_normal ?_))
      with_reducible first | refine nx_normal ?_ | refine nx_normalM ?_
      refine awp_region (fun Z hZ => ?_)
      refine sx_move rfl rfl ?_
      refine sx_add rfl rfl ((i + 1 : Nat) : Int) (by rw [IntWalk.i64_in _ (by omega)]; omega) rfl ?_
      refine sx_assign rfl rfl ?_
      refine sx_nil (hZ _ _ ?_)
      refine nx_forget [(1, _), (5, _), (7, _), (8, _), (9, _)] (Kn.cons rfl (Kn.cons rfl (Kn.cons rfl (Kn.cons rfl (Kn.cons rfl (Kn.nil)))))) ?_
      exact nx_round (i + 1) (by omega) (by omega) (Kn.cons rfl (Kn.cons rfl (Kn.cons rfl (Kn.cons rfl (Kn.cons rfl Kn.nil))))) (HLe.pick [0, 2, 1] (by simp) rfl)
    · have hke : i = O.length := by simp at h; omega
      subst hke
      refine awp_exit ?_
      repeat (with_reducible (first | refine nx_then_exit ?_ | refine nx_block_other (by decide) ?_ | refine nx_scope_exit ?_))
      with_reducible refine nx_block_exit ?_
      repeat (with_reducible (first | refine nx_block_normal ?_ | refine nx_scope_normal ?_))
      exact nx_cut () trivial (Kn.cons rfl (Kn.cons rfl (Kn.cons rfl (Kn.cons (by rw [List.take_length]; rfl) Kn.nil)))) (HLe.refl _)
  rintro ⟨⟩ -

  refine awp_seq_region (fun Z hZ => ?_)
  refine sx_assign rfl rfl ?_
  refine sx_nil (hZ _ _ ?_)
  refine awp_forget [(1, _), (5, _), (7, _), (8, _), (12, _)] (Kn.cons rfl (Kn.cons rfl (Kn.cons rfl (Kn.cons rfl (Kn.cons rfl (Kn.nil)))))) ?_
  obtain ⟨k, hk, hkd⟩ : ∃ k : Nat, k ≤ O.length ∧ k = (if 0 < O.length then turn % O.length else 0) := ⟨_, by split; exact Nat.le_of_lt (Nat.mod_lt _ (by omega)); omega, rfl⟩
  refine awp_cut (ι := Unit) (fun _ => [(5, ptr g1 0), (7, .slice A5 O.length c5), (8, iq (cBytes O : Nat)), (12, iq (k : Nat))]) (fun _ => .own g1 26 [.slice A1 O.length c1] :: (roE A1 (icells O) ++ roE A5 (icells O))) (fun _ => True) ?_ ?_
  · refine awp_seq_region (fun Z hZ => ?_)
    refine sx_move rfl rfl ?_
    first | refine sx_len Try.underlying24 rfl rfl ?_ | refine sx_lenS Try.underlying24 rfl rfl ?_
    first | refine sx_gtr rfl rfl rfl ?_ | refine sx_sgtr rfl rfl rfl ?_
    refine sx_nil (hZ _ _ ?_)
    refine awp_forget [(1, _), (5, _), (7, _), (8, _), (12, _), (88, _)] (Kn.cons rfl (Kn.cons rfl (Kn.cons rfl (Kn.cons rfl (Kn.cons rfl (Kn.cons rfl (Kn.nil))))))) ?_
    first | refine awp_cond rfl (fun h => ?_) (fun h => ?_) | refine awp_seq (awp_cond rfl (fun h => ?_) (fun h => ?_))
    · have h0 : 0 < O.length := by simpa using h
      rw [if_pos h0] at hkd
      refine awp_region (fun Z hZ => ?_)
      refine sx_move rfl rfl ?_
      refine sx_conv Try.underlying5 Try.underlying3 rfl ((turn : Nat) : Int) (by rw [IntWalk.i64_in _ (by omega)]) rfl ?_
      refine sx_move rfl rfl ?_
      first | refine sx_len Try.underlying24 rfl rfl ?_ | refine sx_lenS Try.underlying24 rfl rfl ?_
      refine sx_rem rfl rfl (by omega) ((k : Nat) : Int) (by rw [Int.tmod_eq_emod_of_nonneg (by omega), hkd]; exact (Int.natCast_emod turn O.length).symm) rfl ?_
      refine sx_assign rfl rfl ?_
      refine sx_nil (hZ _ _ ?_)
      refine nx_forget [(5, _), (7, _), (8, _), (12, _)] (Kn.cons rfl (Kn.cons rfl (Kn.cons rfl (Kn.cons rfl (Kn.nil))))) ?_
      exact nx_cut () trivial (Kn.cons rfl (Kn.cons rfl (Kn.cons rfl (Kn.cons rfl Kn.nil)))) (HLe.refl _)
    · have h0 : ¬ 0 < O.length := by simp at h; first | omega | simp [h]
      rw [if_neg h0] at hkd
      subst hkd
      refine awp_skip ?_
      exact nx_cut () trivial (Kn.cons rfl (Kn.cons rfl (Kn.cons rfl (Kn.cons rfl Kn.nil)))) (HLe.refl _)
  rintro ⟨⟩ -
  obtain ⟨hof, hofl⟩ := of_perm (M := O.drop k ++ O.take k) hok (by have := List.perm_append_comm (l₁ := O.drop k) (l₂ := O.take k); rwa [List.take_append_drop] at this)
  have hml : (O.drop k ++ O.take k).length = O.length := by rw [List.length_append, List.length_drop, List.length_take]; omega
  have hcells : ([] ++ icells ((O.drop k).take (O.length - k))) ++ icells ((O.drop 0).take (k - 0)) = icells (O.drop k ++ O.take k) := by
    rw [List.take_of_length_le (show (O.drop k).length ≤ O.length - k by rw [List.length_drop]; exact Nat.le_refl _)]
    simp [icells]
  have hcap5 := hA5.cap
  have hrd : ∀ w0 Wr w, Sat w0 Wr (roE A5 (icells O)) w → Rd w 2 A5 O.length (icells O) := fun w0 Wr w hw => rd_arg hA5.arg (fun _ => rfl) (icells_len O) hA5.nil (HLe.refl _) hw

  refine awkn_seq_region (fun j : Option Addr × Nat × Nat => [(5, ptr g1 0), (7, .slice A5 O.length c5), (8, iq (cBytes O : Nat)), (13, ptr j.2.2 0), (14, iq (0 : Nat))]) (fun j => .own j.2.2 26 [.slice j.1 O.length j.2.1] :: .own g1 26 [.slice A1 O.length c1] :: (roE A1 (icells O) ++ roE j.1 (icells O))) (fun j => SlIn j.1 O.length j.2.1) _ [0, 4, 8, 9, 13, 14] [[(1, true), (2, true), (3, true), (5, true), (6, true), (7, true), (0, false), (4, false), (8, false), (9, false), (10, true), (11, true), (12, true), (13, false), (14, false), (15, true)], [(1, true), (2, true), (3, true), (5, true), (6, true), (7, true), (13, false), (0, false), (4, false), (8, false), (9, false), (10, true), (11, true), (12, true), (14, false), (15, true)], [(1, true), (2, true), (3, true), (5, true), (6, true), (7, true), (0, false), (13, false), (4, false), (8, false), (9, false), (10, true), (11, true), (12, true), (14, false), (15, true)], [(1, true), (2, true), (3, true), (5, true), (6, true), (7, true), (0, false), (4, false), (13, false), (8, false), (9, false), (10, true), (11, true), (12, true), (14, false), (15, true)], [(1, true), (2, true), (3, true), (5, true), (6, true), (7, true), (0, false), (4, false), (8, false), (13, false), (9, false), (10, true), (11, true), (12, true), (14, false), (15, true)]] (by simp) mixed (by kernel_rfl) (HLe.pick [] (by simp) (by simp only [pick, List.filterMap_cons, List.filterMap_nil, List.getElem?_cons_succ, List.getElem?_cons_zero]; rfl)) ?_ ?_
  · intro ls hls
    simp only [List.mem_cons, List.not_mem_nil, or_false] at hls
    rcases hls with rfl | rfl | rfl | rfl | rfl
    · refine tw_p rfl ?_
      refine sv_move rfl rfl ?_
      refine sv_nil ?_
      refine tw_p rfl ?_
      refine sv_move rfl rfl ?_
      refine sv_nil ?_
      refine tw_p rfl ?_
      refine sv_part (i := k) (j := O.length) Try.underlying24 tyS52 hA5 rfl rfl rfl hk hA5.cap rfl (fun A6 hA6 ht6 => ?_)
      refine sv_nil ?_
      refine tw_p rfl ?_
      refine sv_move rfl rfl ?_
      refine sv_nil ?_
      refine tw_p rfl ?_
      refine sv_move rfl rfl ?_
      refine sv_nil ?_
      refine tw_p rfl ?_
      refine sv_part (i := 0) (j := k) Try.underlying24 tyS52 hA5 rfl rfl rfl (Nat.zero_le _) (by omega) rfl (fun A7 hA7 ht7 => ?_)
      refine sv_nil ?_
      refine tw_g rfl ?_
      refine sx_buildSlice0 Try.underlying24 tyS52 rfl (fun gr => ?_)
      first | refine sx_heap ((.own g1 26 [.slice A1 O.length c1] :: (roE A1 (icells O) ++ roE A5 (icells O))) ++ rowE (.slice (some ⟨gr, 0, none⟩) 0 0) 52 2 []) ((HLe.swap _ _).trans (HLe.ownRow [] (.own g1 26 [.slice A1 O.length c1] :: (roE A1 (icells O) ++ roE A5 (icells O))) rfl (Nat.zero_le _))) ?_ | refine sx_heap ((_ :: (.own g1 26 [.slice A1 O.length c1] :: (roE A1 (icells O) ++ roE A5 (icells O)))) ++ rowE (.slice (some ⟨gr, 0, none⟩) 0 0) 52 2 []) ((HLe.swap _ _).trans (HLe.ownRow [] (_ :: (.own g1 26 [.slice A1 O.length c1] :: (roE A1 (icells O) ++ roE A5 (icells O)))) rfl (Nat.zero_le _))) ?_
      refine sx_nil ⟨HLe.pick [] (by simp) rfl, ?_⟩
      refine tw_g rfl ?_
      first | refine sx_appendE (.own g1 26 [.slice A1 O.length c1] :: (roE A1 (icells O) ++ roE A5 (icells O))) elemIt rfl (RowOk.mk gr 0 0) rfl rfl (fun w hw => rd_part (hrd _ _ _ (hw.sub (by repeat (first | exact List.Sublist.refl _ | exact List.nil_sublist _ | exact List.sublist_append_right _ _ | refine List.Sublist.trans ?_ (List.sublist_append_left _ _) | exact List.Sublist.cons_cons _ (List.nil_sublist _) | refine List.Sublist.cons _ ?_)))) hA5 hk (Nat.le_refl _) ht6 hA6) (icells_one _) (by show _ ≤ 9223372036854775807; omega) (by omega) (HLe.refl _) rfl (fun v1 hv1 => ?_) | refine sx_appendE (_ :: (.own g1 26 [.slice A1 O.length c1] :: (roE A1 (icells O) ++ roE A5 (icells O)))) elemIt rfl (RowOk.mk gr 0 0) rfl rfl (fun w hw => rd_part (hrd _ _ _ (hw.sub (by repeat (first | exact List.Sublist.refl _ | exact List.nil_sublist _ | exact List.sublist_append_right _ _ | refine List.Sublist.trans ?_ (List.sublist_append_left _ _) | exact List.Sublist.cons_cons _ (List.nil_sublist _) | refine List.Sublist.cons _ ?_)))) hA5 hk (Nat.le_refl _) ht6 hA6) (icells_one _) (by show _ ≤ 9223372036854775807; omega) (by omega) (HLe.refl _) rfl (fun v1 hv1 => ?_)
      refine sx_nil ⟨HLe.pick [] (by simp) rfl, ?_⟩
      refine tw_g rfl ?_
      first | refine sx_appendE (.own g1 26 [.slice A1 O.length c1] :: (roE A1 (icells O) ++ roE A5 (icells O))) elemIt rfl hv1 (by rw [List.nil_append, icells_len, List.length_take, List.length_drop]; omega) rfl (fun w hw => rd_part (hrd _ _ _ (hw.sub (by repeat (first | exact List.Sublist.refl _ | exact List.nil_sublist _ | exact List.sublist_append_right _ _ | refine List.Sublist.trans ?_ (List.sublist_append_left _ _) | exact List.Sublist.cons_cons _ (List.nil_sublist _) | refine List.Sublist.cons _ ?_)))) hA5 (Nat.zero_le k) hk ht7 hA7) (icells_one _) (by show _ ≤ 9223372036854775807; omega) (by omega) (HLe.refl _) rfl (fun v2 hv2 => ?_) | refine sx_appendE (_ :: (.own g1 26 [.slice A1 O.length c1] :: (roE A1 (icells O) ++ roE A5 (icells O)))) elemIt rfl hv1 (by rw [List.nil_append, icells_len, List.length_take, List.length_drop]; omega) rfl (fun w hw => rd_part (hrd _ _ _ (hw.sub (by repeat (first | exact List.Sublist.refl _ | exact List.nil_sublist _ | exact List.sublist_append_right _ _ | refine List.Sublist.trans ?_ (List.sublist_append_left _ _) | exact List.Sublist.cons_cons _ (List.nil_sublist _) | refine List.Sublist.cons _ ?_)))) hA5 (Nat.zero_le k) hk ht7 hA7) (icells_one _) (by show _ ≤ 9223372036854775807; omega) (by omega) (HLe.refl _) rfl (fun v2 hv2 => ?_)
      rw [hcells]
      replace hv2 : RowOk v2 (O.drop k ++ O.take k).length := by rw [hml, show O.length = 0 + (O.length - k) + (k - 0) by omega]; exact hv2
      obtain ⟨A8, c8, rfl, hA8, hle8⟩ := hv2.ro
      refine sx_nil ⟨HLe.pick [] (by simp) rfl, ?_⟩
      refine tw_g rfl ?_
      first | refine sx_heap ((.own g1 26 [.slice A1 O.length c1] :: (roE A1 (icells O) ++ roE A5 (icells O))) ++ roE A8 (icells (O.drop k ++ O.take k))) (row_end hle8 (.own g1 26 [.slice A1 O.length c1] :: (roE A1 (icells O) ++ roE A5 (icells O))) _ _ _) ?_ | refine sx_heap ((_ :: (.own g1 26 [.slice A1 O.length c1] :: (roE A1 (icells O) ++ roE A5 (icells O)))) ++ roE A8 (icells (O.drop k ++ O.take k))) (row_end hle8 (_ :: (.own g1 26 [.slice A1 O.length c1] :: (roE A1 (icells O) ++ roE A5 (icells O)))) _ _ _) ?_
      refine sx_ofE (O.drop k ++ O.take k) (roE A8 (icells (O.drop k ++ O.take k))) hA8.arg (fun _ => rfl) (Ro.roE _ _) (by repeat (first | exact List.Sublist.refl _ | exact List.nil_sublist _ | exact List.sublist_append_right _ _ | refine List.Sublist.trans ?_ (List.sublist_append_left _ _) | exact List.Sublist.cons_cons _ (List.nil_sublist _) | refine List.Sublist.cons _ ?_)) (by omega) rfl rfl ?_
      rw [hof, hofl]
      intro A9 c9 hA9
      refine sx_nil ⟨HLe.pick [] (by simp) rfl, ?_⟩
      refine tw_p rfl ?_
      refine sv_move rfl rfl ?_
      refine sv_nil ?_
      refine tw_p rfl ?_
      refine sv_extract rfl rfl rfl ?_
      refine sv_nil ?_
      refine tw_p rfl ?_
      refine sv_extract rfl rfl rfl ?_
      refine sv_nil ?_
      refine tw_g rfl ?_
      refine sx_alloc tyZ26 rfl (fun gx => ?_)
      refine sx_nil ⟨HLe.pick [] (by simp) rfl, ?_⟩
      refine tw_g rfl ?_
      first | refine sx_store 0 rfl rfl rfl tyS26 (by first | (simp only [Value.cells]; first | done | rfl) | rfl) rfl rfl (by first | (simp only [List.length_cons, List.length_nil, Nat.reduceAdd, Nat.zero_add, Nat.add_zero]; first | done | rfl) | rfl) (by first | (simp only [List.take_succ_cons, List.take_zero, List.drop_succ_cons, List.drop_zero, List.cons_append, List.nil_append, List.append_nil, List.length_cons, List.length_nil, Nat.reduceAdd, Nat.zero_add, Nat.add_zero, Value.cells, wrV]; first | done | rfl) | rfl) (by first | (simp only [List.set_cons_succ, List.set_cons_zero]; first | done | rfl) | rfl) ?_ | refine sx_store 1 rfl rfl rfl tyS26 (by first | (simp only [Value.cells]; first | done | rfl) | rfl) rfl rfl (by first | (simp only [List.length_cons, List.length_nil, Nat.reduceAdd, Nat.zero_add, Nat.add_zero]; first | done | rfl) | rfl) (by first | (simp only [List.take_succ_cons, List.take_zero, List.drop_succ_cons, List.drop_zero, List.cons_append, List.nil_append, List.append_nil, List.length_cons, List.length_nil, Nat.reduceAdd, Nat.zero_add, Nat.add_zero, Value.cells, wrV]; first | done | rfl) | rfl) (by first | (simp only [List.set_cons_succ, List.set_cons_zero]; first | done | rfl) | rfl) ?_ | refine sx_store 2 rfl rfl rfl tyS26 (by first | (simp only [Value.cells]; first | done | rfl) | rfl) rfl rfl (by first | (simp only [List.length_cons, List.length_nil, Nat.reduceAdd, Nat.zero_add, Nat.add_zero]; first | done | rfl) | rfl) (by first | (simp only [List.take_succ_cons, List.take_zero, List.drop_succ_cons, List.drop_zero, List.cons_append, List.nil_append, List.append_nil, List.length_cons, List.length_nil, Nat.reduceAdd, Nat.zero_add, Nat.add_zero, Value.cells, wrV]; first | done | rfl) | rfl) (by first | (simp only [List.set_cons_succ, List.set_cons_zero]; first | done | rfl) | rfl) ?_
      refine sx_nil ⟨HLe.pick [] (by simp) rfl, ?_⟩
      refine tw_p rfl ?_
      refine sv_assign rfl rfl ?_
      refine sv_nil ?_
      refine tw_nil ?_
      exact ⟨(A9, c9, gx), hA9, Kn.cons rfl (Kn.cons rfl (Kn.cons rfl (Kn.cons rfl (Kn.cons rfl Kn.nil)))), HLe.sub (.cons_cons _ (.cons_cons _ (List.Sublist.append_right ((List.sublist_append_left _ _).trans (List.sublist_append_left _ _)) _)))⟩
    · refine tw_p rfl ?_
      refine sv_move rfl rfl ?_
      refine sv_nil ?_
      refine tw_p rfl ?_
      refine sv_move rfl rfl ?_
      refine sv_nil ?_
      refine tw_p rfl ?_
      refine sv_part (i := k) (j := O.length) Try.underlying24 tyS52 hA5 rfl rfl rfl hk hA5.cap rfl (fun A6 hA6 ht6 => ?_)
      refine sv_nil ?_
      refine tw_p rfl ?_
      refine sv_move rfl rfl ?_
      refine sv_nil ?_
      refine tw_p rfl ?_
      refine sv_move rfl rfl ?_
      refine sv_nil ?_
      refine tw_p rfl ?_
      refine sv_part (i := 0) (j := k) Try.underlying24 tyS52 hA5 rfl rfl rfl (Nat.zero_le _) (by omega) rfl (fun A7 hA7 ht7 => ?_)
      refine sv_nil ?_
      refine tw_g rfl ?_
      refine sx_alloc tyZ26 rfl (fun gx => ?_)
      refine sx_nil ⟨HLe.pick [] (by simp) rfl, ?_⟩
      refine tw_g rfl ?_
      refine sx_buildSlice0 Try.underlying24 tyS52 rfl (fun gr => ?_)
      first | refine sx_heap ((.own g1 26 [.slice A1 O.length c1] :: (roE A1 (icells O) ++ roE A5 (icells O))) ++ rowE (.slice (some ⟨gr, 0, none⟩) 0 0) 52 2 []) ((HLe.swap _ _).trans (HLe.ownRow [] (.own g1 26 [.slice A1 O.length c1] :: (roE A1 (icells O) ++ roE A5 (icells O))) rfl (Nat.zero_le _))) ?_ | refine sx_heap ((_ :: (.own g1 26 [.slice A1 O.length c1] :: (roE A1 (icells O) ++ roE A5 (icells O)))) ++ rowE (.slice (some ⟨gr, 0, none⟩) 0 0) 52 2 []) ((HLe.swap _ _).trans (HLe.ownRow [] (_ :: (.own g1 26 [.slice A1 O.length c1] :: (roE A1 (icells O) ++ roE A5 (icells O)))) rfl (Nat.zero_le _))) ?_
      refine sx_nil ⟨HLe.pick [] (by simp) rfl, ?_⟩
      refine tw_g rfl ?_
      first | refine sx_appendE (.own g1 26 [.slice A1 O.length c1] :: (roE A1 (icells O) ++ roE A5 (icells O))) elemIt rfl (RowOk.mk gr 0 0) rfl rfl (fun w hw => rd_part (hrd _ _ _ (hw.sub (by repeat (first | exact List.Sublist.refl _ | exact List.nil_sublist _ | exact List.sublist_append_right _ _ | refine List.Sublist.trans ?_ (List.sublist_append_left _ _) | exact List.Sublist.cons_cons _ (List.nil_sublist _) | refine List.Sublist.cons _ ?_)))) hA5 hk (Nat.le_refl _) ht6 hA6) (icells_one _) (by show _ ≤ 9223372036854775807; omega) (by omega) (HLe.refl _) rfl (fun v1 hv1 => ?_) | refine sx_appendE (_ :: (.own g1 26 [.slice A1 O.length c1] :: (roE A1 (icells O) ++ roE A5 (icells O)))) elemIt rfl (RowOk.mk gr 0 0) rfl rfl (fun w hw => rd_part (hrd _ _ _ (hw.sub (by repeat (first | exact List.Sublist.refl _ | exact List.nil_sublist _ | exact List.sublist_append_right _ _ | refine List.Sublist.trans ?_ (List.sublist_append_left _ _) | exact List.Sublist.cons_cons _ (List.nil_sublist _) | refine List.Sublist.cons _ ?_)))) hA5 hk (Nat.le_refl _) ht6 hA6) (icells_one _) (by show _ ≤ 9223372036854775807; omega) (by omega) (HLe.refl _) rfl (fun v1 hv1 => ?_)
      refine sx_nil ⟨HLe.pick [] (by simp) rfl, ?_⟩
      refine tw_g rfl ?_
      first | refine sx_appendE (.own g1 26 [.slice A1 O.length c1] :: (roE A1 (icells O) ++ roE A5 (icells O))) elemIt rfl hv1 (by rw [List.nil_append, icells_len, List.length_take, List.length_drop]; omega) rfl (fun w hw => rd_part (hrd _ _ _ (hw.sub (by repeat (first | exact List.Sublist.refl _ | exact List.nil_sublist _ | exact List.sublist_append_right _ _ | refine List.Sublist.trans ?_ (List.sublist_append_left _ _) | exact List.Sublist.cons_cons _ (List.nil_sublist _) | refine List.Sublist.cons _ ?_)))) hA5 (Nat.zero_le k) hk ht7 hA7) (icells_one _) (by show _ ≤ 9223372036854775807; omega) (by omega) (HLe.refl _) rfl (fun v2 hv2 => ?_) | refine sx_appendE (_ :: (.own g1 26 [.slice A1 O.length c1] :: (roE A1 (icells O) ++ roE A5 (icells O)))) elemIt rfl hv1 (by rw [List.nil_append, icells_len, List.length_take, List.length_drop]; omega) rfl (fun w hw => rd_part (hrd _ _ _ (hw.sub (by repeat (first | exact List.Sublist.refl _ | exact List.nil_sublist _ | exact List.sublist_append_right _ _ | refine List.Sublist.trans ?_ (List.sublist_append_left _ _) | exact List.Sublist.cons_cons _ (List.nil_sublist _) | refine List.Sublist.cons _ ?_)))) hA5 (Nat.zero_le k) hk ht7 hA7) (icells_one _) (by show _ ≤ 9223372036854775807; omega) (by omega) (HLe.refl _) rfl (fun v2 hv2 => ?_)
      rw [hcells]
      replace hv2 : RowOk v2 (O.drop k ++ O.take k).length := by rw [hml, show O.length = 0 + (O.length - k) + (k - 0) by omega]; exact hv2
      obtain ⟨A8, c8, rfl, hA8, hle8⟩ := hv2.ro
      refine sx_nil ⟨HLe.pick [] (by simp) rfl, ?_⟩
      refine tw_g rfl ?_
      first | refine sx_heap ((.own g1 26 [.slice A1 O.length c1] :: (roE A1 (icells O) ++ roE A5 (icells O))) ++ roE A8 (icells (O.drop k ++ O.take k))) (row_end hle8 (.own g1 26 [.slice A1 O.length c1] :: (roE A1 (icells O) ++ roE A5 (icells O))) _ _ _) ?_ | refine sx_heap ((_ :: (.own g1 26 [.slice A1 O.length c1] :: (roE A1 (icells O) ++ roE A5 (icells O)))) ++ roE A8 (icells (O.drop k ++ O.take k))) (row_end hle8 (_ :: (.own g1 26 [.slice A1 O.length c1] :: (roE A1 (icells O) ++ roE A5 (icells O)))) _ _ _) ?_
      refine sx_ofE (O.drop k ++ O.take k) (roE A8 (icells (O.drop k ++ O.take k))) hA8.arg (fun _ => rfl) (Ro.roE _ _) (by repeat (first | exact List.Sublist.refl _ | exact List.nil_sublist _ | exact List.sublist_append_right _ _ | refine List.Sublist.trans ?_ (List.sublist_append_left _ _) | exact List.Sublist.cons_cons _ (List.nil_sublist _) | refine List.Sublist.cons _ ?_)) (by omega) rfl rfl ?_
      rw [hof, hofl]
      intro A9 c9 hA9
      refine sx_nil ⟨HLe.pick [] (by simp) rfl, ?_⟩
      refine tw_p rfl ?_
      refine sv_move rfl rfl ?_
      refine sv_nil ?_
      refine tw_p rfl ?_
      refine sv_extract rfl rfl rfl ?_
      refine sv_nil ?_
      refine tw_p rfl ?_
      refine sv_extract rfl rfl rfl ?_
      refine sv_nil ?_
      refine tw_g rfl ?_
      first | refine sx_store 0 rfl rfl rfl tyS26 (by first | (simp only [Value.cells]; first | done | rfl) | rfl) rfl rfl (by first | (simp only [List.length_cons, List.length_nil, Nat.reduceAdd, Nat.zero_add, Nat.add_zero]; first | done | rfl) | rfl) (by first | (simp only [List.take_succ_cons, List.take_zero, List.drop_succ_cons, List.drop_zero, List.cons_append, List.nil_append, List.append_nil, List.length_cons, List.length_nil, Nat.reduceAdd, Nat.zero_add, Nat.add_zero, Value.cells, wrV]; first | done | rfl) | rfl) (by first | (simp only [List.set_cons_succ, List.set_cons_zero]; first | done | rfl) | rfl) ?_ | refine sx_store 1 rfl rfl rfl tyS26 (by first | (simp only [Value.cells]; first | done | rfl) | rfl) rfl rfl (by first | (simp only [List.length_cons, List.length_nil, Nat.reduceAdd, Nat.zero_add, Nat.add_zero]; first | done | rfl) | rfl) (by first | (simp only [List.take_succ_cons, List.take_zero, List.drop_succ_cons, List.drop_zero, List.cons_append, List.nil_append, List.append_nil, List.length_cons, List.length_nil, Nat.reduceAdd, Nat.zero_add, Nat.add_zero, Value.cells, wrV]; first | done | rfl) | rfl) (by first | (simp only [List.set_cons_succ, List.set_cons_zero]; first | done | rfl) | rfl) ?_ | refine sx_store 2 rfl rfl rfl tyS26 (by first | (simp only [Value.cells]; first | done | rfl) | rfl) rfl rfl (by first | (simp only [List.length_cons, List.length_nil, Nat.reduceAdd, Nat.zero_add, Nat.add_zero]; first | done | rfl) | rfl) (by first | (simp only [List.take_succ_cons, List.take_zero, List.drop_succ_cons, List.drop_zero, List.cons_append, List.nil_append, List.append_nil, List.length_cons, List.length_nil, Nat.reduceAdd, Nat.zero_add, Nat.add_zero, Value.cells, wrV]; first | done | rfl) | rfl) (by first | (simp only [List.set_cons_succ, List.set_cons_zero]; first | done | rfl) | rfl) ?_
      refine sx_nil ⟨HLe.pick [] (by simp) rfl, ?_⟩
      refine tw_p rfl ?_
      refine sv_assign rfl rfl ?_
      refine sv_nil ?_
      refine tw_nil ?_
      exact ⟨(A9, c9, gx), hA9, Kn.cons rfl (Kn.cons rfl (Kn.cons rfl (Kn.cons rfl (Kn.cons rfl Kn.nil)))), HLe.sub (.cons_cons _ (.cons_cons _ (List.Sublist.append_right ((List.sublist_append_left _ _).trans (List.sublist_append_left _ _)) _)))⟩
    · refine tw_p rfl ?_
      refine sv_move rfl rfl ?_
      refine sv_nil ?_
      refine tw_p rfl ?_
      refine sv_move rfl rfl ?_
      refine sv_nil ?_
      refine tw_p rfl ?_
      refine sv_part (i := k) (j := O.length) Try.underlying24 tyS52 hA5 rfl rfl rfl hk hA5.cap rfl (fun A6 hA6 ht6 => ?_)
      refine sv_nil ?_
      refine tw_p rfl ?_
      refine sv_move rfl rfl ?_
      refine sv_nil ?_
      refine tw_p rfl ?_
      refine sv_move rfl rfl ?_
      refine sv_nil ?_
      refine tw_p rfl ?_
      refine sv_part (i := 0) (j := k) Try.underlying24 tyS52 hA5 rfl rfl rfl (Nat.zero_le _) (by omega) rfl (fun A7 hA7 ht7 => ?_)
      refine sv_nil ?_
      refine tw_g rfl ?_
      refine sx_buildSlice0 Try.underlying24 tyS52 rfl (fun gr => ?_)
      first | refine sx_heap ((.own g1 26 [.slice A1 O.length c1] :: (roE A1 (icells O) ++ roE A5 (icells O))) ++ rowE (.slice (some ⟨gr, 0, none⟩) 0 0) 52 2 []) ((HLe.swap _ _).trans (HLe.ownRow [] (.own g1 26 [.slice A1 O.length c1] :: (roE A1 (icells O) ++ roE A5 (icells O))) rfl (Nat.zero_le _))) ?_ | refine sx_heap ((_ :: (.own g1 26 [.slice A1 O.length c1] :: (roE A1 (icells O) ++ roE A5 (icells O)))) ++ rowE (.slice (some ⟨gr, 0, none⟩) 0 0) 52 2 []) ((HLe.swap _ _).trans (HLe.ownRow [] (_ :: (.own g1 26 [.slice A1 O.length c1] :: (roE A1 (icells O) ++ roE A5 (icells O)))) rfl (Nat.zero_le _))) ?_
      refine sx_nil ⟨HLe.pick [] (by simp) rfl, ?_⟩
      refine tw_g rfl ?_
      refine sx_alloc tyZ26 rfl (fun gx => ?_)
      refine sx_nil ⟨HLe.pick [] (by simp) rfl, ?_⟩
      refine tw_g rfl ?_
      first | refine sx_appendE (.own g1 26 [.slice A1 O.length c1] :: (roE A1 (icells O) ++ roE A5 (icells O))) elemIt rfl (RowOk.mk gr 0 0) rfl rfl (fun w hw => rd_part (hrd _ _ _ (hw.sub (by repeat (first | exact List.Sublist.refl _ | exact List.nil_sublist _ | exact List.sublist_append_right _ _ | refine List.Sublist.trans ?_ (List.sublist_append_left _ _) | exact List.Sublist.cons_cons _ (List.nil_sublist _) | refine List.Sublist.cons _ ?_)))) hA5 hk (Nat.le_refl _) ht6 hA6) (icells_one _) (by show _ ≤ 9223372036854775807; omega) (by omega) (HLe.refl _) rfl (fun v1 hv1 => ?_) | refine sx_appendE (_ :: (.own g1 26 [.slice A1 O.length c1] :: (roE A1 (icells O) ++ roE A5 (icells O)))) elemIt rfl (RowOk.mk gr 0 0) rfl rfl (fun w hw => rd_part (hrd _ _ _ (hw.sub (by repeat (first | exact List.Sublist.refl _ | exact List.nil_sublist _ | exact List.sublist_append_right _ _ | refine List.Sublist.trans ?_ (List.sublist_append_left _ _) | exact List.Sublist.cons_cons _ (List.nil_sublist _) | refine List.Sublist.cons _ ?_)))) hA5 hk (Nat.le_refl _) ht6 hA6) (icells_one _) (by show _ ≤ 9223372036854775807; omega) (by omega) (HLe.refl _) rfl (fun v1 hv1 => ?_)
      refine sx_nil ⟨HLe.pick [] (by simp) rfl, ?_⟩
      refine tw_g rfl ?_
      first | refine sx_appendE (.own g1 26 [.slice A1 O.length c1] :: (roE A1 (icells O) ++ roE A5 (icells O))) elemIt rfl hv1 (by rw [List.nil_append, icells_len, List.length_take, List.length_drop]; omega) rfl (fun w hw => rd_part (hrd _ _ _ (hw.sub (by repeat (first | exact List.Sublist.refl _ | exact List.nil_sublist _ | exact List.sublist_append_right _ _ | refine List.Sublist.trans ?_ (List.sublist_append_left _ _) | exact List.Sublist.cons_cons _ (List.nil_sublist _) | refine List.Sublist.cons _ ?_)))) hA5 (Nat.zero_le k) hk ht7 hA7) (icells_one _) (by show _ ≤ 9223372036854775807; omega) (by omega) (HLe.refl _) rfl (fun v2 hv2 => ?_) | refine sx_appendE (_ :: (.own g1 26 [.slice A1 O.length c1] :: (roE A1 (icells O) ++ roE A5 (icells O)))) elemIt rfl hv1 (by rw [List.nil_append, icells_len, List.length_take, List.length_drop]; omega) rfl (fun w hw => rd_part (hrd _ _ _ (hw.sub (by repeat (first | exact List.Sublist.refl _ | exact List.nil_sublist _ | exact List.sublist_append_right _ _ | refine List.Sublist.trans ?_ (List.sublist_append_left _ _) | exact List.Sublist.cons_cons _ (List.nil_sublist _) | refine List.Sublist.cons _ ?_)))) hA5 (Nat.zero_le k) hk ht7 hA7) (icells_one _) (by show _ ≤ 9223372036854775807; omega) (by omega) (HLe.refl _) rfl (fun v2 hv2 => ?_)
      rw [hcells]
      replace hv2 : RowOk v2 (O.drop k ++ O.take k).length := by rw [hml, show O.length = 0 + (O.length - k) + (k - 0) by omega]; exact hv2
      obtain ⟨A8, c8, rfl, hA8, hle8⟩ := hv2.ro
      refine sx_nil ⟨HLe.pick [] (by simp) rfl, ?_⟩
      refine tw_g rfl ?_
      first | refine sx_heap ((.own g1 26 [.slice A1 O.length c1] :: (roE A1 (icells O) ++ roE A5 (icells O))) ++ roE A8 (icells (O.drop k ++ O.take k))) (row_end hle8 (.own g1 26 [.slice A1 O.length c1] :: (roE A1 (icells O) ++ roE A5 (icells O))) _ _ _) ?_ | refine sx_heap ((_ :: (.own g1 26 [.slice A1 O.length c1] :: (roE A1 (icells O) ++ roE A5 (icells O)))) ++ roE A8 (icells (O.drop k ++ O.take k))) (row_end hle8 (_ :: (.own g1 26 [.slice A1 O.length c1] :: (roE A1 (icells O) ++ roE A5 (icells O)))) _ _ _) ?_
      refine sx_ofE (O.drop k ++ O.take k) (roE A8 (icells (O.drop k ++ O.take k))) hA8.arg (fun _ => rfl) (Ro.roE _ _) (by repeat (first | exact List.Sublist.refl _ | exact List.nil_sublist _ | exact List.sublist_append_right _ _ | refine List.Sublist.trans ?_ (List.sublist_append_left _ _) | exact List.Sublist.cons_cons _ (List.nil_sublist _) | refine List.Sublist.cons _ ?_)) (by omega) rfl rfl ?_
      rw [hof, hofl]
      intro A9 c9 hA9
      refine sx_nil ⟨HLe.pick [] (by simp) rfl, ?_⟩
      refine tw_p rfl ?_
      refine sv_move rfl rfl ?_
      refine sv_nil ?_
      refine tw_p rfl ?_
      refine sv_extract rfl rfl rfl ?_
      refine sv_nil ?_
      refine tw_p rfl ?_
      refine sv_extract rfl rfl rfl ?_
      refine sv_nil ?_
      refine tw_g rfl ?_
      first | refine sx_store 0 rfl rfl rfl tyS26 (by first | (simp only [Value.cells]; first | done | rfl) | rfl) rfl rfl (by first | (simp only [List.length_cons, List.length_nil, Nat.reduceAdd, Nat.zero_add, Nat.add_zero]; first | done | rfl) | rfl) (by first | (simp only [List.take_succ_cons, List.take_zero, List.drop_succ_cons, List.drop_zero, List.cons_append, List.nil_append, List.append_nil, List.length_cons, List.length_nil, Nat.reduceAdd, Nat.zero_add, Nat.add_zero, Value.cells, wrV]; first | done | rfl) | rfl) (by first | (simp only [List.set_cons_succ, List.set_cons_zero]; first | done | rfl) | rfl) ?_ | refine sx_store 1 rfl rfl rfl tyS26 (by first | (simp only [Value.cells]; first | done | rfl) | rfl) rfl rfl (by first | (simp only [List.length_cons, List.length_nil, Nat.reduceAdd, Nat.zero_add, Nat.add_zero]; first | done | rfl) | rfl) (by first | (simp only [List.take_succ_cons, List.take_zero, List.drop_succ_cons, List.drop_zero, List.cons_append, List.nil_append, List.append_nil, List.length_cons, List.length_nil, Nat.reduceAdd, Nat.zero_add, Nat.add_zero, Value.cells, wrV]; first | done | rfl) | rfl) (by first | (simp only [List.set_cons_succ, List.set_cons_zero]; first | done | rfl) | rfl) ?_ | refine sx_store 2 rfl rfl rfl tyS26 (by first | (simp only [Value.cells]; first | done | rfl) | rfl) rfl rfl (by first | (simp only [List.length_cons, List.length_nil, Nat.reduceAdd, Nat.zero_add, Nat.add_zero]; first | done | rfl) | rfl) (by first | (simp only [List.take_succ_cons, List.take_zero, List.drop_succ_cons, List.drop_zero, List.cons_append, List.nil_append, List.append_nil, List.length_cons, List.length_nil, Nat.reduceAdd, Nat.zero_add, Nat.add_zero, Value.cells, wrV]; first | done | rfl) | rfl) (by first | (simp only [List.set_cons_succ, List.set_cons_zero]; first | done | rfl) | rfl) ?_
      refine sx_nil ⟨HLe.pick [] (by simp) rfl, ?_⟩
      refine tw_p rfl ?_
      refine sv_assign rfl rfl ?_
      refine sv_nil ?_
      refine tw_nil ?_
      exact ⟨(A9, c9, gx), hA9, Kn.cons rfl (Kn.cons rfl (Kn.cons rfl (Kn.cons rfl (Kn.cons rfl Kn.nil)))), HLe.sub (.cons_cons _ (.cons_cons _ (List.Sublist.append_right ((List.sublist_append_left _ _).trans (List.sublist_append_left _ _)) _)))⟩
    · refine tw_p rfl ?_
      refine sv_move rfl rfl ?_
      refine sv_nil ?_
      refine tw_p rfl ?_
      refine sv_move rfl rfl ?_
      refine sv_nil ?_
      refine tw_p rfl ?_
      refine sv_part (i := k) (j := O.length) Try.underlying24 tyS52 hA5 rfl rfl rfl hk hA5.cap rfl (fun A6 hA6 ht6 => ?_)
      refine sv_nil ?_
      refine tw_p rfl ?_
      refine sv_move rfl rfl ?_
      refine sv_nil ?_
      refine tw_p rfl ?_
      refine sv_move rfl rfl ?_
      refine sv_nil ?_
      refine tw_p rfl ?_
      refine sv_part (i := 0) (j := k) Try.underlying24 tyS52 hA5 rfl rfl rfl (Nat.zero_le _) (by omega) rfl (fun A7 hA7 ht7 => ?_)
      refine sv_nil ?_
      refine tw_g rfl ?_
      refine sx_buildSlice0 Try.underlying24 tyS52 rfl (fun gr => ?_)
      first | refine sx_heap ((.own g1 26 [.slice A1 O.length c1] :: (roE A1 (icells O) ++ roE A5 (icells O))) ++ rowE (.slice (some ⟨gr, 0, none⟩) 0 0) 52 2 []) ((HLe.swap _ _).trans (HLe.ownRow [] (.own g1 26 [.slice A1 O.length c1] :: (roE A1 (icells O) ++ roE A5 (icells O))) rfl (Nat.zero_le _))) ?_ | refine sx_heap ((_ :: (.own g1 26 [.slice A1 O.length c1] :: (roE A1 (icells O) ++ roE A5 (icells O)))) ++ rowE (.slice (some ⟨gr, 0, none⟩) 0 0) 52 2 []) ((HLe.swap _ _).trans (HLe.ownRow [] (_ :: (.own g1 26 [.slice A1 O.length c1] :: (roE A1 (icells O) ++ roE A5 (icells O)))) rfl (Nat.zero_le _))) ?_
      refine sx_nil ⟨HLe.pick [] (by simp) rfl, ?_⟩
      refine tw_g rfl ?_
      first | refine sx_appendE (.own g1 26 [.slice A1 O.length c1] :: (roE A1 (icells O) ++ roE A5 (icells O))) elemIt rfl (RowOk.mk gr 0 0) rfl rfl (fun w hw => rd_part (hrd _ _ _ (hw.sub (by repeat (first | exact List.Sublist.refl _ | exact List.nil_sublist _ | exact List.sublist_append_right _ _ | refine List.Sublist.trans ?_ (List.sublist_append_left _ _) | exact List.Sublist.cons_cons _ (List.nil_sublist _) | refine List.Sublist.cons _ ?_)))) hA5 hk (Nat.le_refl _) ht6 hA6) (icells_one _) (by show _ ≤ 9223372036854775807; omega) (by omega) (HLe.refl _) rfl (fun v1 hv1 => ?_) | refine sx_appendE (_ :: (.own g1 26 [.slice A1 O.length c1] :: (roE A1 (icells O) ++ roE A5 (icells O)))) elemIt rfl (RowOk.mk gr 0 0) rfl rfl (fun w hw => rd_part (hrd _ _ _ (hw.sub (by repeat (first | exact List.Sublist.refl _ | exact List.nil_sublist _ | exact List.sublist_append_right _ _ | refine List.Sublist.trans ?_ (List.sublist_append_left _ _) | exact List.Sublist.cons_cons _ (List.nil_sublist _) | refine List.Sublist.cons _ ?_)))) hA5 hk (Nat.le_refl _) ht6 hA6) (icells_one _) (by show _ ≤ 9223372036854775807; omega) (by omega) (HLe.refl _) rfl (fun v1 hv1 => ?_)
      refine sx_nil ⟨HLe.pick [] (by simp) rfl, ?_⟩
      refine tw_g rfl ?_
      refine sx_alloc tyZ26 rfl (fun gx => ?_)
      refine sx_nil ⟨HLe.pick [] (by simp) rfl, ?_⟩
      refine tw_g rfl ?_
      first | refine sx_appendE (.own g1 26 [.slice A1 O.length c1] :: (roE A1 (icells O) ++ roE A5 (icells O))) elemIt rfl hv1 (by rw [List.nil_append, icells_len, List.length_take, List.length_drop]; omega) rfl (fun w hw => rd_part (hrd _ _ _ (hw.sub (by repeat (first | exact List.Sublist.refl _ | exact List.nil_sublist _ | exact List.sublist_append_right _ _ | refine List.Sublist.trans ?_ (List.sublist_append_left _ _) | exact List.Sublist.cons_cons _ (List.nil_sublist _) | refine List.Sublist.cons _ ?_)))) hA5 (Nat.zero_le k) hk ht7 hA7) (icells_one _) (by show _ ≤ 9223372036854775807; omega) (by omega) (HLe.refl _) rfl (fun v2 hv2 => ?_) | refine sx_appendE (_ :: (.own g1 26 [.slice A1 O.length c1] :: (roE A1 (icells O) ++ roE A5 (icells O)))) elemIt rfl hv1 (by rw [List.nil_append, icells_len, List.length_take, List.length_drop]; omega) rfl (fun w hw => rd_part (hrd _ _ _ (hw.sub (by repeat (first | exact List.Sublist.refl _ | exact List.nil_sublist _ | exact List.sublist_append_right _ _ | refine List.Sublist.trans ?_ (List.sublist_append_left _ _) | exact List.Sublist.cons_cons _ (List.nil_sublist _) | refine List.Sublist.cons _ ?_)))) hA5 (Nat.zero_le k) hk ht7 hA7) (icells_one _) (by show _ ≤ 9223372036854775807; omega) (by omega) (HLe.refl _) rfl (fun v2 hv2 => ?_)
      rw [hcells]
      replace hv2 : RowOk v2 (O.drop k ++ O.take k).length := by rw [hml, show O.length = 0 + (O.length - k) + (k - 0) by omega]; exact hv2
      obtain ⟨A8, c8, rfl, hA8, hle8⟩ := hv2.ro
      refine sx_nil ⟨HLe.pick [] (by simp) rfl, ?_⟩
      refine tw_g rfl ?_
      first | refine sx_heap ((.own g1 26 [.slice A1 O.length c1] :: (roE A1 (icells O) ++ roE A5 (icells O))) ++ roE A8 (icells (O.drop k ++ O.take k))) (row_end hle8 (.own g1 26 [.slice A1 O.length c1] :: (roE A1 (icells O) ++ roE A5 (icells O))) _ _ _) ?_ | refine sx_heap ((_ :: (.own g1 26 [.slice A1 O.length c1] :: (roE A1 (icells O) ++ roE A5 (icells O)))) ++ roE A8 (icells (O.drop k ++ O.take k))) (row_end hle8 (_ :: (.own g1 26 [.slice A1 O.length c1] :: (roE A1 (icells O) ++ roE A5 (icells O)))) _ _ _) ?_
      refine sx_ofE (O.drop k ++ O.take k) (roE A8 (icells (O.drop k ++ O.take k))) hA8.arg (fun _ => rfl) (Ro.roE _ _) (by repeat (first | exact List.Sublist.refl _ | exact List.nil_sublist _ | exact List.sublist_append_right _ _ | refine List.Sublist.trans ?_ (List.sublist_append_left _ _) | exact List.Sublist.cons_cons _ (List.nil_sublist _) | refine List.Sublist.cons _ ?_)) (by omega) rfl rfl ?_
      rw [hof, hofl]
      intro A9 c9 hA9
      refine sx_nil ⟨HLe.pick [] (by simp) rfl, ?_⟩
      refine tw_p rfl ?_
      refine sv_move rfl rfl ?_
      refine sv_nil ?_
      refine tw_p rfl ?_
      refine sv_extract rfl rfl rfl ?_
      refine sv_nil ?_
      refine tw_p rfl ?_
      refine sv_extract rfl rfl rfl ?_
      refine sv_nil ?_
      refine tw_g rfl ?_
      first | refine sx_store 0 rfl rfl rfl tyS26 (by first | (simp only [Value.cells]; first | done | rfl) | rfl) rfl rfl (by first | (simp only [List.length_cons, List.length_nil, Nat.reduceAdd, Nat.zero_add, Nat.add_zero]; first | done | rfl) | rfl) (by first | (simp only [List.take_succ_cons, List.take_zero, List.drop_succ_cons, List.drop_zero, List.cons_append, List.nil_append, List.append_nil, List.length_cons, List.length_nil, Nat.reduceAdd, Nat.zero_add, Nat.add_zero, Value.cells, wrV]; first | done | rfl) | rfl) (by first | (simp only [List.set_cons_succ, List.set_cons_zero]; first | done | rfl) | rfl) ?_ | refine sx_store 1 rfl rfl rfl tyS26 (by first | (simp only [Value.cells]; first | done | rfl) | rfl) rfl rfl (by first | (simp only [List.length_cons, List.length_nil, Nat.reduceAdd, Nat.zero_add, Nat.add_zero]; first | done | rfl) | rfl) (by first | (simp only [List.take_succ_cons, List.take_zero, List.drop_succ_cons, List.drop_zero, List.cons_append, List.nil_append, List.append_nil, List.length_cons, List.length_nil, Nat.reduceAdd, Nat.zero_add, Nat.add_zero, Value.cells, wrV]; first | done | rfl) | rfl) (by first | (simp only [List.set_cons_succ, List.set_cons_zero]; first | done | rfl) | rfl) ?_ | refine sx_store 2 rfl rfl rfl tyS26 (by first | (simp only [Value.cells]; first | done | rfl) | rfl) rfl rfl (by first | (simp only [List.length_cons, List.length_nil, Nat.reduceAdd, Nat.zero_add, Nat.add_zero]; first | done | rfl) | rfl) (by first | (simp only [List.take_succ_cons, List.take_zero, List.drop_succ_cons, List.drop_zero, List.cons_append, List.nil_append, List.append_nil, List.length_cons, List.length_nil, Nat.reduceAdd, Nat.zero_add, Nat.add_zero, Value.cells, wrV]; first | done | rfl) | rfl) (by first | (simp only [List.set_cons_succ, List.set_cons_zero]; first | done | rfl) | rfl) ?_
      refine sx_nil ⟨HLe.pick [] (by simp) rfl, ?_⟩
      refine tw_p rfl ?_
      refine sv_assign rfl rfl ?_
      refine sv_nil ?_
      refine tw_nil ?_
      exact ⟨(A9, c9, gx), hA9, Kn.cons rfl (Kn.cons rfl (Kn.cons rfl (Kn.cons rfl (Kn.cons rfl Kn.nil)))), HLe.sub (.cons_cons _ (.cons_cons _ (List.Sublist.append_right ((List.sublist_append_left _ _).trans (List.sublist_append_left _ _)) _)))⟩
    · refine tw_p rfl ?_
      refine sv_move rfl rfl ?_
      refine sv_nil ?_
      refine tw_p rfl ?_
      refine sv_move rfl rfl ?_
      refine sv_nil ?_
      refine tw_p rfl ?_
      refine sv_part (i := k) (j := O.length) Try.underlying24 tyS52 hA5 rfl rfl rfl hk hA5.cap rfl (fun A6 hA6 ht6 => ?_)
      refine sv_nil ?_
      refine tw_p rfl ?_
      refine sv_move rfl rfl ?_
      refine sv_nil ?_
      refine tw_p rfl ?_
      refine sv_move rfl rfl ?_
      refine sv_nil ?_
      refine tw_p rfl ?_
      refine sv_part (i := 0) (j := k) Try.underlying24 tyS52 hA5 rfl rfl rfl (Nat.zero_le _) (by omega) rfl (fun A7 hA7 ht7 => ?_)
      refine sv_nil ?_
      refine tw_g rfl ?_
      refine sx_buildSlice0 Try.underlying24 tyS52 rfl (fun gr => ?_)
      first | refine sx_heap ((.own g1 26 [.slice A1 O.length c1] :: (roE A1 (icells O) ++ roE A5 (icells O))) ++ rowE (.slice (some ⟨gr, 0, none⟩) 0 0) 52 2 []) ((HLe.swap _ _).trans (HLe.ownRow [] (.own g1 26 [.slice A1 O.length c1] :: (roE A1 (icells O) ++ roE A5 (icells O))) rfl (Nat.zero_le _))) ?_ | refine sx_heap ((_ :: (.own g1 26 [.slice A1 O.length c1] :: (roE A1 (icells O) ++ roE A5 (icells O)))) ++ rowE (.slice (some ⟨gr, 0, none⟩) 0 0) 52 2 []) ((HLe.swap _ _).trans (HLe.ownRow [] (_ :: (.own g1 26 [.slice A1 O.length c1] :: (roE A1 (icells O) ++ roE A5 (icells O)))) rfl (Nat.zero_le _))) ?_
      refine sx_nil ⟨HLe.pick [] (by simp) rfl, ?_⟩
      refine tw_g rfl ?_
      first | refine sx_appendE (.own g1 26 [.slice A1 O.length c1] :: (roE A1 (icells O) ++ roE A5 (icells O))) elemIt rfl (RowOk.mk gr 0 0) rfl rfl (fun w hw => rd_part (hrd _ _ _ (hw.sub (by repeat (first | exact List.Sublist.refl _ | exact List.nil_sublist _ | exact List.sublist_append_right _ _ | refine List.Sublist.trans ?_ (List.sublist_append_left _ _) | exact List.Sublist.cons_cons _ (List.nil_sublist _) | refine List.Sublist.cons _ ?_)))) hA5 hk (Nat.le_refl _) ht6 hA6) (icells_one _) (by show _ ≤ 9223372036854775807; omega) (by omega) (HLe.refl _) rfl (fun v1 hv1 => ?_) | refine sx_appendE (_ :: (.own g1 26 [.slice A1 O.length c1] :: (roE A1 (icells O) ++ roE A5 (icells O)))) elemIt rfl (RowOk.mk gr 0 0) rfl rfl (fun w hw => rd_part (hrd _ _ _ (hw.sub (by repeat (first | exact List.Sublist.refl _ | exact List.nil_sublist _ | exact List.sublist_append_right _ _ | refine List.Sublist.trans ?_ (List.sublist_append_left _ _) | exact List.Sublist.cons_cons _ (List.nil_sublist _) | refine List.Sublist.cons _ ?_)))) hA5 hk (Nat.le_refl _) ht6 hA6) (icells_one _) (by show _ ≤ 9223372036854775807; omega) (by omega) (HLe.refl _) rfl (fun v1 hv1 => ?_)
      refine sx_nil ⟨HLe.pick [] (by simp) rfl, ?_⟩
      refine tw_g rfl ?_
      first | refine sx_appendE (.own g1 26 [.slice A1 O.length c1] :: (roE A1 (icells O) ++ roE A5 (icells O))) elemIt rfl hv1 (by rw [List.nil_append, icells_len, List.length_take, List.length_drop]; omega) rfl (fun w hw => rd_part (hrd _ _ _ (hw.sub (by repeat (first | exact List.Sublist.refl _ | exact List.nil_sublist _ | exact List.sublist_append_right _ _ | refine List.Sublist.trans ?_ (List.sublist_append_left _ _) | exact List.Sublist.cons_cons _ (List.nil_sublist _) | refine List.Sublist.cons _ ?_)))) hA5 (Nat.zero_le k) hk ht7 hA7) (icells_one _) (by show _ ≤ 9223372036854775807; omega) (by omega) (HLe.refl _) rfl (fun v2 hv2 => ?_) | refine sx_appendE (_ :: (.own g1 26 [.slice A1 O.length c1] :: (roE A1 (icells O) ++ roE A5 (icells O)))) elemIt rfl hv1 (by rw [List.nil_append, icells_len, List.length_take, List.length_drop]; omega) rfl (fun w hw => rd_part (hrd _ _ _ (hw.sub (by repeat (first | exact List.Sublist.refl _ | exact List.nil_sublist _ | exact List.sublist_append_right _ _ | refine List.Sublist.trans ?_ (List.sublist_append_left _ _) | exact List.Sublist.cons_cons _ (List.nil_sublist _) | refine List.Sublist.cons _ ?_)))) hA5 (Nat.zero_le k) hk ht7 hA7) (icells_one _) (by show _ ≤ 9223372036854775807; omega) (by omega) (HLe.refl _) rfl (fun v2 hv2 => ?_)
      rw [hcells]
      replace hv2 : RowOk v2 (O.drop k ++ O.take k).length := by rw [hml, show O.length = 0 + (O.length - k) + (k - 0) by omega]; exact hv2
      obtain ⟨A8, c8, rfl, hA8, hle8⟩ := hv2.ro
      refine sx_nil ⟨HLe.pick [] (by simp) rfl, ?_⟩
      refine tw_g rfl ?_
      refine sx_alloc tyZ26 rfl (fun gx => ?_)
      refine sx_nil ⟨HLe.pick [] (by simp) rfl, ?_⟩
      refine tw_g rfl ?_
      first | refine sx_heap ((.own g1 26 [.slice A1 O.length c1] :: (roE A1 (icells O) ++ roE A5 (icells O))) ++ roE A8 (icells (O.drop k ++ O.take k))) (row_end hle8 (.own g1 26 [.slice A1 O.length c1] :: (roE A1 (icells O) ++ roE A5 (icells O))) _ _ _) ?_ | refine sx_heap ((_ :: (.own g1 26 [.slice A1 O.length c1] :: (roE A1 (icells O) ++ roE A5 (icells O)))) ++ roE A8 (icells (O.drop k ++ O.take k))) (row_end hle8 (_ :: (.own g1 26 [.slice A1 O.length c1] :: (roE A1 (icells O) ++ roE A5 (icells O)))) _ _ _) ?_
      refine sx_ofE (O.drop k ++ O.take k) (roE A8 (icells (O.drop k ++ O.take k))) hA8.arg (fun _ => rfl) (Ro.roE _ _) (by repeat (first | exact List.Sublist.refl _ | exact List.nil_sublist _ | exact List.sublist_append_right _ _ | refine List.Sublist.trans ?_ (List.sublist_append_left _ _) | exact List.Sublist.cons_cons _ (List.nil_sublist _) | refine List.Sublist.cons _ ?_)) (by omega) rfl rfl ?_
      rw [hof, hofl]
      intro A9 c9 hA9
      refine sx_nil ⟨HLe.pick [] (by simp) rfl, ?_⟩
      refine tw_p rfl ?_
      refine sv_move rfl rfl ?_
      refine sv_nil ?_
      refine tw_p rfl ?_
      refine sv_extract rfl rfl rfl ?_
      refine sv_nil ?_
      refine tw_p rfl ?_
      refine sv_extract rfl rfl rfl ?_
      refine sv_nil ?_
      refine tw_g rfl ?_
      first | refine sx_store 0 rfl rfl rfl tyS26 (by first | (simp only [Value.cells]; first | done | rfl) | rfl) rfl rfl (by first | (simp only [List.length_cons, List.length_nil, Nat.reduceAdd, Nat.zero_add, Nat.add_zero]; first | done | rfl) | rfl) (by first | (simp only [List.take_succ_cons, List.take_zero, List.drop_succ_cons, List.drop_zero, List.cons_append, List.nil_append, List.append_nil, List.length_cons, List.length_nil, Nat.reduceAdd, Nat.zero_add, Nat.add_zero, Value.cells, wrV]; first | done | rfl) | rfl) (by first | (simp only [List.set_cons_succ, List.set_cons_zero]; first | done | rfl) | rfl) ?_ | refine sx_store 1 rfl rfl rfl tyS26 (by first | (simp only [Value.cells]; first | done | rfl) | rfl) rfl rfl (by first | (simp only [List.length_cons, List.length_nil, Nat.reduceAdd, Nat.zero_add, Nat.add_zero]; first | done | rfl) | rfl) (by first | (simp only [List.take_succ_cons, List.take_zero, List.drop_succ_cons, List.drop_zero, List.cons_append, List.nil_append, List.append_nil, List.length_cons, List.length_nil, Nat.reduceAdd, Nat.zero_add, Nat.add_zero, Value.cells, wrV]; first | done | rfl) | rfl) (by first | (simp only [List.set_cons_succ, List.set_cons_zero]; first | done | rfl) | rfl) ?_ | refine sx_store 2 rfl rfl rfl tyS26 (by first | (simp only [Value.cells]; first | done | rfl) | rfl) rfl rfl (by first | (simp only [List.length_cons, List.length_nil, Nat.reduceAdd, Nat.zero_add, Nat.add_zero]; first | done | rfl) | rfl) (by first | (simp only [List.take_succ_cons, List.take_zero, List.drop_succ_cons, List.drop_zero, List.cons_append, List.nil_append, List.append_nil, List.length_cons, List.length_nil, Nat.reduceAdd, Nat.zero_add, Nat.add_zero, Value.cells, wrV]; first | done | rfl) | rfl) (by first | (simp only [List.set_cons_succ, List.set_cons_zero]; first | done | rfl) | rfl) ?_
      refine sx_nil ⟨HLe.pick [] (by simp) rfl, ?_⟩
      refine tw_p rfl ?_
      refine sv_assign rfl rfl ?_
      refine sv_nil ?_
      refine tw_nil ?_
      exact ⟨(A9, c9, gx), hA9, Kn.cons rfl (Kn.cons rfl (Kn.cons rfl (Kn.cons rfl (Kn.cons rfl Kn.nil)))), HLe.sub (.cons_cons _ (.cons_cons _ (List.Sublist.append_right ((List.sublist_append_left _ _).trans (List.sublist_append_left _ _)) _)))⟩
  rintro ⟨A9, c9, g9⟩ hA9
  simp only at hA9
  refine awp_heap (.own g9 26 [.slice A9 O.length c9] :: .own g1 26 [.slice A1 O.length c1] :: (roE A1 (icells O) ++ roE A9 (icells O))) (HLe.refl _) ?_

  refine awp_seq_meet [(4, .bool true)] [] (fun Z hZ => ?_) ?_
  · refine sx_move rfl rfl ?_
    first | refine sx_len Try.underlying24 rfl rfl ?_ | refine sx_lenS Try.underlying24 rfl rfl ?_
    first | refine sx_loadA 0 rfl rfl tyA26 tyS26 (by first | (simp only [List.length_cons, List.length_nil, Nat.reduceAdd, Nat.zero_add, Nat.add_zero]; first | done | rfl) | rfl) (by first | (simp only [List.take_succ_cons, List.take_zero, List.drop_succ_cons, List.drop_zero, List.cons_append, List.nil_append, List.append_nil, List.length_cons, List.length_nil, Nat.reduceAdd, Nat.zero_add, Nat.add_zero, Value.cells, wrV]; first | done | rfl) | rfl) rfl ?_ | refine sx_loadA 1 rfl rfl tyA26 tyS26 (by first | (simp only [List.length_cons, List.length_nil, Nat.reduceAdd, Nat.zero_add, Nat.add_zero]; first | done | rfl) | rfl) (by first | (simp only [List.take_succ_cons, List.take_zero, List.drop_succ_cons, List.drop_zero, List.cons_append, List.nil_append, List.append_nil, List.length_cons, List.length_nil, Nat.reduceAdd, Nat.zero_add, Nat.add_zero, Value.cells, wrV]; first | done | rfl) | rfl) rfl ?_
    refine sx_callP (len_fn A1 O.length c1) rfl rfl ?_
    first | refine sx_eql rfl rfl rfl ?_ | refine sx_seql rfl rfl rfl ?_
    refine sx_move rfl rfl ?_
    refine sx_force 112 rfl true (by first | rfl | (simp; done)) ?_
    refine sx_on rfl rfl rfl ?_
    refine sx_move rfl rfl ?_
    refine sx_on rfl rfl rfl ?_
    first | refine sx_loadA 0 rfl rfl tyA26 tyS26 (by first | (simp only [List.length_cons, List.length_nil, Nat.reduceAdd, Nat.zero_add, Nat.add_zero]; first | done | rfl) | rfl) (by first | (simp only [List.take_succ_cons, List.take_zero, List.drop_succ_cons, List.drop_zero, List.cons_append, List.nil_append, List.append_nil, List.length_cons, List.length_nil, Nat.reduceAdd, Nat.zero_add, Nat.add_zero, Value.cells, wrV]; first | done | rfl) | rfl) rfl ?_ | refine sx_loadA 1 rfl rfl tyA26 tyS26 (by first | (simp only [List.length_cons, List.length_nil, Nat.reduceAdd, Nat.zero_add, Nat.add_zero]; first | done | rfl) | rfl) (by first | (simp only [List.take_succ_cons, List.take_zero, List.drop_succ_cons, List.drop_zero, List.cons_append, List.nil_append, List.append_nil, List.length_cons, List.length_nil, Nat.reduceAdd, Nat.zero_add, Nat.add_zero, Value.cells, wrV]; first | done | rfl) | rfl) rfl ?_
    refine sx_on rfl rfl rfl ?_
    refine sx_cbytes O hA1 (by repeat (first | exact List.Sublist.refl _ | exact List.nil_sublist _ | exact List.sublist_append_right _ _ | refine List.Sublist.trans ?_ (List.sublist_append_left _ _) | exact List.Sublist.cons_cons _ (List.nil_sublist _) | refine List.Sublist.cons _ ?_)) hok rfl rfl ?_
    refine sx_on rfl rfl rfl ?_
    first | refine sx_eql rfl rfl rfl ?_ | refine sx_seql rfl rfl rfl ?_
    refine sx_pick rfl rfl rfl ?_
    refine sx_move rfl rfl ?_
    refine sx_force 118 rfl true (by first | rfl | (simp; done)) ?_
    refine sx_on rfl rfl rfl ?_
    refine sx_move rfl rfl ?_
    refine sx_on rfl rfl rfl ?_
    first | refine sx_eql rfl rfl rfl ?_ | refine sx_seql rfl rfl rfl ?_
    refine sx_pick rfl rfl rfl ?_
    refine sx_move rfl rfl ?_
    refine sx_force 122 rfl true (by first | rfl | (simp; done)) ?_
    refine sx_on rfl rfl rfl ?_
    first | refine sx_loadA 0 rfl rfl tyA26 tyS26 (by first | (simp only [List.length_cons, List.length_nil, Nat.reduceAdd, Nat.zero_add, Nat.add_zero]; first | done | rfl) | rfl) (by first | (simp only [List.take_succ_cons, List.take_zero, List.drop_succ_cons, List.drop_zero, List.cons_append, List.nil_append, List.append_nil, List.length_cons, List.length_nil, Nat.reduceAdd, Nat.zero_add, Nat.add_zero, Value.cells, wrV]; first | done | rfl) | rfl) rfl ?_ | refine sx_loadA 1 rfl rfl tyA26 tyS26 (by first | (simp only [List.length_cons, List.length_nil, Nat.reduceAdd, Nat.zero_add, Nat.add_zero]; first | done | rfl) | rfl) (by first | (simp only [List.take_succ_cons, List.take_zero, List.drop_succ_cons, List.drop_zero, List.cons_append, List.nil_append, List.append_nil, List.length_cons, List.length_nil, Nat.reduceAdd, Nat.zero_add, Nat.add_zero, Value.cells, wrV]; first | done | rfl) | rfl) rfl ?_
    refine sx_on rfl rfl rfl ?_
    first | refine sx_loadA 0 rfl rfl tyA26 tyS26 (by first | (simp only [List.length_cons, List.length_nil, Nat.reduceAdd, Nat.zero_add, Nat.add_zero]; first | done | rfl) | rfl) (by first | (simp only [List.take_succ_cons, List.take_zero, List.drop_succ_cons, List.drop_zero, List.cons_append, List.nil_append, List.append_nil, List.length_cons, List.length_nil, Nat.reduceAdd, Nat.zero_add, Nat.add_zero, Value.cells, wrV]; first | done | rfl) | rfl) rfl ?_ | refine sx_loadA 1 rfl rfl tyA26 tyS26 (by first | (simp only [List.length_cons, List.length_nil, Nat.reduceAdd, Nat.zero_add, Nat.add_zero]; first | done | rfl) | rfl) (by first | (simp only [List.take_succ_cons, List.take_zero, List.drop_succ_cons, List.drop_zero, List.cons_append, List.nil_append, List.append_nil, List.length_cons, List.length_nil, Nat.reduceAdd, Nat.zero_add, Nat.add_zero, Value.cells, wrV]; first | done | rfl) | rfl) rfl ?_
    refine sx_on rfl rfl rfl ?_
    refine sx_csame O O hA1 hA9 (by repeat (first | exact List.Sublist.refl _ | exact List.nil_sublist _ | exact List.sublist_append_right _ _ | refine List.Sublist.trans ?_ (List.sublist_append_left _ _) | exact List.Sublist.cons_cons _ (List.nil_sublist _) | refine List.Sublist.cons _ ?_)) (by repeat (first | exact List.Sublist.refl _ | exact List.nil_sublist _ | exact List.sublist_append_right _ _ | refine List.Sublist.trans ?_ (List.sublist_append_left _ _) | exact List.Sublist.cons_cons _ (List.nil_sublist _) | refine List.Sublist.cons _ ?_)) m1 m1 rfl rfl ?_
    rw [show sameI O O = true from sameI_iff.2 rfl]
    refine sx_pick rfl rfl rfl ?_
    refine sx_move rfl rfl ?_
    refine sx_force 127 rfl true (by first | rfl | (simp; done)) ?_
    refine sx_on rfl rfl rfl ?_
    refine sx_callP cawake_fn rfl rfl ?_
    refine sx_pick rfl rfl rfl ?_
    refine sx_assign rfl rfl ?_
    refine sx_nil (hZ _ _ ?_ ?_)
    · exact Kn.cons rfl Kn.nil
    · exact HLe.sub (List.nil_sublist _)
  refine awp_ret ?_
  repeat (with_reducible (first | refine nx_then_ret ?_ | refine nx_block_ret ?_ | refine nx_scope_ret ?_))
  exact nx_ret1 rfl rfl rfl
theorem ChartOrder_read {H : Type} {enc : TypeId × Value → H} (w : World) {base : Nat} {v0 v1 : Value} {d0 d1 : DataW H} {p0 p1 : List MemPlace}
    (k0 : Value.okWide Try.prog w .any base 27 v0) (h0 : DataW.Trod enc Try.prog w 0 (fun _ => true) true 27 v0 d0 p0)
    (k1 : Value.okWide Try.prog w .any base 5 v1) (h1 : DataW.Trod enc Try.prog w 0 (fun _ => true) true 5 v1 d1 p1) :
    Calls Try.prog 5 #[v0, v1] w fun e w' => e = .returned (.bool true) ∧ Bel w w' := by
  obtain ⟨A, c, L, T, rfl, hA, hL, hE, hT, hro, hS, hc⟩ := open_its k0 h0
  obtain ⟨b, rfl, _, _, hb⟩ := ChangeShapes.open_int Try.underlying5 k1 h1
  obtain ⟨hb0, hb1⟩ := wf_u8 hb
  obtain ⟨n, rfl⟩ : ∃ n : Nat, b = n := ⟨b.toNat, by omega⟩
  exact tail_bel hro hS (order_fn A c L T hA hT hro hL hE n (by omega))
namespace chartOrder
open Go.ChangeShapes Go.WideShapes Go.ChangeAt Go.RowKit
theorem own : ownKnob Try.prog.godebug = none := by kernel_rfl
theorem laidOut : laidOutB Try.prog = true := by kernel_rfl
set_option maxRecDepth 100000 in
theorem lifted (os : Os) (started : os.Started) (H : Type) (enc : TypeId × Value → H) :
    ReturnsInHanded {} Try.checked os 5 .any (Rows.chartOrderSpec.pre6 enc Try.prog Try.f5 Rows.chartOrderRow.domain false) (Rows.chartOrderSpec.post enc Try.prog Try.f5 false true false false) := by
  refine returnsInHanded_of_change (C := Try.checked) own started (by kernel_rfl) Try.func5
    (ChangeSpec.witness6 (enc := enc) (C := Try.checked) false ⟨#[], #[.slice none 0 0, .int .u8 0], []⟩ 8 (by kernel_rfl) (by kernel_rfl) (by kernel_rfl) (by kernel_rfl)) ?_
  intro W base args ds gs before hval0 hW hcnd _
  have hval : ∀ (j : Nat) t v, Try.f5.params[j]? = some t → args[j]? = some v → Value.okWide Try.prog W .any base t v := hval0
  have hW' := hW
  obtain ⟨p, q, hA0, hV, rfl, hfz, hnd⟩ := hW
  have hA : DataW.TrodAll enc Try.prog W 0 (fun _ => true) true Try.f5.params.toList args.toList ds p := hA0
  rw [Try.params5] at hA hval
  obtain ⟨v0, vs0, d0, ds0, p0, q0, hargs, rfl, rfl, h0, r0⟩ := trodAll_cons hA
  obtain ⟨v1, vs1, d1, ds1, p1, q1, rfl, rfl, rfl, h1, r1⟩ := trodAll_cons r0
  obtain ⟨rfl, rfl, rfl⟩ := trodAll_nil r1
  obtain rfl : args = #[v0, v1] := by cases args; simp_all
  obtain ⟨rfl, rfl⟩ := trodVars_none hV
  have lt0 : ∀ x ∈ p0, x.block < W.heap.size := by obtain ⟨m, hm⟩ := h0; exact DataW.trod_lt m _ _ _ hm
  have lt1 : ∀ x ∈ p1, x.block < W.heap.size := by obtain ⟨m, hm⟩ := h1; exact DataW.trod_lt m _ _ _ hm
  refine (ChartOrder_read W (hval 0 27 v0 rfl rfl) h0 (hval 1 5 v1 rfl rfl) h1).mono fun e W' ⟨he, bel0⟩ => ?_
  have bel : Below W.heap.size W W' := bel0
  subst he
  exact ⟨_, rfl, _, _, _, [], _, [], hW', trodAll_mk1 (shut_bool Try.underlying4 _), (trodAll_cons_mk (Below.trod laidOut (by kernel_rfl) (of_decide_eq_true (by kernel_rfl)) h0 bel lt0) (trodAll_cons_mk (Below.trod laidOut (by kernel_rfl) (of_decide_eq_true (by kernel_rfl)) h1 bel lt1) trodAll_mk0)), rfl, bel.frame _, fun h => by cases h⟩
theorem over : Rows.chartOrderRow.holds Try.pinned (OpenSpec.ofChange Rows.chartOrderSpec) :=
  OpenClaim.holds_of_wide 5 Try.f5 rfl rfl rfl rfl rfl rfl rfl ⟨rfl, rfl, rfl, rfl, rfl⟩ rfl rfl rfl rfl rfl (by kernel_rfl) Try.func5 (by kernel_rfl)
    (of_decide_eq_true (by kernel_rfl)) (by unfold Func.isWrapper; first | (rw [if_pos (by decide +kernel)]; kernel_rfl) | (rw [if_neg (by decide +kernel)]; exact ⟨rfl, rfl⟩))
    (fun os started H enc _ => lifted os started H enc)
theorem proved : Rows.ChartOrderSaid := over
#print axioms proved
end chartOrder
end Go.Proofs.Ytllclbbjfnipoaa
