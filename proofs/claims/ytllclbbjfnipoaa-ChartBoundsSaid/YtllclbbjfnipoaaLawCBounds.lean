/- ChartBounds. No conditions. -/
import Derived.Test.YtllclbbjfnipoaaCh17
import Derived.Test.YtllclbbjfnipoaaLayRep
import Derived.Test.YtllclbbjfnipoaaSxO
namespace Go.Proofs.Ytllclbbjfnipoaa
open Go.RowKit
set_option linter.unusedVariables false
set_option linter.unusedSimpArgs false
set_option maxRecDepth 100000
theorem bounds_fn (id by_ : Nat) (hid : id < 18446744073709551616) (hby : by_ < 65536) :
    Fn Try.prog 7 [uq id, .int .u16 (by_ : Nat)] [] fun v _ => v = .bool true := by
  have hr1 := rep_fn [120] 65536 (by simp) (by omega)
  have hr2 := rep_fn [120] 65537 (by simp) (by omega)
  obtain ⟨s1, hs1⟩ : ∃ s, Lib.repeatL [(120 : UInt8)] 65536 = s := ⟨_, rfl⟩
  obtain ⟨s2, hs2⟩ : ∃ s, Lib.repeatL [(120 : UInt8)] 65537 = s := ⟨_, rfl⟩
  have hl1 : s1.length = 65536 := by rw [← hs1, Lib.repeatL_length]; simp
  have hl2 : s2.length = 65537 := by rw [← hs2, Lib.repeatL_length]; simp
  rw [hs1] at hr1
  rw [hs2] at hr2
  obtain ⟨p1, p2⟩ := one_put (id % 2048) (Nat.mod_lt _ (by decide)) s1 hl1
  have q1 := one_long 0 (by decide) s2 hl2
  have hokM := ChOk.nil.putQ (id % 2048) s1
  obtain ⟨M, hM⟩ : ∃ M, putQ (id % 2048) s1 [] = M := ⟨_, rfl⟩
  rw [hM] at p2 hokM
  have hN0 : SlIn none ([] : List It).length 0 := ⟨.inl ⟨rfl, rfl⟩, Nat.le_refl _, fun _ => rfl⟩
  refine Fn.enter (N := 99) Try.func7 rfl (by kernel_rfl) rfl (fun w0 => ?_)

  refine awp_seq_region (fun Z hZ => ?_)
  refine sx_assign rfl rfl ?_
  refine sx_nil (hZ _ _ ?_)
  refine awp_forget [(0, _), (1, _)] (Kn.cons rfl (Kn.cons rfl (Kn.nil))) ?_
  refine awp_seq_region (fun Z hZ => ?_)
  refine sx_alloc tyZ26 rfl (fun g1 => ?_)
  refine sx_nil (hZ _ _ ?_)
  refine awp_forget [(0, _), (1, _), (5, _)] (Kn.cons rfl (Kn.cons rfl (Kn.cons rfl (Kn.nil)))) ?_
  refine awr_seq_region (fun j : Option Addr × Nat × Nat => [(1, .int .u16 (by_ : Nat)), (5, ptr g1 0), (6, ptr j.2.2 0), (7, .int .i64 (0 : Int))]) (fun j => .own j.2.2 26 [.slice j.1 M.length j.2.1] :: ([.own g1 26 [.slice none 0 0]] ++ roE j.1 (icells M))) (fun j => SlIn j.1 M.length j.2.1) _ [3, 4, 8, 9] (Tr.step (0, true) (Tr.step (1, true) (Tr.step (2, true) (Tr.fork (Tr.step (3, false) (Tr.fork (Tr.step (4, false) (Tr.step (5, true) (Tr.step (6, true) (Tr.step (7, true) (Tr.step (8, false) (Tr.step (9, false) (Tr.step (10, true) Tr.nil))))))) (Tr.step (8, false) (Tr.step (4, false) (Tr.step (5, true) (Tr.step (6, true) (Tr.step (7, true) (Tr.step (9, false) (Tr.step (10, true) Tr.nil))))))))) (Tr.step (8, false) (Tr.step (3, false) (Tr.step (4, false) (Tr.step (5, true) (Tr.step (6, true) (Tr.step (7, true) (Tr.step (9, false) (Tr.step (10, true) Tr.nil)))))))))))) mixed (by kernel_rfl) (HLe.pick [0] (by simp) (by simp only [pick, List.filterMap_cons, List.filterMap_nil, List.getElem?_cons_succ, List.getElem?_cons_zero]; rfl)) ?_ ?_
  · refine tt_p rfl ?_
    first | refine sv_loadA 0 rfl rfl tyA26 tyS26 (by first | (simp only [List.length_cons, List.length_nil, Nat.reduceAdd, Nat.zero_add, Nat.add_zero]; first | done | rfl) | rfl) (by first | (simp only [List.take_succ_cons, List.take_zero, List.drop_succ_cons, List.drop_zero, List.cons_append, List.nil_append, List.append_nil, List.length_cons, List.length_nil, Nat.reduceAdd, Nat.zero_add, Nat.add_zero, Value.cells, wrV]; first | done | rfl) | rfl) rfl ?_
    refine sv_nil ?_
    refine tt_p rfl ?_
    refine sv_move rfl rfl ?_
    refine sv_nil ?_
    refine tt_p rfl ?_
    refine sv_rem rfl rfl (by decide) ((id % 2048 : Nat) : Int) (by rw [Int.tmod_eq_emod_of_nonneg (by omega)]; omega) rfl ?_
    refine sv_nil ?_
    refine tt_fork ?_ ?_
    · refine tt_g rfl ?_
      refine sx_callP hr1 rfl rfl ?_
      refine sx_nil ⟨HLe.pick [0] (by simp) rfl, ?_⟩
      refine tt_fork ?_ ?_
      · refine tt_g rfl ?_
        refine sx_putE [] (id % 2048) s1 hN0 (by repeat (first | exact List.Sublist.refl _ | exact List.nil_sublist _ | exact List.sublist_append_right _ _ | refine List.Sublist.trans ?_ (List.sublist_append_left _ _) | exact List.Sublist.cons_cons _ (List.nil_sublist _) | refine List.Sublist.cons _ ?_)) ChOk.nil rfl rfl (fun A3 c3 hA3 => ?_)
        rw [p1, hM]
        rw [hM] at hA3
        refine sx_nil ⟨HLe.pick [0] (by simp) rfl, ?_⟩
        refine tt_p rfl ?_
        refine sv_move rfl rfl ?_
        refine sv_nil ?_
        refine tt_p rfl ?_
        refine sv_extract rfl rfl rfl ?_
        refine sv_nil ?_
        refine tt_p rfl ?_
        refine sv_extract rfl rfl rfl ?_
        refine sv_nil ?_
        refine tt_g rfl ?_
        refine sx_alloc tyZ26 rfl (fun g2 => ?_)
        refine sx_nil ⟨HLe.pick [1] (by simp) rfl, ?_⟩
        refine tt_g rfl ?_
        first | refine sx_store 0 rfl rfl rfl tyS26 (by first | (simp only [Value.cells]; first | done | rfl) | rfl) rfl rfl (by first | (simp only [List.length_cons, List.length_nil, Nat.reduceAdd, Nat.zero_add, Nat.add_zero]; first | done | rfl) | rfl) (by first | (simp only [List.take_succ_cons, List.take_zero, List.drop_succ_cons, List.drop_zero, List.cons_append, List.nil_append, List.append_nil, List.length_cons, List.length_nil, Nat.reduceAdd, Nat.zero_add, Nat.add_zero, Value.cells, wrV]; first | done | rfl) | rfl) (by first | (simp only [List.set_cons_succ, List.set_cons_zero]; first | done | rfl) | rfl) ?_ | refine sx_store 1 rfl rfl rfl tyS26 (by first | (simp only [Value.cells]; first | done | rfl) | rfl) rfl rfl (by first | (simp only [List.length_cons, List.length_nil, Nat.reduceAdd, Nat.zero_add, Nat.add_zero]; first | done | rfl) | rfl) (by first | (simp only [List.take_succ_cons, List.take_zero, List.drop_succ_cons, List.drop_zero, List.cons_append, List.nil_append, List.append_nil, List.length_cons, List.length_nil, Nat.reduceAdd, Nat.zero_add, Nat.add_zero, Value.cells, wrV]; first | done | rfl) | rfl) (by first | (simp only [List.set_cons_succ, List.set_cons_zero]; first | done | rfl) | rfl) ?_
        refine sx_nil ⟨HLe.pick [1] (by simp) rfl, ?_⟩
        refine tt_p rfl ?_
        refine sv_assign rfl rfl ?_
        refine sv_nil ?_
        refine tt_nil ?_
        exact ⟨(A3, c3, g2), hA3, Kn.cons rfl (Kn.cons rfl (Kn.cons rfl (Kn.cons rfl Kn.nil))), HLe.refl _⟩
      · refine tt_g rfl ?_
        refine sx_alloc tyZ26 rfl (fun g2 => ?_)
        refine sx_nil ⟨HLe.pick [1] (by simp) rfl, ?_⟩
        refine tt_g rfl ?_
        refine sx_putE [] (id % 2048) s1 hN0 (by repeat (first | exact List.Sublist.refl _ | exact List.nil_sublist _ | exact List.sublist_append_right _ _ | refine List.Sublist.trans ?_ (List.sublist_append_left _ _) | exact List.Sublist.cons_cons _ (List.nil_sublist _) | refine List.Sublist.cons _ ?_)) ChOk.nil rfl rfl (fun A3 c3 hA3 => ?_)
        rw [p1, hM]
        rw [hM] at hA3
        refine sx_nil ⟨HLe.pick [1] (by simp) rfl, ?_⟩
        refine tt_p rfl ?_
        refine sv_move rfl rfl ?_
        refine sv_nil ?_
        refine tt_p rfl ?_
        refine sv_extract rfl rfl rfl ?_
        refine sv_nil ?_
        refine tt_p rfl ?_
        refine sv_extract rfl rfl rfl ?_
        refine sv_nil ?_
        refine tt_g rfl ?_
        first | refine sx_store 0 rfl rfl rfl tyS26 (by first | (simp only [Value.cells]; first | done | rfl) | rfl) rfl rfl (by first | (simp only [List.length_cons, List.length_nil, Nat.reduceAdd, Nat.zero_add, Nat.add_zero]; first | done | rfl) | rfl) (by first | (simp only [List.take_succ_cons, List.take_zero, List.drop_succ_cons, List.drop_zero, List.cons_append, List.nil_append, List.append_nil, List.length_cons, List.length_nil, Nat.reduceAdd, Nat.zero_add, Nat.add_zero, Value.cells, wrV]; first | done | rfl) | rfl) (by first | (simp only [List.set_cons_succ, List.set_cons_zero]; first | done | rfl) | rfl) ?_ | refine sx_store 1 rfl rfl rfl tyS26 (by first | (simp only [Value.cells]; first | done | rfl) | rfl) rfl rfl (by first | (simp only [List.length_cons, List.length_nil, Nat.reduceAdd, Nat.zero_add, Nat.add_zero]; first | done | rfl) | rfl) (by first | (simp only [List.take_succ_cons, List.take_zero, List.drop_succ_cons, List.drop_zero, List.cons_append, List.nil_append, List.append_nil, List.length_cons, List.length_nil, Nat.reduceAdd, Nat.zero_add, Nat.add_zero, Value.cells, wrV]; first | done | rfl) | rfl) (by first | (simp only [List.set_cons_succ, List.set_cons_zero]; first | done | rfl) | rfl) ?_
        refine sx_nil ⟨HLe.pick [1] (by simp) rfl, ?_⟩
        refine tt_p rfl ?_
        refine sv_assign rfl rfl ?_
        refine sv_nil ?_
        refine tt_nil ?_
        exact ⟨(A3, c3, g2), hA3, Kn.cons rfl (Kn.cons rfl (Kn.cons rfl (Kn.cons rfl Kn.nil))), HLe.refl _⟩
    · refine tt_g rfl ?_
      refine sx_alloc tyZ26 rfl (fun g2 => ?_)
      refine sx_nil ⟨HLe.pick [1] (by simp) rfl, ?_⟩
      refine tt_g rfl ?_
      refine sx_callP hr1 rfl rfl ?_
      refine sx_nil ⟨HLe.pick [1] (by simp) rfl, ?_⟩
      refine tt_g rfl ?_
      refine sx_putE [] (id % 2048) s1 hN0 (by repeat (first | exact List.Sublist.refl _ | exact List.nil_sublist _ | exact List.sublist_append_right _ _ | refine List.Sublist.trans ?_ (List.sublist_append_left _ _) | exact List.Sublist.cons_cons _ (List.nil_sublist _) | refine List.Sublist.cons _ ?_)) ChOk.nil rfl rfl (fun A3 c3 hA3 => ?_)
      rw [p1, hM]
      rw [hM] at hA3
      refine sx_nil ⟨HLe.pick [1] (by simp) rfl, ?_⟩
      refine tt_p rfl ?_
      refine sv_move rfl rfl ?_
      refine sv_nil ?_
      refine tt_p rfl ?_
      refine sv_extract rfl rfl rfl ?_
      refine sv_nil ?_
      refine tt_p rfl ?_
      refine sv_extract rfl rfl rfl ?_
      refine sv_nil ?_
      refine tt_g rfl ?_
      first | refine sx_store 0 rfl rfl rfl tyS26 (by first | (simp only [Value.cells]; first | done | rfl) | rfl) rfl rfl (by first | (simp only [List.length_cons, List.length_nil, Nat.reduceAdd, Nat.zero_add, Nat.add_zero]; first | done | rfl) | rfl) (by first | (simp only [List.take_succ_cons, List.take_zero, List.drop_succ_cons, List.drop_zero, List.cons_append, List.nil_append, List.append_nil, List.length_cons, List.length_nil, Nat.reduceAdd, Nat.zero_add, Nat.add_zero, Value.cells, wrV]; first | done | rfl) | rfl) (by first | (simp only [List.set_cons_succ, List.set_cons_zero]; first | done | rfl) | rfl) ?_ | refine sx_store 1 rfl rfl rfl tyS26 (by first | (simp only [Value.cells]; first | done | rfl) | rfl) rfl rfl (by first | (simp only [List.length_cons, List.length_nil, Nat.reduceAdd, Nat.zero_add, Nat.add_zero]; first | done | rfl) | rfl) (by first | (simp only [List.take_succ_cons, List.take_zero, List.drop_succ_cons, List.drop_zero, List.cons_append, List.nil_append, List.append_nil, List.length_cons, List.length_nil, Nat.reduceAdd, Nat.zero_add, Nat.add_zero, Value.cells, wrV]; first | done | rfl) | rfl) (by first | (simp only [List.set_cons_succ, List.set_cons_zero]; first | done | rfl) | rfl) ?_
      refine sx_nil ⟨HLe.pick [1] (by simp) rfl, ?_⟩
      refine tt_p rfl ?_
      refine sv_assign rfl rfl ?_
      refine sv_nil ?_
      refine tt_nil ?_
      exact ⟨(A3, c3, g2), hA3, Kn.cons rfl (Kn.cons rfl (Kn.cons rfl (Kn.cons rfl Kn.nil))), HLe.refl _⟩
  rintro ⟨A3, c3, g9⟩ hA3
  simp only at hA3
  have hlM := hokM.len
  refine awp_heap (.own g1 26 [.slice none 0 0] :: .own g9 26 [.slice A3 M.length c3] :: roE A3 (icells M)) (HLe.comm3 [_] [_] _) ?_

  refine awr_seq_region (fun j : Unit => [(1, .int .u16 (by_ : Nat)), (6, ptr g9 0), (7, .int .i64 (0 : Int)), (9, .int .i64 (5 : Int))]) (fun j => .own g9 26 [.slice A3 M.length c3] :: roE A3 (icells M)) (fun j => True) _ [1, 2, 6, 7] (Tr.step (0, true) (Tr.fork (Tr.step (1, false) (Tr.fork (Tr.step (2, false) (Tr.step (3, true) (Tr.step (4, true) (Tr.step (5, true) (Tr.step (6, false) (Tr.step (7, false) (Tr.step (8, true) Tr.nil))))))) (Tr.step (6, false) (Tr.step (2, false) (Tr.step (3, true) (Tr.step (4, true) (Tr.step (5, true) (Tr.step (7, false) (Tr.step (8, true) Tr.nil))))))))) (Tr.step (6, false) (Tr.step (1, false) (Tr.step (2, false) (Tr.step (3, true) (Tr.step (4, true) (Tr.step (5, true) (Tr.step (7, false) (Tr.step (8, true) Tr.nil)))))))))) mixed (by kernel_rfl) (HLe.pick [0] (by simp) (by simp only [pick, List.filterMap_cons, List.filterMap_nil, List.getElem?_cons_succ, List.getElem?_cons_zero]; rfl)) ?_ ?_
  · refine tt_p rfl ?_
    first | refine sv_loadA 0 rfl rfl tyA26 tyS26 (by first | (simp only [List.length_cons, List.length_nil, Nat.reduceAdd, Nat.zero_add, Nat.add_zero]; first | done | rfl) | rfl) (by first | (simp only [List.take_succ_cons, List.take_zero, List.drop_succ_cons, List.drop_zero, List.cons_append, List.nil_append, List.append_nil, List.length_cons, List.length_nil, Nat.reduceAdd, Nat.zero_add, Nat.add_zero, Value.cells, wrV]; first | done | rfl) | rfl) rfl ?_
    refine sv_nil ?_
    refine tt_fork ?_ ?_
    · refine tt_g rfl ?_
      refine sx_callP hr2 rfl rfl ?_
      refine sx_nil ⟨HLe.pick [0] (by simp) rfl, ?_⟩
      refine tt_fork ?_ ?_
      · refine tt_g rfl ?_
        refine sx_putE [] 0 s2 hN0 (by repeat (first | exact List.Sublist.refl _ | exact List.nil_sublist _ | exact List.sublist_append_right _ _ | refine List.Sublist.trans ?_ (List.sublist_append_left _ _) | exact List.Sublist.cons_cons _ (List.nil_sublist _) | refine List.Sublist.cons _ ?_)) ChOk.nil rfl rfl (fun A4 c4 hA4 => ?_)
        rw [q1]
        refine sx_nil ⟨HLe.pick [0] (by simp) rfl, ?_⟩
        refine tt_p rfl ?_
        refine sv_move rfl rfl ?_
        refine sv_nil ?_
        refine tt_p rfl ?_
        refine sv_extract rfl rfl rfl ?_
        refine sv_nil ?_
        refine tt_p rfl ?_
        refine sv_extract rfl rfl rfl ?_
        refine sv_nil ?_
        refine tt_g rfl ?_
        refine sx_alloc tyZ26 rfl (fun g3 => ?_)
        refine sx_nil ⟨HLe.pick [1] (by simp) rfl, ?_⟩
        refine tt_g rfl ?_
        first | refine sx_store 0 rfl rfl rfl tyS26 (by first | (simp only [Value.cells]; first | done | rfl) | rfl) rfl rfl (by first | (simp only [List.length_cons, List.length_nil, Nat.reduceAdd, Nat.zero_add, Nat.add_zero]; first | done | rfl) | rfl) (by first | (simp only [List.take_succ_cons, List.take_zero, List.drop_succ_cons, List.drop_zero, List.cons_append, List.nil_append, List.append_nil, List.length_cons, List.length_nil, Nat.reduceAdd, Nat.zero_add, Nat.add_zero, Value.cells, wrV]; first | done | rfl) | rfl) (by first | (simp only [List.set_cons_succ, List.set_cons_zero]; first | done | rfl) | rfl) ?_ | refine sx_store 1 rfl rfl rfl tyS26 (by first | (simp only [Value.cells]; first | done | rfl) | rfl) rfl rfl (by first | (simp only [List.length_cons, List.length_nil, Nat.reduceAdd, Nat.zero_add, Nat.add_zero]; first | done | rfl) | rfl) (by first | (simp only [List.take_succ_cons, List.take_zero, List.drop_succ_cons, List.drop_zero, List.cons_append, List.nil_append, List.append_nil, List.length_cons, List.length_nil, Nat.reduceAdd, Nat.zero_add, Nat.add_zero, Value.cells, wrV]; first | done | rfl) | rfl) (by first | (simp only [List.set_cons_succ, List.set_cons_zero]; first | done | rfl) | rfl) ?_ | refine sx_store 2 rfl rfl rfl tyS26 (by first | (simp only [Value.cells]; first | done | rfl) | rfl) rfl rfl (by first | (simp only [List.length_cons, List.length_nil, Nat.reduceAdd, Nat.zero_add, Nat.add_zero]; first | done | rfl) | rfl) (by first | (simp only [List.take_succ_cons, List.take_zero, List.drop_succ_cons, List.drop_zero, List.cons_append, List.nil_append, List.append_nil, List.length_cons, List.length_nil, Nat.reduceAdd, Nat.zero_add, Nat.add_zero, Value.cells, wrV]; first | done | rfl) | rfl) (by first | (simp only [List.set_cons_succ, List.set_cons_zero]; first | done | rfl) | rfl) ?_
        refine sx_nil ⟨HLe.pick [1] (by simp) rfl, ?_⟩
        refine tt_p rfl ?_
        refine sv_assign rfl rfl ?_
        refine sv_nil ?_
        refine tt_nil ?_
        exact ⟨(), trivial, Kn.cons rfl (Kn.cons rfl (Kn.cons rfl (Kn.cons rfl Kn.nil))), HLe.sub (.cons _ (.cons _ (.cons_cons _ (List.sublist_append_left _ _))))⟩
      · refine tt_g rfl ?_
        refine sx_alloc tyZ26 rfl (fun g3 => ?_)
        refine sx_nil ⟨HLe.pick [1] (by simp) rfl, ?_⟩
        refine tt_g rfl ?_
        refine sx_putE [] 0 s2 hN0 (by repeat (first | exact List.Sublist.refl _ | exact List.nil_sublist _ | exact List.sublist_append_right _ _ | refine List.Sublist.trans ?_ (List.sublist_append_left _ _) | exact List.Sublist.cons_cons _ (List.nil_sublist _) | refine List.Sublist.cons _ ?_)) ChOk.nil rfl rfl (fun A4 c4 hA4 => ?_)
        rw [q1]
        refine sx_nil ⟨HLe.pick [1] (by simp) rfl, ?_⟩
        refine tt_p rfl ?_
        refine sv_move rfl rfl ?_
        refine sv_nil ?_
        refine tt_p rfl ?_
        refine sv_extract rfl rfl rfl ?_
        refine sv_nil ?_
        refine tt_p rfl ?_
        refine sv_extract rfl rfl rfl ?_
        refine sv_nil ?_
        refine tt_g rfl ?_
        first | refine sx_store 0 rfl rfl rfl tyS26 (by first | (simp only [Value.cells]; first | done | rfl) | rfl) rfl rfl (by first | (simp only [List.length_cons, List.length_nil, Nat.reduceAdd, Nat.zero_add, Nat.add_zero]; first | done | rfl) | rfl) (by first | (simp only [List.take_succ_cons, List.take_zero, List.drop_succ_cons, List.drop_zero, List.cons_append, List.nil_append, List.append_nil, List.length_cons, List.length_nil, Nat.reduceAdd, Nat.zero_add, Nat.add_zero, Value.cells, wrV]; first | done | rfl) | rfl) (by first | (simp only [List.set_cons_succ, List.set_cons_zero]; first | done | rfl) | rfl) ?_ | refine sx_store 1 rfl rfl rfl tyS26 (by first | (simp only [Value.cells]; first | done | rfl) | rfl) rfl rfl (by first | (simp only [List.length_cons, List.length_nil, Nat.reduceAdd, Nat.zero_add, Nat.add_zero]; first | done | rfl) | rfl) (by first | (simp only [List.take_succ_cons, List.take_zero, List.drop_succ_cons, List.drop_zero, List.cons_append, List.nil_append, List.append_nil, List.length_cons, List.length_nil, Nat.reduceAdd, Nat.zero_add, Nat.add_zero, Value.cells, wrV]; first | done | rfl) | rfl) (by first | (simp only [List.set_cons_succ, List.set_cons_zero]; first | done | rfl) | rfl) ?_ | refine sx_store 2 rfl rfl rfl tyS26 (by first | (simp only [Value.cells]; first | done | rfl) | rfl) rfl rfl (by first | (simp only [List.length_cons, List.length_nil, Nat.reduceAdd, Nat.zero_add, Nat.add_zero]; first | done | rfl) | rfl) (by first | (simp only [List.take_succ_cons, List.take_zero, List.drop_succ_cons, List.drop_zero, List.cons_append, List.nil_append, List.append_nil, List.length_cons, List.length_nil, Nat.reduceAdd, Nat.zero_add, Nat.add_zero, Value.cells, wrV]; first | done | rfl) | rfl) (by first | (simp only [List.set_cons_succ, List.set_cons_zero]; first | done | rfl) | rfl) ?_
        refine sx_nil ⟨HLe.pick [1] (by simp) rfl, ?_⟩
        refine tt_p rfl ?_
        refine sv_assign rfl rfl ?_
        refine sv_nil ?_
        refine tt_nil ?_
        exact ⟨(), trivial, Kn.cons rfl (Kn.cons rfl (Kn.cons rfl (Kn.cons rfl Kn.nil))), HLe.sub (.cons _ (.cons _ (.cons_cons _ (List.sublist_append_left _ _))))⟩
    · refine tt_g rfl ?_
      refine sx_alloc tyZ26 rfl (fun g3 => ?_)
      refine sx_nil ⟨HLe.pick [1] (by simp) rfl, ?_⟩
      refine tt_g rfl ?_
      refine sx_callP hr2 rfl rfl ?_
      refine sx_nil ⟨HLe.pick [1] (by simp) rfl, ?_⟩
      refine tt_g rfl ?_
      refine sx_putE [] 0 s2 hN0 (by repeat (first | exact List.Sublist.refl _ | exact List.nil_sublist _ | exact List.sublist_append_right _ _ | refine List.Sublist.trans ?_ (List.sublist_append_left _ _) | exact List.Sublist.cons_cons _ (List.nil_sublist _) | refine List.Sublist.cons _ ?_)) ChOk.nil rfl rfl (fun A4 c4 hA4 => ?_)
      rw [q1]
      refine sx_nil ⟨HLe.pick [1] (by simp) rfl, ?_⟩
      refine tt_p rfl ?_
      refine sv_move rfl rfl ?_
      refine sv_nil ?_
      refine tt_p rfl ?_
      refine sv_extract rfl rfl rfl ?_
      refine sv_nil ?_
      refine tt_p rfl ?_
      refine sv_extract rfl rfl rfl ?_
      refine sv_nil ?_
      refine tt_g rfl ?_
      first | refine sx_store 0 rfl rfl rfl tyS26 (by first | (simp only [Value.cells]; first | done | rfl) | rfl) rfl rfl (by first | (simp only [List.length_cons, List.length_nil, Nat.reduceAdd, Nat.zero_add, Nat.add_zero]; first | done | rfl) | rfl) (by first | (simp only [List.take_succ_cons, List.take_zero, List.drop_succ_cons, List.drop_zero, List.cons_append, List.nil_append, List.append_nil, List.length_cons, List.length_nil, Nat.reduceAdd, Nat.zero_add, Nat.add_zero, Value.cells, wrV]; first | done | rfl) | rfl) (by first | (simp only [List.set_cons_succ, List.set_cons_zero]; first | done | rfl) | rfl) ?_ | refine sx_store 1 rfl rfl rfl tyS26 (by first | (simp only [Value.cells]; first | done | rfl) | rfl) rfl rfl (by first | (simp only [List.length_cons, List.length_nil, Nat.reduceAdd, Nat.zero_add, Nat.add_zero]; first | done | rfl) | rfl) (by first | (simp only [List.take_succ_cons, List.take_zero, List.drop_succ_cons, List.drop_zero, List.cons_append, List.nil_append, List.append_nil, List.length_cons, List.length_nil, Nat.reduceAdd, Nat.zero_add, Nat.add_zero, Value.cells, wrV]; first | done | rfl) | rfl) (by first | (simp only [List.set_cons_succ, List.set_cons_zero]; first | done | rfl) | rfl) ?_ | refine sx_store 2 rfl rfl rfl tyS26 (by first | (simp only [Value.cells]; first | done | rfl) | rfl) rfl rfl (by first | (simp only [List.length_cons, List.length_nil, Nat.reduceAdd, Nat.zero_add, Nat.add_zero]; first | done | rfl) | rfl) (by first | (simp only [List.take_succ_cons, List.take_zero, List.drop_succ_cons, List.drop_zero, List.cons_append, List.nil_append, List.append_nil, List.length_cons, List.length_nil, Nat.reduceAdd, Nat.zero_add, Nat.add_zero, Value.cells, wrV]; first | done | rfl) | rfl) (by first | (simp only [List.set_cons_succ, List.set_cons_zero]; first | done | rfl) | rfl) ?_
      refine sx_nil ⟨HLe.pick [1] (by simp) rfl, ?_⟩
      refine tt_p rfl ?_
      refine sv_assign rfl rfl ?_
      refine sv_nil ?_
      refine tt_nil ?_
      exact ⟨(), trivial, Kn.cons rfl (Kn.cons rfl (Kn.cons rfl (Kn.cons rfl Kn.nil))), HLe.sub (.cons _ (.cons _ (.cons_cons _ (List.sublist_append_left _ _))))⟩
  rintro ⟨⟩ -
  refine awp_heap (.own g9 26 [.slice A3 M.length c3] :: roE A3 (icells M)) (HLe.refl _) ?_

  refine awp_seq ?_
  refine awp_seq_meet [(1, .int .u16 (by_ : Nat)), (42, .bool false)] [] (fun Z hZ => ?_) ?_
  · refine sx_move rfl rfl ?_
    first | refine sx_neq rfl rfl rfl ?_ | refine sx_sneq rfl rfl rfl ?_
    refine sx_move rfl rfl ?_
    refine sx_force 34 rfl false (by first | rfl | (simp; done)) ?_
    refine sx_on rfl rfl rfl ?_
    refine sx_move rfl rfl ?_
    refine sx_on rfl rfl rfl ?_
    first | refine sx_neq rfl rfl rfl ?_ | refine sx_sneq rfl rfl rfl ?_
    refine sx_pick rfl rfl rfl ?_
    refine sx_move rfl rfl ?_
    refine sx_force 38 rfl false (by first | rfl | (simp; done)) ?_
    refine sx_on rfl rfl rfl ?_
    first | refine sx_loadA 0 rfl rfl tyA26 tyS26 (by first | (simp only [List.length_cons, List.length_nil, Nat.reduceAdd, Nat.zero_add, Nat.add_zero]; first | done | rfl) | rfl) (by first | (simp only [List.take_succ_cons, List.take_zero, List.drop_succ_cons, List.drop_zero, List.cons_append, List.nil_append, List.append_nil, List.length_cons, List.length_nil, Nat.reduceAdd, Nat.zero_add, Nat.add_zero, Value.cells, wrV]; first | done | rfl) | rfl) rfl ?_
    refine sx_on rfl rfl rfl ?_
    refine sx_cbytes M hA3 (by repeat (first | exact List.Sublist.refl _ | exact List.nil_sublist _ | exact List.sublist_append_right _ _ | refine List.Sublist.trans ?_ (List.sublist_append_left _ _) | exact List.Sublist.cons_cons _ (List.nil_sublist _) | refine List.Sublist.cons _ ?_)) hokM rfl rfl ?_
    rw [p2]
    refine sx_on rfl rfl rfl ?_
    first | refine sx_neq rfl rfl rfl ?_ | refine sx_sneq rfl rfl rfl ?_
    refine sx_pick rfl rfl rfl ?_
    refine sx_nil (hZ _ _ ?_ ?_)
    · exact Kn.cons rfl (Kn.cons rfl Kn.nil)
    · exact HLe.sub (List.nil_sublist _)
  first | refine awp_cond rfl (fun h => ?_) (fun h => ?_) | refine awp_seq (awp_cond rfl (fun h => ?_) (fun h => ?_))
  · cases h
  refine awp_skip ?_
  repeat (with_reducible (first | refine nx_block_normal ?_ | refine nx_scope_normal ?_))
  with_reducible first | refine nx_normal ?_ | refine nx_normalM ?_

  refine awp_seq_region (fun Z hZ => ?_)
  refine sx_assign rfl rfl ?_
  refine sx_nil (hZ _ _ ?_)
  refine awp_forget [(1, _), (10, _)] (Kn.cons rfl (Kn.cons rfl (Kn.nil))) ?_
  refine awp_cut (ι := Value) (fun v => [(1, .int .u16 (by_ : Nat)), (10, v)]) (fun v => rowE v 52 2 (icells (bigL 2048))) (fun v => RowOk v 2048) ?_ ?_
  · refine awp_seq_region (fun Z hZ => ?_)
    refine sx_assign rfl rfl ?_
    refine sx_nil (hZ _ _ ?_)
    refine awp_forget [(1, _), (10, _), (11, _)] (Kn.cons rfl (Kn.cons rfl (Kn.cons rfl (Kn.nil)))) ?_
    refine awp_block ?_
    refine awp_loop (ι := Nat × Value) (fun i => [(1, .int .u16 (by_ : Nat)), (10, i.2), (11, uq i.1)]) (fun i => rowE i.2 52 2 (icells (bigL i.1)))
      (fun i => i.1 ≤ 2048 ∧ RowOk i.2 i.1) (fun i => 2048 - i.1) (0, .slice none 0 0) ⟨by simp, RowOk.nil⟩ (Kn.cons rfl (Kn.cons rfl (Kn.cons rfl Kn.nil))) (by simp [rowE]; exact HLe.refl _) ?_
    rintro ⟨i, v⟩ ⟨hi, hv⟩
    simp only at hi hv
    refine awp_seq ?_
    refine awp_seq_region (fun Z hZ => ?_)
    refine sx_move rfl rfl ?_
    first | refine sx_lss rfl rfl rfl ?_ | refine sx_slss rfl rfl rfl ?_
    refine sx_nil (hZ _ _ ?_)
    refine awp_forget [(1, _), (10, _), (11, _), (44, _)] (Kn.cons rfl (Kn.cons rfl (Kn.cons rfl (Kn.cons rfl (Kn.nil))))) ?_
    first | refine awp_cond rfl (fun h => ?_) (fun h => ?_) | refine awp_seq (awp_cond rfl (fun h => ?_) (fun h => ?_))
    · have hlt : i < 2048 := by simp at h; omega
      refine awp_skip ?_
      repeat (with_reducible (first | refine nx_block_normal ?_ | refine nx_scope_normal ?_))
      with_reducible first | refine nx_normal ?_ | refine nx_normalM ?_
      refine awp_seq (awp_block ?_)

      refine awp_region (fun Z hZ => ?_)
      refine sx_move rfl rfl ?_
      refine sx_move rfl rfl ?_
      refine sx_mul rfl rfl ((3 * i : Nat) : Int) (by rw [IntWalk.u64_in _ (by omega)]; omega) rfl ?_
      refine sx_build tyZ52 tyP52 rfl rfl (by first | (simp only [List.take_succ_cons, List.take_zero, List.drop_succ_cons, List.drop_zero, List.cons_append, List.nil_append, List.append_nil, List.length_cons, List.length_nil, Nat.reduceAdd, Nat.zero_add, Nat.add_zero, Value.cells, wrV, zrep_one, List.replicate_succ, List.replicate_zero, Nat.reduceMul, Nat.zero_mul]; first | done | rfl) | rfl) rfl ?_
      refine sx_buildSlice Try.underlying24 tyS52 tyZ52 rfl rfl rfl rfl (by first | (simp only [List.take_succ_cons, List.take_zero, List.drop_succ_cons, List.drop_zero, List.cons_append, List.nil_append, List.append_nil, List.length_cons, List.length_nil, Nat.reduceAdd, Nat.zero_add, Nat.add_zero, Value.cells, wrV, zrep_one, List.replicate_succ, List.replicate_zero, Nat.reduceMul, Nat.zero_mul]; first | done | rfl) | rfl) rfl (fun g4 => ?_)
      refine sx_appendE [_] elemIt rfl hv (by rw [icells_len, bigL_len]) rfl (fun w hw => rd_own (i := 0) (xs := [uq (3 * i : Nat), .string (str [116])]) rfl rfl hw) rfl (by show _ ≤ 9223372036854775807; omega) (by omega) (HLe.refl _) rfl (fun v2 hv2 => ?_)
      refine sx_assign rfl rfl ?_
      refine sx_nil (hZ _ _ ?_)
      refine nx_forget [(1, _), (10, _), (11, _)] (Kn.cons rfl (Kn.cons rfl (Kn.cons rfl (Kn.nil)))) ?_
      repeat (with_reducible (first | refine nx_block_normal ?_ | refine nx_scope_normal ?_))
      with_reducible first | refine nx_normal ?_ | refine nx_normalM ?_
      refine awp_region (fun Z hZ => ?_)
      refine sx_move rfl rfl ?_
      refine sx_add rfl rfl ((i + 1 : Nat) : Int) (by rw [IntWalk.u64_in _ (by omega)]; omega) rfl ?_
      refine sx_assign rfl rfl ?_
      refine sx_nil (hZ _ _ ?_)
      refine nx_forget [(1, _), (10, _), (11, _)] (Kn.cons rfl (Kn.cons rfl (Kn.cons rfl (Kn.nil)))) ?_
      refine nx_round (i + 1, v2) ⟨by show i + 1 ≤ _; omega, hv2⟩ (by simp; omega) (Kn.cons rfl (Kn.cons rfl (Kn.cons rfl Kn.nil))) ?_
      simp only
      rw [bigL_snoc, show icells (bigL i ++ [⟨3 * i, [116]⟩]) = icells (bigL i) ++ [uq (3 * i : Nat), .string (str [116])] by simp [icells]]
      exact HLe.drop 1 rfl
    · have hke : i = 2048 := by simp at h; omega
      subst hke
      refine awp_exit ?_
      repeat (with_reducible (first | refine nx_then_exit ?_ | refine nx_block_other (by decide) ?_ | refine nx_scope_exit ?_))
      with_reducible refine nx_block_exit ?_
      repeat (with_reducible (first | refine nx_block_normal ?_ | refine nx_scope_normal ?_))
      exact nx_cut v hv (Kn.cons rfl (Kn.cons rfl Kn.nil)) (HLe.refl _)
  intro v hv
  obtain ⟨Al, cl, rfl, hAl, hlel⟩ := hv.ro
  refine awp_heap (roE Al (icells (bigL 2048))) (by have := hlel [] [] 52 2 (icells (bigL 2048)); simpa using this) ?_
  have hB := bigL_ok 2048 (Nat.le_refl _)
  have hBl := bigL_len 2048
  obtain ⟨o1, o2⟩ := bigL_of
  have f0 := bigL_put0 by_ hby [109, 111, 114, 101] (by simp) (by simp)
  obtain ⟨f1, f2, f3⟩ := bigL_put1 (by_ % 2048) (Nat.mod_lt _ (by decide)) [111, 116, 104, 101, 114] (by simp) (by simp)
  obtain ⟨B, hBB⟩ : ∃ B, bigL 2048 = B := ⟨_, rfl⟩
  rw [hBB] at hB hBl o1 o2 f0 f1 f2 f3 ⊢
  have hokQ := hB.putQ (3 * (by_ % 2048)) [111, 116, 104, 101, 114]
  obtain ⟨Q, hQ⟩ : ∃ Q, putQ (3 * (by_ % 2048)) [111, 116, 104, 101, 114] B = Q := ⟨_, rfl⟩
  rw [hQ] at f2 f3 hokQ
  have e1 : str [109, 111, 114, 101] = ⟨#[109, 111, 114, 101]⟩ := rfl
  have e2 : str [111, 116, 104, 101, 114] = ⟨#[111, 116, 104, 101, 114]⟩ := rfl
  rw [← hBl] at hAl ⊢
  refine awp_seq_region (fun Z hZ => ?_)
  refine sx_move rfl rfl ?_
  refine sx_ofE B (roE Al (icells B)) hAl.arg (fun _ => rfl) (Ro.roE _ _) (by repeat (first | exact List.Sublist.refl _ | exact List.nil_sublist _ | exact List.sublist_append_right _ _ | refine List.Sublist.trans ?_ (List.sublist_append_left _ _) | exact List.Sublist.cons_cons _ (List.nil_sublist _) | refine List.Sublist.cons _ ?_)) (by omega) rfl rfl ?_
  rw [o1, o2]
  intro A5 c5 hA5
  refine sx_move rfl rfl ?_
  refine sx_extract rfl rfl rfl ?_
  refine sx_extract rfl rfl rfl ?_
  refine sx_alloc tyZ26 rfl (fun g5 => ?_)
  first | refine sx_store 0 rfl rfl rfl tyS26 (by first | (simp only [Value.cells]; first | done | rfl) | rfl) rfl rfl (by first | (simp only [List.length_cons, List.length_nil, Nat.reduceAdd, Nat.zero_add, Nat.add_zero]; first | done | rfl) | rfl) (by first | (simp only [List.take_succ_cons, List.take_zero, List.drop_succ_cons, List.drop_zero, List.cons_append, List.nil_append, List.append_nil, List.length_cons, List.length_nil, Nat.reduceAdd, Nat.zero_add, Nat.add_zero, Value.cells, wrV]; first | done | rfl) | rfl) (by first | (simp only [List.set_cons_succ, List.set_cons_zero]; first | done | rfl) | rfl) ?_ | refine sx_store 1 rfl rfl rfl tyS26 (by first | (simp only [Value.cells]; first | done | rfl) | rfl) rfl rfl (by first | (simp only [List.length_cons, List.length_nil, Nat.reduceAdd, Nat.zero_add, Nat.add_zero]; first | done | rfl) | rfl) (by first | (simp only [List.take_succ_cons, List.take_zero, List.drop_succ_cons, List.drop_zero, List.cons_append, List.nil_append, List.append_nil, List.length_cons, List.length_nil, Nat.reduceAdd, Nat.zero_add, Nat.add_zero, Value.cells, wrV]; first | done | rfl) | rfl) (by first | (simp only [List.set_cons_succ, List.set_cons_zero]; first | done | rfl) | rfl) ?_
  refine sx_assign rfl rfl ?_
  refine sx_nil (hZ _ _ ?_)
  refine awp_forget [(1, _), (12, _), (13, _)] (Kn.cons rfl (Kn.cons rfl (Kn.cons rfl (Kn.nil)))) ?_

  refine awp_seq_region (fun Z hZ => ?_)
  first | refine sx_loadA 0 rfl rfl tyA26 tyS26 (by first | (simp only [List.length_cons, List.length_nil, Nat.reduceAdd, Nat.zero_add, Nat.add_zero]; first | done | rfl) | rfl) (by first | (simp only [List.take_succ_cons, List.take_zero, List.drop_succ_cons, List.drop_zero, List.cons_append, List.nil_append, List.append_nil, List.length_cons, List.length_nil, Nat.reduceAdd, Nat.zero_add, Nat.add_zero, Value.cells, wrV]; first | done | rfl) | rfl) rfl ?_
  refine sx_move rfl rfl ?_
  refine sx_conv Try.underlying64 Try.underlying23 rfl ((by_ : Nat) : Int) (by rw [IntWalk.u64_in _ (by omega)]) rfl ?_
  refine sx_mul rfl rfl ((3 * by_ : Nat) : Int) (by rw [IntWalk.u64_in _ (by omega)]; omega) rfl ?_
  refine sx_add rfl rfl ((3 * by_ + 1 : Nat) : Int) (by rw [IntWalk.u64_in _ (by omega)]; omega) rfl ?_
  refine sx_putE B (3 * by_ + 1) [109, 111, 114, 101] hA5 (by repeat (first | exact List.Sublist.refl _ | exact List.nil_sublist _ | exact List.sublist_append_right _ _ | refine List.Sublist.trans ?_ (List.sublist_append_left _ _) | exact List.Sublist.cons_cons _ (List.nil_sublist _) | refine List.Sublist.cons _ ?_)) hB rfl rfl (fun A6 c6 hA6 => ?_)
  rw [f0]
  refine sx_move rfl rfl ?_
  refine sx_extract rfl rfl rfl ?_
  refine sx_extract rfl rfl rfl ?_
  refine sx_alloc tyZ26 rfl (fun g6 => ?_)
  first | refine sx_store 0 rfl rfl rfl tyS26 (by first | (simp only [Value.cells]; first | done | rfl) | rfl) rfl rfl (by first | (simp only [List.length_cons, List.length_nil, Nat.reduceAdd, Nat.zero_add, Nat.add_zero]; first | done | rfl) | rfl) (by first | (simp only [List.take_succ_cons, List.take_zero, List.drop_succ_cons, List.drop_zero, List.cons_append, List.nil_append, List.append_nil, List.length_cons, List.length_nil, Nat.reduceAdd, Nat.zero_add, Nat.add_zero, Value.cells, wrV]; first | done | rfl) | rfl) (by first | (simp only [List.set_cons_succ, List.set_cons_zero]; first | done | rfl) | rfl) ?_ | refine sx_store 1 rfl rfl rfl tyS26 (by first | (simp only [Value.cells]; first | done | rfl) | rfl) rfl rfl (by first | (simp only [List.length_cons, List.length_nil, Nat.reduceAdd, Nat.zero_add, Nat.add_zero]; first | done | rfl) | rfl) (by first | (simp only [List.take_succ_cons, List.take_zero, List.drop_succ_cons, List.drop_zero, List.cons_append, List.nil_append, List.append_nil, List.length_cons, List.length_nil, Nat.reduceAdd, Nat.zero_add, Nat.add_zero, Value.cells, wrV]; first | done | rfl) | rfl) (by first | (simp only [List.set_cons_succ, List.set_cons_zero]; first | done | rfl) | rfl) ?_
  refine sx_assign rfl rfl ?_
  refine sx_nil (hZ _ _ ?_)
  refine awp_forget [(1, _), (12, _), (13, _), (15, _)] (Kn.cons rfl (Kn.cons rfl (Kn.cons rfl (Kn.cons rfl (Kn.nil))))) ?_
  refine awp_heap (.own g5 26 [.slice A5 B.length c5] :: roE A5 (icells B)) (HLe.sub (.cons _ (.cons_cons _ ((List.sublist_append_right _ _).trans (List.sublist_append_left _ _))))) ?_

  refine awp_seq_region (fun Z hZ => ?_)
  first | refine sx_loadA 0 rfl rfl tyA26 tyS26 (by first | (simp only [List.length_cons, List.length_nil, Nat.reduceAdd, Nat.zero_add, Nat.add_zero]; first | done | rfl) | rfl) (by first | (simp only [List.take_succ_cons, List.take_zero, List.drop_succ_cons, List.drop_zero, List.cons_append, List.nil_append, List.append_nil, List.length_cons, List.length_nil, Nat.reduceAdd, Nat.zero_add, Nat.add_zero, Value.cells, wrV]; first | done | rfl) | rfl) rfl ?_
  refine sx_move rfl rfl ?_
  refine sx_conv Try.underlying64 Try.underlying23 rfl ((by_ : Nat) : Int) (by rw [IntWalk.u64_in _ (by omega)]) rfl ?_
  refine sx_rem rfl rfl (by decide) ((by_ % 2048 : Nat) : Int) (by rw [Int.tmod_eq_emod_of_nonneg (by omega)]; omega) rfl ?_
  refine sx_mul rfl rfl ((3 * (by_ % 2048) : Nat) : Int) (by rw [IntWalk.u64_in _ (by omega)]; omega) rfl ?_
  refine sx_putE B (3 * (by_ % 2048)) [111, 116, 104, 101, 114] hA5 (by repeat (first | exact List.Sublist.refl _ | exact List.nil_sublist _ | exact List.sublist_append_right _ _ | refine List.Sublist.trans ?_ (List.sublist_append_left _ _) | exact List.Sublist.cons_cons _ (List.nil_sublist _) | refine List.Sublist.cons _ ?_)) hB rfl rfl (fun A7 c7 hA7 => ?_)
  rw [f1, hQ]
  rw [hQ] at hA7
  refine sx_move rfl rfl ?_
  refine sx_extract rfl rfl rfl ?_
  refine sx_extract rfl rfl rfl ?_
  refine sx_alloc tyZ26 rfl (fun g7 => ?_)
  first | refine sx_store 0 rfl rfl rfl tyS26 (by first | (simp only [Value.cells]; first | done | rfl) | rfl) rfl rfl (by first | (simp only [List.length_cons, List.length_nil, Nat.reduceAdd, Nat.zero_add, Nat.add_zero]; first | done | rfl) | rfl) (by first | (simp only [List.take_succ_cons, List.take_zero, List.drop_succ_cons, List.drop_zero, List.cons_append, List.nil_append, List.append_nil, List.length_cons, List.length_nil, Nat.reduceAdd, Nat.zero_add, Nat.add_zero, Value.cells, wrV]; first | done | rfl) | rfl) (by first | (simp only [List.set_cons_succ, List.set_cons_zero]; first | done | rfl) | rfl) ?_ | refine sx_store 1 rfl rfl rfl tyS26 (by first | (simp only [Value.cells]; first | done | rfl) | rfl) rfl rfl (by first | (simp only [List.length_cons, List.length_nil, Nat.reduceAdd, Nat.zero_add, Nat.add_zero]; first | done | rfl) | rfl) (by first | (simp only [List.take_succ_cons, List.take_zero, List.drop_succ_cons, List.drop_zero, List.cons_append, List.nil_append, List.append_nil, List.length_cons, List.length_nil, Nat.reduceAdd, Nat.zero_add, Nat.add_zero, Value.cells, wrV]; first | done | rfl) | rfl) (by first | (simp only [List.set_cons_succ, List.set_cons_zero]; first | done | rfl) | rfl) ?_
  refine sx_assign rfl rfl ?_
  refine sx_nil (hZ _ _ ?_)
  refine awp_forget [(13, _), (15, _), (16, _), (17, _)] (Kn.cons rfl (Kn.cons rfl (Kn.cons rfl (Kn.cons rfl (Kn.nil))))) ?_

  refine awp_seq_meet [(4, .bool true)] [] (fun Z hZ => ?_) ?_
  · refine sx_move rfl rfl ?_
    first | refine sx_eql rfl rfl rfl ?_ | refine sx_seql rfl rfl rfl ?_
    refine sx_move rfl rfl ?_
    refine sx_force 78 rfl true (by first | rfl | (simp; done) | (simp [f2]; done) | (simp [f3]; done)) ?_
    refine sx_on rfl rfl rfl ?_
    refine sx_move rfl rfl ?_
    refine sx_on rfl rfl rfl ?_
    first | refine sx_eql rfl rfl rfl ?_ | refine sx_seql rfl rfl rfl ?_
    refine sx_pick rfl rfl rfl ?_
    refine sx_move rfl rfl ?_
    refine sx_force 82 rfl true (by first | rfl | (simp; done) | (simp [f2]; done) | (simp [f3]; done)) ?_
    refine sx_on rfl rfl rfl ?_
    refine sx_move rfl rfl ?_
    refine sx_on rfl rfl rfl ?_
    first | refine sx_eql rfl rfl rfl ?_ | refine sx_seql rfl rfl rfl ?_
    refine sx_pick rfl rfl rfl ?_
    refine sx_move rfl rfl ?_
    refine sx_force 86 rfl true (by first | rfl | (simp; done) | (simp [f2]; done) | (simp [f3]; done)) ?_
    refine sx_on rfl rfl rfl ?_
    first | refine sx_loadA 0 rfl rfl tyA26 tyS26 (by first | (simp only [List.length_cons, List.length_nil, Nat.reduceAdd, Nat.zero_add, Nat.add_zero]; first | done | rfl) | rfl) (by first | (simp only [List.take_succ_cons, List.take_zero, List.drop_succ_cons, List.drop_zero, List.cons_append, List.nil_append, List.append_nil, List.length_cons, List.length_nil, Nat.reduceAdd, Nat.zero_add, Nat.add_zero, Value.cells, wrV]; first | done | rfl) | rfl) rfl ?_ | refine sx_loadA 1 rfl rfl tyA26 tyS26 (by first | (simp only [List.length_cons, List.length_nil, Nat.reduceAdd, Nat.zero_add, Nat.add_zero]; first | done | rfl) | rfl) (by first | (simp only [List.take_succ_cons, List.take_zero, List.drop_succ_cons, List.drop_zero, List.cons_append, List.nil_append, List.append_nil, List.length_cons, List.length_nil, Nat.reduceAdd, Nat.zero_add, Nat.add_zero, Value.cells, wrV]; first | done | rfl) | rfl) rfl ?_
    refine sx_on rfl rfl rfl ?_
    refine sx_callP (len_fn A7 Q.length c7) rfl rfl ?_
    refine sx_on rfl rfl rfl ?_
    first | refine sx_eql rfl rfl rfl ?_ | refine sx_seql rfl rfl rfl ?_
    refine sx_pick rfl rfl rfl ?_
    refine sx_move rfl rfl ?_
    refine sx_force 91 rfl true (by first | rfl | (simp; done) | (simp [f2]; done) | (simp [f3]; done)) ?_
    refine sx_on rfl rfl rfl ?_
    first | refine sx_loadA 0 rfl rfl tyA26 tyS26 (by first | (simp only [List.length_cons, List.length_nil, Nat.reduceAdd, Nat.zero_add, Nat.add_zero]; first | done | rfl) | rfl) (by first | (simp only [List.take_succ_cons, List.take_zero, List.drop_succ_cons, List.drop_zero, List.cons_append, List.nil_append, List.append_nil, List.length_cons, List.length_nil, Nat.reduceAdd, Nat.zero_add, Nat.add_zero, Value.cells, wrV]; first | done | rfl) | rfl) rfl ?_ | refine sx_loadA 1 rfl rfl tyA26 tyS26 (by first | (simp only [List.length_cons, List.length_nil, Nat.reduceAdd, Nat.zero_add, Nat.add_zero]; first | done | rfl) | rfl) (by first | (simp only [List.take_succ_cons, List.take_zero, List.drop_succ_cons, List.drop_zero, List.cons_append, List.nil_append, List.append_nil, List.length_cons, List.length_nil, Nat.reduceAdd, Nat.zero_add, Nat.add_zero, Value.cells, wrV]; first | done | rfl) | rfl) rfl ?_
    refine sx_on rfl rfl rfl ?_
    refine sx_cbytes Q hA7 (by repeat (first | exact List.Sublist.refl _ | exact List.nil_sublist _ | exact List.sublist_append_right _ _ | refine List.Sublist.trans ?_ (List.sublist_append_left _ _) | exact List.Sublist.cons_cons _ (List.nil_sublist _) | refine List.Sublist.cons _ ?_)) hokQ rfl rfl ?_
    refine sx_on rfl rfl rfl ?_
    first | refine sx_eql rfl rfl rfl ?_ | refine sx_seql rfl rfl rfl ?_
    refine sx_pick rfl rfl rfl ?_
    refine sx_move rfl rfl ?_
    refine sx_force 96 rfl true (by first | rfl | (simp; done) | (simp [f2]; done) | (simp [f3]; done)) ?_
    refine sx_on rfl rfl rfl ?_
    refine sx_callP cawake_fn rfl rfl ?_
    refine sx_pick rfl rfl rfl ?_
    refine sx_assign rfl rfl ?_
    refine sx_nil (hZ _ _ ?_ ?_)
    · exact Kn.cons rfl Kn.nil
    · exact HLe.sub (List.nil_sublist _)
  refine awp_ret ?_
  repeat (with_reducible (first | refine nx_then_ret ?_ | refine nx_block_ret ?_ | refine nx_scope_ret ?_))
  exact nx_ret1 rfl rfl rfl
theorem ChartBounds_read {H : Type} {enc : TypeId × Value → H} (w : World) {base : Nat} {v0 v1 : Value} {d0 d1 : DataW H} {p0 p1 : List MemPlace}
    (k0 : Value.okWide Try.prog w .any base 23 v0) (h0 : DataW.Trod enc Try.prog w 0 (fun _ => true) true 23 v0 d0 p0)
    (k1 : Value.okWide Try.prog w .any base 64 v1) (h1 : DataW.Trod enc Try.prog w 0 (fun _ => true) true 64 v1 d1 p1) :
    Calls Try.prog 7 #[v0, v1] w fun e w' => e = .returned (.bool true) ∧ Bel w w' := by
  obtain ⟨a, rfl, _, _, ha⟩ := ChangeShapes.open_int Try.underlying23 k0 h0
  obtain ⟨ha0, ha1⟩ := wf_u64 ha
  obtain ⟨n, rfl⟩ : ∃ n : Nat, a = n := ⟨a.toNat, by omega⟩
  obtain ⟨b, rfl, _, _, hb⟩ := ChangeShapes.open_int Try.underlying64 k1 h1
  obtain ⟨hb0, hb1⟩ := wf_u16 hb
  obtain ⟨m, rfl⟩ : ∃ m : Nat, b = m := ⟨b.toNat, by omega⟩
  exact (bounds_fn n m (by omega) (by omega)).bel w
namespace chartBounds
open Go.ChangeShapes Go.WideShapes Go.ChangeAt Go.RowKit
theorem own : ownKnob Try.prog.godebug = none := by kernel_rfl
theorem laidOut : laidOutB Try.prog = true := by kernel_rfl
set_option maxRecDepth 100000 in
theorem lifted (os : Os) (started : os.Started) (H : Type) (enc : TypeId × Value → H) :
    ReturnsInHanded {} Try.checked os 7 .any (Rows.chartBoundsSpec.pre6 enc Try.prog Try.f7 Rows.chartBoundsRow.domain false) (Rows.chartBoundsSpec.post enc Try.prog Try.f7 false true false false) := by
  refine returnsInHanded_of_change (C := Try.checked) own started (by kernel_rfl) Try.func7
    (ChangeSpec.witness6 (enc := enc) (C := Try.checked) false ⟨#[], #[.int .u64 0, .int .u16 0], []⟩ 8 (by kernel_rfl) (by kernel_rfl) (by kernel_rfl) (by kernel_rfl)) ?_
  intro W base args ds gs before hval0 hW hcnd _
  have hval : ∀ (j : Nat) t v, Try.f7.params[j]? = some t → args[j]? = some v → Value.okWide Try.prog W .any base t v := hval0
  have hW' := hW
  obtain ⟨p, q, hA0, hV, rfl, hfz, hnd⟩ := hW
  have hA : DataW.TrodAll enc Try.prog W 0 (fun _ => true) true Try.f7.params.toList args.toList ds p := hA0
  rw [Try.params7] at hA hval
  obtain ⟨v0, vs0, d0, ds0, p0, q0, hargs, rfl, rfl, h0, r0⟩ := trodAll_cons hA
  obtain ⟨v1, vs1, d1, ds1, p1, q1, rfl, rfl, rfl, h1, r1⟩ := trodAll_cons r0
  obtain ⟨rfl, rfl, rfl⟩ := trodAll_nil r1
  obtain rfl : args = #[v0, v1] := by cases args; simp_all
  obtain ⟨rfl, rfl⟩ := trodVars_none hV
  have lt0 : ∀ x ∈ p0, x.block < W.heap.size := by obtain ⟨m, hm⟩ := h0; exact DataW.trod_lt m _ _ _ hm
  have lt1 : ∀ x ∈ p1, x.block < W.heap.size := by obtain ⟨m, hm⟩ := h1; exact DataW.trod_lt m _ _ _ hm
  refine (ChartBounds_read W (hval 0 23 v0 rfl rfl) h0 (hval 1 64 v1 rfl rfl) h1).mono fun e W' ⟨he, bel0⟩ => ?_
  have bel : Below W.heap.size W W' := bel0
  subst he
  exact ⟨_, rfl, _, _, _, [], _, [], hW', trodAll_mk1 (shut_bool Try.underlying4 _), (trodAll_cons_mk (Below.trod laidOut (by kernel_rfl) (of_decide_eq_true (by kernel_rfl)) h0 bel lt0) (trodAll_cons_mk (Below.trod laidOut (by kernel_rfl) (of_decide_eq_true (by kernel_rfl)) h1 bel lt1) trodAll_mk0)), rfl, bel.frame _, fun h => by cases h⟩
theorem over : Rows.chartBoundsRow.holds Try.pinned (OpenSpec.ofChange Rows.chartBoundsSpec) :=
  OpenClaim.holds_of_wide 7 Try.f7 rfl rfl rfl rfl rfl rfl rfl ⟨rfl, rfl, rfl, rfl, rfl⟩ rfl rfl rfl rfl rfl (by kernel_rfl) Try.func7 (by kernel_rfl)
    (of_decide_eq_true (by kernel_rfl)) (by unfold Func.isWrapper; first | (rw [if_pos (by decide +kernel)]; kernel_rfl) | (rw [if_neg (by decide +kernel)]; exact ⟨rfl, rfl⟩))
    (fun os started H enc _ => lifted os started H enc)
theorem proved : Rows.ChartBoundsSaid := over
#print axioms proved
end chartBounds
end Go.Proofs.Ytllclbbjfnipoaa
