/- The walks of cover's join and Union. Conditions: the lists are not too long. -/
import Derived.Test.YtbldhokgbcljjaaKv2
namespace Go.Proofs.Ytbldhokgbcljjaa
open Go.RowKit Go.Sort
set_option linter.unusedVariables false
set_option linter.unusedSimpArgs false
set_option maxRecDepth 100000
theorem u1_tells : Tells 77 [] [] (fun s => decide (s.b < s.a)) := fun s => by
  rw [List.append_nil]
  refine Fn.enter (N := 8) Try.func77 rfl (by kernel_rfl) rfl (fun w0 => ?_)

  refine awp_seq_region (fun Z hZ => ?_)
  refine sx_box rfl rfl rfl (fun g1 => ?_)
  refine sx_assign rfl rfl ?_
  refine sx_nil (hZ _ _ ?_)
  refine awp_forget [(1, _)] (Kn.cons rfl (Kn.nil)) ?_

  refine awp_seq_region (fun Z hZ => ?_)
  refine sx_fieldAddr rfl tyF43_0 (by first | (simp only [Nat.reduceAdd, Nat.add_zero, Nat.zero_add]; first | done | rfl) | rfl) rfl ?_
  first | refine sx_load 0 rfl rfl tyA36 tyS36 rfl rfl ?_
  refine sx_fieldAddr rfl tyF43_1 (by first | (simp only [Nat.reduceAdd, Nat.add_zero, Nat.zero_add]; first | done | rfl) | rfl) rfl ?_
  first | refine sx_load 0 rfl rfl tyA36 tyS36 rfl rfl ?_
  refine sx_gtr rfl rfl rfl ?_
  refine sx_assign rfl rfl ?_
  refine sx_nil (hZ _ _ ?_)
  refine awp_forget [(2, _)] (Kn.cons rfl (Kn.nil)) ?_
  refine awp_ret ?_
  exact nx_ret1 rfl rfl (congrArg Value.bool (by rw [Bool.eq_iff_iff]; simp))
theorem u2_cmp : SpCmp 79 where
  is_ x y W := by
    have hcon := cmp_is x.a y.a
    generalize cmpQ x.a y.a = r at hcon ⊢
    go_enter Try.func79, Try.ntmps79
    go_wp2_with (go_at_call 80; refine (hcon _).mono ?_; rintro e w' ⟨rfl, rfl⟩)
    go_ret
    exact ⟨rfl, 0, _, by rw [alloc_eq_grow, alloc_eq_grow, grow_grow]; rfl⟩
  enter := enters_of Try.func79 (by kernel_rfl) rfl
theorem joinQ_at {L : List Sp} {m : Nat} {t : Sp} (hm : L.length = m + 1) (ht : L[m]? = some t) (s : Sp) : joinQ L s = if s.a ≤ t.b + 1 then L.set m { t with b := max t.b s.b } else L ++ [s] := by
  have h : L[L.length - 1]? = some t := by rw [hm, Nat.add_sub_cancel]; exact ht
  unfold joinQ
  rw [h, hm, Nat.add_sub_cancel]
theorem join_fn (u : Value) (L : List Sp) (s : Sp) (hu : RowOk u L.length) (hL : L.length ≤ 1000000) (ho : SpsOk (s :: L)) :
    Fn Try.prog 81 [u, s.val] (rowE u 43 2 (scells L)) fun v H' => RowOk v (joinQ L s).length ∧ H' = rowE v 43 2 (scells (joinQ L s)) := by
  obtain ⟨s1, s2⟩ := ho s List.mem_cons_self
  obtain ⟨A, c, rfl, hA⟩ := hu.form
  rcases Nat.eq_zero_or_pos L.length with h0 | h0
  · obtain rfl := List.eq_nil_of_length_eq_zero h0
    rw [joinQ_nil]
    refine Fn.enter (N := 49) Try.func81 rfl (by kernel_rfl) rfl (fun w0 => ?_)

    refine awp_seq_region (fun Z hZ => ?_)
    refine sx_box rfl rfl rfl (fun g1 => ?_)
    refine sx_assign rfl rfl ?_
    refine sx_nil (hZ _ _ ?_)
    refine awp_forget [(0, _), (3, _)] (Kn.cons rfl (Kn.cons rfl (Kn.nil))) ?_

    refine awp_seq ?_
    refine awp_seq_region (fun Z hZ => ?_)
    refine sx_move rfl rfl ?_
    refine sx_len Try.underlying24 rfl rfl ?_
    refine sx_sub rfl rfl (-1) rfl rfl ?_
    refine sx_assign rfl rfl ?_
    refine sx_nil (hZ _ _ ?_)
    refine awp_forget [(0, _), (3, _), (5, _)] (Kn.cons rfl (Kn.cons rfl (Kn.cons rfl (Kn.nil)))) ?_
    refine awq_seq_meet [(0, .slice A ([] : List Sp).length c), (3, ptr g1 0), (31, .bool false)] (.own g1 43 s.cells :: rowE (.slice A ([] : List Sp).length c) 43 2 (scells [])) mixed (by kernel_rfl) (fun Z hZ => ?_) ?_
    · refine sq_move rfl rfl ?_
      refine sq_geq rfl rfl rfl ?_
      refine sq_move rfl rfl ?_
      refine sq_force 11 rfl false (by rfl) ?_
      refine sq_off rfl rfl rfl rfl rfl ?_
      refine sq_off rfl rfl rfl rfl rfl ?_
      refine sq_off rfl rfl rfl rfl rfl ?_
      refine sq_off rfl rfl rfl rfl rfl ?_
      refine sq_off rfl rfl rfl rfl rfl ?_
      refine sq_off rfl rfl rfl rfl rfl ?_
      refine sq_off rfl rfl rfl rfl rfl ?_
      refine sq_off rfl rfl rfl rfl rfl ?_
      refine sq_off rfl rfl rfl rfl rfl ?_
      refine sq_offU rfl rfl rfl rfl ?_
      refine sq_offU rfl rfl rfl rfl ?_
      refine sq_offU rfl rfl rfl rfl ?_
      refine sq_offU rfl rfl rfl rfl ?_
      refine sq_offU rfl rfl rfl rfl ?_
      refine sq_offU rfl rfl rfl rfl ?_
      refine sq_offU rfl rfl rfl rfl ?_
      refine sq_offU rfl rfl rfl rfl ?_
      refine sq_offU rfl rfl rfl rfl ?_
      refine sq_off rfl rfl rfl rfl rfl ?_
      refine sq_pick rfl rfl rfl ?_
      refine sq_nil (hZ _ _ ?_ ?_)
      · exact Kn.cons rfl (Kn.cons rfl (Kn.cons rfl Kn.nil))
      · exact HLe.refl _
    refine awp_cond rfl (fun h => ?_) (fun h => ?_)
    · cases h
    refine awp_skip ?_
    with_reducible refine nx_normal ?_
    refine awp_seq_region (fun Z hZ => ?_)
    refine sx_move rfl rfl ?_
    first | refine sx_loadA 0 rfl rfl tyA43 tyS43 (by first | (simp only [List.length_cons, List.length_nil, Nat.reduceAdd, Nat.zero_add, Nat.add_zero]; first | done | rfl) | rfl) (by first | (simp only [List.take_succ_cons, List.take_zero, List.drop_succ_cons, List.drop_zero, List.cons_append, List.nil_append, List.append_nil, List.length_cons, List.length_nil, Nat.reduceAdd, Nat.zero_add, Nat.add_zero, Value.cells, wrV]; first | done | rfl) | rfl) rfl ?_
    refine sx_buildSlice Try.underlying24 tyS43 tyZ43 rfl rfl rfl rfl (by first | (simp only [List.take_succ_cons, List.take_zero, List.drop_succ_cons, List.drop_zero, List.cons_append, List.nil_append, List.append_nil, List.length_cons, List.length_nil, Nat.reduceAdd, Nat.zero_add, Nat.add_zero, Value.cells, wrV, zrep_one, List.replicate_succ, List.replicate_zero, Nat.reduceMul, Nat.zero_mul]; first | done | rfl) | rfl) rfl (fun g2 => ?_)
    refine sx_appendE (xs := scells []) (_ :: _ :: []) elemSp rfl hu rfl rfl (fun w hw => rd_own (i := 0) (xs := s.cells) rfl rfl hw) rfl (by decide) (by decide) (HLe.refl _) rfl (fun v2 hv2 => ?_)
    refine sx_assign rfl rfl ?_
    refine sx_nil (hZ _ _ ?_)
    refine awp_forget [(4, _)] (Kn.cons rfl (Kn.nil)) ?_
    refine awp_ret ?_
    exact nx_ret1h _ rfl rfl (HLe.drop 2 rfl) ⟨hv2, rfl⟩
  · obtain ⟨m, hm⟩ : ∃ m, L.length = m + 1 := ⟨L.length - 1, by omega⟩
    have hml : m < L.length := by omega
    obtain ⟨t, ht⟩ : ∃ t, L[m]? = some t := ⟨_, List.getElem?_eq_getElem hml⟩
    obtain ⟨t1, t2⟩ := ho t (List.mem_cons_of_mem _ (List.mem_of_getElem? ht))
    have hj := joinQ_at hm ht s
    obtain ⟨g, c', hgc⟩ := hu.some h0
    injection hgc with hg1 _ hg2
    subst hg1; subst hg2
    refine Fn.enter (N := 49) Try.func81 rfl (by kernel_rfl) rfl (fun w0 => ?_)

    refine awp_seq_region (fun Z hZ => ?_)
    refine sx_box rfl rfl rfl (fun g1 => ?_)
    refine sx_assign rfl rfl ?_
    refine sx_nil (hZ _ _ ?_)
    refine awp_forget [(0, _), (3, _)] (Kn.cons rfl (Kn.cons rfl (Kn.nil))) ?_

    refine awp_seq ?_
    refine awp_seq_region (fun Z hZ => ?_)
    refine sx_move rfl rfl ?_
    refine sx_len Try.underlying24 rfl rfl ?_
    refine sx_sub rfl rfl ((m : Nat) : Int) (by rw [IntWalk.i64_in _ (by omega)]; omega) rfl ?_
    refine sx_assign rfl rfl ?_
    refine sx_nil (hZ _ _ ?_)
    refine awp_forget [(0, _), (3, _), (5, _)] (Kn.cons rfl (Kn.cons rfl (Kn.cons rfl (Kn.nil)))) ?_
    refine awp_heap [.own g1 43 s.cells, .ob g (RowP 43 2 L.length c (scells L))] (HLe.refl _) ?_
    refine awq_seq_meet [(0, .slice (some ⟨g, 0, none⟩) L.length c), (3, ptr g1 0), (5, iq (m : Nat)), (31, .bool (decide (s.a ≤ t.b + 1)))] [.own g1 43 s.cells, .ob g (RowP 43 2 L.length c (scells L))] mixed (by kernel_rfl) (fun Z hZ => ?_) ?_
    · refine sq_move rfl rfl ?_
      refine sq_geq rfl rfl rfl ?_
      refine sq_move rfl rfl ?_
      refine sq_split 11 rfl (fun hb2 => ?_) (fun hb2 => ?_)
      · refine sq_on rfl rfl rfl ?_
        refine sq_fieldAddr rfl tyF43_0 (by first | (simp only [Nat.reduceAdd, Nat.add_zero, Nat.zero_add]; first | done | rfl) | rfl) rfl ?_
        refine sq_on rfl rfl rfl ?_
        first | refine sq_load 0 rfl rfl tyA36 tyS36 rfl rfl ?_
        refine sq_on rfl rfl rfl ?_
        refine sq_move rfl rfl ?_
        refine sq_on rfl rfl rfl ?_
        refine sq_move rfl rfl ?_
        refine sq_on rfl rfl rfl ?_
        refine sq_indexAddr (0 + m * 2) Try.underlying24 tyS43 rfl rfl (by omega) (by simp) rfl ?_
        refine sq_on rfl rfl rfl ?_
        refine sq_fieldAddr rfl tyF43_1 (by first | (simp only [Nat.reduceAdd, Nat.add_zero, Nat.zero_add]; first | done | rfl) | rfl) rfl ?_
        refine sq_on rfl rfl rfl ?_
        refine sq_loadRd (m * 2 + 1) rfl (by omega) (fun w hw => rd_row (i := 1) rfl hw) h0 tyA36 tyS36 (scells_b ht) rfl ?_
        refine sq_on rfl rfl rfl ?_
        refine sq_leq rfl rfl rfl ?_
        refine sq_on rfl rfl rfl ?_
        refine sq_move rfl rfl ?_
        refine sq_split 20 rfl (fun hb11 => ?_) (fun hb11 => ?_)
        · refine sq_off rfl rfl rfl rfl rfl ?_
          refine sq_off rfl rfl rfl rfl rfl ?_
          refine sq_off rfl rfl rfl rfl rfl ?_
          refine sq_off rfl rfl rfl rfl rfl ?_
          refine sq_off rfl rfl rfl rfl rfl ?_
          refine sq_off rfl rfl rfl rfl rfl ?_
          refine sq_off rfl rfl rfl rfl rfl ?_
          refine sq_off rfl rfl rfl rfl rfl ?_
          refine sq_off rfl rfl rfl rfl rfl ?_
          refine sq_on rfl rfl rfl ?_
          refine sq_pick rfl rfl rfl ?_
          refine sq_pick rfl rfl rfl ?_
          refine sq_nil (hZ _ _ ?_ ?_)
          · exact Kn.cons rfl (Kn.cons rfl (Kn.cons rfl (Kn.cons (congrArg some (congrArg Value.bool (by first | (exfalso; simp at *; done) | (exfalso; simp at *; omega) | (simp at *; omega) | (rw [Bool.eq_iff_iff]; simp at *; omega)))) Kn.nil)))
          · exact HLe.refl _
        · refine sq_on rfl rfl rfl ?_
          refine sq_fieldAddr rfl tyF43_0 (by first | (simp only [Nat.reduceAdd, Nat.add_zero, Nat.zero_add]; first | done | rfl) | rfl) rfl ?_
          refine sq_on rfl rfl rfl ?_
          first | refine sq_load 0 rfl rfl tyA36 tyS36 rfl rfl ?_
          refine sq_on rfl rfl rfl ?_
          refine sq_sub rfl rfl ((s.a - 1 : Nat) : Int) (by simp at hb11; rw [IntWalk.u64_in _ (by omega)]; omega) rfl ?_
          refine sq_on rfl rfl rfl ?_
          refine sq_move rfl rfl ?_
          refine sq_on rfl rfl rfl ?_
          refine sq_move rfl rfl ?_
          refine sq_on rfl rfl rfl ?_
          refine sq_indexAddr (0 + m * 2) Try.underlying24 tyS43 rfl rfl (by omega) (by simp) rfl ?_
          refine sq_on rfl rfl rfl ?_
          refine sq_fieldAddr rfl tyF43_1 (by first | (simp only [Nat.reduceAdd, Nat.add_zero, Nat.zero_add]; first | done | rfl) | rfl) rfl ?_
          refine sq_on rfl rfl rfl ?_
          refine sq_loadRd (m * 2 + 1) rfl (by omega) (fun w hw => rd_row (i := 1) rfl hw) h0 tyA36 tyS36 (scells_b ht) rfl ?_
          refine sq_on rfl rfl rfl ?_
          refine sq_eql rfl rfl rfl ?_
          refine sq_on rfl rfl rfl ?_
          refine sq_pick rfl rfl rfl ?_
          refine sq_pick rfl rfl rfl ?_
          refine sq_nil (hZ _ _ ?_ ?_)
          · exact Kn.cons rfl (Kn.cons rfl (Kn.cons rfl (Kn.cons (congrArg some (congrArg Value.bool (by first | (exfalso; simp at *; done) | (exfalso; simp at *; omega) | (simp at *; omega) | (rw [Bool.eq_iff_iff]; simp at *; omega)))) Kn.nil)))
          · exact HLe.refl _
      · refine sq_off rfl rfl rfl rfl rfl ?_
        refine sq_off rfl rfl rfl rfl rfl ?_
        refine sq_off rfl rfl rfl rfl rfl ?_
        refine sq_off rfl rfl rfl rfl rfl ?_
        refine sq_off rfl rfl rfl rfl rfl ?_
        refine sq_off rfl rfl rfl rfl rfl ?_
        refine sq_off rfl rfl rfl rfl rfl ?_
        refine sq_off rfl rfl rfl rfl rfl ?_
        refine sq_off rfl rfl rfl rfl rfl ?_
        refine sq_offU rfl rfl rfl rfl ?_
        refine sq_offU rfl rfl rfl rfl ?_
        refine sq_offU rfl rfl rfl rfl ?_
        refine sq_offU rfl rfl rfl rfl ?_
        refine sq_offU rfl rfl rfl rfl ?_
        refine sq_offU rfl rfl rfl rfl ?_
        refine sq_offU rfl rfl rfl rfl ?_
        refine sq_offU rfl rfl rfl rfl ?_
        refine sq_offU rfl rfl rfl rfl ?_
        refine sq_off rfl rfl rfl rfl rfl ?_
        refine sq_pick rfl rfl rfl ?_
        refine sq_nil (hZ _ _ ?_ ?_)
        · exact Kn.cons rfl (Kn.cons rfl (Kn.cons rfl (Kn.cons (congrArg some (congrArg Value.bool (by first | (exfalso; simp at *; done) | (exfalso; simp at *; omega) | (simp at *; omega) | (rw [Bool.eq_iff_iff]; simp at *; omega)))) Kn.nil)))
        · exact HLe.refl _
    refine awp_cond rfl (fun h => ?_) (fun h => ?_)
    · have h' : s.a ≤ t.b + 1 := by simpa using h
      rw [if_pos h'] at hj

      refine awf_seq_region _ [(0, true), (1, true), (2, true), (3, true), (4, true), (5, true), (6, true), (7, true), (8, true), (9, true), (10, true), (11, true)] 12 rfl mixed (by kernel_rfl) (HLe.pick [0, 1] (by simp) (by simp only [pick, List.filterMap_cons, List.filterMap_nil, List.getElem?_cons_succ, List.getElem?_cons_zero]; rfl)) (fun Z hZ => ?_)
      refine tw_p rfl ?_
      refine sv_move rfl rfl ?_
      refine sv_nil ?_
      refine tw_p rfl ?_
      refine sv_move rfl rfl ?_
      refine sv_nil ?_
      refine tw_p rfl ?_
      refine sv_move rfl rfl ?_
      refine sv_nil ?_
      refine tw_p rfl ?_
      refine sv_move rfl rfl ?_
      refine sv_nil ?_
      refine tw_p rfl ?_
      refine sv_indexAddr (0 + m * 2) Try.underlying24 tyS43 rfl rfl (by omega) (by simp) rfl ?_
      refine sv_nil ?_
      refine tw_p rfl ?_
      refine sv_fieldAddr rfl tyF43_1 (by first | (simp only [Nat.reduceAdd, Nat.add_zero, Nat.zero_add]; first | done | rfl) | rfl) rfl ?_
      refine sv_nil ?_
      refine tw_p rfl ?_
      refine sv_loadRd (m * 2 + 1) rfl (by omega) (fun w hw => rd_row (i := 1) rfl hw) h0 tyA36 tyS36 (scells_b ht) rfl ?_
      refine sv_nil ?_
      refine tw_p rfl ?_
      refine sv_fieldAddr rfl tyF43_1 (by first | (simp only [Nat.reduceAdd, Nat.add_zero, Nat.zero_add]; first | done | rfl) | rfl) rfl ?_
      refine sv_nil ?_
      refine tw_p rfl ?_
      refine sv_load 0 rfl rfl tyA36 tyS36 rfl rfl ?_
      refine sv_nil ?_
      refine tw_p rfl ?_
      refine sv_max rfl rfl ((max t.b s.b : Nat) : Int) (by omega) rfl ?_
      refine sv_nil ?_
      refine tw_p rfl ?_
      refine sv_indexAddr (0 + m * 2) Try.underlying24 tyS43 rfl rfl (by omega) (by simp) rfl ?_
      refine sv_nil ?_
      refine tw_p rfl ?_
      refine sv_fieldAddr rfl tyF43_1 (by first | (simp only [Nat.reduceAdd, Nat.add_zero, Nat.zero_add]; first | done | rfl) | rfl) rfl ?_
      refine sv_nil ?_
      refine tw_nil ?_
      refine sx_storeRw (o := m * 2 + 1) (ys := scells (L.set m { t with b := max t.b s.b })) 1 rfl rfl rfl tyS36 rfl (by omega) (scells_setb ht _) rfl ?_
      refine sx_nil (hZ _ _ ?_)
      refine awp_forget [(0, _)] (Kn.cons rfl (Kn.nil)) ?_
      refine awp_seq_region (fun Z hZ => ?_)
      refine sx_move rfl rfl ?_
      refine sx_assign rfl rfl ?_
      refine sx_nil (hZ _ _ ?_)
      refine awp_forget [(4, _)] (Kn.cons rfl (Kn.nil)) ?_
      refine awp_ret ?_
      repeat (with_reducible refine nx_then_ret ?_)
      rw [hj, List.length_set]
      exact nx_ret1h _ rfl rfl (HLe.drop 1 rfl) ⟨hu, rfl⟩
    have h' : ¬ s.a ≤ t.b + 1 := by simpa using h
    rw [if_neg h'] at hj
    refine awp_skip ?_
    with_reducible refine nx_normal ?_

    refine awp_seq_region (fun Z hZ => ?_)
    refine sx_move rfl rfl ?_
    refine sx_loadA 0 rfl rfl tyA43 tyS43 (by first | (simp only [List.length_cons, List.length_nil, Nat.reduceAdd, Nat.zero_add, Nat.add_zero]; first | done | rfl) | rfl) (by first | (simp only [List.take_succ_cons, List.take_zero, List.drop_succ_cons, List.drop_zero, List.cons_append, List.nil_append, List.append_nil, List.length_cons, List.length_nil, Nat.reduceAdd, Nat.zero_add, Nat.add_zero, Value.cells, wrV]; first | done | rfl) | rfl) rfl ?_
    refine sx_buildSlice Try.underlying24 tyS43 tyZ43 rfl rfl rfl rfl (by first | (simp only [List.take_succ_cons, List.take_zero, List.drop_succ_cons, List.drop_zero, List.cons_append, List.nil_append, List.append_nil, List.length_cons, List.length_nil, Nat.reduceAdd, Nat.zero_add, Nat.add_zero, Value.cells, wrV, zrep_one, List.replicate_succ, List.replicate_zero, Nat.reduceMul, Nat.zero_mul]; first | done | rfl) | rfl) rfl (fun g2 => ?_)
    refine sx_appendE (xs := scells L) (_ :: _ :: []) elemSp rfl hu (by rw [scells_len]) rfl (fun w hw => rd_own (i := 0) (xs := s.cells) rfl rfl hw) rfl (by show _ ≤ 9223372036854775807; omega) (by omega) (HLe.refl _) rfl (fun v2 hv2 => ?_)
    refine sx_assign rfl rfl ?_
    refine sx_nil (hZ _ _ ?_)
    refine awp_forget [(4, _)] (Kn.cons rfl (Kn.nil)) ?_
    refine awp_ret ?_
    rw [hj, List.length_append]
    refine nx_ret1h _ rfl rfl (HLe.drop 2 rfl) ⟨hv2, ?_⟩
    rw [scells_app]
    rfl
theorem joinQ_len (L : List Sp) (s : Sp) : (joinQ L s).length ≤ L.length + 1 := by
  unfold joinQ
  split
  · split
    · rw [List.length_set]; omega
    · rw [List.length_append]; exact Nat.le_refl _
  · rw [List.length_append]; exact Nat.le_refl _
theorem joinQ_sps {L : List Sp} {s : Sp} (h : SpsOk (s :: L)) : SpsOk (joinQ L s) := fun x hx => by
  have hs := h s List.mem_cons_self
  have hL : ∀ y ∈ L, y.a < 18446744073709551616 ∧ y.b < 18446744073709551616 := fun y hy => h y (List.mem_cons_of_mem _ hy)
  unfold joinQ at hx
  split at hx
  · rename_i t ht
    have htl := hL t (List.mem_of_getElem? ht)
    split at hx
    · rcases List.mem_or_eq_of_mem_set hx with hx | rfl
      · exact hL x hx
      · exact ⟨htl.1, by show max t.b s.b < _; omega⟩
    · rcases List.mem_append.1 hx with hx | hx
      · exact hL x hx
      · rw [List.mem_singleton.1 hx]; exact hs
  · rcases List.mem_append.1 hx with hx | hx
    · exact hL x hx
    · rw [List.mem_singleton.1 hx]; exact hs
theorem joinF_snoc {M : List Sp} {k : Nat} {x : Sp} (h : M[k]? = some x) : (M.take (k + 1)).foldl joinQ [] = joinQ ((M.take k).foldl joinQ []) x := by
  obtain ⟨hlt, rfl⟩ := List.getElem?_eq_some_iff.1 h
  rw [List.take_succ_eq_append_getElem hlt, List.foldl_append, List.foldl_cons, List.foldl_nil]
theorem joinF_ok {M : List Sp} (h : SpsOk M) : ∀ k, k ≤ M.length → ((M.take k).foldl joinQ []).length ≤ k ∧ SpsOk ((M.take k).foldl joinQ [])
  | 0, _ => ⟨Nat.le_refl _, fun x hx => by cases hx⟩
  | k + 1, hk => by
    have hx : M[k]? = some M[k] := List.getElem?_eq_getElem (by omega)
    obtain ⟨h1, h2⟩ := joinF_ok h k (by omega)
    rw [joinF_snoc hx]
    have h3 := joinQ_len ((M.take k).foldl joinQ []) M[k]
    refine ⟨by omega, joinQ_sps fun x hx => ?_⟩
    rcases List.mem_cons.1 hx with rfl | hx
    · exact h _ (List.getElem_mem _)
    · exact h2 x hx
theorem SpsOk.app {L M : List Sp} (h : SpsOk L) (k : SpsOk M) : SpsOk (L ++ M) := fun s hs => (List.mem_append.1 hs).elim (h s) (k s)
theorem union_fn (A B : Option Addr) (c c2 : Nat) (L M : List Sp) (hA : SlIn A L.length c) (hB : SlIn B M.length c2) (hL : L.length ≤ 60000) (hM : M.length ≤ 40000) (hoL : SpsOk L) (hoM : SpsOk M) :
    Fn Try.prog 42 [.slice A L.length c, .slice B M.length c2] (roE A (scells L) ++ roE B (scells M)) fun v H' => RowOk v (unQ L M).length ∧ H' = rowE v 43 2 (scells (unQ L M)) := by
  have hps : ∀ p ∈ ([(A, c, L), (B, c2, M)] : List Sc), ScOk (roE A (scells L) ++ roE B (scells M)) p := fun p hp => by
    simp only [List.mem_cons, List.not_mem_nil, or_false] at hp
    rcases hp with rfl | rfl
    · exact fun w0 Wr w hw => rd_roE hA.ok (fun x hx => List.mem_append_left _ hx) (by rw [scells_len]) hw
    · exact fun w0 Wr w hw => rd_roE hB.ok (fun x hx => List.mem_append_right _ hx) (by rw [scells_len]) hw
  have hro : Ro (roE A (scells L) ++ roE B (scells M)) := (Ro.roE _ _).append (Ro.roE _ _)
  have hro2 : ∀ g o xs, Ro (.ro g o xs :: (roE A (scells L) ++ roE B (scells M))) := fun g o xs e he => by
    rcases List.mem_cons.1 he with rfl | he
    · rfl
    · exact hro e he
  have hall : scAll [(A, c, L), (B, c2, M)] = L ++ M := by simp [scAll]
  refine Fn.enter (N := 27) Try.func42 rfl (by kernel_rfl) rfl (fun w0 => ?_)

  refine awp_seq_region (fun Z hZ => ?_)
  refine sx_assign rfl rfl ?_
  refine sx_nil (hZ _ _ ?_)
  refine awp_forget [(0, _), (1, _)] (Kn.cons rfl (Kn.cons rfl (Kn.nil))) ?_
  refine awp_seq_region (fun Z hZ => ?_)
  refine sx_move rfl rfl ?_
  refine sx_move rfl rfl ?_
  refine sx_buildSlice Try.underlying40 tyS24 tyZ24 rfl rfl rfl rfl (by first | (simp only [List.take_succ_cons, List.take_zero, List.drop_succ_cons, List.drop_zero, List.cons_append, List.nil_append, List.append_nil, List.length_cons, List.length_nil, Nat.reduceAdd, Nat.zero_add, Nat.add_zero, Value.cells, wrV, zrep_one, List.replicate_succ, List.replicate_zero, Nat.reduceMul, Nat.zero_mul]; first | done | rfl) | rfl) rfl (fun g1 => ?_)
  refine sx_callVU (.ro g1 0 [.slice A L.length c, .slice B M.length c2] :: (roE A (scells L) ++ roE B (scells M))) (sconcat_fn g1 [(A, c, L), (B, c2, M)] _ hps hro (by simp) (by rw [hall, List.length_append]; omega)) rfl (own_ro _) (hro2 _ _ _) rfl ?_
  rintro v H' ⟨hv, rfl⟩
  rw [hall] at hv ⊢
  rw [rowE_flt]
  refine sx_callO (rowE v 43 2 (scells (L ++ M))) [] (sdel_fn v (L ++ M) 77 _ hv u1_tells (by rw [List.length_append]; omega)) rfl (by rw [List.append_nil]; exact HLe.sub (List.sublist_append_left _ _)) rfl ?_
  rintro v2 H2 ⟨hv2, rfl⟩
  rw [rowE_flt, List.append_nil]
  refine sx_assign rfl rfl ?_
  refine sx_nil (hZ _ _ ?_)
  refine awp_forget [(5, _)] (Kn.cons rfl (Kn.nil)) ?_
  obtain ⟨F, hF⟩ : ∃ F, ((L ++ M).filter fun s => !decide (s.b < s.a)) = F := ⟨_, rfl⟩
  rw [hF] at hv2 ⊢
  have hFs : (L ++ M).filter (fun s => decide (s.a ≤ s.b)) = F := by
    rw [← hF]
    congr 1
    funext s
    rw [Bool.eq_iff_iff]
    simp
  have hFl : F.length ≤ 100000 := by
    have := List.length_filter_le (fun s : Sp => !decide (s.b < s.a)) (L ++ M)
    rw [hF, List.length_append] at this
    omega
  have hFo : SpsOk F := fun s hs => by
    rw [← hF] at hs
    exact (hoL.app hoM) s (List.mem_filter.1 hs).1
  refine awp_seq_region (fun Z hZ => ?_)
  refine sx_move rfl rfl ?_
  refine sx_callO (rowE v2 43 2 (scells F)) [] (ssortR_fn u2_cmp v2 F hv2 (by omega)) rfl (by rw [List.append_nil]; exact HLe.refl _) rfl ?_
  rintro v' H' ⟨rfl, G, hp, hs, rfl⟩
  rw [rowE_flt, List.append_nil]
  refine sx_nil (hZ _ _ ?_)
  refine awp_forget [(5, _)] (Kn.cons rfl (Kn.nil)) ?_
  have hun : G.foldl joinQ [] = unQ L M := un_eq (by rw [hFs]; exact hp) hs
  have hGl := hp.length_eq
  have hGo : SpsOk G := fun s hm => hFo s (hp.mem_iff.1 hm)
  rw [← hGl] at hv2
  obtain ⟨A2, c3, rfl, hA2, hle2⟩ := hv2.ro
  have hv20 := hv2
  refine awp_seq_region (fun Z hZ => ?_)
  refine sx_assign rfl rfl ?_
  refine sx_nil (hZ _ _ ?_)
  refine awp_forget [(5, _), (6, _)] (Kn.cons rfl (Kn.cons rfl (Kn.nil))) ?_
  refine awp_seq ?_
  refine awp_seq_region (fun Z hZ => ?_)
  refine sx_move rfl rfl ?_
  refine sx_len Try.underlying24 rfl rfl ?_
  refine sx_move rfl rfl ?_
  refine sx_nil (hZ _ _ ?_)
  refine awp_forget [(6, _), (16, _), (17, _), (18, _)] (Kn.cons rfl (Kn.cons rfl (Kn.cons rfl (Kn.cons rfl (Kn.nil))))) ?_
  refine awp_block ?_
  refine awp_heap (roE A2 (scells G)) (row_view hle2 [] _ _ _) ?_
  refine awp_loop (ι := Nat × Value) (fun i => [(6, i.2), (16, .slice A2 G.length c3), (17, iq (G.length : Nat)), (18, iq (i.1 : Nat))]) (fun i => roE A2 (scells G) ++ rowE i.2 43 2 (scells ((G.take i.1).foldl joinQ [])))
    (fun i => i.1 ≤ G.length ∧ RowOk i.2 ((G.take i.1).foldl joinQ []).length) (fun i => G.length - i.1) (0, .slice none 0 0) ⟨by simp, RowOk.nil⟩ (Kn.cons rfl (Kn.cons rfl (Kn.cons rfl (Kn.cons rfl Kn.nil)))) (by simp [rowE]; exact HLe.refl _) ?_
  rintro ⟨i, v⟩ ⟨hi, hv⟩
  simp only at hi hv
  refine awp_seq_region (fun Z hZ => ?_)
  refine sx_lss rfl rfl rfl ?_
  refine sx_nil (hZ _ _ ?_)
  refine awp_forget [(6, _), (16, _), (17, _), (18, _), (19, _)] (Kn.cons rfl (Kn.cons rfl (Kn.cons rfl (Kn.cons rfl (Kn.cons rfl (Kn.nil)))))) ?_
  refine awp_seq (awp_cond rfl (fun h => ?_) (fun h => ?_))
  · have hlt : i < G.length := by simpa using h
    obtain ⟨x, hx⟩ : ∃ x, G[i]? = some x := ⟨_, List.getElem?_eq_getElem hlt⟩
    have hsn := joinF_snoc hx
    obtain ⟨hq1, hq2⟩ := joinF_ok hGo i hi
    obtain ⟨X, hX⟩ : ∃ X, (G.take i).foldl joinQ [] = X := ⟨_, rfl⟩
    have hxo : SpsOk (x :: (G.take i).foldl joinQ []) := fun y hy => by
      rcases List.mem_cons.1 hy with rfl | hy
      · exact hGo _ (List.mem_of_getElem? hx)
      · exact hq2 y hy
    rw [hX] at hsn hq1 hq2 hv hxo ⊢
    obtain ⟨g, o, rfl⟩ := hA2.some (by omega)
    refine awp_heap (.ro g o (scells G) :: rowE v 43 2 (scells X)) (HLe.refl _) ?_
    refine awp_skip ?_
    with_reducible refine nx_normal ?_
    refine awp_seq (awp_block ?_)

    refine awp_seq_region (fun Z hZ => ?_)
    refine sx_indexAddr (o + i * 2) Try.underlying24 tyS43 rfl rfl (by omega) (by simp) rfl ?_
    refine sx_loadRo 0 rfl rfl (i * 2) rfl tyA43 tyS43 (scells_all hx) rfl ?_
    refine sx_alloc tyZ43 rfl (fun g2 => ?_)
    refine sx_store 0 rfl rfl rfl tyS43 (by first | (simp only [Value.cells]; first | done | rfl) | rfl) rfl rfl (by first | (simp only [List.length_cons, List.length_nil, Nat.reduceAdd, Nat.zero_add, Nat.add_zero]; first | done | rfl) | rfl) (by first | (simp only [List.take_succ_cons, List.take_zero, List.drop_succ_cons, List.drop_zero, List.cons_append, List.nil_append, List.append_nil, List.length_cons, List.length_nil, Nat.reduceAdd, Nat.zero_add, Nat.add_zero, Value.cells, wrV]; first | done | rfl) | rfl) (by first | (simp only [List.set_cons_succ, List.set_cons_zero]; first | done | rfl) | rfl) ?_
    refine sx_nil (hZ _ _ ?_)
    refine awp_forget [(6, _), (8, _), (16, _), (17, _), (18, _)] (Kn.cons rfl (Kn.cons rfl (Kn.cons rfl (Kn.cons rfl (Kn.cons rfl (Kn.nil)))))) ?_

    refine awp_region (fun Z hZ => ?_)
    refine sx_move rfl rfl ?_
    refine sx_loadA 0 rfl rfl tyA43 tyS43 (by first | (simp only [List.length_cons, List.length_nil, Nat.reduceAdd, Nat.zero_add, Nat.add_zero]; first | done | rfl) | rfl) (by first | (simp only [List.take_succ_cons, List.take_zero, List.drop_succ_cons, List.drop_zero, List.cons_append, List.nil_append, List.append_nil, List.length_cons, List.length_nil, Nat.reduceAdd, Nat.zero_add, Nat.add_zero, Value.cells, wrV]; first | done | rfl) | rfl) rfl ?_
    refine sx_callO (rowE v 43 2 (scells X)) [.ro g o (scells G)] (join_fn v X x hv (by omega) hxo) rfl ((HLe.swap [_] _).trans (HLe.drop 1 rfl)) rfl ?_
    rintro v' H' ⟨hv', rfl⟩
    rw [rowE_flt]
    refine sx_assign rfl rfl ?_
    refine sx_nil (hZ _ _ ?_)
    refine nx_forget [(6, _), (16, _), (17, _), (18, _)] (Kn.cons rfl (Kn.cons rfl (Kn.cons rfl (Kn.cons rfl (Kn.nil))))) ?_
    repeat (with_reducible refine nx_block_normal ?_)
    with_reducible refine nx_normal ?_
    refine awp_region (fun Z hZ => ?_)
    refine sx_add rfl rfl ((i + 1 : Nat) : Int) (by rw [IntWalk.i64_in _ (by omega)]; omega) rfl ?_
    refine sx_move rfl rfl ?_
    refine sx_nil (hZ _ _ ?_)
    refine nx_forget [(6, _), (16, _), (17, _), (18, _)] (Kn.cons rfl (Kn.cons rfl (Kn.cons rfl (Kn.cons rfl (Kn.nil))))) ?_
    refine nx_round (i + 1, v') ⟨hlt, by rw [hsn]; exact hv'⟩ (by simp; omega) (Kn.cons rfl (Kn.cons rfl (Kn.cons rfl (Kn.cons rfl Kn.nil)))) ?_
    simp only
    rw [hsn]
    exact HLe.swap _ _
  · refine awp_exit ?_
    repeat (with_reducible refine nx_then_exit ?_)
    with_reducible refine nx_block_exit ?_
    with_reducible refine nx_normal ?_
    have hke : i = G.length := by simp at h; omega
    subst hke
    rw [List.take_length, hun] at hv ⊢
    refine awp_seq_region (fun Z hZ => ?_)
    refine sx_move rfl rfl ?_
    refine sx_assign rfl rfl ?_
    refine sx_nil (hZ _ _ ?_)
    refine awp_forget [(4, _)] (Kn.cons rfl (Kn.nil)) ?_
    refine awp_ret ?_
    exact nx_ret1h _ rfl rfl (HLe.sub (List.sublist_append_right _ _)) ⟨hv, rfl⟩
end Go.Proofs.Ytbldhokgbcljjaa
