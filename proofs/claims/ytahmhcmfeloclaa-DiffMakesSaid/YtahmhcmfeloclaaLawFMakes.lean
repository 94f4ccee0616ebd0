/- DiffMakes. No conditions. -/
import Derived.Test.YtahmhcmfeloclaaDf12
namespace Go.Proofs.Ytahmhcmfeloclaa
open Go.RowKit
set_option linter.unusedVariables false
set_option linter.unusedSimpArgs false
set_option maxRecDepth 100000
theorem put_le {O : List It} (h : ChOk O) (k : Nat) (s : List UInt8) : (putQ k s O).length ≤ O.length + 1 := by
  unfold putQ
  split
  · rw [put_len h.rise]; split <;> omega
  · omega
theorem own_len (L : List It) : (ownQ L).length ≤ L.length := by
  have h : ∀ (L acc : List It), ChOk acc → (L.foldl (fun acc e => putQ e.id e.tx acc) acc).length ≤ acc.length + L.length := by
    intro L
    induction L with
    | nil => exact fun _ _ => Nat.le_refl _
    | cons e r ih =>
      intro acc h
      have h1 := ih _ (h.putQ e.id e.tx)
      have h2 := put_le h e.id e.tx
      rw [List.foldl_cons, List.length_cons]
      omega
  have := h L [] ChOk.nil
  simpa [ownQ] using this
theorem fmakes_fn (A : Option Addr) (c : Nat) (L : List It) (T : Heap) (hA : ArgOk A L.length) (hT : 0 < L.length → T = roE A (icells L)) (hro : Ro T) (hL : L.length ≤ maxLen) (hE : ItsTx L)
    (B : Option Addr) (d : Nat) (M : List It) (U : Heap) (hB : ArgOk B M.length) (hU : 0 < M.length → U = roE B (icells M)) (hroU : Ro U) (hM : M.length ≤ maxLen) (hF : ItsTx M) :
    Fn Try.prog 4 [.slice A L.length c, .slice B M.length d] (T ++ U) fun v _ => v = .bool true := by
  have o1 := over_fn A c L T hA hT hro hL hE 60 3000 (by decide) (by decide)
  have o2 := over_fn B d M U hB hU hroU hM hF 60 3000 (by decide) (by decide)
  refine Fn.enter (N := 155) Try.func4 rfl (by kernel_rfl) rfl (fun w0 => ?_)

  refine awp_seq_region (fun Z hZ => ?_)
  refine sx_assign rfl rfl ?_
  refine sx_nil (hZ _ _ ?_)
  refine awp_forget [(0, _), (1, _)] (Kn.cons rfl (Kn.cons rfl (Kn.nil))) ?_
  by_cases hov : (3000 < cBytes L ∨ 60 < L.length) ∨ (3000 < cBytes M ∨ 60 < M.length)
  · refine awp_seq ?_
    refine awp_seq_meet [(24, .bool true)] [] (fun Z hZ => ?_) ?_
    · refine sx_move rfl rfl ?_
      refine sx_callPT T o1 rfl (by repeat (first | exact List.Sublist.refl _ | exact List.nil_sublist _ | exact List.sublist_append_right _ _ | refine List.Sublist.trans ?_ (List.sublist_append_left _ _) | exact List.Sublist.cons_cons _ (List.nil_sublist _) | refine List.Sublist.cons _ ?_)) hro rfl ?_
      refine sx_move rfl rfl ?_
      refine sx_split 21 rfl (fun hb2 => ?_) (fun hb2 => ?_)
      · refine sx_off rfl rfl rfl rfl rfl ?_
        refine sx_off rfl rfl rfl rfl rfl ?_
        refine sx_pick rfl rfl rfl ?_
        refine sx_nil (hZ _ _ ?_ ?_)
        · exact Kn.cons (congrArg some (congrArg Value.bool (by first | (simp at *; done) | (simp at *; omega)))) Kn.nil
        · exact HLe.sub (List.nil_sublist _)
      · refine sx_on rfl rfl rfl ?_
        refine sx_move rfl rfl ?_
        refine sx_on rfl rfl rfl ?_
        refine sx_callPT U o2 rfl (by repeat (first | exact List.Sublist.refl _ | exact List.nil_sublist _ | exact List.sublist_append_right _ _ | refine List.Sublist.trans ?_ (List.sublist_append_left _ _) | exact List.Sublist.cons_cons _ (List.nil_sublist _) | refine List.Sublist.cons _ ?_)) hroU rfl ?_
        refine sx_pick rfl rfl rfl ?_
        refine sx_nil (hZ _ _ ?_ ?_)
        · exact Kn.cons (congrArg some (congrArg Value.bool (by first | (simp at *; done) | (simp at *; omega)))) Kn.nil
        · exact HLe.sub (List.nil_sublist _)
    first | refine awp_cond rfl (fun h => ?_) (fun h => ?_) | refine awp_seq (awp_cond rfl (fun h => ?_) (fun h => ?_))
    · refine awp_seq_region (fun Z hZ => ?_)
      refine sx_callP gawake_fn rfl rfl ?_
      refine sx_assign rfl rfl ?_
      refine sx_nil (hZ _ _ ?_)
      refine awp_forget [(4, _)] (Kn.cons rfl (Kn.nil)) ?_
      refine awp_ret ?_
      repeat (with_reducible (first | refine nx_then_ret ?_ | refine nx_block_ret ?_ | refine nx_scope_ret ?_))
      exact nx_ret1 rfl rfl rfl
    · cases h
  have n1 : cBytes L ≤ 3000 ∧ L.length ≤ 60 := by omega
  have n2 : cBytes M ≤ 3000 ∧ M.length ≤ 60 := by omega
  refine awp_seq ?_
  refine awp_seq_meet [(0, .slice A L.length c), (1, .slice B M.length d), (24, .bool false)] (T ++ U) (fun Z hZ => ?_) ?_
  · refine sx_move rfl rfl ?_
    refine sx_callPT T o1 rfl (by repeat (first | exact List.Sublist.refl _ | exact List.nil_sublist _ | exact List.sublist_append_right _ _ | refine List.Sublist.trans ?_ (List.sublist_append_left _ _) | exact List.Sublist.cons_cons _ (List.nil_sublist _) | refine List.Sublist.cons _ ?_)) hro rfl ?_
    refine sx_move rfl rfl ?_
    refine sx_split 21 rfl (fun hb2 => ?_) (fun hb2 => ?_)
    · refine sx_off rfl rfl rfl rfl rfl ?_
      refine sx_off rfl rfl rfl rfl rfl ?_
      refine sx_pick rfl rfl rfl ?_
      refine sx_nil (hZ _ _ ?_ ?_)
      · exact Kn.cons rfl (Kn.cons rfl (Kn.cons (congrArg some (congrArg Value.bool (by first | (simp at *; done) | (simp at *; omega)))) Kn.nil))
      · exact HLe.refl _
    · refine sx_on rfl rfl rfl ?_
      refine sx_move rfl rfl ?_
      refine sx_on rfl rfl rfl ?_
      refine sx_callPT U o2 rfl (by repeat (first | exact List.Sublist.refl _ | exact List.nil_sublist _ | exact List.sublist_append_right _ _ | refine List.Sublist.trans ?_ (List.sublist_append_left _ _) | exact List.Sublist.cons_cons _ (List.nil_sublist _) | refine List.Sublist.cons _ ?_)) hroU rfl ?_
      refine sx_pick rfl rfl rfl ?_
      refine sx_nil (hZ _ _ ?_ ?_)
      · exact Kn.cons rfl (Kn.cons rfl (Kn.cons (congrArg some (congrArg Value.bool (by first | (simp at *; done) | (simp at *; omega)))) Kn.nil))
      · exact HLe.refl _
  first | refine awp_cond rfl (fun h => ?_) (fun h => ?_) | refine awp_seq (awp_cond rfl (fun h => ?_) (fun h => ?_))
  · cases h
  refine awp_skip ?_
  repeat (with_reducible (first | refine nx_block_normal ?_ | refine nx_scope_normal ?_))
  with_reducible first | refine nx_normal ?_ | refine nx_normalM ?_
  have hok1 := ownQ_ok L
  have hok2 := ownQ_ok M
  have hql1 : (ownQ L).length ≤ 60 := Nat.le_trans (own_len L) n1.2
  have hql2 : (ownQ M).length ≤ 60 := Nat.le_trans (own_len M) n2.2
  refine awp_seq_region (fun Z hZ => ?_)
  refine sx_move rfl rfl ?_
  refine sx_ownE L T hA hT hro (by repeat (first | exact List.Sublist.refl _ | exact List.nil_sublist _ | exact List.sublist_append_right _ _ | refine List.Sublist.trans ?_ (List.sublist_append_left _ _) | exact List.Sublist.cons_cons _ (List.nil_sublist _) | refine List.Sublist.cons _ ?_)) (by omega) rfl rfl (fun A1 c1 A2 c2 hA1 hA2 => ?_)
  refine sx_move rfl rfl ?_
  refine sx_extract rfl rfl rfl ?_
  refine sx_extract rfl rfl rfl ?_
  refine sx_alloc tyZ29 rfl (fun g1 => ?_)
  first | refine sx_store 0 rfl rfl rfl tyS29 (by first | (simp only [Value.cells]; first | done | rfl) | rfl) rfl rfl (by first | (simp only [List.length_cons, List.length_nil, Nat.reduceAdd, Nat.zero_add, Nat.add_zero]; first | done | rfl) | rfl) (by first | (simp only [List.take_succ_cons, List.take_zero, List.drop_succ_cons, List.drop_zero, List.cons_append, List.nil_append, List.append_nil, List.length_cons, List.length_nil, Nat.reduceAdd, Nat.zero_add, Nat.add_zero, Value.cells, wrV]; first | done | rfl) | rfl) (by first | (simp only [List.set_cons_succ, List.set_cons_zero]; first | done | rfl) | rfl) ?_
  refine sx_assign rfl rfl ?_
  refine sx_nil (hZ _ _ ?_)
  refine awp_forget [(1, _), (5, _)] (Kn.cons rfl (Kn.cons rfl (Kn.nil))) ?_

  refine awp_seq_region (fun Z hZ => ?_)
  refine sx_move rfl rfl ?_
  refine sx_ownE M U hB hU hroU (by repeat (first | exact List.Sublist.refl _ | exact List.nil_sublist _ | exact List.sublist_append_right _ _ | refine List.Sublist.trans ?_ (List.sublist_append_left _ _) | exact List.Sublist.cons_cons _ (List.nil_sublist _) | refine List.Sublist.cons _ ?_)) (by omega) rfl rfl (fun A3 c3 A4 c4 hA3 hA4 => ?_)
  refine sx_move rfl rfl ?_
  refine sx_extract rfl rfl rfl ?_
  refine sx_extract rfl rfl rfl ?_
  refine sx_alloc tyZ29 rfl (fun g2 => ?_)
  first | refine sx_store 0 rfl rfl rfl tyS29 (by first | (simp only [Value.cells]; first | done | rfl) | rfl) rfl rfl (by first | (simp only [List.length_cons, List.length_nil, Nat.reduceAdd, Nat.zero_add, Nat.add_zero]; first | done | rfl) | rfl) (by first | (simp only [List.take_succ_cons, List.take_zero, List.drop_succ_cons, List.drop_zero, List.cons_append, List.nil_append, List.append_nil, List.length_cons, List.length_nil, Nat.reduceAdd, Nat.zero_add, Nat.add_zero, Value.cells, wrV]; first | done | rfl) | rfl) (by first | (simp only [List.set_cons_succ, List.set_cons_zero]; first | done | rfl) | rfl) ?_ | refine sx_store 1 rfl rfl rfl tyS29 (by first | (simp only [Value.cells]; first | done | rfl) | rfl) rfl rfl (by first | (simp only [List.length_cons, List.length_nil, Nat.reduceAdd, Nat.zero_add, Nat.add_zero]; first | done | rfl) | rfl) (by first | (simp only [List.take_succ_cons, List.take_zero, List.drop_succ_cons, List.drop_zero, List.cons_append, List.nil_append, List.append_nil, List.length_cons, List.length_nil, Nat.reduceAdd, Nat.zero_add, Nat.add_zero, Value.cells, wrV]; first | done | rfl) | rfl) (by first | (simp only [List.set_cons_succ, List.set_cons_zero]; first | done | rfl) | rfl) ?_
  refine sx_assign rfl rfl ?_
  refine sx_nil (hZ _ _ ?_)
  refine awp_forget [(5, _), (7, _)] (Kn.cons rfl (Kn.cons rfl (Kn.nil))) ?_
  obtain ⟨O, hO⟩ : ∃ O, ownQ L = O := ⟨_, rfl⟩
  obtain ⟨Q, hQ⟩ : ∃ Q, ownQ M = Q := ⟨_, rfl⟩
  rw [hO] at hok1 hA1 hA2 hql1 ⊢
  rw [hQ] at hok2 hA3 hA4 hql2 ⊢
  have hbl := bet_len O Q
  have hbl2 := bet_len Q O
  obtain ⟨b1, b2⟩ := bet_mem hok1 hok2
  have hturn := turn_bet hok1 hok2
  obtain ⟨f1, f2⟩ := app_bet hok1 hok2 (by omega)
  obtain ⟨f3, f4⟩ := app_bet hok2 hok1 (by omega)
  have hnil := bet_nil hok1 hok2
  refine awp_heap (.own g2 29 [.slice A3 Q.length c3] :: .own g1 29 [.slice A1 O.length c1] :: (roE A1 (icells O) ++ roE A3 (icells Q))) (HLe.sub (.cons_cons _ (.cons_cons _ ((List.Sublist.append ((List.sublist_append_right (T ++ U) _).trans (List.sublist_append_left _ _)) (List.Sublist.refl _)).trans (List.sublist_append_left _ _))))) ?_

  refine awp_seq_region (fun Z hZ => ?_)
  first | refine sx_loadA 0 rfl rfl tyA29 tyS29 (by first | (simp only [List.length_cons, List.length_nil, Nat.reduceAdd, Nat.zero_add, Nat.add_zero]; first | done | rfl) | rfl) (by first | (simp only [List.take_succ_cons, List.take_zero, List.drop_succ_cons, List.drop_zero, List.cons_append, List.nil_append, List.append_nil, List.length_cons, List.length_nil, Nat.reduceAdd, Nat.zero_add, Nat.add_zero, Value.cells, wrV]; first | done | rfl) | rfl) rfl ?_ | refine sx_loadA 1 rfl rfl tyA29 tyS29 (by first | (simp only [List.length_cons, List.length_nil, Nat.reduceAdd, Nat.zero_add, Nat.add_zero]; first | done | rfl) | rfl) (by first | (simp only [List.take_succ_cons, List.take_zero, List.drop_succ_cons, List.drop_zero, List.cons_append, List.nil_append, List.append_nil, List.length_cons, List.length_nil, Nat.reduceAdd, Nat.zero_add, Nat.add_zero, Value.cells, wrV]; first | done | rfl) | rfl) rfl ?_
  first | refine sx_loadA 0 rfl rfl tyA29 tyS29 (by first | (simp only [List.length_cons, List.length_nil, Nat.reduceAdd, Nat.zero_add, Nat.add_zero]; first | done | rfl) | rfl) (by first | (simp only [List.take_succ_cons, List.take_zero, List.drop_succ_cons, List.drop_zero, List.cons_append, List.nil_append, List.append_nil, List.length_cons, List.length_nil, Nat.reduceAdd, Nat.zero_add, Nat.add_zero, Value.cells, wrV]; first | done | rfl) | rfl) rfl ?_ | refine sx_loadA 1 rfl rfl tyA29 tyS29 (by first | (simp only [List.length_cons, List.length_nil, Nat.reduceAdd, Nat.zero_add, Nat.add_zero]; first | done | rfl) | rfl) (by first | (simp only [List.take_succ_cons, List.take_zero, List.drop_succ_cons, List.drop_zero, List.cons_append, List.nil_append, List.append_nil, List.length_cons, List.length_nil, Nat.reduceAdd, Nat.zero_add, Nat.add_zero, Value.cells, wrV]; first | done | rfl) | rfl) rfl ?_
  refine sx_betE O Q hA1 hA3 (by repeat (first | exact List.Sublist.refl _ | exact List.nil_sublist _ | exact List.sublist_append_right _ _ | refine List.Sublist.trans ?_ (List.sublist_append_left _ _) | exact List.Sublist.cons_cons _ (List.nil_sublist _) | refine List.Sublist.cons _ ?_)) (by repeat (first | exact List.Sublist.refl _ | exact List.nil_sublist _ | exact List.sublist_append_right _ _ | refine List.Sublist.trans ?_ (List.sublist_append_left _ _) | exact List.Sublist.cons_cons _ (List.nil_sublist _) | refine List.Sublist.cons _ ?_)) (by omega) (by omega) rfl rfl (fun A5 c5 hA5 => ?_)
  refine sx_assign rfl rfl ?_
  refine sx_nil (hZ _ _ ?_)
  refine awp_forget [(5, _), (7, _), (9, _)] (Kn.cons rfl (Kn.cons rfl (Kn.cons rfl (Kn.nil)))) ?_
  obtain ⟨D, hD⟩ : ∃ D, betQ O Q = D := ⟨_, rfl⟩
  have hdt := hturn
  rw [hD] at hbl b1 b2 f1 f2 hnil hA5 hdt ⊢
  rw [← hdt] at f3 f4
  have hF : ((D.length : Int) == 0) = sameI O Q := by
    rw [Bool.eq_iff_iff]
    simp
    exact hnil.trans sameI_iff.symm
  have htl := turn_len D
  refine awp_cut (ι := Unit) (fun _ => [(5, ptr g1 0), (7, ptr g2 0), (9, .slice A5 D.length c5)]) (fun _ => .own g2 29 [.slice A3 Q.length c3] :: .own g1 29 [.slice A1 O.length c1] :: ((roE A1 (icells O) ++ roE A3 (icells Q)) ++ roE A5 (gcells D))) (fun _ => True) ?_ ?_
  · refine awp_seq_region (fun Z hZ => ?_)
    refine sx_assign rfl rfl ?_
    refine sx_nil (hZ _ _ ?_)
    refine awp_forget [(5, _), (7, _), (9, _), (10, _)] (Kn.cons rfl (Kn.cons rfl (Kn.cons rfl (Kn.cons rfl (Kn.nil))))) ?_
    refine awp_block ?_
    refine awp_loop (ι := Nat) (fun i => [(5, ptr g1 0), (7, ptr g2 0), (9, .slice A5 D.length c5), (10, iq (i : Nat))]) (fun _ => .own g2 29 [.slice A3 Q.length c3] :: .own g1 29 [.slice A1 O.length c1] :: ((roE A1 (icells O) ++ roE A3 (icells Q)) ++ roE A5 (gcells D)))
      (fun i => i ≤ D.length) (fun i => D.length - i) 0 (by simp) (Kn.cons rfl (Kn.cons rfl (Kn.cons rfl (Kn.cons rfl Kn.nil)))) (HLe.refl _) ?_
    rintro i hi

    refine awp_seq ?_
    refine awp_seq_region (fun Z hZ => ?_)
    refine sx_move rfl rfl ?_
    refine sx_move rfl rfl ?_
    first | refine sx_len Try.underlying35 rfl rfl ?_ | refine sx_lenS Try.underlying35 rfl rfl ?_
    first | refine sx_lss rfl rfl rfl ?_ | refine sx_slss rfl rfl rfl ?_
    refine sx_nil (hZ _ _ ?_)
    refine awp_forget [(5, _), (7, _), (9, _), (10, _), (42, _)] (Kn.cons rfl (Kn.cons rfl (Kn.cons rfl (Kn.cons rfl (Kn.cons rfl (Kn.nil)))))) ?_
    first | refine awp_cond rfl (fun h => ?_) (fun h => ?_) | refine awp_seq (awp_cond rfl (fun h => ?_) (fun h => ?_))
    · have hlt : i < D.length := by simpa using h
      have hx := chAt_at hlt
      have hrise : ∀ j, j + 1 = i → (chAt D j).id < (chAt D i).id := fun j hj => by
        have := List.pairwise_iff_getElem.1 b1 j i (by omega) hlt (by omega)
        simpa [chAt, List.getElem?_eq_getElem hlt, List.getElem?_eq_getElem (show j < D.length by omega)] using this
      obtain ⟨x, hxe⟩ : ∃ x, chAt D i = x := ⟨_, rfl⟩
      rw [hxe] at hx hrise
      obtain ⟨x1, x2, x3⟩ := (b2 x).1 (List.mem_of_getElem? hx)
      obtain ⟨g, o, rfl⟩ := slIn_pos hA5 (by omega)
      refine awp_heap (.own g2 29 [.slice A3 Q.length c3] :: .own g1 29 [.slice A1 O.length c1] :: .ro g o (gcells D) :: (roE A1 (icells O) ++ roE A3 (icells Q))) (fun _ _ _ hw => hw.perm (List.Perm.cons _ (List.Perm.cons _ (List.perm_append_comm (l₂ := [_]))))) ?_
      refine awp_skip ?_
      repeat (with_reducible (first | refine nx_block_normal ?_ | refine nx_scope_normal ?_))
      with_reducible first | refine nx_normal ?_ | refine nx_normalM ?_
      refine awp_seq (awp_block ?_)

      refine aww_seq_region _ [(0, true), (1, true), (2, true), (3, true), (4, true), (5, true), (6, false), (7, true), (8, true), (9, true), (10, true), (11, true)] mixed (by kernel_rfl) (HLe.pick [1, 2] (by simp) (by simp only [pick, List.filterMap_cons, List.filterMap_nil, List.getElem?_cons_succ, List.getElem?_cons_zero]; rfl)) (fun Z hZ => ?_)
      refine tw_p rfl ?_
      first | refine sv_loadA 0 rfl rfl tyA29 tyS29 (by first | (simp only [List.length_cons, List.length_nil, Nat.reduceAdd, Nat.zero_add, Nat.add_zero]; first | done | rfl) | rfl) (by first | (simp only [List.take_succ_cons, List.take_zero, List.drop_succ_cons, List.drop_zero, List.cons_append, List.nil_append, List.append_nil, List.length_cons, List.length_nil, Nat.reduceAdd, Nat.zero_add, Nat.add_zero, Value.cells, wrV]; first | done | rfl) | rfl) rfl ?_ | refine sv_loadA 1 rfl rfl tyA29 tyS29 (by first | (simp only [List.length_cons, List.length_nil, Nat.reduceAdd, Nat.zero_add, Nat.add_zero]; first | done | rfl) | rfl) (by first | (simp only [List.take_succ_cons, List.take_zero, List.drop_succ_cons, List.drop_zero, List.cons_append, List.nil_append, List.append_nil, List.length_cons, List.length_nil, Nat.reduceAdd, Nat.zero_add, Nat.add_zero, Value.cells, wrV]; first | done | rfl) | rfl) rfl ?_
      refine sv_nil ?_
      refine tw_p rfl ?_
      refine sv_move rfl rfl ?_
      refine sv_nil ?_
      refine tw_p rfl ?_
      refine sv_move rfl rfl ?_
      refine sv_nil ?_
      refine tw_p rfl ?_
      refine sv_indexAddr (o + i * 3) Try.underlying35 tyS53 rfl rfl (by first | omega | (simp; omega)) (by simp) rfl ?_
      refine sv_nil ?_
      refine tw_p rfl ?_
      refine sv_fieldAddr rfl tyF53_0 (by first | (simp only [Nat.reduceAdd, Nat.add_zero, Nat.zero_add]; first | done | rfl) | rfl) rfl ?_
      refine sv_nil ?_
      refine tw_p rfl ?_
      refine sv_loadRo 1 rfl rfl (i * 3) rfl tyA51 tyS51 (gcells_id hx) rfl ?_
      refine sv_nil ?_
      refine tw_g rfl ?_
      refine sx_cget O x.id hA1 (by repeat (first | exact List.Sublist.refl _ | exact List.nil_sublist _ | exact List.sublist_append_right _ _ | refine List.Sublist.trans ?_ (List.sublist_append_left _ _) | exact List.Sublist.cons_cons _ (List.nil_sublist _) | refine List.Sublist.cons _ ?_)) hok1 rfl rfl ?_
      rw [x1]
      refine sx_nil ⟨HLe.pick [1, 2] (by simp) rfl, ?_⟩
      refine tw_p rfl ?_
      refine sv_move rfl rfl ?_
      refine sv_nil ?_
      refine tw_p rfl ?_
      refine sv_extract rfl rfl rfl ?_
      refine sv_nil ?_
      refine tw_p rfl ?_
      refine sv_extract rfl rfl rfl ?_
      refine sv_nil ?_
      refine tw_p rfl ?_
      refine sv_assign rfl rfl ?_
      refine sv_nil ?_
      refine tw_p rfl ?_
      refine sv_assign rfl rfl ?_
      refine sv_nil ?_
      refine tw_nil (hZ _ _ ?_)
      refine awp_forget [(5, _), (7, _), (9, _), (10, _), (11, _)] (Kn.cons rfl (Kn.cons rfl (Kn.cons rfl (Kn.cons rfl (Kn.cons rfl (Kn.nil)))))) ?_
      refine aww_seq_region _ [(0, true), (1, true), (2, true), (3, true), (4, true), (5, true), (6, false), (7, true), (8, true), (9, true), (10, true), (11, true)] mixed (by kernel_rfl) (HLe.pick [0, 2] (by simp) (by simp only [pick, List.filterMap_cons, List.filterMap_nil, List.getElem?_cons_succ, List.getElem?_cons_zero]; rfl)) (fun Z hZ => ?_)
      refine tw_p rfl ?_
      first | refine sv_loadA 0 rfl rfl tyA29 tyS29 (by first | (simp only [List.length_cons, List.length_nil, Nat.reduceAdd, Nat.zero_add, Nat.add_zero]; first | done | rfl) | rfl) (by first | (simp only [List.take_succ_cons, List.take_zero, List.drop_succ_cons, List.drop_zero, List.cons_append, List.nil_append, List.append_nil, List.length_cons, List.length_nil, Nat.reduceAdd, Nat.zero_add, Nat.add_zero, Value.cells, wrV]; first | done | rfl) | rfl) rfl ?_ | refine sv_loadA 1 rfl rfl tyA29 tyS29 (by first | (simp only [List.length_cons, List.length_nil, Nat.reduceAdd, Nat.zero_add, Nat.add_zero]; first | done | rfl) | rfl) (by first | (simp only [List.take_succ_cons, List.take_zero, List.drop_succ_cons, List.drop_zero, List.cons_append, List.nil_append, List.append_nil, List.length_cons, List.length_nil, Nat.reduceAdd, Nat.zero_add, Nat.add_zero, Value.cells, wrV]; first | done | rfl) | rfl) rfl ?_
      refine sv_nil ?_
      refine tw_p rfl ?_
      refine sv_move rfl rfl ?_
      refine sv_nil ?_
      refine tw_p rfl ?_
      refine sv_move rfl rfl ?_
      refine sv_nil ?_
      refine tw_p rfl ?_
      refine sv_indexAddr (o + i * 3) Try.underlying35 tyS53 rfl rfl (by first | omega | (simp; omega)) (by simp) rfl ?_
      refine sv_nil ?_
      refine tw_p rfl ?_
      refine sv_fieldAddr rfl tyF53_0 (by first | (simp only [Nat.reduceAdd, Nat.add_zero, Nat.zero_add]; first | done | rfl) | rfl) rfl ?_
      refine sv_nil ?_
      refine tw_p rfl ?_
      refine sv_loadRo 1 rfl rfl (i * 3) rfl tyA51 tyS51 (gcells_id hx) rfl ?_
      refine sv_nil ?_
      refine tw_g rfl ?_
      refine sx_cget Q x.id hA3 (by repeat (first | exact List.Sublist.refl _ | exact List.nil_sublist _ | exact List.sublist_append_right _ _ | refine List.Sublist.trans ?_ (List.sublist_append_left _ _) | exact List.Sublist.cons_cons _ (List.nil_sublist _) | refine List.Sublist.cons _ ?_)) hok2 rfl rfl ?_
      rw [x2]
      refine sx_nil ⟨HLe.pick [0, 2] (by simp) rfl, ?_⟩
      refine tw_p rfl ?_
      refine sv_move rfl rfl ?_
      refine sv_nil ?_
      refine tw_p rfl ?_
      refine sv_extract rfl rfl rfl ?_
      refine sv_nil ?_
      refine tw_p rfl ?_
      refine sv_extract rfl rfl rfl ?_
      refine sv_nil ?_
      refine tw_p rfl ?_
      refine sv_assign rfl rfl ?_
      refine sv_nil ?_
      refine tw_p rfl ?_
      refine sv_assign rfl rfl ?_
      refine sv_nil ?_
      refine tw_nil (hZ _ _ ?_)
      refine awp_forget [(5, _), (7, _), (9, _), (10, _), (11, _), (13, _)] (Kn.cons rfl (Kn.cons rfl (Kn.cons rfl (Kn.cons rfl (Kn.cons rfl (Kn.cons rfl (Kn.nil))))))) ?_
      rcases Nat.eq_zero_or_pos i with h0 | h0
      · refine awq_seq_meet [(5, ptr g1 0), (7, ptr g2 0), (9, .slice (some ⟨g, o, none⟩) D.length c5), (10, iq (i : Nat)), (103, .bool false)] (.own g2 29 [.slice A3 Q.length c3] :: .own g1 29 [.slice A1 O.length c1] :: .ro g o (gcells D) :: (roE A1 (icells O) ++ roE A3 (icells Q))) mixed (by kernel_rfl) (fun Z hZ => ?_) ?_
        · refine sq_move rfl rfl ?_
          refine sq_move rfl rfl ?_
          refine sq_move rfl rfl ?_
          refine sq_indexAddr (o + i * 3) Try.underlying35 tyS53 rfl rfl (by first | omega | (simp; omega)) (by simp) rfl ?_
          refine sq_fieldAddr rfl tyF53_1 (by first | (simp only [Nat.reduceAdd, Nat.add_zero, Nat.zero_add]; first | done | rfl) | rfl) rfl ?_
          refine sq_loadRo 2 rfl rfl (i * 3 + 1) rfl tyA9 tyS9 (gcells_old hx) rfl ?_
          first | refine sq_neq rfl rfl rfl ?_ | refine sq_sneq rfl rfl rfl ?_
          refine sq_move rfl rfl ?_
          refine sq_force 72 rfl false (by first | rfl | (simp; done) | (simp [x3]; done) | (simp; omega)) ?_
          refine sq_on rfl rfl rfl ?_
          refine sq_move rfl rfl ?_
          refine sq_on rfl rfl rfl ?_
          refine sq_move rfl rfl ?_
          refine sq_on rfl rfl rfl ?_
          refine sq_move rfl rfl ?_
          refine sq_on rfl rfl rfl ?_
          refine sq_indexAddr (o + i * 3) Try.underlying35 tyS53 rfl rfl (by first | omega | (simp; omega)) (by simp) rfl ?_
          refine sq_on rfl rfl rfl ?_
          refine sq_fieldAddr rfl tyF53_2 (by first | (simp only [Nat.reduceAdd, Nat.add_zero, Nat.zero_add]; first | done | rfl) | rfl) rfl ?_
          refine sq_on rfl rfl rfl ?_
          refine sq_loadRo 2 rfl rfl (i * 3 + 2) rfl tyA9 tyS9 (gcells_new hx) rfl ?_
          refine sq_on rfl rfl rfl ?_
          first | refine sq_neq rfl rfl rfl ?_ | refine sq_sneq rfl rfl rfl ?_
          refine sq_pick rfl rfl rfl ?_
          refine sq_move rfl rfl ?_
          refine sq_force 81 rfl false (by first | rfl | (simp; done) | (simp [x3]; done) | (simp; omega)) ?_
          refine sq_on rfl rfl rfl ?_
          refine sq_move rfl rfl ?_
          refine sq_on rfl rfl rfl ?_
          refine sq_move rfl rfl ?_
          refine sq_on rfl rfl rfl ?_
          first | refine sq_eql rfl rfl rfl ?_ | refine sq_seql rfl rfl rfl ?_
          refine sq_pick rfl rfl rfl ?_
          refine sq_move rfl rfl ?_
          refine sq_force 86 rfl false (by first | rfl | (simp; done) | (simp [x3]; done) | (simp; omega)) ?_
          refine sq_on rfl rfl rfl ?_
          refine sq_move rfl rfl ?_
          refine sq_on rfl rfl rfl ?_
          first | refine sq_gtr rfl rfl rfl ?_ | refine sq_sgtr rfl rfl rfl ?_
          refine sq_on rfl rfl rfl ?_
          refine sq_move rfl rfl ?_
          refine sq_force 89 rfl false (by simp; omega) ?_
          refine sq_off rfl rfl rfl rfl rfl ?_
          refine sq_off rfl rfl rfl rfl rfl ?_
          refine sq_off rfl rfl rfl rfl rfl ?_
          refine sq_off rfl rfl rfl rfl rfl ?_
          refine sq_off rfl rfl rfl rfl rfl ?_
          refine sq_off rfl rfl rfl rfl rfl ?_
          refine sq_off rfl rfl rfl rfl rfl ?_
          refine sq_off rfl rfl rfl rfl rfl ?_
          refine sq_off rfl rfl rfl rfl rfl ?_
          refine sq_off rfl rfl rfl rfl rfl ?_
          refine sq_off rfl rfl rfl rfl rfl ?_
          refine sq_off rfl rfl rfl rfl rfl ?_
          refine sq_on rfl rfl rfl ?_
          refine sq_pick rfl rfl rfl ?_
          refine sq_pick rfl rfl rfl ?_
          refine sq_nil (hZ _ _ ?_ ?_)
          · exact Kn.cons rfl (Kn.cons rfl (Kn.cons rfl (Kn.cons rfl (Kn.cons (congrArg some (congrArg Value.bool (by first | rfl | (simp; done) | (simp; omega)))) Kn.nil))))
          · exact HLe.refl _
        first | refine awp_cond rfl (fun h2 => ?_) (fun h2 => ?_) | refine awp_seq (awp_cond rfl (fun h2 => ?_) (fun h2 => ?_))
        · cases h2
        refine awp_skip ?_
        repeat (with_reducible (first | refine nx_block_normal ?_ | refine nx_scope_normal ?_))
        with_reducible first | refine nx_normal ?_ | refine nx_normalM ?_
        refine awp_region (fun Z hZ => ?_)
        refine sx_move rfl rfl ?_
        refine sx_add rfl rfl ((i + 1 : Nat) : Int) (by rw [IntWalk.i64_in _ (by omega)]; omega) rfl ?_
        refine sx_assign rfl rfl ?_
        refine sx_nil (hZ _ _ ?_)
        refine nx_forget [(5, _), (7, _), (9, _), (10, _)] (Kn.cons rfl (Kn.cons rfl (Kn.cons rfl (Kn.cons rfl (Kn.nil))))) ?_
        exact nx_round (i + 1) hlt (by omega) (Kn.cons rfl (Kn.cons rfl (Kn.cons rfl (Kn.cons rfl Kn.nil)))) (fun _ _ _ hw => hw.perm (List.Perm.cons _ (List.Perm.cons _ (List.perm_append_comm (l₁ := [_])))))
      · obtain ⟨j, hj⟩ : ∃ j, j + 1 = i := ⟨i - 1, by omega⟩
        have hy := chAt_at (L := D) (i := j) (by omega)
        have hlt2 := hrise j hj
        obtain ⟨y, hye⟩ : ∃ y, chAt D j = y := ⟨_, rfl⟩
        rw [hye] at hy hlt2
        refine awq_seq_meet [(5, ptr g1 0), (7, ptr g2 0), (9, .slice (some ⟨g, o, none⟩) D.length c5), (10, iq (i : Nat)), (103, .bool false)] (.own g2 29 [.slice A3 Q.length c3] :: .own g1 29 [.slice A1 O.length c1] :: .ro g o (gcells D) :: (roE A1 (icells O) ++ roE A3 (icells Q))) mixed (by kernel_rfl) (fun Z hZ => ?_) ?_
        · refine sq_move rfl rfl ?_
          refine sq_move rfl rfl ?_
          refine sq_move rfl rfl ?_
          refine sq_indexAddr (o + i * 3) Try.underlying35 tyS53 rfl rfl (by first | omega | (simp; omega)) (by simp) rfl ?_
          refine sq_fieldAddr rfl tyF53_1 (by first | (simp only [Nat.reduceAdd, Nat.add_zero, Nat.zero_add]; first | done | rfl) | rfl) rfl ?_
          refine sq_loadRo 2 rfl rfl (i * 3 + 1) rfl tyA9 tyS9 (gcells_old hx) rfl ?_
          first | refine sq_neq rfl rfl rfl ?_ | refine sq_sneq rfl rfl rfl ?_
          refine sq_move rfl rfl ?_
          refine sq_force 72 rfl false (by first | rfl | (simp; done) | (simp [x3]; done) | (simp; omega)) ?_
          refine sq_on rfl rfl rfl ?_
          refine sq_move rfl rfl ?_
          refine sq_on rfl rfl rfl ?_
          refine sq_move rfl rfl ?_
          refine sq_on rfl rfl rfl ?_
          refine sq_move rfl rfl ?_
          refine sq_on rfl rfl rfl ?_
          refine sq_indexAddr (o + i * 3) Try.underlying35 tyS53 rfl rfl (by first | omega | (simp; omega)) (by simp) rfl ?_
          refine sq_on rfl rfl rfl ?_
          refine sq_fieldAddr rfl tyF53_2 (by first | (simp only [Nat.reduceAdd, Nat.add_zero, Nat.zero_add]; first | done | rfl) | rfl) rfl ?_
          refine sq_on rfl rfl rfl ?_
          refine sq_loadRo 2 rfl rfl (i * 3 + 2) rfl tyA9 tyS9 (gcells_new hx) rfl ?_
          refine sq_on rfl rfl rfl ?_
          first | refine sq_neq rfl rfl rfl ?_ | refine sq_sneq rfl rfl rfl ?_
          refine sq_pick rfl rfl rfl ?_
          refine sq_move rfl rfl ?_
          refine sq_force 81 rfl false (by first | rfl | (simp; done) | (simp [x3]; done) | (simp; omega)) ?_
          refine sq_on rfl rfl rfl ?_
          refine sq_move rfl rfl ?_
          refine sq_on rfl rfl rfl ?_
          refine sq_move rfl rfl ?_
          refine sq_on rfl rfl rfl ?_
          first | refine sq_eql rfl rfl rfl ?_ | refine sq_seql rfl rfl rfl ?_
          refine sq_pick rfl rfl rfl ?_
          refine sq_move rfl rfl ?_
          refine sq_force 86 rfl false (by first | rfl | (simp; done) | (simp [x3]; done) | (simp; omega)) ?_
          refine sq_on rfl rfl rfl ?_
          refine sq_move rfl rfl ?_
          refine sq_on rfl rfl rfl ?_
          first | refine sq_gtr rfl rfl rfl ?_ | refine sq_sgtr rfl rfl rfl ?_
          refine sq_on rfl rfl rfl ?_
          refine sq_move rfl rfl ?_
          refine sq_force 89 rfl true (by first | rfl | (simp; done) | (simp [x3]; done) | (simp; omega)) ?_
          refine sq_on rfl rfl rfl ?_
          refine sq_move rfl rfl ?_
          refine sq_on rfl rfl rfl ?_
          refine sq_move rfl rfl ?_
          refine sq_on rfl rfl rfl ?_
          refine sq_sub rfl rfl ((j : Nat) : Int) (by rw [IntWalk.i64_in _ (by omega)]; omega) rfl ?_
          refine sq_on rfl rfl rfl ?_
          refine sq_indexAddr (o + j * 3) Try.underlying35 tyS53 rfl rfl (by first | omega | (simp; omega)) (by simp) rfl ?_
          refine sq_on rfl rfl rfl ?_
          refine sq_fieldAddr rfl tyF53_0 (by first | (simp only [Nat.reduceAdd, Nat.add_zero, Nat.zero_add]; first | done | rfl) | rfl) rfl ?_
          refine sq_on rfl rfl rfl ?_
          refine sq_loadRo 2 rfl rfl (j * 3) rfl tyA51 tyS51 (gcells_id hy) rfl ?_
          refine sq_on rfl rfl rfl ?_
          refine sq_move rfl rfl ?_
          refine sq_on rfl rfl rfl ?_
          refine sq_move rfl rfl ?_
          refine sq_on rfl rfl rfl ?_
          refine sq_indexAddr (o + i * 3) Try.underlying35 tyS53 rfl rfl (by first | omega | (simp; omega)) (by simp) rfl ?_
          refine sq_on rfl rfl rfl ?_
          refine sq_fieldAddr rfl tyF53_0 (by first | (simp only [Nat.reduceAdd, Nat.add_zero, Nat.zero_add]; first | done | rfl) | rfl) rfl ?_
          refine sq_on rfl rfl rfl ?_
          refine sq_loadRo 2 rfl rfl (i * 3) rfl tyA51 tyS51 (gcells_id hx) rfl ?_
          refine sq_on rfl rfl rfl ?_
          first | refine sq_geq rfl rfl rfl ?_ | refine sq_sgeq rfl rfl rfl ?_
          refine sq_on rfl rfl rfl ?_
          refine sq_pick rfl rfl rfl ?_
          refine sq_pick rfl rfl rfl ?_
          refine sq_nil (hZ _ _ ?_ ?_)
          · exact Kn.cons rfl (Kn.cons rfl (Kn.cons rfl (Kn.cons rfl (Kn.cons (congrArg some (congrArg Value.bool (by first | rfl | (simp; done) | (simp; omega)))) Kn.nil))))
          · exact HLe.refl _
        first | refine awp_cond rfl (fun h2 => ?_) (fun h2 => ?_) | refine awp_seq (awp_cond rfl (fun h2 => ?_) (fun h2 => ?_))
        · cases h2
        refine awp_skip ?_
        repeat (with_reducible (first | refine nx_block_normal ?_ | refine nx_scope_normal ?_))
        with_reducible first | refine nx_normal ?_ | refine nx_normalM ?_
        refine awp_region (fun Z hZ => ?_)
        refine sx_move rfl rfl ?_
        refine sx_add rfl rfl ((i + 1 : Nat) : Int) (by rw [IntWalk.i64_in _ (by omega)]; omega) rfl ?_
        refine sx_assign rfl rfl ?_
        refine sx_nil (hZ _ _ ?_)
        refine nx_forget [(5, _), (7, _), (9, _), (10, _)] (Kn.cons rfl (Kn.cons rfl (Kn.cons rfl (Kn.cons rfl (Kn.nil))))) ?_
        exact nx_round (i + 1) hlt (by omega) (Kn.cons rfl (Kn.cons rfl (Kn.cons rfl (Kn.cons rfl Kn.nil)))) (fun _ _ _ hw => hw.perm (List.Perm.cons _ (List.Perm.cons _ (List.perm_append_comm (l₁ := [_])))))
    · refine awp_exit ?_
      repeat (with_reducible (first | refine nx_then_exit ?_ | refine nx_block_other (by decide) ?_ | refine nx_scope_exit ?_))
      with_reducible refine nx_block_exit ?_
      repeat (with_reducible (first | refine nx_block_normal ?_ | refine nx_scope_normal ?_))
      exact nx_cut () trivial (Kn.cons rfl (Kn.cons rfl (Kn.cons rfl Kn.nil))) (HLe.refl _)
  rintro ⟨⟩ -

  refine awp_seq_region (fun Z hZ => ?_)
  first | refine sx_loadA 0 rfl rfl tyA29 tyS29 (by first | (simp only [List.length_cons, List.length_nil, Nat.reduceAdd, Nat.zero_add, Nat.add_zero]; first | done | rfl) | rfl) (by first | (simp only [List.take_succ_cons, List.take_zero, List.drop_succ_cons, List.drop_zero, List.cons_append, List.nil_append, List.append_nil, List.length_cons, List.length_nil, Nat.reduceAdd, Nat.zero_add, Nat.add_zero, Value.cells, wrV]; first | done | rfl) | rfl) rfl ?_ | refine sx_loadA 1 rfl rfl tyA29 tyS29 (by first | (simp only [List.length_cons, List.length_nil, Nat.reduceAdd, Nat.zero_add, Nat.add_zero]; first | done | rfl) | rfl) (by first | (simp only [List.take_succ_cons, List.take_zero, List.drop_succ_cons, List.drop_zero, List.cons_append, List.nil_append, List.append_nil, List.length_cons, List.length_nil, Nat.reduceAdd, Nat.zero_add, Nat.add_zero, Value.cells, wrV]; first | done | rfl) | rfl) rfl ?_
  refine sx_move rfl rfl ?_
  refine sx_gapplyE O D hA1 hok1 (roE A5 (gcells D)) hA5.arg (fun _ => rfl) (Ro.roE _ _) (by repeat (first | exact List.Sublist.refl _ | exact List.nil_sublist _ | exact List.sublist_append_right _ _ | refine List.Sublist.trans ?_ (List.sublist_append_left _ _) | exact List.Sublist.cons_cons _ (List.nil_sublist _) | refine List.Sublist.cons _ ?_)) (by repeat (first | exact List.Sublist.refl _ | exact List.nil_sublist _ | exact List.sublist_append_right _ _ | refine List.Sublist.trans ?_ (List.sublist_append_left _ _) | exact List.Sublist.cons_cons _ (List.nil_sublist _) | refine List.Sublist.cons _ ?_)) (by omega) rfl rfl ?_
  rw [f1, f2]
  intro A6 c6 hA6
  refine sx_move rfl rfl ?_
  refine sx_extract rfl rfl rfl ?_
  refine sx_extract rfl rfl rfl ?_
  refine sx_alloc tyZ29 rfl (fun g3 => ?_)
  first | refine sx_store 0 rfl rfl rfl tyS29 (by first | (simp only [Value.cells]; first | done | rfl) | rfl) rfl rfl (by first | (simp only [List.length_cons, List.length_nil, Nat.reduceAdd, Nat.zero_add, Nat.add_zero]; first | done | rfl) | rfl) (by first | (simp only [List.take_succ_cons, List.take_zero, List.drop_succ_cons, List.drop_zero, List.cons_append, List.nil_append, List.append_nil, List.length_cons, List.length_nil, Nat.reduceAdd, Nat.zero_add, Nat.add_zero, Value.cells, wrV]; first | done | rfl) | rfl) (by first | (simp only [List.set_cons_succ, List.set_cons_zero]; first | done | rfl) | rfl) ?_ | refine sx_store 1 rfl rfl rfl tyS29 (by first | (simp only [Value.cells]; first | done | rfl) | rfl) rfl rfl (by first | (simp only [List.length_cons, List.length_nil, Nat.reduceAdd, Nat.zero_add, Nat.add_zero]; first | done | rfl) | rfl) (by first | (simp only [List.take_succ_cons, List.take_zero, List.drop_succ_cons, List.drop_zero, List.cons_append, List.nil_append, List.append_nil, List.length_cons, List.length_nil, Nat.reduceAdd, Nat.zero_add, Nat.add_zero, Value.cells, wrV]; first | done | rfl) | rfl) (by first | (simp only [List.set_cons_succ, List.set_cons_zero]; first | done | rfl) | rfl) ?_ | refine sx_store 2 rfl rfl rfl tyS29 (by first | (simp only [Value.cells]; first | done | rfl) | rfl) rfl rfl (by first | (simp only [List.length_cons, List.length_nil, Nat.reduceAdd, Nat.zero_add, Nat.add_zero]; first | done | rfl) | rfl) (by first | (simp only [List.take_succ_cons, List.take_zero, List.drop_succ_cons, List.drop_zero, List.cons_append, List.nil_append, List.append_nil, List.length_cons, List.length_nil, Nat.reduceAdd, Nat.zero_add, Nat.add_zero, Value.cells, wrV]; first | done | rfl) | rfl) (by first | (simp only [List.set_cons_succ, List.set_cons_zero]; first | done | rfl) | rfl) ?_
  refine sx_assign rfl rfl ?_
  refine sx_nil (hZ _ _ ?_)
  refine awp_forget [(5, _), (7, _), (9, _), (15, _), (16, _)] (Kn.cons rfl (Kn.cons rfl (Kn.cons rfl (Kn.cons rfl (Kn.cons rfl (Kn.nil)))))) ?_

  refine awr_seq_region (fun j : Option Addr × Nat × Nat => [(5, ptr g1 0), (7, ptr g2 0), (9, .slice A5 D.length c5), (15, ptr g3 0), (16, iq 0), (17, ptr j.2.2 0), (18, iq 0)]) (fun j => .own j.2.2 29 [.slice j.1 O.length j.2.1] :: ((.own g3 29 [.slice A6 Q.length c6] :: .own g2 29 [.slice A3 Q.length c3] :: .own g1 29 [.slice A1 O.length c1] :: (((roE A1 (icells O) ++ roE A3 (icells Q)) ++ roE A5 (gcells D)) ++ roE A6 (icells Q))) ++ roE j.1 (icells O))) (fun j => SlIn j.1 O.length j.2.1) _ [2, 3, 7, 8] (Tr.step (0, true) (Tr.step (1, true) (Tr.fork (Tr.step (2, false) (Tr.fork (Tr.step (3, false) (Tr.step (4, true) (Tr.step (5, true) (Tr.step (6, true) (Tr.step (7, false) (Tr.step (8, false) (Tr.step (9, true) Tr.nil))))))) (Tr.step (7, false) (Tr.step (3, false) (Tr.step (4, true) (Tr.step (5, true) (Tr.step (6, true) (Tr.step (8, false) (Tr.step (9, true) Tr.nil))))))))) (Tr.step (7, false) (Tr.step (2, false) (Tr.step (3, false) (Tr.step (4, true) (Tr.step (5, true) (Tr.step (6, true) (Tr.step (8, false) (Tr.step (9, true) Tr.nil))))))))))) mixed (by kernel_rfl) (HLe.pick [1] (by simp) (by simp only [pick, List.filterMap_cons, List.filterMap_nil, List.getElem?_cons_succ, List.getElem?_cons_zero]; rfl)) ?_ ?_
  · refine tt_p rfl ?_
    first | refine sv_loadA 0 rfl rfl tyA29 tyS29 (by first | (simp only [List.length_cons, List.length_nil, Nat.reduceAdd, Nat.zero_add, Nat.add_zero]; first | done | rfl) | rfl) (by first | (simp only [List.take_succ_cons, List.take_zero, List.drop_succ_cons, List.drop_zero, List.cons_append, List.nil_append, List.append_nil, List.length_cons, List.length_nil, Nat.reduceAdd, Nat.zero_add, Nat.add_zero, Value.cells, wrV]; first | done | rfl) | rfl) rfl ?_
    refine sv_nil ?_
    refine tt_p rfl ?_
    refine sv_move rfl rfl ?_
    refine sv_nil ?_
    refine tt_fork ?_ ?_
    · refine tt_g rfl ?_
      refine sx_gturnT D hA5 (by repeat (first | exact List.Sublist.refl _ | exact List.nil_sublist _ | exact List.sublist_append_right _ _ | refine List.Sublist.trans ?_ (List.sublist_append_left _ _) | exact List.Sublist.cons_cons _ (List.nil_sublist _) | refine List.Sublist.cons _ ?_)) (by omega) rfl rfl (fun A7 c7 hA7 => ?_)
      refine sx_nil ⟨HLe.pick [1] (by simp) rfl, ?_⟩
      refine tt_fork ?_ ?_
      · refine tt_g rfl ?_
        refine sx_gapplyE Q (turnQ D) hA3 hok2 (roE A7 (gcells (turnQ D))) hA7.arg (fun _ => rfl) (Ro.roE _ _) (by repeat (first | exact List.Sublist.refl _ | exact List.nil_sublist _ | exact List.sublist_append_right _ _ | refine List.Sublist.trans ?_ (List.sublist_append_left _ _) | exact List.Sublist.cons_cons _ (List.nil_sublist _) | refine List.Sublist.cons _ ?_)) (by repeat (first | exact List.Sublist.refl _ | exact List.nil_sublist _ | exact List.sublist_append_right _ _ | refine List.Sublist.trans ?_ (List.sublist_append_left _ _) | exact List.Sublist.cons_cons _ (List.nil_sublist _) | refine List.Sublist.cons _ ?_)) (by omega) rfl rfl ?_
        rw [f3, f4]
        intro A8 c8 hA8
        refine sx_nil ⟨HLe.pick [1] (by simp) rfl, ?_⟩
        refine tt_p rfl ?_
        refine sv_move rfl rfl ?_
        refine sv_nil ?_
        refine tt_p rfl ?_
        refine sv_extract rfl rfl rfl ?_
        refine sv_nil ?_
        refine tt_p rfl ?_
        refine sv_extract rfl rfl rfl ?_
        refine sv_nil ?_
        refine tt_g rfl ?_
        refine sx_alloc tyZ29 rfl (fun g4 => ?_)
        refine sx_nil ⟨HLe.pick [2] (by simp) rfl, ?_⟩
        refine tt_g rfl ?_
        first | refine sx_store 0 rfl rfl rfl tyS29 (by first | (simp only [Value.cells]; first | done | rfl) | rfl) rfl rfl (by first | (simp only [List.length_cons, List.length_nil, Nat.reduceAdd, Nat.zero_add, Nat.add_zero]; first | done | rfl) | rfl) (by first | (simp only [List.take_succ_cons, List.take_zero, List.drop_succ_cons, List.drop_zero, List.cons_append, List.nil_append, List.append_nil, List.length_cons, List.length_nil, Nat.reduceAdd, Nat.zero_add, Nat.add_zero, Value.cells, wrV]; first | done | rfl) | rfl) (by first | (simp only [List.set_cons_succ, List.set_cons_zero]; first | done | rfl) | rfl) ?_ | refine sx_store 1 rfl rfl rfl tyS29 (by first | (simp only [Value.cells]; first | done | rfl) | rfl) rfl rfl (by first | (simp only [List.length_cons, List.length_nil, Nat.reduceAdd, Nat.zero_add, Nat.add_zero]; first | done | rfl) | rfl) (by first | (simp only [List.take_succ_cons, List.take_zero, List.drop_succ_cons, List.drop_zero, List.cons_append, List.nil_append, List.append_nil, List.length_cons, List.length_nil, Nat.reduceAdd, Nat.zero_add, Nat.add_zero, Value.cells, wrV]; first | done | rfl) | rfl) (by first | (simp only [List.set_cons_succ, List.set_cons_zero]; first | done | rfl) | rfl) ?_ | refine sx_store 2 rfl rfl rfl tyS29 (by first | (simp only [Value.cells]; first | done | rfl) | rfl) rfl rfl (by first | (simp only [List.length_cons, List.length_nil, Nat.reduceAdd, Nat.zero_add, Nat.add_zero]; first | done | rfl) | rfl) (by first | (simp only [List.take_succ_cons, List.take_zero, List.drop_succ_cons, List.drop_zero, List.cons_append, List.nil_append, List.append_nil, List.length_cons, List.length_nil, Nat.reduceAdd, Nat.zero_add, Nat.add_zero, Value.cells, wrV]; first | done | rfl) | rfl) (by first | (simp only [List.set_cons_succ, List.set_cons_zero]; first | done | rfl) | rfl) ?_ | refine sx_store 3 rfl rfl rfl tyS29 (by first | (simp only [Value.cells]; first | done | rfl) | rfl) rfl rfl (by first | (simp only [List.length_cons, List.length_nil, Nat.reduceAdd, Nat.zero_add, Nat.add_zero]; first | done | rfl) | rfl) (by first | (simp only [List.take_succ_cons, List.take_zero, List.drop_succ_cons, List.drop_zero, List.cons_append, List.nil_append, List.append_nil, List.length_cons, List.length_nil, Nat.reduceAdd, Nat.zero_add, Nat.add_zero, Value.cells, wrV]; first | done | rfl) | rfl) (by first | (simp only [List.set_cons_succ, List.set_cons_zero]; first | done | rfl) | rfl) ?_
        refine sx_nil ⟨HLe.pick [2] (by simp) rfl, ?_⟩
        refine tt_p rfl ?_
        refine sv_assign rfl rfl ?_
        refine sv_nil ?_
        refine tt_nil ?_
        exact ⟨(A8, c8, g4), hA8, Kn.cons rfl (Kn.cons rfl (Kn.cons rfl (Kn.cons rfl (Kn.cons rfl (Kn.cons rfl (Kn.cons rfl Kn.nil)))))), HLe.sub (.cons_cons _ (List.Sublist.append_right (List.sublist_append_left _ _) _))⟩
      · refine tt_g rfl ?_
        refine sx_alloc tyZ29 rfl (fun g4 => ?_)
        refine sx_nil ⟨HLe.pick [2] (by simp) rfl, ?_⟩
        refine tt_g rfl ?_
        refine sx_gapplyE Q (turnQ D) hA3 hok2 (roE A7 (gcells (turnQ D))) hA7.arg (fun _ => rfl) (Ro.roE _ _) (by repeat (first | exact List.Sublist.refl _ | exact List.nil_sublist _ | exact List.sublist_append_right _ _ | refine List.Sublist.trans ?_ (List.sublist_append_left _ _) | exact List.Sublist.cons_cons _ (List.nil_sublist _) | refine List.Sublist.cons _ ?_)) (by repeat (first | exact List.Sublist.refl _ | exact List.nil_sublist _ | exact List.sublist_append_right _ _ | refine List.Sublist.trans ?_ (List.sublist_append_left _ _) | exact List.Sublist.cons_cons _ (List.nil_sublist _) | refine List.Sublist.cons _ ?_)) (by omega) rfl rfl ?_
        rw [f3, f4]
        intro A8 c8 hA8
        refine sx_nil ⟨HLe.pick [2] (by simp) rfl, ?_⟩
        refine tt_p rfl ?_
        refine sv_move rfl rfl ?_
        refine sv_nil ?_
        refine tt_p rfl ?_
        refine sv_extract rfl rfl rfl ?_
        refine sv_nil ?_
        refine tt_p rfl ?_
        refine sv_extract rfl rfl rfl ?_
        refine sv_nil ?_
        refine tt_g rfl ?_
        first | refine sx_store 0 rfl rfl rfl tyS29 (by first | (simp only [Value.cells]; first | done | rfl) | rfl) rfl rfl (by first | (simp only [List.length_cons, List.length_nil, Nat.reduceAdd, Nat.zero_add, Nat.add_zero]; first | done | rfl) | rfl) (by first | (simp only [List.take_succ_cons, List.take_zero, List.drop_succ_cons, List.drop_zero, List.cons_append, List.nil_append, List.append_nil, List.length_cons, List.length_nil, Nat.reduceAdd, Nat.zero_add, Nat.add_zero, Value.cells, wrV]; first | done | rfl) | rfl) (by first | (simp only [List.set_cons_succ, List.set_cons_zero]; first | done | rfl) | rfl) ?_ | refine sx_store 1 rfl rfl rfl tyS29 (by first | (simp only [Value.cells]; first | done | rfl) | rfl) rfl rfl (by first | (simp only [List.length_cons, List.length_nil, Nat.reduceAdd, Nat.zero_add, Nat.add_zero]; first | done | rfl) | rfl) (by first | (simp only [List.take_succ_cons, List.take_zero, List.drop_succ_cons, List.drop_zero, List.cons_append, List.nil_append, List.append_nil, List.length_cons, List.length_nil, Nat.reduceAdd, Nat.zero_add, Nat.add_zero, Value.cells, wrV]; first | done | rfl) | rfl) (by first | (simp only [List.set_cons_succ, List.set_cons_zero]; first | done | rfl) | rfl) ?_ | refine sx_store 2 rfl rfl rfl tyS29 (by first | (simp only [Value.cells]; first | done | rfl) | rfl) rfl rfl (by first | (simp only [List.length_cons, List.length_nil, Nat.reduceAdd, Nat.zero_add, Nat.add_zero]; first | done | rfl) | rfl) (by first | (simp only [List.take_succ_cons, List.take_zero, List.drop_succ_cons, List.drop_zero, List.cons_append, List.nil_append, List.append_nil, List.length_cons, List.length_nil, Nat.reduceAdd, Nat.zero_add, Nat.add_zero, Value.cells, wrV]; first | done | rfl) | rfl) (by first | (simp only [List.set_cons_succ, List.set_cons_zero]; first | done | rfl) | rfl) ?_ | refine sx_store 3 rfl rfl rfl tyS29 (by first | (simp only [Value.cells]; first | done | rfl) | rfl) rfl rfl (by first | (simp only [List.length_cons, List.length_nil, Nat.reduceAdd, Nat.zero_add, Nat.add_zero]; first | done | rfl) | rfl) (by first | (simp only [List.take_succ_cons, List.take_zero, List.drop_succ_cons, List.drop_zero, List.cons_append, List.nil_append, List.append_nil, List.length_cons, List.length_nil, Nat.reduceAdd, Nat.zero_add, Nat.add_zero, Value.cells, wrV]; first | done | rfl) | rfl) (by first | (simp only [List.set_cons_succ, List.set_cons_zero]; first | done | rfl) | rfl) ?_
        refine sx_nil ⟨HLe.pick [2] (by simp) rfl, ?_⟩
        refine tt_p rfl ?_
        refine sv_assign rfl rfl ?_
        refine sv_nil ?_
        refine tt_nil ?_
        exact ⟨(A8, c8, g4), hA8, Kn.cons rfl (Kn.cons rfl (Kn.cons rfl (Kn.cons rfl (Kn.cons rfl (Kn.cons rfl (Kn.cons rfl Kn.nil)))))), HLe.sub (.cons_cons _ (List.Sublist.append_right (List.sublist_append_left _ _) _))⟩
    · refine tt_g rfl ?_
      refine sx_alloc tyZ29 rfl (fun g4 => ?_)
      refine sx_nil ⟨HLe.pick [2] (by simp) rfl, ?_⟩
      refine tt_g rfl ?_
      refine sx_gturnT D hA5 (by repeat (first | exact List.Sublist.refl _ | exact List.nil_sublist _ | exact List.sublist_append_right _ _ | refine List.Sublist.trans ?_ (List.sublist_append_left _ _) | exact List.Sublist.cons_cons _ (List.nil_sublist _) | refine List.Sublist.cons _ ?_)) (by omega) rfl rfl (fun A7 c7 hA7 => ?_)
      refine sx_nil ⟨HLe.pick [2] (by simp) rfl, ?_⟩
      refine tt_g rfl ?_
      refine sx_gapplyE Q (turnQ D) hA3 hok2 (roE A7 (gcells (turnQ D))) hA7.arg (fun _ => rfl) (Ro.roE _ _) (by repeat (first | exact List.Sublist.refl _ | exact List.nil_sublist _ | exact List.sublist_append_right _ _ | refine List.Sublist.trans ?_ (List.sublist_append_left _ _) | exact List.Sublist.cons_cons _ (List.nil_sublist _) | refine List.Sublist.cons _ ?_)) (by repeat (first | exact List.Sublist.refl _ | exact List.nil_sublist _ | exact List.sublist_append_right _ _ | refine List.Sublist.trans ?_ (List.sublist_append_left _ _) | exact List.Sublist.cons_cons _ (List.nil_sublist _) | refine List.Sublist.cons _ ?_)) (by omega) rfl rfl ?_
      rw [f3, f4]
      intro A8 c8 hA8
      refine sx_nil ⟨HLe.pick [2] (by simp) rfl, ?_⟩
      refine tt_p rfl ?_
      refine sv_move rfl rfl ?_
      refine sv_nil ?_
      refine tt_p rfl ?_
      refine sv_extract rfl rfl rfl ?_
      refine sv_nil ?_
      refine tt_p rfl ?_
      refine sv_extract rfl rfl rfl ?_
      refine sv_nil ?_
      refine tt_g rfl ?_
      first | refine sx_store 0 rfl rfl rfl tyS29 (by first | (simp only [Value.cells]; first | done | rfl) | rfl) rfl rfl (by first | (simp only [List.length_cons, List.length_nil, Nat.reduceAdd, Nat.zero_add, Nat.add_zero]; first | done | rfl) | rfl) (by first | (simp only [List.take_succ_cons, List.take_zero, List.drop_succ_cons, List.drop_zero, List.cons_append, List.nil_append, List.append_nil, List.length_cons, List.length_nil, Nat.reduceAdd, Nat.zero_add, Nat.add_zero, Value.cells, wrV]; first | done | rfl) | rfl) (by first | (simp only [List.set_cons_succ, List.set_cons_zero]; first | done | rfl) | rfl) ?_ | refine sx_store 1 rfl rfl rfl tyS29 (by first | (simp only [Value.cells]; first | done | rfl) | rfl) rfl rfl (by first | (simp only [List.length_cons, List.length_nil, Nat.reduceAdd, Nat.zero_add, Nat.add_zero]; first | done | rfl) | rfl) (by first | (simp only [List.take_succ_cons, List.take_zero, List.drop_succ_cons, List.drop_zero, List.cons_append, List.nil_append, List.append_nil, List.length_cons, List.length_nil, Nat.reduceAdd, Nat.zero_add, Nat.add_zero, Value.cells, wrV]; first | done | rfl) | rfl) (by first | (simp only [List.set_cons_succ, List.set_cons_zero]; first | done | rfl) | rfl) ?_ | refine sx_store 2 rfl rfl rfl tyS29 (by first | (simp only [Value.cells]; first | done | rfl) | rfl) rfl rfl (by first | (simp only [List.length_cons, List.length_nil, Nat.reduceAdd, Nat.zero_add, Nat.add_zero]; first | done | rfl) | rfl) (by first | (simp only [List.take_succ_cons, List.take_zero, List.drop_succ_cons, List.drop_zero, List.cons_append, List.nil_append, List.append_nil, List.length_cons, List.length_nil, Nat.reduceAdd, Nat.zero_add, Nat.add_zero, Value.cells, wrV]; first | done | rfl) | rfl) (by first | (simp only [List.set_cons_succ, List.set_cons_zero]; first | done | rfl) | rfl) ?_ | refine sx_store 3 rfl rfl rfl tyS29 (by first | (simp only [Value.cells]; first | done | rfl) | rfl) rfl rfl (by first | (simp only [List.length_cons, List.length_nil, Nat.reduceAdd, Nat.zero_add, Nat.add_zero]; first | done | rfl) | rfl) (by first | (simp only [List.take_succ_cons, List.take_zero, List.drop_succ_cons, List.drop_zero, List.cons_append, List.nil_append, List.append_nil, List.length_cons, List.length_nil, Nat.reduceAdd, Nat.zero_add, Nat.add_zero, Value.cells, wrV]; first | done | rfl) | rfl) (by first | (simp only [List.set_cons_succ, List.set_cons_zero]; first | done | rfl) | rfl) ?_
      refine sx_nil ⟨HLe.pick [2] (by simp) rfl, ?_⟩
      refine tt_p rfl ?_
      refine sv_assign rfl rfl ?_
      refine sv_nil ?_
      refine tt_nil ?_
      exact ⟨(A8, c8, g4), hA8, Kn.cons rfl (Kn.cons rfl (Kn.cons rfl (Kn.cons rfl (Kn.cons rfl (Kn.cons rfl (Kn.cons rfl Kn.nil)))))), HLe.sub (.cons_cons _ (List.Sublist.append_right (List.sublist_append_left _ _) _))⟩
  rintro ⟨A8, c8, g9⟩ hA8
  simp only at hA8
  refine awp_heap (.own g9 29 [.slice A8 O.length c8] :: .own g3 29 [.slice A6 Q.length c6] :: .own g2 29 [.slice A3 Q.length c3] :: .own g1 29 [.slice A1 O.length c1] :: ((((roE A1 (icells O) ++ roE A3 (icells Q)) ++ roE A5 (gcells D)) ++ roE A6 (icells Q)) ++ roE A8 (icells O))) (HLe.refl _) ?_

  refine aww_seq_region _ [(0, true), (1, true), (2, true), (3, true), (4, true), (5, false), (6, true), (7, true), (8, true), (9, true), (10, true), (11, true), (12, true), (13, true), (14, false), (15, true), (16, true), (17, true), (18, true), (19, true), (20, true), (21, true), (22, false), (23, true), (24, true), (25, true), (26, true), (27, false), (28, false), (29, true), (30, true), (31, false), (32, false), (33, false), (34, true), (35, true), (36, false), (37, true), (38, true)] mixed (by kernel_rfl) (HLe.pick [0, 1, 2, 3] (by simp) (by simp only [pick, List.filterMap_cons, List.filterMap_nil, List.getElem?_cons_succ, List.getElem?_cons_zero]; rfl)) (fun Z hZ => ?_)
  refine tw_p rfl ?_
  refine sv_move rfl rfl ?_
  refine sv_nil ?_
  refine tw_p rfl ?_
  first | refine sv_eql rfl rfl rfl ?_ | refine sv_seql rfl rfl rfl ?_
  refine sv_nil ?_
  refine tw_p rfl ?_
  refine sv_move rfl rfl ?_
  refine sv_nil ?_
  refine tw_force 119 rfl true (by first | rfl | (simp; done) | (simp; omega) | (simp [hF]; done)) ?_
  refine tw_p rfl ?_
  refine sv_on rfl rfl rfl ?_
  first | refine sv_loadA 0 rfl rfl tyA29 tyS29 (by first | (simp only [List.length_cons, List.length_nil, Nat.reduceAdd, Nat.zero_add, Nat.add_zero]; first | done | rfl) | rfl) (by first | (simp only [List.take_succ_cons, List.take_zero, List.drop_succ_cons, List.drop_zero, List.cons_append, List.nil_append, List.append_nil, List.length_cons, List.length_nil, Nat.reduceAdd, Nat.zero_add, Nat.add_zero, Value.cells, wrV]; first | done | rfl) | rfl) rfl ?_ | refine sv_loadA 1 rfl rfl tyA29 tyS29 (by first | (simp only [List.length_cons, List.length_nil, Nat.reduceAdd, Nat.zero_add, Nat.add_zero]; first | done | rfl) | rfl) (by first | (simp only [List.take_succ_cons, List.take_zero, List.drop_succ_cons, List.drop_zero, List.cons_append, List.nil_append, List.append_nil, List.length_cons, List.length_nil, Nat.reduceAdd, Nat.zero_add, Nat.add_zero, Value.cells, wrV]; first | done | rfl) | rfl) rfl ?_ | refine sv_loadA 2 rfl rfl tyA29 tyS29 (by first | (simp only [List.length_cons, List.length_nil, Nat.reduceAdd, Nat.zero_add, Nat.add_zero]; first | done | rfl) | rfl) (by first | (simp only [List.take_succ_cons, List.take_zero, List.drop_succ_cons, List.drop_zero, List.cons_append, List.nil_append, List.append_nil, List.length_cons, List.length_nil, Nat.reduceAdd, Nat.zero_add, Nat.add_zero, Value.cells, wrV]; first | done | rfl) | rfl) rfl ?_ | refine sv_loadA 3 rfl rfl tyA29 tyS29 (by first | (simp only [List.length_cons, List.length_nil, Nat.reduceAdd, Nat.zero_add, Nat.add_zero]; first | done | rfl) | rfl) (by first | (simp only [List.take_succ_cons, List.take_zero, List.drop_succ_cons, List.drop_zero, List.cons_append, List.nil_append, List.append_nil, List.length_cons, List.length_nil, Nat.reduceAdd, Nat.zero_add, Nat.add_zero, Value.cells, wrV]; first | done | rfl) | rfl) rfl ?_
  refine sv_nil ?_
  refine tw_p rfl ?_
  refine sv_on rfl rfl rfl ?_
  first | refine sv_loadA 0 rfl rfl tyA29 tyS29 (by first | (simp only [List.length_cons, List.length_nil, Nat.reduceAdd, Nat.zero_add, Nat.add_zero]; first | done | rfl) | rfl) (by first | (simp only [List.take_succ_cons, List.take_zero, List.drop_succ_cons, List.drop_zero, List.cons_append, List.nil_append, List.append_nil, List.length_cons, List.length_nil, Nat.reduceAdd, Nat.zero_add, Nat.add_zero, Value.cells, wrV]; first | done | rfl) | rfl) rfl ?_ | refine sv_loadA 1 rfl rfl tyA29 tyS29 (by first | (simp only [List.length_cons, List.length_nil, Nat.reduceAdd, Nat.zero_add, Nat.add_zero]; first | done | rfl) | rfl) (by first | (simp only [List.take_succ_cons, List.take_zero, List.drop_succ_cons, List.drop_zero, List.cons_append, List.nil_append, List.append_nil, List.length_cons, List.length_nil, Nat.reduceAdd, Nat.zero_add, Nat.add_zero, Value.cells, wrV]; first | done | rfl) | rfl) rfl ?_ | refine sv_loadA 2 rfl rfl tyA29 tyS29 (by first | (simp only [List.length_cons, List.length_nil, Nat.reduceAdd, Nat.zero_add, Nat.add_zero]; first | done | rfl) | rfl) (by first | (simp only [List.take_succ_cons, List.take_zero, List.drop_succ_cons, List.drop_zero, List.cons_append, List.nil_append, List.append_nil, List.length_cons, List.length_nil, Nat.reduceAdd, Nat.zero_add, Nat.add_zero, Value.cells, wrV]; first | done | rfl) | rfl) rfl ?_ | refine sv_loadA 3 rfl rfl tyA29 tyS29 (by first | (simp only [List.length_cons, List.length_nil, Nat.reduceAdd, Nat.zero_add, Nat.add_zero]; first | done | rfl) | rfl) (by first | (simp only [List.take_succ_cons, List.take_zero, List.drop_succ_cons, List.drop_zero, List.cons_append, List.nil_append, List.append_nil, List.length_cons, List.length_nil, Nat.reduceAdd, Nat.zero_add, Nat.add_zero, Value.cells, wrV]; first | done | rfl) | rfl) rfl ?_
  refine sv_nil ?_
  refine tw_g rfl ?_
  refine sx_on rfl rfl rfl ?_
  refine sx_csame Q Q hA6 hA3 (by repeat (first | exact List.Sublist.refl _ | exact List.nil_sublist _ | exact List.sublist_append_right _ _ | refine List.Sublist.trans ?_ (List.sublist_append_left _ _) | exact List.Sublist.cons_cons _ (List.nil_sublist _) | refine List.Sublist.cons _ ?_)) (by repeat (first | exact List.Sublist.refl _ | exact List.nil_sublist _ | exact List.sublist_append_right _ _ | refine List.Sublist.trans ?_ (List.sublist_append_left _ _) | exact List.Sublist.cons_cons _ (List.nil_sublist _) | refine List.Sublist.cons _ ?_)) (by show _ ≤ 9223372036854775807; omega) (by show _ ≤ 9223372036854775807; omega) rfl rfl ?_
  rw [same_self]
  refine sx_nil ⟨HLe.pick [0, 1, 2, 3] (by simp) rfl, ?_⟩
  refine tw_p rfl ?_
  refine sv_pick rfl rfl rfl ?_
  refine sv_nil ?_
  refine tw_p rfl ?_
  refine sv_move rfl rfl ?_
  refine sv_nil ?_
  refine tw_force 124 rfl true (by first | rfl | (simp; done) | (simp; omega) | (simp [hF]; done)) ?_
  refine tw_p rfl ?_
  refine sv_on rfl rfl rfl ?_
  refine sv_move rfl rfl ?_
  refine sv_nil ?_
  refine tw_p rfl ?_
  refine sv_on rfl rfl rfl ?_
  first | refine sv_eql rfl rfl rfl ?_ | refine sv_seql rfl rfl rfl ?_
  refine sv_nil ?_
  refine tw_p rfl ?_
  refine sv_pick rfl rfl rfl ?_
  refine sv_nil ?_
  refine tw_p rfl ?_
  refine sv_move rfl rfl ?_
  refine sv_nil ?_
  refine tw_force 128 rfl true (by first | rfl | (simp; done) | (simp; omega) | (simp [hF]; done)) ?_
  refine tw_p rfl ?_
  refine sv_on rfl rfl rfl ?_
  first | refine sv_loadA 0 rfl rfl tyA29 tyS29 (by first | (simp only [List.length_cons, List.length_nil, Nat.reduceAdd, Nat.zero_add, Nat.add_zero]; first | done | rfl) | rfl) (by first | (simp only [List.take_succ_cons, List.take_zero, List.drop_succ_cons, List.drop_zero, List.cons_append, List.nil_append, List.append_nil, List.length_cons, List.length_nil, Nat.reduceAdd, Nat.zero_add, Nat.add_zero, Value.cells, wrV]; first | done | rfl) | rfl) rfl ?_ | refine sv_loadA 1 rfl rfl tyA29 tyS29 (by first | (simp only [List.length_cons, List.length_nil, Nat.reduceAdd, Nat.zero_add, Nat.add_zero]; first | done | rfl) | rfl) (by first | (simp only [List.take_succ_cons, List.take_zero, List.drop_succ_cons, List.drop_zero, List.cons_append, List.nil_append, List.append_nil, List.length_cons, List.length_nil, Nat.reduceAdd, Nat.zero_add, Nat.add_zero, Value.cells, wrV]; first | done | rfl) | rfl) rfl ?_ | refine sv_loadA 2 rfl rfl tyA29 tyS29 (by first | (simp only [List.length_cons, List.length_nil, Nat.reduceAdd, Nat.zero_add, Nat.add_zero]; first | done | rfl) | rfl) (by first | (simp only [List.take_succ_cons, List.take_zero, List.drop_succ_cons, List.drop_zero, List.cons_append, List.nil_append, List.append_nil, List.length_cons, List.length_nil, Nat.reduceAdd, Nat.zero_add, Nat.add_zero, Value.cells, wrV]; first | done | rfl) | rfl) rfl ?_ | refine sv_loadA 3 rfl rfl tyA29 tyS29 (by first | (simp only [List.length_cons, List.length_nil, Nat.reduceAdd, Nat.zero_add, Nat.add_zero]; first | done | rfl) | rfl) (by first | (simp only [List.take_succ_cons, List.take_zero, List.drop_succ_cons, List.drop_zero, List.cons_append, List.nil_append, List.append_nil, List.length_cons, List.length_nil, Nat.reduceAdd, Nat.zero_add, Nat.add_zero, Value.cells, wrV]; first | done | rfl) | rfl) rfl ?_
  refine sv_nil ?_
  refine tw_p rfl ?_
  refine sv_on rfl rfl rfl ?_
  first | refine sv_loadA 0 rfl rfl tyA29 tyS29 (by first | (simp only [List.length_cons, List.length_nil, Nat.reduceAdd, Nat.zero_add, Nat.add_zero]; first | done | rfl) | rfl) (by first | (simp only [List.take_succ_cons, List.take_zero, List.drop_succ_cons, List.drop_zero, List.cons_append, List.nil_append, List.append_nil, List.length_cons, List.length_nil, Nat.reduceAdd, Nat.zero_add, Nat.add_zero, Value.cells, wrV]; first | done | rfl) | rfl) rfl ?_ | refine sv_loadA 1 rfl rfl tyA29 tyS29 (by first | (simp only [List.length_cons, List.length_nil, Nat.reduceAdd, Nat.zero_add, Nat.add_zero]; first | done | rfl) | rfl) (by first | (simp only [List.take_succ_cons, List.take_zero, List.drop_succ_cons, List.drop_zero, List.cons_append, List.nil_append, List.append_nil, List.length_cons, List.length_nil, Nat.reduceAdd, Nat.zero_add, Nat.add_zero, Value.cells, wrV]; first | done | rfl) | rfl) rfl ?_ | refine sv_loadA 2 rfl rfl tyA29 tyS29 (by first | (simp only [List.length_cons, List.length_nil, Nat.reduceAdd, Nat.zero_add, Nat.add_zero]; first | done | rfl) | rfl) (by first | (simp only [List.take_succ_cons, List.take_zero, List.drop_succ_cons, List.drop_zero, List.cons_append, List.nil_append, List.append_nil, List.length_cons, List.length_nil, Nat.reduceAdd, Nat.zero_add, Nat.add_zero, Value.cells, wrV]; first | done | rfl) | rfl) rfl ?_ | refine sv_loadA 3 rfl rfl tyA29 tyS29 (by first | (simp only [List.length_cons, List.length_nil, Nat.reduceAdd, Nat.zero_add, Nat.add_zero]; first | done | rfl) | rfl) (by first | (simp only [List.take_succ_cons, List.take_zero, List.drop_succ_cons, List.drop_zero, List.cons_append, List.nil_append, List.append_nil, List.length_cons, List.length_nil, Nat.reduceAdd, Nat.zero_add, Nat.add_zero, Value.cells, wrV]; first | done | rfl) | rfl) rfl ?_
  refine sv_nil ?_
  refine tw_g rfl ?_
  refine sx_on rfl rfl rfl ?_
  refine sx_csame O O hA8 hA1 (by repeat (first | exact List.Sublist.refl _ | exact List.nil_sublist _ | exact List.sublist_append_right _ _ | refine List.Sublist.trans ?_ (List.sublist_append_left _ _) | exact List.Sublist.cons_cons _ (List.nil_sublist _) | refine List.Sublist.cons _ ?_)) (by repeat (first | exact List.Sublist.refl _ | exact List.nil_sublist _ | exact List.sublist_append_right _ _ | refine List.Sublist.trans ?_ (List.sublist_append_left _ _) | exact List.Sublist.cons_cons _ (List.nil_sublist _) | refine List.Sublist.cons _ ?_)) (by show _ ≤ 9223372036854775807; omega) (by show _ ≤ 9223372036854775807; omega) rfl rfl ?_
  rw [same_self]
  refine sx_nil ⟨HLe.pick [0, 1, 2, 3] (by simp) rfl, ?_⟩
  refine tw_p rfl ?_
  refine sv_pick rfl rfl rfl ?_
  refine sv_nil ?_
  refine tw_p rfl ?_
  refine sv_move rfl rfl ?_
  refine sv_nil ?_
  refine tw_force 133 rfl true (by first | rfl | (simp; done) | (simp; omega) | (simp [hF]; done)) ?_
  refine tw_p rfl ?_
  refine sv_on rfl rfl rfl ?_
  refine sv_move rfl rfl ?_
  refine sv_nil ?_
  refine tw_p rfl ?_
  refine sv_on rfl rfl rfl ?_
  first | refine sv_len Try.underlying35 rfl rfl ?_ | refine sv_lenS Try.underlying35 rfl rfl ?_
  refine sv_nil ?_
  refine tw_p rfl ?_
  refine sv_on rfl rfl rfl ?_
  first | refine sv_eql rfl rfl rfl ?_ | refine sv_seql rfl rfl rfl ?_
  refine sv_nil ?_
  refine tw_p rfl ?_
  refine sv_on rfl rfl rfl ?_
  first | refine sv_loadA 0 rfl rfl tyA29 tyS29 (by first | (simp only [List.length_cons, List.length_nil, Nat.reduceAdd, Nat.zero_add, Nat.add_zero]; first | done | rfl) | rfl) (by first | (simp only [List.take_succ_cons, List.take_zero, List.drop_succ_cons, List.drop_zero, List.cons_append, List.nil_append, List.append_nil, List.length_cons, List.length_nil, Nat.reduceAdd, Nat.zero_add, Nat.add_zero, Value.cells, wrV]; first | done | rfl) | rfl) rfl ?_ | refine sv_loadA 1 rfl rfl tyA29 tyS29 (by first | (simp only [List.length_cons, List.length_nil, Nat.reduceAdd, Nat.zero_add, Nat.add_zero]; first | done | rfl) | rfl) (by first | (simp only [List.take_succ_cons, List.take_zero, List.drop_succ_cons, List.drop_zero, List.cons_append, List.nil_append, List.append_nil, List.length_cons, List.length_nil, Nat.reduceAdd, Nat.zero_add, Nat.add_zero, Value.cells, wrV]; first | done | rfl) | rfl) rfl ?_ | refine sv_loadA 2 rfl rfl tyA29 tyS29 (by first | (simp only [List.length_cons, List.length_nil, Nat.reduceAdd, Nat.zero_add, Nat.add_zero]; first | done | rfl) | rfl) (by first | (simp only [List.take_succ_cons, List.take_zero, List.drop_succ_cons, List.drop_zero, List.cons_append, List.nil_append, List.append_nil, List.length_cons, List.length_nil, Nat.reduceAdd, Nat.zero_add, Nat.add_zero, Value.cells, wrV]; first | done | rfl) | rfl) rfl ?_ | refine sv_loadA 3 rfl rfl tyA29 tyS29 (by first | (simp only [List.length_cons, List.length_nil, Nat.reduceAdd, Nat.zero_add, Nat.add_zero]; first | done | rfl) | rfl) (by first | (simp only [List.take_succ_cons, List.take_zero, List.drop_succ_cons, List.drop_zero, List.cons_append, List.nil_append, List.append_nil, List.length_cons, List.length_nil, Nat.reduceAdd, Nat.zero_add, Nat.add_zero, Value.cells, wrV]; first | done | rfl) | rfl) rfl ?_
  refine sv_nil ?_
  refine tw_p rfl ?_
  refine sv_on rfl rfl rfl ?_
  first | refine sv_loadA 0 rfl rfl tyA29 tyS29 (by first | (simp only [List.length_cons, List.length_nil, Nat.reduceAdd, Nat.zero_add, Nat.add_zero]; first | done | rfl) | rfl) (by first | (simp only [List.take_succ_cons, List.take_zero, List.drop_succ_cons, List.drop_zero, List.cons_append, List.nil_append, List.append_nil, List.length_cons, List.length_nil, Nat.reduceAdd, Nat.zero_add, Nat.add_zero, Value.cells, wrV]; first | done | rfl) | rfl) rfl ?_ | refine sv_loadA 1 rfl rfl tyA29 tyS29 (by first | (simp only [List.length_cons, List.length_nil, Nat.reduceAdd, Nat.zero_add, Nat.add_zero]; first | done | rfl) | rfl) (by first | (simp only [List.take_succ_cons, List.take_zero, List.drop_succ_cons, List.drop_zero, List.cons_append, List.nil_append, List.append_nil, List.length_cons, List.length_nil, Nat.reduceAdd, Nat.zero_add, Nat.add_zero, Value.cells, wrV]; first | done | rfl) | rfl) rfl ?_ | refine sv_loadA 2 rfl rfl tyA29 tyS29 (by first | (simp only [List.length_cons, List.length_nil, Nat.reduceAdd, Nat.zero_add, Nat.add_zero]; first | done | rfl) | rfl) (by first | (simp only [List.take_succ_cons, List.take_zero, List.drop_succ_cons, List.drop_zero, List.cons_append, List.nil_append, List.append_nil, List.length_cons, List.length_nil, Nat.reduceAdd, Nat.zero_add, Nat.add_zero, Value.cells, wrV]; first | done | rfl) | rfl) rfl ?_ | refine sv_loadA 3 rfl rfl tyA29 tyS29 (by first | (simp only [List.length_cons, List.length_nil, Nat.reduceAdd, Nat.zero_add, Nat.add_zero]; first | done | rfl) | rfl) (by first | (simp only [List.take_succ_cons, List.take_zero, List.drop_succ_cons, List.drop_zero, List.cons_append, List.nil_append, List.append_nil, List.length_cons, List.length_nil, Nat.reduceAdd, Nat.zero_add, Nat.add_zero, Value.cells, wrV]; first | done | rfl) | rfl) rfl ?_
  refine sv_nil ?_
  refine tw_g rfl ?_
  refine sx_on rfl rfl rfl ?_
  refine sx_csame O Q hA1 hA3 (by repeat (first | exact List.Sublist.refl _ | exact List.nil_sublist _ | exact List.sublist_append_right _ _ | refine List.Sublist.trans ?_ (List.sublist_append_left _ _) | exact List.Sublist.cons_cons _ (List.nil_sublist _) | refine List.Sublist.cons _ ?_)) (by repeat (first | exact List.Sublist.refl _ | exact List.nil_sublist _ | exact List.sublist_append_right _ _ | refine List.Sublist.trans ?_ (List.sublist_append_left _ _) | exact List.Sublist.cons_cons _ (List.nil_sublist _) | refine List.Sublist.cons _ ?_)) (by show _ ≤ 9223372036854775807; omega) (by show _ ≤ 9223372036854775807; omega) rfl rfl ?_
  refine sx_nil ⟨HLe.pick [0, 1, 2, 3] (by simp) rfl, ?_⟩
  refine tw_p rfl ?_
  refine sv_on rfl rfl rfl ?_
  refine sv_beql Try.underlying4 rfl rfl rfl ?_
  refine sv_nil ?_
  refine tw_p rfl ?_
  refine sv_pick rfl rfl rfl ?_
  refine sv_nil ?_
  refine tw_p rfl ?_
  refine sv_move rfl rfl ?_
  refine sv_nil ?_
  refine tw_force 142 rfl true (by first | rfl | (simp; done) | (simp; omega) | (simp [hF]; done)) ?_
  refine tw_p rfl ?_
  refine sv_on rfl rfl rfl ?_
  refine sv_move rfl rfl ?_
  refine sv_nil ?_
  refine tw_g rfl ?_
  refine sx_on rfl rfl rfl ?_
  refine sx_gturnT D hA5 (by repeat (first | exact List.Sublist.refl _ | exact List.nil_sublist _ | exact List.sublist_append_right _ _ | refine List.Sublist.trans ?_ (List.sublist_append_left _ _) | exact List.Sublist.cons_cons _ (List.nil_sublist _) | refine List.Sublist.cons _ ?_)) (by omega) rfl rfl (fun A9 c9 hA9 => ?_)
  refine sx_nil ⟨HLe.pick [0, 1, 2, 3] (by simp) rfl, ?_⟩
  refine tw_g rfl ?_
  refine sx_on rfl rfl rfl ?_
  refine sx_gbackE (turnQ D) hA9 (by repeat (first | exact List.Sublist.refl _ | exact List.nil_sublist _ | exact List.sublist_append_right _ _ | refine List.Sublist.trans ?_ (List.sublist_append_left _ _) | exact List.Sublist.cons_cons _ (List.nil_sublist _) | refine List.Sublist.cons _ ?_)) (by omega) rfl rfl (fun A10 c10 hA10 => ?_)
  refine sx_nil ⟨HLe.pick [0, 1, 2, 3] (by simp) rfl, ?_⟩
  refine tw_p rfl ?_
  refine sv_on rfl rfl rfl ?_
  first | refine sv_loadA 0 rfl rfl tyA29 tyS29 (by first | (simp only [List.length_cons, List.length_nil, Nat.reduceAdd, Nat.zero_add, Nat.add_zero]; first | done | rfl) | rfl) (by first | (simp only [List.take_succ_cons, List.take_zero, List.drop_succ_cons, List.drop_zero, List.cons_append, List.nil_append, List.append_nil, List.length_cons, List.length_nil, Nat.reduceAdd, Nat.zero_add, Nat.add_zero, Value.cells, wrV]; first | done | rfl) | rfl) rfl ?_ | refine sv_loadA 1 rfl rfl tyA29 tyS29 (by first | (simp only [List.length_cons, List.length_nil, Nat.reduceAdd, Nat.zero_add, Nat.add_zero]; first | done | rfl) | rfl) (by first | (simp only [List.take_succ_cons, List.take_zero, List.drop_succ_cons, List.drop_zero, List.cons_append, List.nil_append, List.append_nil, List.length_cons, List.length_nil, Nat.reduceAdd, Nat.zero_add, Nat.add_zero, Value.cells, wrV]; first | done | rfl) | rfl) rfl ?_ | refine sv_loadA 2 rfl rfl tyA29 tyS29 (by first | (simp only [List.length_cons, List.length_nil, Nat.reduceAdd, Nat.zero_add, Nat.add_zero]; first | done | rfl) | rfl) (by first | (simp only [List.take_succ_cons, List.take_zero, List.drop_succ_cons, List.drop_zero, List.cons_append, List.nil_append, List.append_nil, List.length_cons, List.length_nil, Nat.reduceAdd, Nat.zero_add, Nat.add_zero, Value.cells, wrV]; first | done | rfl) | rfl) rfl ?_ | refine sv_loadA 3 rfl rfl tyA29 tyS29 (by first | (simp only [List.length_cons, List.length_nil, Nat.reduceAdd, Nat.zero_add, Nat.add_zero]; first | done | rfl) | rfl) (by first | (simp only [List.take_succ_cons, List.take_zero, List.drop_succ_cons, List.drop_zero, List.cons_append, List.nil_append, List.append_nil, List.length_cons, List.length_nil, Nat.reduceAdd, Nat.zero_add, Nat.add_zero, Value.cells, wrV]; first | done | rfl) | rfl) rfl ?_
  refine sv_nil ?_
  refine tw_p rfl ?_
  refine sv_on rfl rfl rfl ?_
  first | refine sv_loadA 0 rfl rfl tyA29 tyS29 (by first | (simp only [List.length_cons, List.length_nil, Nat.reduceAdd, Nat.zero_add, Nat.add_zero]; first | done | rfl) | rfl) (by first | (simp only [List.take_succ_cons, List.take_zero, List.drop_succ_cons, List.drop_zero, List.cons_append, List.nil_append, List.append_nil, List.length_cons, List.length_nil, Nat.reduceAdd, Nat.zero_add, Nat.add_zero, Value.cells, wrV]; first | done | rfl) | rfl) rfl ?_ | refine sv_loadA 1 rfl rfl tyA29 tyS29 (by first | (simp only [List.length_cons, List.length_nil, Nat.reduceAdd, Nat.zero_add, Nat.add_zero]; first | done | rfl) | rfl) (by first | (simp only [List.take_succ_cons, List.take_zero, List.drop_succ_cons, List.drop_zero, List.cons_append, List.nil_append, List.append_nil, List.length_cons, List.length_nil, Nat.reduceAdd, Nat.zero_add, Nat.add_zero, Value.cells, wrV]; first | done | rfl) | rfl) rfl ?_ | refine sv_loadA 2 rfl rfl tyA29 tyS29 (by first | (simp only [List.length_cons, List.length_nil, Nat.reduceAdd, Nat.zero_add, Nat.add_zero]; first | done | rfl) | rfl) (by first | (simp only [List.take_succ_cons, List.take_zero, List.drop_succ_cons, List.drop_zero, List.cons_append, List.nil_append, List.append_nil, List.length_cons, List.length_nil, Nat.reduceAdd, Nat.zero_add, Nat.add_zero, Value.cells, wrV]; first | done | rfl) | rfl) rfl ?_ | refine sv_loadA 3 rfl rfl tyA29 tyS29 (by first | (simp only [List.length_cons, List.length_nil, Nat.reduceAdd, Nat.zero_add, Nat.add_zero]; first | done | rfl) | rfl) (by first | (simp only [List.take_succ_cons, List.take_zero, List.drop_succ_cons, List.drop_zero, List.cons_append, List.nil_append, List.append_nil, List.length_cons, List.length_nil, Nat.reduceAdd, Nat.zero_add, Nat.add_zero, Value.cells, wrV]; first | done | rfl) | rfl) rfl ?_
  refine sv_nil ?_
  refine tw_g rfl ?_
  refine sx_on rfl rfl rfl ?_
  refine sx_betE Q O hA3 hA1 (by repeat (first | exact List.Sublist.refl _ | exact List.nil_sublist _ | exact List.sublist_append_right _ _ | refine List.Sublist.trans ?_ (List.sublist_append_left _ _) | exact List.Sublist.cons_cons _ (List.nil_sublist _) | refine List.Sublist.cons _ ?_)) (by repeat (first | exact List.Sublist.refl _ | exact List.nil_sublist _ | exact List.sublist_append_right _ _ | refine List.Sublist.trans ?_ (List.sublist_append_left _ _) | exact List.Sublist.cons_cons _ (List.nil_sublist _) | refine List.Sublist.cons _ ?_)) (by omega) (by omega) rfl rfl (fun A11 c11 hA11 => ?_)
  refine sx_nil ⟨HLe.pick [0, 1, 2, 3] (by simp) rfl, ?_⟩
  refine tw_g rfl ?_
  refine sx_on rfl rfl rfl ?_
  refine sx_gbackE (betQ Q O) hA11 (by repeat (first | exact List.Sublist.refl _ | exact List.nil_sublist _ | exact List.sublist_append_right _ _ | refine List.Sublist.trans ?_ (List.sublist_append_left _ _) | exact List.Sublist.cons_cons _ (List.nil_sublist _) | refine List.Sublist.cons _ ?_)) (by omega) rfl rfl (fun A12 c12 hA12 => ?_)
  refine sx_nil ⟨HLe.pick [0, 1, 2, 3] (by simp) rfl, ?_⟩
  refine tw_g rfl ?_
  refine sx_on rfl rfl rfl ?_
  refine sx_rgsame (turnQ D) (betQ Q O) hA10 hA12 (by repeat (first | exact List.Sublist.refl _ | exact List.nil_sublist _ | exact List.sublist_append_right _ _ | refine List.Sublist.trans ?_ (List.sublist_append_left _ _) | exact List.Sublist.cons_cons _ (List.nil_sublist _) | refine List.Sublist.cons _ ?_)) (by repeat (first | exact List.Sublist.refl _ | exact List.nil_sublist _ | exact List.sublist_append_right _ _ | refine List.Sublist.trans ?_ (List.sublist_append_left _ _) | exact List.Sublist.cons_cons _ (List.nil_sublist _) | refine List.Sublist.cons _ ?_)) (by show _ ≤ 9223372036854775807; omega) (by show _ ≤ 9223372036854775807; omega) rfl rfl ?_
  rw [hdt, sameG_self]
  refine sx_nil ⟨HLe.pick [0, 1, 2, 3] (by simp) rfl, ?_⟩
  refine tw_p rfl ?_
  refine sv_pick rfl rfl rfl ?_
  refine sv_nil ?_
  refine tw_p rfl ?_
  refine sv_move rfl rfl ?_
  refine sv_nil ?_
  refine tw_force 152 rfl true (by first | rfl | (simp; done) | (simp; omega) | (simp [hF]; done)) ?_
  refine tw_g rfl ?_
  refine sx_on rfl rfl rfl ?_
  refine sx_callP gawake_fn rfl rfl ?_
  refine sx_nil ⟨HLe.pick [0, 1, 2, 3] (by simp) rfl, ?_⟩
  refine tw_p rfl ?_
  refine sv_pick rfl rfl rfl ?_
  refine sv_nil ?_
  refine tw_p rfl ?_
  refine sv_assign rfl rfl ?_
  refine sv_nil ?_
  refine tw_nil (hZ _ _ ?_)
  refine awp_forget [(4, _)] (Kn.cons rfl (Kn.nil)) ?_
  refine awp_ret ?_
  repeat (with_reducible (first | refine nx_then_ret ?_ | refine nx_block_ret ?_ | refine nx_scope_ret ?_))
  exact nx_ret1 rfl rfl rfl
theorem DiffMakes_read {H : Type} {enc : TypeId × Value → H} (w : World) {base : Nat} {v0 v1 : Value} {d0 d1 : DataW H} {p0 p1 : List MemPlace}
    (k0 : Value.okWide Try.prog w .any base 22 v0) (h0 : DataW.Trod enc Try.prog w 0 (fun _ => true) true 22 v0 d0 p0)
    (k1 : Value.okWide Try.prog w .any base 22 v1) (h1 : DataW.Trod enc Try.prog w 0 (fun _ => true) true 22 v1 d1 p1) :
    Calls Try.prog 4 #[v0, v1] w fun e w' => e = .returned (.bool true) ∧ Bel w w' := by
  obtain ⟨A, c, L, T, rfl, hA, hL, hE, hT, hro, hS, _⟩ := open_its k0 h0
  obtain ⟨B, d, M, U, rfl, hB, hM, hF, hU, hroU, hSU, _⟩ := open_its k1 h1
  exact tail_bel (hro.append hroU) (hS.both hSU hro hroU) (fmakes_fn A c L T hA hT hro hL hE B d M U hB hU hroU hM hF)
namespace diffMakes
open Go.ChangeShapes Go.WideShapes Go.ChangeAt Go.RowKit
theorem own : ownKnob Try.prog.godebug = none := by kernel_rfl
theorem laidOut : laidOutB Try.prog = true := by kernel_rfl
set_option maxRecDepth 100000 in
theorem lifted (os : Os) (started : os.Started) (H : Type) (enc : TypeId × Value → H) :
    ReturnsInHanded {} Try.checked os 4 .any (Rows.diffMakesSpec.pre6 enc Try.prog Try.f4 Rows.diffMakesRow.domain false) (Rows.diffMakesSpec.post enc Try.prog Try.f4 false true false false) := by
  refine returnsInHanded_of_change (C := Try.checked) own started (by kernel_rfl) Try.func4
    (ChangeSpec.witness6 (enc := enc) (C := Try.checked) false ⟨#[], #[.slice none 0 0, .slice none 0 0], []⟩ 8 (by kernel_rfl) (by kernel_rfl) (by kernel_rfl) (by kernel_rfl)) ?_
  intro W base args ds gs before hval0 hW hcnd _
  have hval : ∀ (j : Nat) t v, Try.f4.params[j]? = some t → args[j]? = some v → Value.okWide Try.prog W .any base t v := hval0
  have hW' := hW
  obtain ⟨p, q, hA0, hV, rfl, hfz, hnd⟩ := hW
  have hA : DataW.TrodAll enc Try.prog W 0 (fun _ => true) true Try.f4.params.toList args.toList ds p := hA0
  rw [Try.params4] at hA hval
  obtain ⟨v0, vs0, d0, ds0, p0, q0, hargs, rfl, rfl, h0, r0⟩ := trodAll_cons hA
  obtain ⟨v1, vs1, d1, ds1, p1, q1, rfl, rfl, rfl, h1, r1⟩ := trodAll_cons r0
  obtain ⟨rfl, rfl, rfl⟩ := trodAll_nil r1
  obtain rfl : args = #[v0, v1] := by cases args; simp_all
  obtain ⟨rfl, rfl⟩ := trodVars_none hV
  have lt0 : ∀ x ∈ p0, x.block < W.heap.size := by obtain ⟨m, hm⟩ := h0; exact DataW.trod_lt m _ _ _ hm
  have lt1 : ∀ x ∈ p1, x.block < W.heap.size := by obtain ⟨m, hm⟩ := h1; exact DataW.trod_lt m _ _ _ hm
  refine (DiffMakes_read W (hval 0 22 v0 rfl rfl) h0 (hval 1 22 v1 rfl rfl) h1).mono fun e W' ⟨he, bel0⟩ => ?_
  have bel : Below W.heap.size W W' := bel0
  subst he
  exact ⟨_, rfl, _, _, _, [], _, [], hW', trodAll_mk1 (shut_bool Try.underlying4 _), (trodAll_cons_mk (Below.trod laidOut (by kernel_rfl) (of_decide_eq_true (by kernel_rfl)) h0 bel lt0) (trodAll_cons_mk (Below.trod laidOut (by kernel_rfl) (of_decide_eq_true (by kernel_rfl)) h1 bel lt1) trodAll_mk0)), rfl, bel.frame _, fun h => by cases h⟩
theorem over : Rows.diffMakesRow.holds Try.pinned (OpenSpec.ofChange Rows.diffMakesSpec) :=
  OpenClaim.holds_of_wide 4 Try.f4 rfl rfl rfl rfl rfl rfl rfl ⟨rfl, rfl, rfl, rfl, rfl⟩ rfl rfl rfl rfl rfl (by kernel_rfl) Try.func4 (by kernel_rfl)
    (of_decide_eq_true (by kernel_rfl)) (by unfold Func.isWrapper; first | (rw [if_pos (by decide +kernel)]; kernel_rfl) | (rw [if_neg (by decide +kernel)]; exact ⟨rfl, rfl⟩))
    (fun os started H enc _ => lifted os started H enc)
theorem proved : Rows.DiffMakesSaid := over
#print axioms proved
end diffMakes
end Go.Proofs.Ytahmhcmfeloclaa
