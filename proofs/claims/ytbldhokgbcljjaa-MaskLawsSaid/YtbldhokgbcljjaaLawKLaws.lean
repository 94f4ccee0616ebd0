/- MaskLaws. No conditions. -/
import Derived.Test.YtbldhokgbcljjaaMw6
import Derived.Test.YtbldhokgbcljjaaKv7
namespace Go.Proofs.Ytbldhokgbcljjaa
open Go.RowKit
set_option linter.unusedVariables false
set_option linter.unusedSimpArgs false
set_option maxRecDepth 100000
theorem totM_is {L : List Sp} (h : Plain L) (hb : BelowS 6004799503160661 L) : totM L = totalQ L := Nat.mod_eq_of_lt (by have := total_le h hb; omega)
theorem dec_int (a b : Nat) : (decide (a = b) == ((a : Int) == (b : Int))) = true := by
  rw [beq_iff_eq, Bool.eq_iff_iff, decide_eq_true_iff, beq_iff_eq]
  omega
theorem mlaws_fn (A : Option Addr) (c : Nat) (L : List Sp) (T : Heap) (hA : ArgOk A L.length) (hT : 0 < L.length → T = roE A (scells L)) (hro : Ro T) (hL : L.length ≤ maxLen) (ho : SpsOk L)
    (B : Option Addr) (c2 : Nat) (M : List Sp) (U : Heap) (hB : ArgOk B M.length) (hU : 0 < M.length → U = roE B (scells M)) (hroU : Ro U) (hM : M.length ≤ maxLen) (hoM : SpsOk M) :
    Fn Try.prog 6 [.slice A L.length c, .slice B M.length c2] (T ++ U) fun v _ => v = .bool true := by
  refine Fn.enter (N := 96) Try.func6 rfl (by kernel_rfl) rfl (fun w0 => ?_)

  refine awp_seq_region (fun Z hZ => ?_)
  refine sx_assign rfl rfl ?_
  refine sx_nil (hZ _ _ ?_)
  refine awp_forget [(0, _), (1, _)] (Kn.cons rfl (Kn.cons rfl (Kn.nil))) ?_
  refine awp_seq ?_
  refine awp_seq_meet [(0, .slice A L.length c), (1, .slice B M.length c2), (16, .bool (decide (30 < L.length ∨ 30 < M.length)))] (T ++ U) (fun Z hZ => ?_) ?_
  · refine sx_move rfl rfl ?_
    first | refine sx_len Try.underlying22 rfl rfl ?_ | refine sx_lenS Try.underlying22 rfl rfl ?_
    first | refine sx_gtr rfl rfl rfl ?_ | refine sx_sgtr rfl rfl rfl ?_
    refine sx_move rfl rfl ?_
    refine sx_split 12 rfl (fun hb3 => ?_) (fun hb3 => ?_)
    · refine sx_off rfl rfl rfl rfl rfl ?_
      refine sx_off rfl rfl rfl rfl rfl ?_
      refine sx_off rfl rfl rfl rfl rfl ?_
      refine sx_pick rfl rfl rfl ?_
      refine sx_nil (hZ _ _ ?_ ?_)
      · exact Kn.cons rfl (Kn.cons rfl (Kn.cons (congrArg some (congrArg Value.bool (by first | (rw [Bool.eq_iff_iff]; simp only [decide_eq_true_eq, decide_eq_false_iff_not] at hb3 ⊢; omega) | (simp at *; done) | (simp at *; omega)))) Kn.nil))
      · exact HLe.refl _
    · refine sx_on rfl rfl rfl ?_
      refine sx_move rfl rfl ?_
      refine sx_on rfl rfl rfl ?_
      first | refine sx_len Try.underlying22 rfl rfl ?_ | refine sx_lenS Try.underlying22 rfl rfl ?_
      refine sx_on rfl rfl rfl ?_
      first | refine sx_gtr rfl rfl rfl ?_ | refine sx_sgtr rfl rfl rfl ?_
      refine sx_pick rfl rfl rfl ?_
      refine sx_nil (hZ _ _ ?_ ?_)
      · exact Kn.cons rfl (Kn.cons rfl (Kn.cons (congrArg some (congrArg Value.bool (by first | (rw [Bool.eq_iff_iff]; simp only [decide_eq_true_eq, decide_eq_false_iff_not] at hb3 ⊢; omega) | (simp at *; done) | (simp at *; omega)))) Kn.nil))
      · exact HLe.refl _
  first | refine awp_cond rfl (fun h => ?_) (fun h => ?_) | refine awp_seq (awp_cond rfl (fun h => ?_) (fun h => ?_))
  · refine awp_seq_region (fun Z hZ => ?_)
    refine sx_callP m43wake_fn rfl rfl ?_
    refine sx_assign rfl rfl ?_
    refine sx_nil (hZ _ _ ?_)
    refine awp_forget [(4, _)] (Kn.cons rfl (Kn.nil)) ?_
    refine awp_ret ?_
    repeat (with_reducible (first | refine nx_then_ret ?_ | refine nx_block_ret ?_ | refine nx_scope_ret ?_))
    exact nx_ret1 rfl rfl rfl
  have n1 : L.length ≤ 30 ∧ M.length ≤ 30 := by simp at h; omega
  refine awp_skip ?_
  repeat (with_reducible (first | refine nx_block_normal ?_ | refine nx_scope_normal ?_))
  with_reducible first | refine nx_normal ?_ | refine nx_normalM ?_
  refine awp_seq_region (fun Z hZ => ?_)
  refine sx_move rfl rfl ?_
  refine sx_callIE T (spans_fn A c L T hA hT hro (by omega)) rfl (HLe.sub (by with_reducible repeat (first | exact List.Sublist.refl _ | exact List.nil_sublist _ | exact List.sublist_append_right _ _ | refine List.Sublist.trans ?_ (List.sublist_append_left _ _) | exact List.Sublist.cons_cons _ (List.nil_sublist _) | refine List.Sublist.cons _ ?_))) hro rfl (fun A1 c1 hA1 => ?_)
  refine sx_callIE (roE A1 (scells L) ++ []) (mor_fn A1 c1 L _ hA1.arg (fun _ => rfl) (Ro.roE _ _) (by omega) ho none 0 [] [] (fun h => by simp at h) (fun h => by simp at h) Ro.nil (by simp) (fun s hs => by cases hs)) rfl (HLe.sub (by rw [List.append_nil]; exact (by with_reducible repeat (first | exact List.Sublist.refl _ | exact List.nil_sublist _ | exact List.sublist_append_right _ _ | refine List.Sublist.trans ?_ (List.sublist_append_left _ _) | exact List.Sublist.cons_cons _ (List.nil_sublist _) | refine List.Sublist.cons _ ?_)))) ((Ro.roE _ _).append Ro.nil) rfl (fun Ax cx hAx => ?_)
  refine sx_move rfl rfl ?_
  refine sx_callIE U (spans_fn B c2 M U hB hU hroU (by omega)) rfl (HLe.sub (by with_reducible repeat (first | exact List.Sublist.refl _ | exact List.nil_sublist _ | exact List.sublist_append_right _ _ | refine List.Sublist.trans ?_ (List.sublist_append_left _ _) | exact List.Sublist.cons_cons _ (List.nil_sublist _) | refine List.Sublist.cons _ ?_))) hroU rfl (fun A2 c3 hA2 => ?_)
  refine sx_callIE (roE A2 (scells M) ++ []) (mor_fn A2 c3 M _ hA2.arg (fun _ => rfl) (Ro.roE _ _) (by omega) hoM none 0 [] [] (fun h => by simp at h) (fun h => by simp at h) Ro.nil (by simp) (fun s hs => by cases hs)) rfl (HLe.sub (by rw [List.append_nil]; exact (by with_reducible repeat (first | exact List.Sublist.refl _ | exact List.nil_sublist _ | exact List.sublist_append_right _ _ | refine List.Sublist.trans ?_ (List.sublist_append_left _ _) | exact List.Sublist.cons_cons _ (List.nil_sublist _) | refine List.Sublist.cons _ ?_)))) ((Ro.roE _ _).append Ro.nil) rfl (fun Ay cy hAy => ?_)
  refine sx_assign rfl rfl ?_
  refine sx_assign rfl rfl ?_
  refine sx_nil (hZ _ _ ?_)
  refine awp_forget [(5, _), (6, _)] (Kn.cons rfl (Kn.cons rfl (Kn.nil))) ?_
  have l1 := or_len L []
  have l2 := or_len M []
  simp only [List.length_nil] at l1 l2
  have hpx := or_plain L []
  have hbx := or_below L []
  have hpy := or_plain M []
  have hby := or_below M []
  obtain ⟨X, hX⟩ : ∃ X, orQ L [] = X := ⟨_, rfl⟩
  obtain ⟨Y, hY⟩ : ∃ Y, orQ M [] = Y := ⟨_, rfl⟩
  rw [hX] at hpx hbx l1 hAx
  rw [hY] at hpy hby l2 hAy
  rw [hX, hY]
  have hox := below_sps hpx hbx
  have hoy := below_sps hpy hby
  have l3 := or_len X Y
  have l4 := and_len X Y
  have l5 := not_len X
  have l6 := not_len Y
  have l7 := not_len (notQ X)
  have l8 := or_len (notQ X) (notQ Y)
  have l9 := not_len (orQ (notQ X) (notQ Y))
  have l10 : (lessQ X Y).length ≤ 1000 := by have := and_len X (notQ Y); unfold lessQ; omega
  have e1 := total_or X Y hpx hbx hpy hby
  have e2 := total_less X Y hpx hbx
  have w3 := within_total X Y hpx hbx
  have w1 : withinQ (andQ X Y) X = true := (within_iff _ _).2 fun k _ hk => ((and_in X Y k).1 hk).2.1
  have w2 : withinQ X (orQ X Y) = true := (within_iff _ _).2 fun k hlt hk => (or_in X Y k).2 ⟨.inl hk, hlt⟩
  have b1 := total_le (or_plain X Y) (or_below X Y)
  have b2 := total_le (and_plain X Y) (and_below X Y)
  have b3 := total_le hpx hbx
  have b4 := total_le hpy hby
  obtain ⟨tor, htor⟩ : ∃ n, totM (orQ X Y) = n := ⟨_, rfl⟩
  obtain ⟨tand, htand⟩ : ∃ n, totM (andQ X Y) = n := ⟨_, rfl⟩
  obtain ⟨tx, htx⟩ : ∃ n, totM X = n := ⟨_, rfl⟩
  obtain ⟨ty, hty⟩ : ∃ n, totM Y = n := ⟨_, rfl⟩
  obtain ⟨tl, htl⟩ : ∃ n, totM (lessQ X Y) = n := ⟨_, rfl⟩
  rw [← totM_is (or_plain X Y) (or_below X Y), htor] at e1 b1
  rw [← totM_is (and_plain X Y) (and_below X Y), htand] at e1 e2 b2 w3
  rw [← totM_is hpx hbx, htx] at e1 e2 b3 w3
  rw [← totM_is hpy hby, hty] at e1 b4
  rw [← totM_is (L := lessQ X Y) (and_plain _ _) (and_below _ _), htl] at e2
  refine awp_seq_region (fun Z hZ => ?_)
  refine sx_move rfl rfl ?_
  refine sx_move rfl rfl ?_
  refine sx_callIE (roE Ax (scells X) ++ roE Ay (scells Y)) (mor_fn Ax cx X _ hAx.arg (fun _ => rfl) (Ro.roE _ _) (by omega) hox Ay cy Y _ hAy.arg (fun _ => rfl) (Ro.roE _ _) (by omega) hoy) rfl (HLe.twoS (by with_reducible repeat (first | exact List.Sublist.refl _ | exact List.nil_sublist _ | exact List.sublist_append_right _ _ | refine List.Sublist.trans ?_ (List.sublist_append_left _ _) | exact List.Sublist.cons_cons _ (List.nil_sublist _) | refine List.Sublist.cons _ ?_)) (by with_reducible repeat (first | exact List.Sublist.refl _ | exact List.nil_sublist _ | exact List.sublist_append_right _ _ | refine List.Sublist.trans ?_ (List.sublist_append_left _ _) | exact List.Sublist.cons_cons _ (List.nil_sublist _) | refine List.Sublist.cons _ ?_)) (Ro.roE _ _)) ((Ro.roE _ _).append (Ro.roE _ _)) rfl (fun Ao co hAo => ?_)
  refine sx_move rfl rfl ?_
  refine sx_move rfl rfl ?_
  refine sx_callIE (roE Ax (scells X) ++ roE Ay (scells Y)) (mand_fn Ax cx X _ hAx.arg (fun _ => rfl) (Ro.roE _ _) (by omega) hox Ay cy Y _ hAy.arg (fun _ => rfl) (Ro.roE _ _) (by omega) hoy) rfl (HLe.twoS (by with_reducible repeat (first | exact List.Sublist.refl _ | exact List.nil_sublist _ | exact List.sublist_append_right _ _ | refine List.Sublist.trans ?_ (List.sublist_append_left _ _) | exact List.Sublist.cons_cons _ (List.nil_sublist _) | refine List.Sublist.cons _ ?_)) (by with_reducible repeat (first | exact List.Sublist.refl _ | exact List.nil_sublist _ | exact List.sublist_append_right _ _ | refine List.Sublist.trans ?_ (List.sublist_append_left _ _) | exact List.Sublist.cons_cons _ (List.nil_sublist _) | refine List.Sublist.cons _ ?_)) (Ro.roE _ _)) ((Ro.roE _ _).append (Ro.roE _ _)) rfl (fun Aa ca hAa => ?_)
  refine sx_assign rfl rfl ?_
  refine sx_assign rfl rfl ?_
  refine sx_nil (hZ _ _ ?_)
  refine awp_forget [(5, _), (6, _), (7, _), (8, _)] (Kn.cons rfl (Kn.cons rfl (Kn.cons rfl (Kn.cons rfl (Kn.nil))))) ?_
  refine awp_heap (((roE Ax (scells X) ++ roE Ay (scells Y)) ++ roE Ao (scells (orQ X Y))) ++ roE Aa (scells (andQ X Y))) (HLe.sub (List.Sublist.append_right (List.Sublist.append_right (List.Sublist.append ((List.sublist_append_right _ _).trans ((List.sublist_append_left _ _))) (List.Sublist.refl _)) _) _)) ?_
  refine awp_seq ?_
  refine awp_seq_meet [(5, .slice Ax X.length cx), (6, .slice Ay Y.length cy), (7, .slice Ao (orQ X Y).length co), (8, .slice Aa (andQ X Y).length ca), (48, .bool false)] (((roE Ax (scells X) ++ roE Ay (scells Y)) ++ roE Ao (scells (orQ X Y))) ++ roE Aa (scells (andQ X Y))) (fun Z hZ => ?_) ?_
  · refine sx_move rfl rfl ?_
    refine sx_callIE (roE Ax (scells X)) (mnot_fn Ax cx X _ hAx.arg (fun _ => rfl) (Ro.roE _ _) (by omega) hox) rfl (HLe.sub (by with_reducible repeat (first | exact List.Sublist.refl _ | exact List.nil_sublist _ | exact List.sublist_append_right _ _ | refine List.Sublist.trans ?_ (List.sublist_append_left _ _) | exact List.Sublist.cons_cons _ (List.nil_sublist _) | refine List.Sublist.cons _ ?_))) (Ro.roE _ _) rfl (fun A5 c5 hA5 => ?_)
    refine sx_callIE (roE A5 (scells (notQ X))) (mnot_fn A5 c5 (notQ X) _ hA5.arg (fun _ => rfl) (Ro.roE _ _) (by omega) (below_sps (not_plain X) (not_below X))) rfl (HLe.sub (by with_reducible repeat (first | exact List.Sublist.refl _ | exact List.nil_sublist _ | exact List.sublist_append_right _ _ | refine List.Sublist.trans ?_ (List.sublist_append_left _ _) | exact List.Sublist.cons_cons _ (List.nil_sublist _) | refine List.Sublist.cons _ ?_))) (Ro.roE _ _) rfl (fun A6 c6 hA6 => ?_)
    refine sx_move rfl rfl ?_
    refine sx_callIE (roE Ax (scells X)) (sback43_fn Ax cx X _ hAx.arg (fun _ => rfl) (Ro.roE _ _) (by omega)) rfl (HLe.sub (by with_reducible repeat (first | exact List.Sublist.refl _ | exact List.nil_sublist _ | exact List.sublist_append_right _ _ | refine List.Sublist.trans ?_ (List.sublist_append_left _ _) | exact List.Sublist.cons_cons _ (List.nil_sublist _) | refine List.Sublist.cons _ ?_))) (Ro.roE _ _) rfl (fun A7 c7 hA7 => ?_)
    refine sx_callV (roE A6 (scells (notQ (notQ X))) ++ roE A7 (scells X)) (law_same_fn A6 c6 (notQ (notQ X)) hA6 (by omega) A7 c7 X hA7 (by omega)) rfl (HLe.twoS (by with_reducible repeat (first | exact List.Sublist.refl _ | exact List.nil_sublist _ | exact List.sublist_append_right _ _ | refine List.Sublist.trans ?_ (List.sublist_append_left _ _) | exact List.Sublist.cons_cons _ (List.nil_sublist _) | refine List.Sublist.cons _ ?_)) (by with_reducible repeat (first | exact List.Sublist.refl _ | exact List.nil_sublist _ | exact List.sublist_append_right _ _ | refine List.Sublist.trans ?_ (List.sublist_append_left _ _) | exact List.Sublist.cons_cons _ (List.nil_sublist _) | refine List.Sublist.cons _ ?_)) (Ro.roE _ _)) ((Ro.roE _ _).append (Ro.roE _ _)) rfl ?_
    rw [not_not hpx hbx, sameS_self]
    refine sx_not rfl rfl ?_
    refine sx_move rfl rfl ?_
    refine sx_force 37 rfl false (by first | (simp; done) | rfl) ?_
    refine sx_on rfl rfl rfl ?_
    refine sx_move rfl rfl ?_
    refine sx_on rfl rfl rfl ?_
    refine sx_callIE (roE Ax (scells X)) (mnot_fn Ax cx X _ hAx.arg (fun _ => rfl) (Ro.roE _ _) (by omega) hox) rfl (HLe.sub (by with_reducible repeat (first | exact List.Sublist.refl _ | exact List.nil_sublist _ | exact List.sublist_append_right _ _ | refine List.Sublist.trans ?_ (List.sublist_append_left _ _) | exact List.Sublist.cons_cons _ (List.nil_sublist _) | refine List.Sublist.cons _ ?_))) (Ro.roE _ _) rfl (fun A8 c8 hA8 => ?_)
    refine sx_on rfl rfl rfl ?_
    refine sx_move rfl rfl ?_
    refine sx_on rfl rfl rfl ?_
    refine sx_callIE (roE Ay (scells Y)) (mnot_fn Ay cy Y _ hAy.arg (fun _ => rfl) (Ro.roE _ _) (by omega) hoy) rfl (HLe.sub (by with_reducible repeat (first | exact List.Sublist.refl _ | exact List.nil_sublist _ | exact List.sublist_append_right _ _ | refine List.Sublist.trans ?_ (List.sublist_append_left _ _) | exact List.Sublist.cons_cons _ (List.nil_sublist _) | refine List.Sublist.cons _ ?_))) (Ro.roE _ _) rfl (fun A9 c9 hA9 => ?_)
    refine sx_on rfl rfl rfl ?_
    refine sx_callIE (roE A8 (scells (notQ X)) ++ roE A9 (scells (notQ Y))) (mor_fn A8 c8 (notQ X) _ hA8.arg (fun _ => rfl) (Ro.roE _ _) (by omega) (below_sps (not_plain X) (not_below X)) A9 c9 (notQ Y) _ hA9.arg (fun _ => rfl) (Ro.roE _ _) (by omega) (below_sps (not_plain Y) (not_below Y))) rfl (HLe.twoS (by with_reducible repeat (first | exact List.Sublist.refl _ | exact List.nil_sublist _ | exact List.sublist_append_right _ _ | refine List.Sublist.trans ?_ (List.sublist_append_left _ _) | exact List.Sublist.cons_cons _ (List.nil_sublist _) | refine List.Sublist.cons _ ?_)) (by with_reducible repeat (first | exact List.Sublist.refl _ | exact List.nil_sublist _ | exact List.sublist_append_right _ _ | refine List.Sublist.trans ?_ (List.sublist_append_left _ _) | exact List.Sublist.cons_cons _ (List.nil_sublist _) | refine List.Sublist.cons _ ?_)) (Ro.roE _ _)) ((Ro.roE _ _).append (Ro.roE _ _)) rfl (fun A10 c10 hA10 => ?_)
    refine sx_on rfl rfl rfl ?_
    refine sx_callIE (roE A10 (scells (orQ (notQ X) (notQ Y)))) (mnot_fn A10 c10 (orQ (notQ X) (notQ Y)) _ hA10.arg (fun _ => rfl) (Ro.roE _ _) (by omega) (below_sps (or_plain _ _) (or_below _ _))) rfl (HLe.sub (by with_reducible repeat (first | exact List.Sublist.refl _ | exact List.nil_sublist _ | exact List.sublist_append_right _ _ | refine List.Sublist.trans ?_ (List.sublist_append_left _ _) | exact List.Sublist.cons_cons _ (List.nil_sublist _) | refine List.Sublist.cons _ ?_))) (Ro.roE _ _) rfl (fun A11 c11 hA11 => ?_)
    refine sx_on rfl rfl rfl ?_
    refine sx_move rfl rfl ?_
    refine sx_on rfl rfl rfl ?_
    refine sx_callIE (roE Aa (scells (andQ X Y))) (sback43_fn Aa ca (andQ X Y) _ hAa.arg (fun _ => rfl) (Ro.roE _ _) (by omega)) rfl (HLe.sub (by with_reducible repeat (first | exact List.Sublist.refl _ | exact List.nil_sublist _ | exact List.sublist_append_right _ _ | refine List.Sublist.trans ?_ (List.sublist_append_left _ _) | exact List.Sublist.cons_cons _ (List.nil_sublist _) | refine List.Sublist.cons _ ?_))) (Ro.roE _ _) rfl (fun A12 c12 hA12 => ?_)
    refine sx_on rfl rfl rfl ?_
    refine sx_callV (roE A11 (scells (notQ (orQ (notQ X) (notQ Y)))) ++ roE A12 (scells (andQ X Y))) (law_same_fn A11 c11 (notQ (orQ (notQ X) (notQ Y))) hA11 (by omega) A12 c12 (andQ X Y) hA12 (by omega)) rfl (HLe.twoS (by with_reducible repeat (first | exact List.Sublist.refl _ | exact List.nil_sublist _ | exact List.sublist_append_right _ _ | refine List.Sublist.trans ?_ (List.sublist_append_left _ _) | exact List.Sublist.cons_cons _ (List.nil_sublist _) | refine List.Sublist.cons _ ?_)) (by with_reducible repeat (first | exact List.Sublist.refl _ | exact List.nil_sublist _ | exact List.sublist_append_right _ _ | refine List.Sublist.trans ?_ (List.sublist_append_left _ _) | exact List.Sublist.cons_cons _ (List.nil_sublist _) | refine List.Sublist.cons _ ?_)) (Ro.roE _ _)) ((Ro.roE _ _).append (Ro.roE _ _)) rfl ?_
    rw [show sameS (notQ (orQ (notQ X) (notQ Y))) (andQ X Y) = true from sameS_self (andQ X Y)]
    refine sx_on rfl rfl rfl ?_
    refine sx_not rfl rfl ?_
    refine sx_pick rfl rfl rfl ?_
    refine sx_nil (hZ _ _ ?_ ?_)
    · exact Kn.cons rfl (Kn.cons rfl (Kn.cons rfl (Kn.cons rfl (Kn.cons rfl Kn.nil))))
    · exact HLe.sub (by with_reducible repeat (first | exact List.Sublist.refl _ | exact List.nil_sublist _ | exact List.sublist_append_right _ _ | refine List.Sublist.trans ?_ (List.sublist_append_left _ _) | exact List.Sublist.cons_cons _ (List.nil_sublist _) | refine List.Sublist.cons _ ?_))
  first | refine awp_cond rfl (fun h5 => ?_) (fun h5 => ?_) | refine awp_seq (awp_cond rfl (fun h5 => ?_) (fun h5 => ?_))
  · cases h5
  refine awp_skip ?_
  repeat (with_reducible (first | refine nx_block_normal ?_ | refine nx_scope_normal ?_))
  with_reducible first | refine nx_normal ?_ | refine nx_normalM ?_
  refine awp_seq_meet [(4, .bool true)] [] (fun Z hZ => ?_) ?_
  · refine sx_move rfl rfl ?_
    refine sx_callPT (roE Ao (scells (orQ X Y))) (stotal_fn Ao co (orQ X Y) _ hAo.arg (fun _ => rfl) (Ro.roE _ _) (by omega) (below_sps (or_plain X Y) (or_below X Y))) rfl (by with_reducible repeat (first | exact List.Sublist.refl _ | exact List.nil_sublist _ | exact List.sublist_append_right _ _ | refine List.Sublist.trans ?_ (List.sublist_append_left _ _) | exact List.Sublist.cons_cons _ (List.nil_sublist _) | refine List.Sublist.cons _ ?_)) (Ro.roE _ _) rfl ?_
    rw [htor]
    refine sx_move rfl rfl ?_
    refine sx_callPT (roE Aa (scells (andQ X Y))) (stotal_fn Aa ca (andQ X Y) _ hAa.arg (fun _ => rfl) (Ro.roE _ _) (by omega) (below_sps (and_plain X Y) (and_below X Y))) rfl (by with_reducible repeat (first | exact List.Sublist.refl _ | exact List.nil_sublist _ | exact List.sublist_append_right _ _ | refine List.Sublist.trans ?_ (List.sublist_append_left _ _) | exact List.Sublist.cons_cons _ (List.nil_sublist _) | refine List.Sublist.cons _ ?_)) (Ro.roE _ _) rfl ?_
    rw [htand]
    refine sx_add rfl rfl ((tor + tand : Nat) : Int) (by rw [IntWalk.u64_in _ (by omega)]; omega) rfl ?_
    refine sx_move rfl rfl ?_
    refine sx_callPT (roE Ax (scells X)) (stotal_fn Ax cx X _ hAx.arg (fun _ => rfl) (Ro.roE _ _) (by omega) hox) rfl (by with_reducible repeat (first | exact List.Sublist.refl _ | exact List.nil_sublist _ | exact List.sublist_append_right _ _ | refine List.Sublist.trans ?_ (List.sublist_append_left _ _) | exact List.Sublist.cons_cons _ (List.nil_sublist _) | refine List.Sublist.cons _ ?_)) (Ro.roE _ _) rfl ?_
    rw [htx]
    refine sx_move rfl rfl ?_
    refine sx_callPT (roE Ay (scells Y)) (stotal_fn Ay cy Y _ hAy.arg (fun _ => rfl) (Ro.roE _ _) (by omega) hoy) rfl (by with_reducible repeat (first | exact List.Sublist.refl _ | exact List.nil_sublist _ | exact List.sublist_append_right _ _ | refine List.Sublist.trans ?_ (List.sublist_append_left _ _) | exact List.Sublist.cons_cons _ (List.nil_sublist _) | refine List.Sublist.cons _ ?_)) (Ro.roE _ _) rfl ?_
    rw [hty]
    refine sx_add rfl rfl ((tx + ty : Nat) : Int) (by rw [IntWalk.u64_in _ (by omega)]; omega) rfl ?_
    first | refine sx_eql rfl rfl rfl ?_ | refine sx_seql rfl rfl rfl ?_
    refine sx_move rfl rfl ?_
    refine sx_force 60 rfl true (by first | (simp; done) | (simp; omega) | exact dec_int _ _ | (rw [Bool.eq_iff_iff]; simp; omega) | rfl) ?_
    refine sx_on rfl rfl rfl ?_
    refine sx_move rfl rfl ?_
    refine sx_on rfl rfl rfl ?_
    refine sx_move rfl rfl ?_
    refine sx_on rfl rfl rfl ?_
    refine sx_callIE (roE Ax (scells X) ++ roE Ay (scells Y)) (mless_fn Ax cx X _ hAx.arg (fun _ => rfl) (Ro.roE _ _) (by omega) hox Ay cy Y _ hAy.arg (fun _ => rfl) (Ro.roE _ _) (by omega) hoy) rfl (HLe.twoS (by with_reducible repeat (first | exact List.Sublist.refl _ | exact List.nil_sublist _ | exact List.sublist_append_right _ _ | refine List.Sublist.trans ?_ (List.sublist_append_left _ _) | exact List.Sublist.cons_cons _ (List.nil_sublist _) | refine List.Sublist.cons _ ?_)) (by with_reducible repeat (first | exact List.Sublist.refl _ | exact List.nil_sublist _ | exact List.sublist_append_right _ _ | refine List.Sublist.trans ?_ (List.sublist_append_left _ _) | exact List.Sublist.cons_cons _ (List.nil_sublist _) | refine List.Sublist.cons _ ?_)) (Ro.roE _ _)) ((Ro.roE _ _).append (Ro.roE _ _)) rfl (fun A13 c13 hA13 => ?_)
    refine sx_on rfl rfl rfl ?_
    refine sx_callPT (roE A13 (scells (lessQ X Y))) (stotal_fn A13 c13 (lessQ X Y) _ hA13.arg (fun _ => rfl) (Ro.roE _ _) (by omega) (below_sps (and_plain _ _) (and_below _ _))) rfl (by with_reducible repeat (first | exact List.Sublist.refl _ | exact List.nil_sublist _ | exact List.sublist_append_right _ _ | refine List.Sublist.trans ?_ (List.sublist_append_left _ _) | exact List.Sublist.cons_cons _ (List.nil_sublist _) | refine List.Sublist.cons _ ?_)) (Ro.roE _ _) rfl ?_
    rw [htl]
    refine sx_on rfl rfl rfl ?_
    refine sx_move rfl rfl ?_
    refine sx_on rfl rfl rfl ?_
    refine sx_callPT (roE Aa (scells (andQ X Y))) (stotal_fn Aa ca (andQ X Y) _ hAa.arg (fun _ => rfl) (Ro.roE _ _) (by omega) (below_sps (and_plain X Y) (and_below X Y))) rfl (by with_reducible repeat (first | exact List.Sublist.refl _ | exact List.nil_sublist _ | exact List.sublist_append_right _ _ | refine List.Sublist.trans ?_ (List.sublist_append_left _ _) | exact List.Sublist.cons_cons _ (List.nil_sublist _) | refine List.Sublist.cons _ ?_)) (Ro.roE _ _) rfl ?_
    rw [htand]
    refine sx_on rfl rfl rfl ?_
    refine sx_add rfl rfl ((tl + tand : Nat) : Int) (by rw [IntWalk.u64_in _ (by omega)]; omega) rfl ?_
    refine sx_on rfl rfl rfl ?_
    refine sx_move rfl rfl ?_
    refine sx_on rfl rfl rfl ?_
    refine sx_callPT (roE Ax (scells X)) (stotal_fn Ax cx X _ hAx.arg (fun _ => rfl) (Ro.roE _ _) (by omega) hox) rfl (by with_reducible repeat (first | exact List.Sublist.refl _ | exact List.nil_sublist _ | exact List.sublist_append_right _ _ | refine List.Sublist.trans ?_ (List.sublist_append_left _ _) | exact List.Sublist.cons_cons _ (List.nil_sublist _) | refine List.Sublist.cons _ ?_)) (Ro.roE _ _) rfl ?_
    rw [htx]
    refine sx_on rfl rfl rfl ?_
    first | refine sx_eql rfl rfl rfl ?_ | refine sx_seql rfl rfl rfl ?_
    refine sx_pick rfl rfl rfl ?_
    refine sx_move rfl rfl ?_
    refine sx_force 72 rfl true (by first | (simp; done) | (simp; omega) | exact dec_int _ _ | (rw [Bool.eq_iff_iff]; simp; omega) | rfl) ?_
    refine sx_on rfl rfl rfl ?_
    refine sx_move rfl rfl ?_
    refine sx_on rfl rfl rfl ?_
    refine sx_move rfl rfl ?_
    refine sx_on rfl rfl rfl ?_
    refine sx_callV (roE Aa (scells (andQ X Y)) ++ roE Ax (scells X)) (mwithin_fn Aa ca (andQ X Y) _ hAa.arg (fun _ => rfl) (Ro.roE _ _) (by omega) (below_sps (and_plain X Y) (and_below X Y)) Ax cx X _ hAx.arg (fun _ => rfl) (Ro.roE _ _) (by omega) hox) rfl (HLe.twoS (by with_reducible repeat (first | exact List.Sublist.refl _ | exact List.nil_sublist _ | exact List.sublist_append_right _ _ | refine List.Sublist.trans ?_ (List.sublist_append_left _ _) | exact List.Sublist.cons_cons _ (List.nil_sublist _) | refine List.Sublist.cons _ ?_)) (by with_reducible repeat (first | exact List.Sublist.refl _ | exact List.nil_sublist _ | exact List.sublist_append_right _ _ | refine List.Sublist.trans ?_ (List.sublist_append_left _ _) | exact List.Sublist.cons_cons _ (List.nil_sublist _) | refine List.Sublist.cons _ ?_)) (Ro.roE _ _)) ((Ro.roE _ _).append (Ro.roE _ _)) rfl ?_
    rw [w1]
    refine sx_pick rfl rfl rfl ?_
    refine sx_move rfl rfl ?_
    refine sx_force 77 rfl true (by first | (simp; done) | (simp; omega) | exact dec_int _ _ | (rw [Bool.eq_iff_iff]; simp; omega) | rfl) ?_
    refine sx_on rfl rfl rfl ?_
    refine sx_move rfl rfl ?_
    refine sx_on rfl rfl rfl ?_
    refine sx_move rfl rfl ?_
    refine sx_on rfl rfl rfl ?_
    refine sx_callV (roE Ax (scells X) ++ roE Ao (scells (orQ X Y))) (mwithin_fn Ax cx X _ hAx.arg (fun _ => rfl) (Ro.roE _ _) (by omega) hox Ao co (orQ X Y) _ hAo.arg (fun _ => rfl) (Ro.roE _ _) (by omega) (below_sps (or_plain X Y) (or_below X Y))) rfl (HLe.twoS (by with_reducible repeat (first | exact List.Sublist.refl _ | exact List.nil_sublist _ | exact List.sublist_append_right _ _ | refine List.Sublist.trans ?_ (List.sublist_append_left _ _) | exact List.Sublist.cons_cons _ (List.nil_sublist _) | refine List.Sublist.cons _ ?_)) (by with_reducible repeat (first | exact List.Sublist.refl _ | exact List.nil_sublist _ | exact List.sublist_append_right _ _ | refine List.Sublist.trans ?_ (List.sublist_append_left _ _) | exact List.Sublist.cons_cons _ (List.nil_sublist _) | refine List.Sublist.cons _ ?_)) (Ro.roE _ _)) ((Ro.roE _ _).append (Ro.roE _ _)) rfl ?_
    rw [w2]
    refine sx_pick rfl rfl rfl ?_
    refine sx_move rfl rfl ?_
    refine sx_force 82 rfl true (by first | (simp; done) | (simp; omega) | exact dec_int _ _ | (rw [Bool.eq_iff_iff]; simp; omega) | rfl) ?_
    refine sx_on rfl rfl rfl ?_
    refine sx_move rfl rfl ?_
    refine sx_on rfl rfl rfl ?_
    refine sx_move rfl rfl ?_
    refine sx_on rfl rfl rfl ?_
    refine sx_callV (roE Ax (scells X) ++ roE Ay (scells Y)) (mwithin_fn Ax cx X _ hAx.arg (fun _ => rfl) (Ro.roE _ _) (by omega) hox Ay cy Y _ hAy.arg (fun _ => rfl) (Ro.roE _ _) (by omega) hoy) rfl (HLe.twoS (by with_reducible repeat (first | exact List.Sublist.refl _ | exact List.nil_sublist _ | exact List.sublist_append_right _ _ | refine List.Sublist.trans ?_ (List.sublist_append_left _ _) | exact List.Sublist.cons_cons _ (List.nil_sublist _) | refine List.Sublist.cons _ ?_)) (by with_reducible repeat (first | exact List.Sublist.refl _ | exact List.nil_sublist _ | exact List.sublist_append_right _ _ | refine List.Sublist.trans ?_ (List.sublist_append_left _ _) | exact List.Sublist.cons_cons _ (List.nil_sublist _) | refine List.Sublist.cons _ ?_)) (Ro.roE _ _)) ((Ro.roE _ _).append (Ro.roE _ _)) rfl ?_
    rw [w3]
    refine sx_on rfl rfl rfl ?_
    refine sx_move rfl rfl ?_
    refine sx_on rfl rfl rfl ?_
    refine sx_callPT (roE Aa (scells (andQ X Y))) (stotal_fn Aa ca (andQ X Y) _ hAa.arg (fun _ => rfl) (Ro.roE _ _) (by omega) (below_sps (and_plain X Y) (and_below X Y))) rfl (by with_reducible repeat (first | exact List.Sublist.refl _ | exact List.nil_sublist _ | exact List.sublist_append_right _ _ | refine List.Sublist.trans ?_ (List.sublist_append_left _ _) | exact List.Sublist.cons_cons _ (List.nil_sublist _) | refine List.Sublist.cons _ ?_)) (Ro.roE _ _) rfl ?_
    rw [htand]
    refine sx_on rfl rfl rfl ?_
    refine sx_move rfl rfl ?_
    refine sx_on rfl rfl rfl ?_
    refine sx_callPT (roE Ax (scells X)) (stotal_fn Ax cx X _ hAx.arg (fun _ => rfl) (Ro.roE _ _) (by omega) hox) rfl (by with_reducible repeat (first | exact List.Sublist.refl _ | exact List.nil_sublist _ | exact List.sublist_append_right _ _ | refine List.Sublist.trans ?_ (List.sublist_append_left _ _) | exact List.Sublist.cons_cons _ (List.nil_sublist _) | refine List.Sublist.cons _ ?_)) (Ro.roE _ _) rfl ?_
    rw [htx]
    refine sx_on rfl rfl rfl ?_
    first | refine sx_eql rfl rfl rfl ?_ | refine sx_seql rfl rfl rfl ?_
    refine sx_on rfl rfl rfl ?_
    refine sx_beql Try.underlying4 rfl rfl rfl ?_
    refine sx_pick rfl rfl rfl ?_
    refine sx_move rfl rfl ?_
    refine sx_force 93 rfl true (by first | (simp; done) | (simp; omega) | exact dec_int _ _ | (rw [Bool.eq_iff_iff]; simp; omega) | rfl) ?_
    refine sx_on rfl rfl rfl ?_
    refine sx_callP m43wake_fn rfl rfl ?_
    refine sx_pick rfl rfl rfl ?_
    refine sx_assign rfl rfl ?_
    refine sx_nil (hZ _ _ ?_ ?_)
    · exact Kn.cons rfl Kn.nil
    · exact HLe.sub (List.nil_sublist _)
  refine awp_ret ?_
  repeat (with_reducible (first | refine nx_then_ret ?_ | refine nx_block_ret ?_ | refine nx_scope_ret ?_))
  exact nx_ret1 rfl rfl rfl
theorem MaskLaws_read {H : Type} {enc : TypeId × Value → H} (w : World) {base : Nat} {v0 v1 : Value} {d0 d1 : DataW H} {p0 p1 : List MemPlace}
    (k0 : Value.okWide Try.prog w .any base 22 v0) (h0 : DataW.Trod enc Try.prog w 0 (fun _ => true) true 22 v0 d0 p0)
    (k1 : Value.okWide Try.prog w .any base 22 v1) (h1 : DataW.Trod enc Try.prog w 0 (fun _ => true) true 22 v1 d1 p1) :
    Calls Try.prog 6 #[v0, v1] w fun e w' => e = .returned (.bool true) ∧ Bel w w' := by
  obtain ⟨A, c, L, T, rfl, hA, hL, ho, hT, hro, hS⟩ := open_sps k0 h0
  obtain ⟨B, c2, M, U, rfl, hB, hM, hoM, hU, hroU, hSU⟩ := open_sps k1 h1
  exact tail_bel (hro.append hroU) (Sat.bothS hS hSU hro hroU) (mlaws_fn A c L T hA hT hro hL ho B c2 M U hB hU hroU hM hoM)
namespace maskLaws
open Go.ChangeShapes Go.WideShapes Go.ChangeAt Go.RowKit
theorem own : ownKnob Try.prog.godebug = none := by kernel_rfl
theorem laidOut : laidOutB Try.prog = true := by kernel_rfl
set_option maxRecDepth 100000 in
theorem lifted (os : Os) (started : os.Started) (H : Type) (enc : TypeId × Value → H) :
    ReturnsInHanded {} Try.checked os 6 .any (Rows.maskLawsSpec.pre6 enc Try.prog Try.f6 Rows.maskLawsRow.domain false) (Rows.maskLawsSpec.post enc Try.prog Try.f6 false true false false) := by
  refine returnsInHanded_of_change (C := Try.checked) own started (by kernel_rfl) Try.func6
    (ChangeSpec.witness6 (enc := enc) (C := Try.checked) false ⟨#[], #[.slice none 0 0, .slice none 0 0], []⟩ 8 (by kernel_rfl) (by kernel_rfl) (by kernel_rfl) (by kernel_rfl)) ?_
  intro W base args ds gs before hval0 hW hcnd _
  have hval : ∀ (j : Nat) t v, Try.f6.params[j]? = some t → args[j]? = some v → Value.okWide Try.prog W .any base t v := hval0
  have hW' := hW
  obtain ⟨p, q, hA0, hV, rfl, hfz, hnd⟩ := hW
  have hA : DataW.TrodAll enc Try.prog W 0 (fun _ => true) true Try.f6.params.toList args.toList ds p := hA0
  rw [Try.params6] at hA hval
  obtain ⟨v0, vs0, d0, ds0, p0, q0, hargs, rfl, rfl, h0, r0⟩ := trodAll_cons hA
  obtain ⟨v1, vs1, d1, ds1, p1, q1, rfl, rfl, rfl, h1, r1⟩ := trodAll_cons r0
  obtain ⟨rfl, rfl, rfl⟩ := trodAll_nil r1
  obtain rfl : args = #[v0, v1] := by cases args; simp_all
  obtain ⟨rfl, rfl⟩ := trodVars_none hV
  have lt0 : ∀ x ∈ p0, x.block < W.heap.size := by obtain ⟨m, hm⟩ := h0; exact DataW.trod_lt m _ _ _ hm
  have lt1 : ∀ x ∈ p1, x.block < W.heap.size := by obtain ⟨m, hm⟩ := h1; exact DataW.trod_lt m _ _ _ hm
  refine (MaskLaws_read W (hval 0 22 v0 rfl rfl) h0 (hval 1 22 v1 rfl rfl) h1).mono fun e W' ⟨he, bel0⟩ => ?_
  have bel : Below W.heap.size W W' := bel0
  subst he
  exact ⟨_, rfl, _, _, _, [], _, [], hW', trodAll_mk1 (shut_bool Try.underlying4 _), (trodAll_cons_mk (Below.trod laidOut (by kernel_rfl) (of_decide_eq_true (by kernel_rfl)) h0 bel lt0) (trodAll_cons_mk (Below.trod laidOut (by kernel_rfl) (of_decide_eq_true (by kernel_rfl)) h1 bel lt1) trodAll_mk0)), rfl, bel.frame _, fun h => by cases h⟩
theorem over : Rows.maskLawsRow.holds Try.pinned (OpenSpec.ofChange Rows.maskLawsSpec) :=
  OpenClaim.holds_of_wide 6 Try.f6 rfl rfl rfl rfl rfl rfl rfl ⟨rfl, rfl, rfl, rfl, rfl⟩ rfl rfl rfl rfl rfl (by kernel_rfl) Try.func6 (by kernel_rfl)
    (of_decide_eq_true (by kernel_rfl)) (by unfold Func.isWrapper; first | (rw [if_pos (by decide +kernel)]; kernel_rfl) | (rw [if_neg (by decide +kernel)]; exact ⟨rfl, rfl⟩))
    (fun os started H enc _ => lifted os started H enc)
theorem proved : Rows.MaskLawsSaid := over
#print axioms proved
end maskLaws
end Go.Proofs.Ytbldhokgbcljjaa
