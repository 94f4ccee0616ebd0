/- MaskTells. No conditions. -/
import Derived.Test.YtbldhokgbcljjaaMw6
import Derived.Test.YtbldhokgbcljjaaKv7
namespace Go.Proofs.Ytbldhokgbcljjaa
open Go.RowKit
set_option linter.unusedVariables false
set_option linter.unusedSimpArgs false
set_option maxRecDepth 100000
theorem zoomQ_len (L : List Sp) (z : Int) : (ZoomQ L z).length ≤ L.length + 4 := by
  unfold ZoomQ
  split
  · simp
  · exact and_len L [⟨base4 z.toNat, base4 (z.toNat + 1) - 1⟩]
theorem mtells43_fn (A : Option Addr) (c : Nat) (L : List Sp) (T : Heap) (hA : ArgOk A L.length) (hT : 0 < L.length → T = roE A (scells L)) (hro : Ro T) (hL : L.length ≤ maxLen) (ho : SpsOk L)
    (B : Option Addr) (c2 : Nat) (M : List Sp) (U : Heap) (hB : ArgOk B M.length) (hU : 0 < M.length → U = roE B (scells M)) (hroU : Ro U) (hM : M.length ≤ maxLen) (hoM : SpsOk M) (z : Int) :
    Fn Try.prog 3 [.slice A L.length c, .slice B M.length c2, iq z] (T ++ U) fun v _ => v = .bool true := by
  refine Fn.enter (N := 75) Try.func3 rfl (by kernel_rfl) rfl (fun w0 => ?_)

  refine awp_seq_region (fun Z hZ => ?_)
  refine sx_assign rfl rfl ?_
  refine sx_nil (hZ _ _ ?_)
  refine awp_forget [(0, _), (1, _), (2, _)] (Kn.cons rfl (Kn.cons rfl (Kn.cons rfl (Kn.nil)))) ?_
  refine awp_seq ?_
  refine awp_seq_meet [(0, .slice A L.length c), (1, .slice B M.length c2), (2, iq z), (16, .bool (decide (30 < L.length ∨ 30 < M.length)))] (T ++ U) (fun Z hZ => ?_) ?_
  · refine sx_move rfl rfl ?_
    first | refine sx_len Try.underlying22 rfl rfl ?_ | refine sx_lenS Try.underlying22 rfl rfl ?_
    first | refine sx_gtr rfl rfl rfl ?_ | refine sx_sgtr rfl rfl rfl ?_
    refine sx_move rfl rfl ?_
    refine sx_split 12 rfl (fun hb3 => ?_) (fun hb3 => ?_)
    · refine sx_off rfl rfl rfl rfl rfl ?_
      refine sx_off rfl rfl rfl rfl rfl ?_
      refine sx_off rfl rfl rfl rfl rfl ?_
      refine sx_pick rfl rfl rfl ?_
      refine sx_nil (hZ _ _ ?_ ?_)
      · exact Kn.cons rfl (Kn.cons rfl (Kn.cons rfl (Kn.cons (congrArg some (congrArg Value.bool (by first | (rw [Bool.eq_iff_iff]; simp only [decide_eq_true_eq, decide_eq_false_iff_not] at hb3 ⊢; omega) | (simp at *; done) | (simp at *; omega)))) Kn.nil)))
      · exact HLe.refl _
    · refine sx_on rfl rfl rfl ?_
      refine sx_move rfl rfl ?_
      refine sx_on rfl rfl rfl ?_
      first | refine sx_len Try.underlying22 rfl rfl ?_ | refine sx_lenS Try.underlying22 rfl rfl ?_
      refine sx_on rfl rfl rfl ?_
      first | refine sx_gtr rfl rfl rfl ?_ | refine sx_sgtr rfl rfl rfl ?_
      refine sx_pick rfl rfl rfl ?_
      refine sx_nil (hZ _ _ ?_ ?_)
      · exact Kn.cons rfl (Kn.cons rfl (Kn.cons rfl (Kn.cons (congrArg some (congrArg Value.bool (by first | (rw [Bool.eq_iff_iff]; simp only [decide_eq_true_eq, decide_eq_false_iff_not] at hb3 ⊢; omega) | (simp at *; done) | (simp at *; omega)))) Kn.nil)))
      · exact HLe.refl _
  first | refine awp_cond rfl (fun h => ?_) (fun h => ?_) | refine awp_seq (awp_cond rfl (fun h => ?_) (fun h => ?_))
  · refine awp_seq_region (fun Z hZ => ?_)
    refine sx_callP m43wake_fn rfl rfl ?_
    refine sx_assign rfl rfl ?_
    refine sx_nil (hZ _ _ ?_)
    refine awp_forget [(6, _)] (Kn.cons rfl (Kn.nil)) ?_
    refine awp_ret ?_
    repeat (with_reducible (first | refine nx_then_ret ?_ | refine nx_block_ret ?_ | refine nx_scope_ret ?_))
    exact nx_ret1 rfl rfl rfl
  have n1 : L.length ≤ 30 ∧ M.length ≤ 30 := by simp at h; omega
  have l1 := or_len L M
  have l2 := and_len L M
  have l3 := not_len L
  have l4 := not_len M
  have l5 := and_len L (notQ M)
  have hll : (lessQ L M).length ≤ 100000 := by unfold lessQ; omega
  have hzl : (ZoomQ L z).length ≤ 100000 := by have := zoomQ_len L z; omega
  refine awp_skip ?_
  repeat (with_reducible (first | refine nx_block_normal ?_ | refine nx_scope_normal ?_))
  with_reducible first | refine nx_normal ?_ | refine nx_normalM ?_
  refine awp_seq_region (fun Z hZ => ?_)
  refine sx_move rfl rfl ?_
  refine sx_callIE T (spans_fn A c L T hA hT hro (by omega)) rfl (HLe.sub (by with_reducible repeat (first | exact List.Sublist.refl _ | exact List.nil_sublist _ | exact List.sublist_append_right _ _ | refine List.Sublist.trans ?_ (List.sublist_append_left _ _) | exact List.Sublist.cons_cons _ (List.nil_sublist _) | refine List.Sublist.cons _ ?_))) hro rfl (fun A1 c1 hA1 => ?_)
  refine sx_move rfl rfl ?_
  refine sx_callIE U (spans_fn B c2 M U hB hU hroU (by omega)) rfl (HLe.sub (by with_reducible repeat (first | exact List.Sublist.refl _ | exact List.nil_sublist _ | exact List.sublist_append_right _ _ | refine List.Sublist.trans ?_ (List.sublist_append_left _ _) | exact List.Sublist.cons_cons _ (List.nil_sublist _) | refine List.Sublist.cons _ ?_))) hroU rfl (fun A2 c3 hA2 => ?_)
  refine sx_assign rfl rfl ?_
  refine sx_assign rfl rfl ?_
  refine sx_nil (hZ _ _ ?_)
  refine awp_forget [(0, _), (1, _), (2, _), (7, _), (8, _)] (Kn.cons rfl (Kn.cons rfl (Kn.cons rfl (Kn.cons rfl (Kn.cons rfl (Kn.nil)))))) ?_
  refine awp_seq_meet [(6, .bool true)] [] (fun Z hZ => ?_) ?_
  · refine sx_move rfl rfl ?_
    refine sx_move rfl rfl ?_
    refine sx_callIE (roE A1 (scells L) ++ roE A2 (scells M)) (mor_fn A1 c1 L _ hA1.arg (fun _ => rfl) (Ro.roE _ _) (by omega) (by assumption) A2 c3 M _ hA2.arg (fun _ => rfl) (Ro.roE _ _) (by omega) (by assumption)) rfl (HLe.twoS (by with_reducible repeat (first | exact List.Sublist.refl _ | exact List.nil_sublist _ | exact List.sublist_append_right _ _ | refine List.Sublist.trans ?_ (List.sublist_append_left _ _) | exact List.Sublist.cons_cons _ (List.nil_sublist _) | refine List.Sublist.cons _ ?_)) (by with_reducible repeat (first | exact List.Sublist.refl _ | exact List.nil_sublist _ | exact List.sublist_append_right _ _ | refine List.Sublist.trans ?_ (List.sublist_append_left _ _) | exact List.Sublist.cons_cons _ (List.nil_sublist _) | refine List.Sublist.cons _ ?_)) (Ro.roE _ _)) ((Ro.roE _ _).append (Ro.roE _ _)) rfl (fun A3 c4 hA3 => ?_)
    refine sx_move rfl rfl ?_
    refine sx_move rfl rfl ?_
    refine sx_callIE (T ++ U) (ror_fn A c L T hA hT hro (by omega) ho B c2 M U hB hU hroU (by omega) hoM) rfl (HLe.sub (by with_reducible repeat (first | exact List.Sublist.refl _ | exact List.nil_sublist _ | exact List.sublist_append_right _ _ | refine List.Sublist.trans ?_ (List.sublist_append_left _ _) | exact List.Sublist.cons_cons _ (List.nil_sublist _) | refine List.Sublist.cons _ ?_))) (hro.append hroU) rfl (fun A4 c5 hA4 => ?_)
    refine sx_callV (roE A3 (scells (orQ L M)) ++ roE A4 (scells (orQ L M))) (law_same_fn A3 c4 (orQ L M) hA3 (by omega) A4 c5 (orQ L M) hA4 (by omega)) rfl (HLe.twoS (by with_reducible repeat (first | exact List.Sublist.refl _ | exact List.nil_sublist _ | exact List.sublist_append_right _ _ | refine List.Sublist.trans ?_ (List.sublist_append_left _ _) | exact List.Sublist.cons_cons _ (List.nil_sublist _) | refine List.Sublist.cons _ ?_)) (by with_reducible repeat (first | exact List.Sublist.refl _ | exact List.nil_sublist _ | exact List.sublist_append_right _ _ | refine List.Sublist.trans ?_ (List.sublist_append_left _ _) | exact List.Sublist.cons_cons _ (List.nil_sublist _) | refine List.Sublist.cons _ ?_)) (Ro.roE _ _)) ((Ro.roE _ _).append (Ro.roE _ _)) rfl ?_
    rw [sameS_self]
    refine sx_move rfl rfl ?_
    refine sx_force 29 rfl true (by first | (simp; done) | rfl) ?_
    refine sx_on rfl rfl rfl ?_
    refine sx_move rfl rfl ?_
    refine sx_on rfl rfl rfl ?_
    refine sx_move rfl rfl ?_
    refine sx_on rfl rfl rfl ?_
    refine sx_callIE (roE A1 (scells L) ++ roE A2 (scells M)) (mand_fn A1 c1 L _ hA1.arg (fun _ => rfl) (Ro.roE _ _) (by omega) (by assumption) A2 c3 M _ hA2.arg (fun _ => rfl) (Ro.roE _ _) (by omega) (by assumption)) rfl (HLe.twoS (by with_reducible repeat (first | exact List.Sublist.refl _ | exact List.nil_sublist _ | exact List.sublist_append_right _ _ | refine List.Sublist.trans ?_ (List.sublist_append_left _ _) | exact List.Sublist.cons_cons _ (List.nil_sublist _) | refine List.Sublist.cons _ ?_)) (by with_reducible repeat (first | exact List.Sublist.refl _ | exact List.nil_sublist _ | exact List.sublist_append_right _ _ | refine List.Sublist.trans ?_ (List.sublist_append_left _ _) | exact List.Sublist.cons_cons _ (List.nil_sublist _) | refine List.Sublist.cons _ ?_)) (Ro.roE _ _)) ((Ro.roE _ _).append (Ro.roE _ _)) rfl (fun A5 c6 hA5 => ?_)
    refine sx_on rfl rfl rfl ?_
    refine sx_move rfl rfl ?_
    refine sx_on rfl rfl rfl ?_
    refine sx_move rfl rfl ?_
    refine sx_on rfl rfl rfl ?_
    refine sx_callIE (T ++ U) (rand_fn A c L T hA hT hro (by omega) ho B c2 M U hB hU hroU (by omega) hoM) rfl (HLe.sub (by with_reducible repeat (first | exact List.Sublist.refl _ | exact List.nil_sublist _ | exact List.sublist_append_right _ _ | refine List.Sublist.trans ?_ (List.sublist_append_left _ _) | exact List.Sublist.cons_cons _ (List.nil_sublist _) | refine List.Sublist.cons _ ?_))) (hro.append hroU) rfl (fun A6 c7 hA6 => ?_)
    refine sx_on rfl rfl rfl ?_
    refine sx_callV (roE A5 (scells (andQ L M)) ++ roE A6 (scells (andQ L M))) (law_same_fn A5 c6 (andQ L M) hA5 (by omega) A6 c7 (andQ L M) hA6 (by omega)) rfl (HLe.twoS (by with_reducible repeat (first | exact List.Sublist.refl _ | exact List.nil_sublist _ | exact List.sublist_append_right _ _ | refine List.Sublist.trans ?_ (List.sublist_append_left _ _) | exact List.Sublist.cons_cons _ (List.nil_sublist _) | refine List.Sublist.cons _ ?_)) (by with_reducible repeat (first | exact List.Sublist.refl _ | exact List.nil_sublist _ | exact List.sublist_append_right _ _ | refine List.Sublist.trans ?_ (List.sublist_append_left _ _) | exact List.Sublist.cons_cons _ (List.nil_sublist _) | refine List.Sublist.cons _ ?_)) (Ro.roE _ _)) ((Ro.roE _ _).append (Ro.roE _ _)) rfl ?_
    rw [sameS_self]
    refine sx_pick rfl rfl rfl ?_
    refine sx_move rfl rfl ?_
    refine sx_force 38 rfl true (by first | (simp; done) | rfl) ?_
    refine sx_on rfl rfl rfl ?_
    refine sx_move rfl rfl ?_
    refine sx_on rfl rfl rfl ?_
    refine sx_callIE (roE A1 (scells L)) (mnot_fn A1 c1 L _ hA1.arg (fun _ => rfl) (Ro.roE _ _) (by omega) ho) rfl (HLe.sub (by with_reducible repeat (first | exact List.Sublist.refl _ | exact List.nil_sublist _ | exact List.sublist_append_right _ _ | refine List.Sublist.trans ?_ (List.sublist_append_left _ _) | exact List.Sublist.cons_cons _ (List.nil_sublist _) | refine List.Sublist.cons _ ?_))) (Ro.roE _ _) rfl (fun A7 c8 hA7 => ?_)
    refine sx_on rfl rfl rfl ?_
    refine sx_move rfl rfl ?_
    refine sx_on rfl rfl rfl ?_
    refine sx_callIE T (rnot_fn A c L T hA hT hro (by omega) ho) rfl (HLe.sub (by with_reducible repeat (first | exact List.Sublist.refl _ | exact List.nil_sublist _ | exact List.sublist_append_right _ _ | refine List.Sublist.trans ?_ (List.sublist_append_left _ _) | exact List.Sublist.cons_cons _ (List.nil_sublist _) | refine List.Sublist.cons _ ?_))) hro rfl (fun A8 c9 hA8 => ?_)
    refine sx_on rfl rfl rfl ?_
    refine sx_callV (roE A7 (scells (notQ L)) ++ roE A8 (scells (notQ L))) (law_same_fn A7 c8 (notQ L) hA7 (by omega) A8 c9 (notQ L) hA8 (by omega)) rfl (HLe.twoS (by with_reducible repeat (first | exact List.Sublist.refl _ | exact List.nil_sublist _ | exact List.sublist_append_right _ _ | refine List.Sublist.trans ?_ (List.sublist_append_left _ _) | exact List.Sublist.cons_cons _ (List.nil_sublist _) | refine List.Sublist.cons _ ?_)) (by with_reducible repeat (first | exact List.Sublist.refl _ | exact List.nil_sublist _ | exact List.sublist_append_right _ _ | refine List.Sublist.trans ?_ (List.sublist_append_left _ _) | exact List.Sublist.cons_cons _ (List.nil_sublist _) | refine List.Sublist.cons _ ?_)) (Ro.roE _ _)) ((Ro.roE _ _).append (Ro.roE _ _)) rfl ?_
    rw [sameS_self]
    refine sx_pick rfl rfl rfl ?_
    refine sx_move rfl rfl ?_
    refine sx_force 45 rfl true (by first | (simp; done) | rfl) ?_
    refine sx_on rfl rfl rfl ?_
    refine sx_move rfl rfl ?_
    refine sx_on rfl rfl rfl ?_
    refine sx_move rfl rfl ?_
    refine sx_on rfl rfl rfl ?_
    refine sx_callIE (roE A1 (scells L) ++ roE A2 (scells M)) (mless_fn A1 c1 L _ hA1.arg (fun _ => rfl) (Ro.roE _ _) (by omega) (by assumption) A2 c3 M _ hA2.arg (fun _ => rfl) (Ro.roE _ _) (by omega) (by assumption)) rfl (HLe.twoS (by with_reducible repeat (first | exact List.Sublist.refl _ | exact List.nil_sublist _ | exact List.sublist_append_right _ _ | refine List.Sublist.trans ?_ (List.sublist_append_left _ _) | exact List.Sublist.cons_cons _ (List.nil_sublist _) | refine List.Sublist.cons _ ?_)) (by with_reducible repeat (first | exact List.Sublist.refl _ | exact List.nil_sublist _ | exact List.sublist_append_right _ _ | refine List.Sublist.trans ?_ (List.sublist_append_left _ _) | exact List.Sublist.cons_cons _ (List.nil_sublist _) | refine List.Sublist.cons _ ?_)) (Ro.roE _ _)) ((Ro.roE _ _).append (Ro.roE _ _)) rfl (fun A9 c10 hA9 => ?_)
    refine sx_on rfl rfl rfl ?_
    refine sx_move rfl rfl ?_
    refine sx_on rfl rfl rfl ?_
    refine sx_move rfl rfl ?_
    refine sx_on rfl rfl rfl ?_
    refine sx_callIE (T ++ U) (rless_fn A c L T hA hT hro (by omega) ho B c2 M U hB hU hroU (by omega) hoM) rfl (HLe.sub (by with_reducible repeat (first | exact List.Sublist.refl _ | exact List.nil_sublist _ | exact List.sublist_append_right _ _ | refine List.Sublist.trans ?_ (List.sublist_append_left _ _) | exact List.Sublist.cons_cons _ (List.nil_sublist _) | refine List.Sublist.cons _ ?_))) (hro.append hroU) rfl (fun A10 c11 hA10 => ?_)
    refine sx_on rfl rfl rfl ?_
    refine sx_callV (roE A9 (scells (lessQ L M)) ++ roE A10 (scells (lessQ L M))) (law_same_fn A9 c10 (lessQ L M) hA9 hll A10 c11 (lessQ L M) hA10 hll) rfl (HLe.twoS (by with_reducible repeat (first | exact List.Sublist.refl _ | exact List.nil_sublist _ | exact List.sublist_append_right _ _ | refine List.Sublist.trans ?_ (List.sublist_append_left _ _) | exact List.Sublist.cons_cons _ (List.nil_sublist _) | refine List.Sublist.cons _ ?_)) (by with_reducible repeat (first | exact List.Sublist.refl _ | exact List.nil_sublist _ | exact List.sublist_append_right _ _ | refine List.Sublist.trans ?_ (List.sublist_append_left _ _) | exact List.Sublist.cons_cons _ (List.nil_sublist _) | refine List.Sublist.cons _ ?_)) (Ro.roE _ _)) ((Ro.roE _ _).append (Ro.roE _ _)) rfl ?_
    rw [sameS_self]
    refine sx_pick rfl rfl rfl ?_
    refine sx_move rfl rfl ?_
    refine sx_force 54 rfl true (by first | (simp; done) | rfl) ?_
    refine sx_on rfl rfl rfl ?_
    refine sx_move rfl rfl ?_
    refine sx_on rfl rfl rfl ?_
    refine sx_move rfl rfl ?_
    refine sx_on rfl rfl rfl ?_
    refine sx_callV (roE A1 (scells L) ++ roE A2 (scells M)) (mwithin_fn A1 c1 L _ hA1.arg (fun _ => rfl) (Ro.roE _ _) (by omega) ho A2 c3 M _ hA2.arg (fun _ => rfl) (Ro.roE _ _) (by omega) hoM) rfl (HLe.twoS (by with_reducible repeat (first | exact List.Sublist.refl _ | exact List.nil_sublist _ | exact List.sublist_append_right _ _ | refine List.Sublist.trans ?_ (List.sublist_append_left _ _) | exact List.Sublist.cons_cons _ (List.nil_sublist _) | refine List.Sublist.cons _ ?_)) (by with_reducible repeat (first | exact List.Sublist.refl _ | exact List.nil_sublist _ | exact List.sublist_append_right _ _ | refine List.Sublist.trans ?_ (List.sublist_append_left _ _) | exact List.Sublist.cons_cons _ (List.nil_sublist _) | refine List.Sublist.cons _ ?_)) (Ro.roE _ _)) ((Ro.roE _ _).append (Ro.roE _ _)) rfl ?_
    refine sx_on rfl rfl rfl ?_
    refine sx_move rfl rfl ?_
    refine sx_on rfl rfl rfl ?_
    refine sx_move rfl rfl ?_
    refine sx_on rfl rfl rfl ?_
    refine sx_callV (T ++ U) (rwithin_fn A c L T hA hT hro (by omega) ho B c2 M U hB hU hroU (by omega) hoM) rfl (HLe.sub (by with_reducible repeat (first | exact List.Sublist.refl _ | exact List.nil_sublist _ | exact List.sublist_append_right _ _ | refine List.Sublist.trans ?_ (List.sublist_append_left _ _) | exact List.Sublist.cons_cons _ (List.nil_sublist _) | refine List.Sublist.cons _ ?_))) (hro.append hroU) rfl ?_
    refine sx_on rfl rfl rfl ?_
    refine sx_beql Try.underlying4 rfl rfl rfl ?_
    refine sx_pick rfl rfl rfl ?_
    refine sx_move rfl rfl ?_
    refine sx_force 63 rfl true (by first | (simp; done) | rfl) ?_
    refine sx_on rfl rfl rfl ?_
    refine sx_move rfl rfl ?_
    refine sx_on rfl rfl rfl ?_
    refine sx_move rfl rfl ?_
    refine sx_on rfl rfl rfl ?_
    refine sx_callIE (roE A1 (scells L)) (mZoom_fn A1 c1 L _ hA1.arg (fun _ => rfl) (Ro.roE _ _) (by omega) ho z) rfl (HLe.sub (by with_reducible repeat (first | exact List.Sublist.refl _ | exact List.nil_sublist _ | exact List.sublist_append_right _ _ | refine List.Sublist.trans ?_ (List.sublist_append_left _ _) | exact List.Sublist.cons_cons _ (List.nil_sublist _) | refine List.Sublist.cons _ ?_))) (Ro.roE _ _) rfl (fun A11 c12 hA11 => ?_)
    refine sx_on rfl rfl rfl ?_
    refine sx_move rfl rfl ?_
    refine sx_on rfl rfl rfl ?_
    refine sx_move rfl rfl ?_
    refine sx_on rfl rfl rfl ?_
    refine sx_callIE T (rZoom_fn A c L T hA hT hro (by omega) ho z) rfl (HLe.sub (by with_reducible repeat (first | exact List.Sublist.refl _ | exact List.nil_sublist _ | exact List.sublist_append_right _ _ | refine List.Sublist.trans ?_ (List.sublist_append_left _ _) | exact List.Sublist.cons_cons _ (List.nil_sublist _) | refine List.Sublist.cons _ ?_))) hro rfl (fun A12 c13 hA12 => ?_)
    refine sx_on rfl rfl rfl ?_
    refine sx_callV (roE A11 (scells (ZoomQ L z)) ++ roE A12 (scells (ZoomQ L z))) (law_same_fn A11 c12 (ZoomQ L z) hA11 hzl A12 c13 (ZoomQ L z) hA12 hzl) rfl (HLe.twoS (by with_reducible repeat (first | exact List.Sublist.refl _ | exact List.nil_sublist _ | exact List.sublist_append_right _ _ | refine List.Sublist.trans ?_ (List.sublist_append_left _ _) | exact List.Sublist.cons_cons _ (List.nil_sublist _) | refine List.Sublist.cons _ ?_)) (by with_reducible repeat (first | exact List.Sublist.refl _ | exact List.nil_sublist _ | exact List.sublist_append_right _ _ | refine List.Sublist.trans ?_ (List.sublist_append_left _ _) | exact List.Sublist.cons_cons _ (List.nil_sublist _) | refine List.Sublist.cons _ ?_)) (Ro.roE _ _)) ((Ro.roE _ _).append (Ro.roE _ _)) rfl ?_
    rw [sameS_self]
    refine sx_pick rfl rfl rfl ?_
    refine sx_move rfl rfl ?_
    refine sx_force 72 rfl true (by first | (simp; done) | rfl) ?_
    refine sx_on rfl rfl rfl ?_
    refine sx_callP m43wake_fn rfl rfl ?_
    refine sx_pick rfl rfl rfl ?_
    refine sx_assign rfl rfl ?_
    refine sx_nil (hZ _ _ ?_ ?_)
    · exact Kn.cons rfl Kn.nil
    · exact HLe.sub (List.nil_sublist _)
  refine awp_ret ?_
  repeat (with_reducible (first | refine nx_then_ret ?_ | refine nx_block_ret ?_ | refine nx_scope_ret ?_))
  exact nx_ret1 rfl rfl rfl
theorem MaskTells_read {H : Type} {enc : TypeId × Value → H} (w : World) {base : Nat} {v0 v1 v2 : Value} {d0 d1 d2 : DataW H} {p0 p1 p2 : List MemPlace}
    (k0 : Value.okWide Try.prog w .any base 22 v0) (h0 : DataW.Trod enc Try.prog w 0 (fun _ => true) true 22 v0 d0 p0)
    (k1 : Value.okWide Try.prog w .any base 22 v1) (h1 : DataW.Trod enc Try.prog w 0 (fun _ => true) true 22 v1 d1 p1)
    (k2 : Value.okWide Try.prog w .any base 3 v2) (h2 : DataW.Trod enc Try.prog w 0 (fun _ => true) true 3 v2 d2 p2) :
    Calls Try.prog 3 #[v0, v1, v2] w fun e w' => e = .returned (.bool true) ∧ Bel w w' := by
  obtain ⟨A, c, L, T, rfl, hA, hL, ho, hT, hro, hS⟩ := open_sps k0 h0
  obtain ⟨B, c2, M, U, rfl, hB, hM, hoM, hU, hroU, hSU⟩ := open_sps k1 h1
  obtain ⟨z, rfl, _, _, hz⟩ := ChangeShapes.open_int Try.underlying3 k2 h2
  exact tail_bel (hro.append hroU) (Sat.bothS hS hSU hro hroU) (mtells43_fn A c L T hA hT hro hL ho B c2 M U hB hU hroU hM hoM z)
namespace maskTells
open Go.ChangeShapes Go.WideShapes Go.ChangeAt Go.RowKit
theorem own : ownKnob Try.prog.godebug = none := by kernel_rfl
theorem laidOut : laidOutB Try.prog = true := by kernel_rfl
set_option maxRecDepth 100000 in
theorem lifted (os : Os) (started : os.Started) (H : Type) (enc : TypeId × Value → H) :
    ReturnsInHanded {} Try.checked os 3 .any (Rows.maskTellsSpec.pre6 enc Try.prog Try.f3 Rows.maskTellsRow.domain false) (Rows.maskTellsSpec.post enc Try.prog Try.f3 false true false false) := by
  refine returnsInHanded_of_change (C := Try.checked) own started (by kernel_rfl) Try.func3
    (ChangeSpec.witness6 (enc := enc) (C := Try.checked) false ⟨#[], #[.slice none 0 0, .slice none 0 0, .int .i64 0], []⟩ 8 (by kernel_rfl) (by kernel_rfl) (by kernel_rfl) (by kernel_rfl)) ?_
  intro W base args ds gs before hval0 hW hcnd _
  have hval : ∀ (j : Nat) t v, Try.f3.params[j]? = some t → args[j]? = some v → Value.okWide Try.prog W .any base t v := hval0
  have hW' := hW
  obtain ⟨p, q, hA0, hV, rfl, hfz, hnd⟩ := hW
  have hA : DataW.TrodAll enc Try.prog W 0 (fun _ => true) true Try.f3.params.toList args.toList ds p := hA0
  rw [Try.params3] at hA hval
  obtain ⟨v0, vs0, d0, ds0, p0, q0, hargs, rfl, rfl, h0, r0⟩ := trodAll_cons hA
  obtain ⟨v1, vs1, d1, ds1, p1, q1, rfl, rfl, rfl, h1, r1⟩ := trodAll_cons r0
  obtain ⟨v2, vs2, d2, ds2, p2, q2, rfl, rfl, rfl, h2, r2⟩ := trodAll_cons r1
  obtain ⟨rfl, rfl, rfl⟩ := trodAll_nil r2
  obtain rfl : args = #[v0, v1, v2] := by cases args; simp_all
  obtain ⟨rfl, rfl⟩ := trodVars_none hV
  have lt0 : ∀ x ∈ p0, x.block < W.heap.size := by obtain ⟨m, hm⟩ := h0; exact DataW.trod_lt m _ _ _ hm
  have lt1 : ∀ x ∈ p1, x.block < W.heap.size := by obtain ⟨m, hm⟩ := h1; exact DataW.trod_lt m _ _ _ hm
  have lt2 : ∀ x ∈ p2, x.block < W.heap.size := by obtain ⟨m, hm⟩ := h2; exact DataW.trod_lt m _ _ _ hm
  refine (MaskTells_read W (hval 0 22 v0 rfl rfl) h0 (hval 1 22 v1 rfl rfl) h1 (hval 2 3 v2 rfl rfl) h2).mono fun e W' ⟨he, bel0⟩ => ?_
  have bel : Below W.heap.size W W' := bel0
  subst he
  exact ⟨_, rfl, _, _, _, [], _, [], hW', trodAll_mk1 (shut_bool Try.underlying4 _), (trodAll_cons_mk (Below.trod laidOut (by kernel_rfl) (of_decide_eq_true (by kernel_rfl)) h0 bel lt0) (trodAll_cons_mk (Below.trod laidOut (by kernel_rfl) (of_decide_eq_true (by kernel_rfl)) h1 bel lt1) (trodAll_cons_mk (Below.trod laidOut (by kernel_rfl) (of_decide_eq_true (by kernel_rfl)) h2 bel lt2) trodAll_mk0))), rfl, bel.frame _, fun h => by cases h⟩
theorem over : Rows.maskTellsRow.holds Try.pinned (OpenSpec.ofChange Rows.maskTellsSpec) :=
  OpenClaim.holds_of_wide 3 Try.f3 rfl rfl rfl rfl rfl rfl rfl ⟨rfl, rfl, rfl, rfl, rfl⟩ rfl rfl rfl rfl rfl (by kernel_rfl) Try.func3 (by kernel_rfl)
    (of_decide_eq_true (by kernel_rfl)) (by unfold Func.isWrapper; first | (rw [if_pos (by decide +kernel)]; kernel_rfl) | (rw [if_neg (by decide +kernel)]; exact ⟨rfl, rfl⟩))
    (fun os started H enc _ => lifted os started H enc)
theorem proved : Rows.MaskTellsSaid := over
#print axioms proved
end maskTells
end Go.Proofs.Ytbldhokgbcljjaa
