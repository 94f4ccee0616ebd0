/- MaskPoint. No conditions. -/
import Derived.Test.YtbldhokgbcljjaaMw6
import Derived.Test.YtbldhokgbcljjaaKv7
namespace Go.Proofs.Ytbldhokgbcljjaa
open Go.RowKit
set_option linter.unusedVariables false
set_option linter.unusedSimpArgs false
set_option maxRecDepth 100000
/-- A list that a law looks at, and whether an identifier should be in it. -/
structure PtOk (H : Heap) (k : Nat) (A : Option Addr) (c : Nat) (X : List Sp) (w : Bool) : Prop where
  sl : SlIn A X.length c
  pl : Plain X
  be : BelowS 6004799503160661 X
  len : X.length ≤ 1000
  mem : (roE A (scells X)).Sublist H
  is_ : decide (inS X k) = w
theorem less_plain (a b : List Sp) : Plain (lessQ a b) := and_plain a (notQ b)
theorem less_below (a b : List Sp) : BelowS 6004799503160661 (lessQ a b) := and_below a (notQ b)
theorem mem_at {g o : Nat} {xs : List Value} {H : Heap} (h : (roE (some ⟨g, o, none⟩) xs).Sublist H) : ∃ j : Nat, H[j]? = some (Ent.ro g o xs) := by
  have hm : Ent.ro g o xs ∈ H := h.subset (show Ent.ro g o xs ∈ roE (some ⟨g, o, none⟩) xs from List.mem_cons_self)
  obtain ⟨j, hj, he⟩ := List.mem_iff_getElem.1 hm
  exact ⟨j, by rw [List.getElem?_eq_getElem hj, he]⟩
set_option maxHeartbeats 2000000 in
theorem mpoint_fn (A : Option Addr) (c : Nat) (L : List Sp) (T : Heap) (hA : ArgOk A L.length) (hT : 0 < L.length → T = roE A (scells L)) (hro : Ro T) (hL : L.length ≤ maxLen) (ho : SpsOk L)
    (B : Option Addr) (c2 : Nat) (M : List Sp) (U : Heap) (hB : ArgOk B M.length) (hU : 0 < M.length → U = roE B (scells M)) (hroU : Ro U) (hM : M.length ≤ maxLen) (hoM : SpsOk M) (id : Nat) :
    Fn Try.prog 5 [.slice A L.length c, .slice B M.length c2, uq id] (T ++ U) fun v _ => v = .bool true := by
  refine Fn.enter (N := 165) Try.func5 rfl (by kernel_rfl) rfl (fun w0 => ?_)

  refine awp_seq_region (fun Z hZ => ?_)
  refine sx_assign rfl rfl ?_
  refine sx_nil (hZ _ _ ?_)
  refine awp_forget [(0, _), (1, _), (2, _)] (Kn.cons rfl (Kn.cons rfl (Kn.cons rfl (Kn.nil)))) ?_
  refine awp_seq ?_
  refine awp_seq_meet [(0, .slice A L.length c), (1, .slice B M.length c2), (2, uq id), (23, .bool (decide (30 < L.length ∨ 30 < M.length)))] (T ++ U) (fun Z hZ => ?_) ?_
  · refine sx_move rfl rfl ?_
    first | refine sx_len Try.underlying22 rfl rfl ?_ | refine sx_lenS Try.underlying22 rfl rfl ?_
    first | refine sx_gtr rfl rfl rfl ?_ | refine sx_sgtr rfl rfl rfl ?_
    refine sx_move rfl rfl ?_
    refine sx_split 19 rfl (fun hb3 => ?_) (fun hb3 => ?_)
    · refine sx_off rfl rfl rfl rfl rfl ?_
      refine sx_off rfl rfl rfl rfl rfl ?_
      refine sx_off rfl rfl rfl rfl rfl ?_
      refine sx_pick rfl rfl rfl ?_
      refine sx_nil (hZ _ _ ?_ ?_)
      · exact Kn.cons rfl (Kn.cons rfl (Kn.cons rfl (Kn.cons (congrArg some (congrArg Value.bool (by first | (rw [Bool.eq_iff_iff]; simp only [decide_eq_true_eq, decide_eq_false_iff_not] at hb3 ⊢; omega) | (simp at *; done) | (simp at *; omega)))) Kn.nil)))
      · exact HLe.refl _
    · refine sx_on rfl rfl rfl ?_
      refine sx_move rfl rfl ?_
      refine sx_on rfl rfl rfl ?_
      first | refine sx_len Try.underlying22 rfl rfl ?_ | refine sx_lenS Try.underlying22 rfl rfl ?_
      refine sx_on rfl rfl rfl ?_
      first | refine sx_gtr rfl rfl rfl ?_ | refine sx_sgtr rfl rfl rfl ?_
      refine sx_pick rfl rfl rfl ?_
      refine sx_nil (hZ _ _ ?_ ?_)
      · exact Kn.cons rfl (Kn.cons rfl (Kn.cons rfl (Kn.cons (congrArg some (congrArg Value.bool (by first | (rw [Bool.eq_iff_iff]; simp only [decide_eq_true_eq, decide_eq_false_iff_not] at hb3 ⊢; omega) | (simp at *; done) | (simp at *; omega)))) Kn.nil)))
      · exact HLe.refl _
  first | refine awp_cond rfl (fun h => ?_) (fun h => ?_) | refine awp_seq (awp_cond rfl (fun h => ?_) (fun h => ?_))
  · refine awp_seq_region (fun Z hZ => ?_)
    refine sx_callP m43wake_fn rfl rfl ?_
    refine sx_assign rfl rfl ?_
    refine sx_nil (hZ _ _ ?_)
    refine awp_forget [(6, _)] (Kn.cons rfl (Kn.nil)) ?_
    refine awp_ret ?_
    repeat (with_reducible (first | refine nx_then_ret ?_ | refine nx_block_ret ?_ | refine nx_scope_ret ?_))
    exact nx_ret1 rfl rfl rfl
  have n1 : L.length ≤ 30 ∧ M.length ≤ 30 := by simp at h; omega
  refine awp_skip ?_
  repeat (with_reducible (first | refine nx_block_normal ?_ | refine nx_scope_normal ?_))
  with_reducible first | refine nx_normal ?_ | refine nx_normalM ?_
  refine awp_seq_region (fun Z hZ => ?_)
  refine sx_move rfl rfl ?_
  refine sx_callIE T (spans_fn A c L T hA hT hro (by omega)) rfl (HLe.sub (by with_reducible repeat (first | exact List.Sublist.refl _ | exact List.nil_sublist _ | exact List.sublist_append_right _ _ | refine List.Sublist.trans ?_ (List.sublist_append_left _ _) | exact List.Sublist.cons_cons _ (List.nil_sublist _) | refine List.Sublist.cons _ ?_))) hro rfl (fun A1 c1 hA1 => ?_)
  refine sx_move rfl rfl ?_
  refine sx_callIE U (spans_fn B c2 M U hB hU hroU (by omega)) rfl (HLe.sub (by with_reducible repeat (first | exact List.Sublist.refl _ | exact List.nil_sublist _ | exact List.sublist_append_right _ _ | refine List.Sublist.trans ?_ (List.sublist_append_left _ _) | exact List.Sublist.cons_cons _ (List.nil_sublist _) | refine List.Sublist.cons _ ?_))) hroU rfl (fun A2 c3 hA2 => ?_)
  refine sx_assign rfl rfl ?_
  refine sx_assign rfl rfl ?_
  refine sx_nil (hZ _ _ ?_)
  refine awp_forget [(2, _), (7, _), (8, _)] (Kn.cons rfl (Kn.cons rfl (Kn.cons rfl (Kn.nil)))) ?_
  refine awp_heap (roE A1 (scells L) ++ roE A2 (scells M)) (HLe.sub (List.Sublist.append_right (List.sublist_append_right _ _) _)) ?_
  refine awp_seq_region (fun Z hZ => ?_)
  refine sx_move rfl rfl ?_
  first | refine sx_lss rfl rfl rfl ?_ | refine sx_slss rfl rfl rfl ?_
  refine sx_assign rfl rfl ?_
  refine sx_nil (hZ _ _ ?_)
  refine awp_forget [(2, _), (7, _), (8, _), (9, _)] (Kn.cons rfl (Kn.cons rfl (Kn.cons rfl (Kn.cons rfl (Kn.nil))))) ?_
  have hin : decide ((id : Int) < 6004799503160661) = decide (id < 6004799503160661) := by rw [Bool.eq_iff_iff]; simp; omega
  have l1 := or_len L M
  have l2 := and_len L M
  have l3 := not_len L
  have l10 : (lessQ L M).length ≤ 1000 := by have := and_len L (notQ M); have := not_len M; unfold lessQ; omega
  obtain ⟨i, hi⟩ : ∃ i, decide (id < 6004799503160661) = i := ⟨_, rfl⟩
  obtain ⟨p0, hp0⟩ : ∃ p, decide (inS L id) = p := ⟨_, rfl⟩
  obtain ⟨q0, hq0⟩ : ∃ p, decide (inS M id) = p := ⟨_, rfl⟩
  obtain ⟨p, hp⟩ : ∃ p, (i && p0) = p := ⟨_, rfl⟩
  obtain ⟨q, hq⟩ : ∃ p, (i && q0) = p := ⟨_, rfl⟩
  have f1 : decide (inS (orQ L M) id) = (p || q) := by
    rw [← hp, ← hq, ← hp0, ← hq0, ← hi, Bool.eq_iff_iff]
    simp only [decide_eq_true_eq, Bool.or_eq_true, Bool.and_eq_true, or_in]
    exact ⟨fun ⟨hh, hl⟩ => hh.elim (fun hh => .inl ⟨hl, hh⟩) (fun hh => .inr ⟨hl, hh⟩), fun hh => hh.elim (fun hh => ⟨.inl hh.2, hh.1⟩) (fun hh => ⟨.inr hh.2, hh.1⟩)⟩
  have f2 : decide (inS (andQ L M) id) = (p && q) := by
    rw [← hp, ← hq, ← hp0, ← hq0, ← hi, Bool.eq_iff_iff]
    simp only [decide_eq_true_eq, Bool.and_eq_true, and_in]
    exact ⟨fun ⟨h1, h2, h3⟩ => ⟨⟨h1, h2⟩, h1, h3⟩, fun ⟨⟨h1, h2⟩, _, h3⟩ => ⟨h1, h2, h3⟩⟩
  have f3 : decide (inS (notQ L) id) = (i && !p) := by
    rw [← hp, ← hp0, ← hi, Bool.eq_iff_iff]
    simp only [decide_eq_true_eq, Bool.and_eq_true, Bool.not_eq_true', Bool.and_eq_false_iff, decide_eq_false_iff_not, not_in]
    exact ⟨fun ⟨h1, h2⟩ => ⟨h1, .inr h2⟩, fun ⟨h1, h2⟩ => ⟨h1, h2.resolve_left fun hh => hh h1⟩⟩
  have f4 : decide (inS (lessQ L M) id) = (p && !q) := by
    rw [← hp, ← hq, ← hp0, ← hq0, ← hi, Bool.eq_iff_iff]
    simp only [decide_eq_true_eq, Bool.and_eq_true, Bool.not_eq_true', Bool.and_eq_false_iff, decide_eq_false_iff_not, less_in]
    exact ⟨fun ⟨h1, h2, h3⟩ => ⟨⟨h1, h2⟩, .inr h3⟩, fun ⟨⟨h1, h2⟩, h3⟩ => ⟨h1, h2, h3.resolve_left fun hh => hh h1⟩⟩
  have f5 : withinQ L M = true → p = true → q = true := by
    intro hw hpt
    rw [← hp, ← hp0, ← hi, Bool.and_eq_true, decide_eq_true_iff, decide_eq_true_iff] at hpt
    rw [← hq, ← hq0, ← hi, Bool.and_eq_true, decide_eq_true_iff, decide_eq_true_iff]
    exact ⟨hpt.1, (within_iff L M).1 hw id hpt.1 hpt.2⟩
  rw [hin, hi]
  refine awp_forget [(2, uq id), (7, .slice A1 L.length c1), (8, .slice A2 M.length c3), (9, .bool i)] (Kn.cons rfl (Kn.cons rfl (Kn.cons rfl (Kn.cons rfl Kn.nil)))) ?_
  refine awp_seq_meet [(2, uq id), (7, .slice A1 L.length c1), (8, .slice A2 M.length c3), (9, .bool i), (10, .bool p), (11, .bool q)] (roE A1 (scells L) ++ roE A2 (scells M)) (fun Z hZ => ?_) ?_
  · refine sx_move rfl rfl ?_
    refine sx_move rfl rfl ?_
    refine sx_split 32 rfl (fun hb1 => ?_) (fun hb1 => ?_)
    · refine sx_on rfl rfl rfl ?_
      refine sx_move rfl rfl ?_
      refine sx_on rfl rfl rfl ?_
      refine sx_move rfl rfl ?_
      refine sx_on rfl rfl rfl ?_
      refine sx_callV (roE A1 (scells L)) (sin_fn A1 c1 L _ hA1.arg (fun _ => rfl) (Ro.roE _ _) (by omega) id) rfl (HLe.sub (by with_reducible repeat (first | exact List.Sublist.refl _ | exact List.nil_sublist _ | exact List.sublist_append_right _ _ | refine List.Sublist.trans ?_ (List.sublist_append_left _ _) | exact List.Sublist.cons_cons _ (List.nil_sublist _) | refine List.Sublist.cons _ ?_))) (Ro.roE _ _) rfl ?_
      rw [hp0]
      refine sx_pick rfl rfl rfl ?_
      refine sx_move rfl rfl ?_
      refine sx_move rfl rfl ?_
      refine sx_split 38 rfl (fun hb7 => ?_) (fun hb7 => ?_)
      · refine sx_on rfl rfl rfl ?_
        refine sx_move rfl rfl ?_
        refine sx_on rfl rfl rfl ?_
        refine sx_move rfl rfl ?_
        refine sx_on rfl rfl rfl ?_
        refine sx_callV (roE A2 (scells M)) (sin_fn A2 c3 M _ hA2.arg (fun _ => rfl) (Ro.roE _ _) (by omega) id) rfl (HLe.sub (by with_reducible repeat (first | exact List.Sublist.refl _ | exact List.nil_sublist _ | exact List.sublist_append_right _ _ | refine List.Sublist.trans ?_ (List.sublist_append_left _ _) | exact List.Sublist.cons_cons _ (List.nil_sublist _) | refine List.Sublist.cons _ ?_))) (Ro.roE _ _) rfl ?_
        rw [hq0]
        refine sx_pick rfl rfl rfl ?_
        refine sx_assign rfl rfl ?_
        refine sx_assign rfl rfl ?_
        refine sx_nil (hZ _ _ ?_ ?_)
        · exact Kn.cons rfl (Kn.cons rfl (Kn.cons rfl (Kn.cons rfl (Kn.cons (congrArg some (congrArg Value.bool (by rw [← hp]; simp_all))) (Kn.cons (congrArg some (congrArg Value.bool (by rw [← hq]; simp_all))) Kn.nil)))))
        · exact HLe.refl _
      · refine sx_off rfl rfl rfl rfl rfl ?_
        refine sx_off rfl rfl rfl rfl rfl ?_
        refine sx_off rfl rfl rfl rfl rfl ?_
        refine sx_pick rfl rfl rfl ?_
        refine sx_assign rfl rfl ?_
        refine sx_assign rfl rfl ?_
        refine sx_nil (hZ _ _ ?_ ?_)
        · exact Kn.cons rfl (Kn.cons rfl (Kn.cons rfl (Kn.cons rfl (Kn.cons (congrArg some (congrArg Value.bool (by rw [← hp]; simp_all))) (Kn.cons (congrArg some (congrArg Value.bool (by rw [← hq]; simp_all))) Kn.nil)))))
        · exact HLe.refl _
    · refine sx_off rfl rfl rfl rfl rfl ?_
      refine sx_off rfl rfl rfl rfl rfl ?_
      refine sx_off rfl rfl rfl rfl rfl ?_
      refine sx_pick rfl rfl rfl ?_
      refine sx_move rfl rfl ?_
      refine sx_move rfl rfl ?_
      refine sx_split 38 rfl (fun hb7 => ?_) (fun hb7 => ?_)
      · refine sx_on rfl rfl rfl ?_
        refine sx_move rfl rfl ?_
        refine sx_on rfl rfl rfl ?_
        refine sx_move rfl rfl ?_
        refine sx_on rfl rfl rfl ?_
        refine sx_callV (roE A2 (scells M)) (sin_fn A2 c3 M _ hA2.arg (fun _ => rfl) (Ro.roE _ _) (by omega) id) rfl (HLe.sub (by with_reducible repeat (first | exact List.Sublist.refl _ | exact List.nil_sublist _ | exact List.sublist_append_right _ _ | refine List.Sublist.trans ?_ (List.sublist_append_left _ _) | exact List.Sublist.cons_cons _ (List.nil_sublist _) | refine List.Sublist.cons _ ?_))) (Ro.roE _ _) rfl ?_
        rw [hq0]
        refine sx_pick rfl rfl rfl ?_
        refine sx_assign rfl rfl ?_
        refine sx_assign rfl rfl ?_
        refine sx_nil (hZ _ _ ?_ ?_)
        · exact Kn.cons rfl (Kn.cons rfl (Kn.cons rfl (Kn.cons rfl (Kn.cons (congrArg some (congrArg Value.bool (by rw [← hp]; simp_all))) (Kn.cons (congrArg some (congrArg Value.bool (by rw [← hq]; simp_all))) Kn.nil)))))
        · exact HLe.refl _
      · refine sx_off rfl rfl rfl rfl rfl ?_
        refine sx_off rfl rfl rfl rfl rfl ?_
        refine sx_off rfl rfl rfl rfl rfl ?_
        refine sx_pick rfl rfl rfl ?_
        refine sx_assign rfl rfl ?_
        refine sx_assign rfl rfl ?_
        refine sx_nil (hZ _ _ ?_ ?_)
        · exact Kn.cons rfl (Kn.cons rfl (Kn.cons rfl (Kn.cons rfl (Kn.cons (congrArg some (congrArg Value.bool (by rw [← hp]; simp_all))) (Kn.cons (congrArg some (congrArg Value.bool (by rw [← hq]; simp_all))) Kn.nil)))))
        · exact HLe.refl _
  refine awp_seq_region (fun Z hZ => ?_)
  refine sx_move rfl rfl ?_
  refine sx_move rfl rfl ?_
  refine sx_callIE (roE A1 (scells L) ++ roE A2 (scells M)) (mor_fn A1 c1 L _ hA1.arg (fun _ => rfl) (Ro.roE _ _) (by omega) ho A2 c3 M _ hA2.arg (fun _ => rfl) (Ro.roE _ _) (by omega) hoM) rfl (HLe.twoS (by with_reducible repeat (first | exact List.Sublist.refl _ | exact List.nil_sublist _ | exact List.sublist_append_right _ _ | refine List.Sublist.trans ?_ (List.sublist_append_left _ _) | exact List.Sublist.cons_cons _ (List.nil_sublist _) | refine List.Sublist.cons _ ?_)) (by with_reducible repeat (first | exact List.Sublist.refl _ | exact List.nil_sublist _ | exact List.sublist_append_right _ _ | refine List.Sublist.trans ?_ (List.sublist_append_left _ _) | exact List.Sublist.cons_cons _ (List.nil_sublist _) | refine List.Sublist.cons _ ?_)) (Ro.roE _ _)) ((Ro.roE _ _).append (Ro.roE _ _)) rfl (fun B1 d1 hB1 => ?_)
  refine sx_move rfl rfl ?_
  refine sx_move rfl rfl ?_
  refine sx_callIE (roE A1 (scells L) ++ roE A2 (scells M)) (mand_fn A1 c1 L _ hA1.arg (fun _ => rfl) (Ro.roE _ _) (by omega) ho A2 c3 M _ hA2.arg (fun _ => rfl) (Ro.roE _ _) (by omega) hoM) rfl (HLe.twoS (by with_reducible repeat (first | exact List.Sublist.refl _ | exact List.nil_sublist _ | exact List.sublist_append_right _ _ | refine List.Sublist.trans ?_ (List.sublist_append_left _ _) | exact List.Sublist.cons_cons _ (List.nil_sublist _) | refine List.Sublist.cons _ ?_)) (by with_reducible repeat (first | exact List.Sublist.refl _ | exact List.nil_sublist _ | exact List.sublist_append_right _ _ | refine List.Sublist.trans ?_ (List.sublist_append_left _ _) | exact List.Sublist.cons_cons _ (List.nil_sublist _) | refine List.Sublist.cons _ ?_)) (Ro.roE _ _)) ((Ro.roE _ _).append (Ro.roE _ _)) rfl (fun B2 d2 hB2 => ?_)
  refine sx_move rfl rfl ?_
  refine sx_callIE (roE A1 (scells L)) (mnot_fn A1 c1 L _ hA1.arg (fun _ => rfl) (Ro.roE _ _) (by omega) ho) rfl (HLe.sub (by with_reducible repeat (first | exact List.Sublist.refl _ | exact List.nil_sublist _ | exact List.sublist_append_right _ _ | refine List.Sublist.trans ?_ (List.sublist_append_left _ _) | exact List.Sublist.cons_cons _ (List.nil_sublist _) | refine List.Sublist.cons _ ?_))) (Ro.roE _ _) rfl (fun B3 d3 hB3 => ?_)
  refine sx_move rfl rfl ?_
  refine sx_move rfl rfl ?_
  refine sx_callIE (roE A1 (scells L) ++ roE A2 (scells M)) (mless_fn A1 c1 L _ hA1.arg (fun _ => rfl) (Ro.roE _ _) (by omega) ho A2 c3 M _ hA2.arg (fun _ => rfl) (Ro.roE _ _) (by omega) hoM) rfl (HLe.twoS (by with_reducible repeat (first | exact List.Sublist.refl _ | exact List.nil_sublist _ | exact List.sublist_append_right _ _ | refine List.Sublist.trans ?_ (List.sublist_append_left _ _) | exact List.Sublist.cons_cons _ (List.nil_sublist _) | refine List.Sublist.cons _ ?_)) (by with_reducible repeat (first | exact List.Sublist.refl _ | exact List.nil_sublist _ | exact List.sublist_append_right _ _ | refine List.Sublist.trans ?_ (List.sublist_append_left _ _) | exact List.Sublist.cons_cons _ (List.nil_sublist _) | refine List.Sublist.cons _ ?_)) (Ro.roE _ _)) ((Ro.roE _ _).append (Ro.roE _ _)) rfl (fun B4 d4 hB4 => ?_)
  refine sx_buildSlice Try.underlying40 tyS24 tyZ24 rfl rfl rfl rfl (by first | (simp only [List.take_succ_cons, List.take_zero, List.drop_succ_cons, List.drop_zero, List.cons_append, List.nil_append, List.append_nil, List.length_cons, List.length_nil, Nat.reduceAdd, Nat.zero_add, Nat.add_zero, Value.cells, wrV, zrep_one, List.replicate_succ, List.replicate_zero, Nat.reduceMul, Nat.zero_mul]; first | done | rfl) | rfl) rfl (fun g1 => ?_)
  refine sx_assign rfl rfl ?_
  refine sx_nil (hZ _ _ ?_)
  refine awp_forget [(2, _), (7, _), (8, _), (9, _), (10, _), (11, _), (12, _)] (Kn.cons rfl (Kn.cons rfl (Kn.cons rfl (Kn.cons rfl (Kn.cons rfl (Kn.cons rfl (Kn.cons rfl (Kn.nil)))))))) ?_
  obtain ⟨H0, hH0⟩ : ∃ H0, roE A1 (scells L) ++ roE A2 (scells M) ++ roE B1 (scells (orQ L M)) ++ roE B2 (scells (andQ L M)) ++ roE B3 (scells (notQ L)) ++ roE B4 (scells (lessQ L M)) = H0 := ⟨_, rfl⟩
  have m1 : (roE B1 (scells (orQ L M))).Sublist H0 := by rw [← hH0]; exact (by with_reducible repeat (first | exact List.Sublist.refl _ | exact List.nil_sublist _ | exact List.sublist_append_right _ _ | refine List.Sublist.trans ?_ (List.sublist_append_left _ _) | exact List.Sublist.cons_cons _ (List.nil_sublist _) | refine List.Sublist.cons _ ?_))
  have m2 : (roE B2 (scells (andQ L M))).Sublist H0 := by rw [← hH0]; exact (by with_reducible repeat (first | exact List.Sublist.refl _ | exact List.nil_sublist _ | exact List.sublist_append_right _ _ | refine List.Sublist.trans ?_ (List.sublist_append_left _ _) | exact List.Sublist.cons_cons _ (List.nil_sublist _) | refine List.Sublist.cons _ ?_))
  have m3 : (roE B3 (scells (notQ L))).Sublist H0 := by rw [← hH0]; exact (by with_reducible repeat (first | exact List.Sublist.refl _ | exact List.nil_sublist _ | exact List.sublist_append_right _ _ | refine List.Sublist.trans ?_ (List.sublist_append_left _ _) | exact List.Sublist.cons_cons _ (List.nil_sublist _) | refine List.Sublist.cons _ ?_))
  have m4 : (roE B4 (scells (lessQ L M))).Sublist H0 := by rw [← hH0]; exact (by with_reducible repeat (first | exact List.Sublist.refl _ | exact List.nil_sublist _ | exact List.sublist_append_right _ _ | refine List.Sublist.trans ?_ (List.sublist_append_left _ _) | exact List.Sublist.cons_cons _ (List.nil_sublist _) | refine List.Sublist.cons _ ?_))
  have n2 : (orQ L M).length ≤ 1000 ∧ (andQ L M).length ≤ 1000 ∧ (notQ L).length ≤ 1000 := ⟨by omega, by omega, by omega⟩
  have q1 : PtOk H0 id B1 d1 (orQ L M) (p || q) := ⟨hB1, or_plain L M, or_below L M, n2.1, m1, f1⟩
  have q2 : PtOk H0 id B2 d2 (andQ L M) (p && q) := ⟨hB2, and_plain L M, and_below L M, n2.2.1, m2, f2⟩
  have q3 : PtOk H0 id B3 d3 (notQ L) (i && !p) := ⟨hB3, not_plain L, not_below L, n2.2.2, m3, f3⟩
  have q4 : PtOk H0 id B4 d4 (lessQ L M) (p && !q) := ⟨hB4, less_plain L M, less_below L M, l10, m4, f4⟩
  have hroH : Ro H0 := by rw [← hH0]; exact (((((Ro.roE _ _).append (Ro.roE _ _)).append (Ro.roE _ _)).append (Ro.roE _ _)).append (Ro.roE _ _)).append (Ro.roE _ _)
  have s1 : (roE A1 (scells L) ++ roE A2 (scells M)).Sublist H0 := by rw [← hH0]; exact (by with_reducible repeat (first | exact List.Sublist.refl _ | exact List.nil_sublist _ | exact List.sublist_append_right _ _ | refine List.Sublist.trans ?_ (List.sublist_append_left _ _) | exact List.Sublist.cons_cons _ (List.nil_sublist _) | refine List.Sublist.cons _ ?_))
  have hps : ∀ (k : Nat) (Ax : Option Addr) (cx : Nat) (X : List Sp) (w : Bool), ([(B1, d1, orQ L M), (B2, d2, andQ L M), (B3, d3, notQ L), (B4, d4, lessQ L M)] : List Sc)[k]? = some (Ax, cx, X) → ([p || q, p && q, i && !p, p && !q] : List Bool)[k]? = some w → PtOk H0 id Ax cx X w := fun k Ax cx X w hx hw => by
    match k, hx, hw with
    | 0, hx, hw => cases hx; cases hw; exact q1
    | 1, hx, hw => cases hx; cases hw; exact q2
    | 2, hx, hw => cases hx; cases hw; exact q3
    | 3, hx, hw => cases hx; cases hw; exact q4
    | k + 4, hx, hw => simp at hx
  rw [hH0]
  obtain ⟨ps, hpse⟩ : ∃ ps : List Sc, [(B1, d1, orQ L M), (B2, d2, andQ L M), (B3, d3, notQ L), (B4, d4, lessQ L M)] = ps := ⟨_, rfl⟩
  obtain ⟨ws, hwse⟩ : ∃ ws : List Bool, [p || q, p && q, i && !p, p && !q] = ws := ⟨_, rfl⟩
  have hmap : ps.map scv = [.slice B1 (orQ L M).length d1, .slice B2 (andQ L M).length d2, .slice B3 (notQ L).length d3, .slice B4 (lessQ L M).length d4] := by rw [← hpse]; simp only [List.map_cons, List.map_nil]
  refine awp_heap (.ro g1 0 (ps.map scv) :: H0) (by rw [hmap]; exact own_ro _) ?_
  refine awp_cut (ι := Nat) (fun g2 => [(2, uq id), (7, .slice A1 L.length c1), (8, .slice A2 M.length c3), (10, .bool p), (11, .bool q), (12, .slice (some ⟨g1, 0, none⟩) 4 4), (13, .slice (some ⟨g2, 0, none⟩) 4 4)]) (fun g2 => .own g2 4 (ws.map Value.bool) :: .ro g1 0 (ps.map scv) :: H0) (fun _ => True) ?_ ?_
  · rw [← hwse]
    clear hin hps q1 q2 q3 q4 f1 f2 f3 f4 f5 hp hq hi hwse

    cases i <;> cases p <;> cases q
    · refine awp_region (fun Z hZ => ?_)
      refine sx_move rfl rfl ?_
      refine sx_move rfl rfl ?_
      refine sx_force 56 rfl false (by first | rfl | (simp; done) | (simp; omega)) ?_
      refine sx_on rfl rfl rfl ?_
      refine sx_move rfl rfl ?_
      refine sx_pick rfl rfl rfl ?_
      refine sx_move rfl rfl ?_
      refine sx_move rfl rfl ?_
      refine sx_force 60 rfl false (by first | rfl | (simp; done) | (simp; omega)) ?_
      refine sx_off rfl rfl rfl rfl rfl ?_
      refine sx_pick rfl rfl rfl ?_
      refine sx_move rfl rfl ?_
      refine sx_move rfl rfl ?_
      refine sx_force 64 rfl false (by first | rfl | (simp; done) | (simp; omega)) ?_
      refine sx_off rfl rfl rfl rfl rfl ?_
      refine sx_off rfl rfl rfl rfl rfl ?_
      refine sx_pick rfl rfl rfl ?_
      refine sx_move rfl rfl ?_
      refine sx_move rfl rfl ?_
      refine sx_force 69 rfl false (by first | rfl | (simp; done) | (simp; omega)) ?_
      refine sx_off rfl rfl rfl rfl rfl ?_
      refine sx_off rfl rfl rfl rfl rfl ?_
      refine sx_pick rfl rfl rfl ?_
      refine sx_buildSlice Try.underlying41 tyS4 tyZ4 rfl rfl rfl rfl (by first | (simp only [List.take_succ_cons, List.take_zero, List.drop_succ_cons, List.drop_zero, List.cons_append, List.nil_append, List.append_nil, List.length_cons, List.length_nil, Nat.reduceAdd, Nat.zero_add, Nat.add_zero, Value.cells, wrV, zrep_one, List.replicate_succ, List.replicate_zero, Nat.reduceMul, Nat.zero_mul]; first | done | rfl) | rfl) rfl (fun g2 => ?_)
      refine sx_assign rfl rfl ?_
      refine sx_nil (hZ _ _ ?_)
      exact nx_cut g2 trivial (Kn.cons rfl (Kn.cons rfl (Kn.cons rfl (Kn.cons rfl (Kn.cons rfl (Kn.cons rfl (Kn.cons rfl Kn.nil))))))) (HLe.refl _)
    · refine awp_region (fun Z hZ => ?_)
      refine sx_move rfl rfl ?_
      refine sx_move rfl rfl ?_
      refine sx_force 56 rfl false (by first | rfl | (simp; done) | (simp; omega)) ?_
      refine sx_on rfl rfl rfl ?_
      refine sx_move rfl rfl ?_
      refine sx_pick rfl rfl rfl ?_
      refine sx_move rfl rfl ?_
      refine sx_move rfl rfl ?_
      refine sx_force 60 rfl false (by first | rfl | (simp; done) | (simp; omega)) ?_
      refine sx_off rfl rfl rfl rfl rfl ?_
      refine sx_pick rfl rfl rfl ?_
      refine sx_move rfl rfl ?_
      refine sx_move rfl rfl ?_
      refine sx_force 64 rfl false (by first | rfl | (simp; done) | (simp; omega)) ?_
      refine sx_off rfl rfl rfl rfl rfl ?_
      refine sx_off rfl rfl rfl rfl rfl ?_
      refine sx_pick rfl rfl rfl ?_
      refine sx_move rfl rfl ?_
      refine sx_move rfl rfl ?_
      refine sx_force 69 rfl false (by first | rfl | (simp; done) | (simp; omega)) ?_
      refine sx_off rfl rfl rfl rfl rfl ?_
      refine sx_off rfl rfl rfl rfl rfl ?_
      refine sx_pick rfl rfl rfl ?_
      refine sx_buildSlice Try.underlying41 tyS4 tyZ4 rfl rfl rfl rfl (by first | (simp only [List.take_succ_cons, List.take_zero, List.drop_succ_cons, List.drop_zero, List.cons_append, List.nil_append, List.append_nil, List.length_cons, List.length_nil, Nat.reduceAdd, Nat.zero_add, Nat.add_zero, Value.cells, wrV, zrep_one, List.replicate_succ, List.replicate_zero, Nat.reduceMul, Nat.zero_mul]; first | done | rfl) | rfl) rfl (fun g3 => ?_)
      refine sx_assign rfl rfl ?_
      refine sx_nil (hZ _ _ ?_)
      exact nx_cut g3 trivial (Kn.cons rfl (Kn.cons rfl (Kn.cons rfl (Kn.cons rfl (Kn.cons rfl (Kn.cons rfl (Kn.cons rfl Kn.nil))))))) (HLe.refl _)
    · refine awp_region (fun Z hZ => ?_)
      refine sx_move rfl rfl ?_
      refine sx_move rfl rfl ?_
      refine sx_force 56 rfl true (by first | rfl | (simp; done) | (simp; omega)) ?_
      refine sx_off rfl rfl rfl rfl rfl ?_
      refine sx_pick rfl rfl rfl ?_
      refine sx_move rfl rfl ?_
      refine sx_move rfl rfl ?_
      refine sx_force 60 rfl true (by first | rfl | (simp; done) | (simp; omega)) ?_
      refine sx_on rfl rfl rfl ?_
      refine sx_move rfl rfl ?_
      refine sx_pick rfl rfl rfl ?_
      refine sx_move rfl rfl ?_
      refine sx_move rfl rfl ?_
      refine sx_force 64 rfl false (by first | rfl | (simp; done) | (simp; omega)) ?_
      refine sx_off rfl rfl rfl rfl rfl ?_
      refine sx_off rfl rfl rfl rfl rfl ?_
      refine sx_pick rfl rfl rfl ?_
      refine sx_move rfl rfl ?_
      refine sx_move rfl rfl ?_
      refine sx_force 69 rfl true (by first | rfl | (simp; done) | (simp; omega)) ?_
      refine sx_on rfl rfl rfl ?_
      refine sx_move rfl rfl ?_
      refine sx_on rfl rfl rfl ?_
      refine sx_not rfl rfl ?_
      refine sx_pick rfl rfl rfl ?_
      refine sx_buildSlice Try.underlying41 tyS4 tyZ4 rfl rfl rfl rfl (by first | (simp only [List.take_succ_cons, List.take_zero, List.drop_succ_cons, List.drop_zero, List.cons_append, List.nil_append, List.append_nil, List.length_cons, List.length_nil, Nat.reduceAdd, Nat.zero_add, Nat.add_zero, Value.cells, wrV, zrep_one, List.replicate_succ, List.replicate_zero, Nat.reduceMul, Nat.zero_mul]; first | done | rfl) | rfl) rfl (fun g4 => ?_)
      refine sx_assign rfl rfl ?_
      refine sx_nil (hZ _ _ ?_)
      exact nx_cut g4 trivial (Kn.cons rfl (Kn.cons rfl (Kn.cons rfl (Kn.cons rfl (Kn.cons rfl (Kn.cons rfl (Kn.cons rfl Kn.nil))))))) (HLe.refl _)
    · refine awp_region (fun Z hZ => ?_)
      refine sx_move rfl rfl ?_
      refine sx_move rfl rfl ?_
      refine sx_force 56 rfl true (by first | rfl | (simp; done) | (simp; omega)) ?_
      refine sx_off rfl rfl rfl rfl rfl ?_
      refine sx_pick rfl rfl rfl ?_
      refine sx_move rfl rfl ?_
      refine sx_move rfl rfl ?_
      refine sx_force 60 rfl true (by first | rfl | (simp; done) | (simp; omega)) ?_
      refine sx_on rfl rfl rfl ?_
      refine sx_move rfl rfl ?_
      refine sx_pick rfl rfl rfl ?_
      refine sx_move rfl rfl ?_
      refine sx_move rfl rfl ?_
      refine sx_force 64 rfl false (by first | rfl | (simp; done) | (simp; omega)) ?_
      refine sx_off rfl rfl rfl rfl rfl ?_
      refine sx_off rfl rfl rfl rfl rfl ?_
      refine sx_pick rfl rfl rfl ?_
      refine sx_move rfl rfl ?_
      refine sx_move rfl rfl ?_
      refine sx_force 69 rfl true (by first | rfl | (simp; done) | (simp; omega)) ?_
      refine sx_on rfl rfl rfl ?_
      refine sx_move rfl rfl ?_
      refine sx_on rfl rfl rfl ?_
      refine sx_not rfl rfl ?_
      refine sx_pick rfl rfl rfl ?_
      refine sx_buildSlice Try.underlying41 tyS4 tyZ4 rfl rfl rfl rfl (by first | (simp only [List.take_succ_cons, List.take_zero, List.drop_succ_cons, List.drop_zero, List.cons_append, List.nil_append, List.append_nil, List.length_cons, List.length_nil, Nat.reduceAdd, Nat.zero_add, Nat.add_zero, Value.cells, wrV, zrep_one, List.replicate_succ, List.replicate_zero, Nat.reduceMul, Nat.zero_mul]; first | done | rfl) | rfl) rfl (fun g5 => ?_)
      refine sx_assign rfl rfl ?_
      refine sx_nil (hZ _ _ ?_)
      exact nx_cut g5 trivial (Kn.cons rfl (Kn.cons rfl (Kn.cons rfl (Kn.cons rfl (Kn.cons rfl (Kn.cons rfl (Kn.cons rfl Kn.nil))))))) (HLe.refl _)
    · refine awp_region (fun Z hZ => ?_)
      refine sx_move rfl rfl ?_
      refine sx_move rfl rfl ?_
      refine sx_force 56 rfl false (by first | rfl | (simp; done) | (simp; omega)) ?_
      refine sx_on rfl rfl rfl ?_
      refine sx_move rfl rfl ?_
      refine sx_pick rfl rfl rfl ?_
      refine sx_move rfl rfl ?_
      refine sx_move rfl rfl ?_
      refine sx_force 60 rfl false (by first | rfl | (simp; done) | (simp; omega)) ?_
      refine sx_off rfl rfl rfl rfl rfl ?_
      refine sx_pick rfl rfl rfl ?_
      refine sx_move rfl rfl ?_
      refine sx_move rfl rfl ?_
      refine sx_force 64 rfl true (by first | rfl | (simp; done) | (simp; omega)) ?_
      refine sx_on rfl rfl rfl ?_
      refine sx_move rfl rfl ?_
      refine sx_on rfl rfl rfl ?_
      refine sx_not rfl rfl ?_
      refine sx_pick rfl rfl rfl ?_
      refine sx_move rfl rfl ?_
      refine sx_move rfl rfl ?_
      refine sx_force 69 rfl false (by first | rfl | (simp; done) | (simp; omega)) ?_
      refine sx_off rfl rfl rfl rfl rfl ?_
      refine sx_off rfl rfl rfl rfl rfl ?_
      refine sx_pick rfl rfl rfl ?_
      refine sx_buildSlice Try.underlying41 tyS4 tyZ4 rfl rfl rfl rfl (by first | (simp only [List.take_succ_cons, List.take_zero, List.drop_succ_cons, List.drop_zero, List.cons_append, List.nil_append, List.append_nil, List.length_cons, List.length_nil, Nat.reduceAdd, Nat.zero_add, Nat.add_zero, Value.cells, wrV, zrep_one, List.replicate_succ, List.replicate_zero, Nat.reduceMul, Nat.zero_mul]; first | done | rfl) | rfl) rfl (fun g6 => ?_)
      refine sx_assign rfl rfl ?_
      refine sx_nil (hZ _ _ ?_)
      exact nx_cut g6 trivial (Kn.cons rfl (Kn.cons rfl (Kn.cons rfl (Kn.cons rfl (Kn.cons rfl (Kn.cons rfl (Kn.cons rfl Kn.nil))))))) (HLe.refl _)
    · refine awp_region (fun Z hZ => ?_)
      refine sx_move rfl rfl ?_
      refine sx_move rfl rfl ?_
      refine sx_force 56 rfl false (by first | rfl | (simp; done) | (simp; omega)) ?_
      refine sx_on rfl rfl rfl ?_
      refine sx_move rfl rfl ?_
      refine sx_pick rfl rfl rfl ?_
      refine sx_move rfl rfl ?_
      refine sx_move rfl rfl ?_
      refine sx_force 60 rfl false (by first | rfl | (simp; done) | (simp; omega)) ?_
      refine sx_off rfl rfl rfl rfl rfl ?_
      refine sx_pick rfl rfl rfl ?_
      refine sx_move rfl rfl ?_
      refine sx_move rfl rfl ?_
      refine sx_force 64 rfl true (by first | rfl | (simp; done) | (simp; omega)) ?_
      refine sx_on rfl rfl rfl ?_
      refine sx_move rfl rfl ?_
      refine sx_on rfl rfl rfl ?_
      refine sx_not rfl rfl ?_
      refine sx_pick rfl rfl rfl ?_
      refine sx_move rfl rfl ?_
      refine sx_move rfl rfl ?_
      refine sx_force 69 rfl false (by first | rfl | (simp; done) | (simp; omega)) ?_
      refine sx_off rfl rfl rfl rfl rfl ?_
      refine sx_off rfl rfl rfl rfl rfl ?_
      refine sx_pick rfl rfl rfl ?_
      refine sx_buildSlice Try.underlying41 tyS4 tyZ4 rfl rfl rfl rfl (by first | (simp only [List.take_succ_cons, List.take_zero, List.drop_succ_cons, List.drop_zero, List.cons_append, List.nil_append, List.append_nil, List.length_cons, List.length_nil, Nat.reduceAdd, Nat.zero_add, Nat.add_zero, Value.cells, wrV, zrep_one, List.replicate_succ, List.replicate_zero, Nat.reduceMul, Nat.zero_mul]; first | done | rfl) | rfl) rfl (fun g7 => ?_)
      refine sx_assign rfl rfl ?_
      refine sx_nil (hZ _ _ ?_)
      exact nx_cut g7 trivial (Kn.cons rfl (Kn.cons rfl (Kn.cons rfl (Kn.cons rfl (Kn.cons rfl (Kn.cons rfl (Kn.cons rfl Kn.nil))))))) (HLe.refl _)
    · refine awp_region (fun Z hZ => ?_)
      refine sx_move rfl rfl ?_
      refine sx_move rfl rfl ?_
      refine sx_force 56 rfl true (by first | rfl | (simp; done) | (simp; omega)) ?_
      refine sx_off rfl rfl rfl rfl rfl ?_
      refine sx_pick rfl rfl rfl ?_
      refine sx_move rfl rfl ?_
      refine sx_move rfl rfl ?_
      refine sx_force 60 rfl true (by first | rfl | (simp; done) | (simp; omega)) ?_
      refine sx_on rfl rfl rfl ?_
      refine sx_move rfl rfl ?_
      refine sx_pick rfl rfl rfl ?_
      refine sx_move rfl rfl ?_
      refine sx_move rfl rfl ?_
      refine sx_force 64 rfl true (by first | rfl | (simp; done) | (simp; omega)) ?_
      refine sx_on rfl rfl rfl ?_
      refine sx_move rfl rfl ?_
      refine sx_on rfl rfl rfl ?_
      refine sx_not rfl rfl ?_
      refine sx_pick rfl rfl rfl ?_
      refine sx_move rfl rfl ?_
      refine sx_move rfl rfl ?_
      refine sx_force 69 rfl true (by first | rfl | (simp; done) | (simp; omega)) ?_
      refine sx_on rfl rfl rfl ?_
      refine sx_move rfl rfl ?_
      refine sx_on rfl rfl rfl ?_
      refine sx_not rfl rfl ?_
      refine sx_pick rfl rfl rfl ?_
      refine sx_buildSlice Try.underlying41 tyS4 tyZ4 rfl rfl rfl rfl (by first | (simp only [List.take_succ_cons, List.take_zero, List.drop_succ_cons, List.drop_zero, List.cons_append, List.nil_append, List.append_nil, List.length_cons, List.length_nil, Nat.reduceAdd, Nat.zero_add, Nat.add_zero, Value.cells, wrV, zrep_one, List.replicate_succ, List.replicate_zero, Nat.reduceMul, Nat.zero_mul]; first | done | rfl) | rfl) rfl (fun g8 => ?_)
      refine sx_assign rfl rfl ?_
      refine sx_nil (hZ _ _ ?_)
      exact nx_cut g8 trivial (Kn.cons rfl (Kn.cons rfl (Kn.cons rfl (Kn.cons rfl (Kn.cons rfl (Kn.cons rfl (Kn.cons rfl Kn.nil))))))) (HLe.refl _)
    · refine awp_region (fun Z hZ => ?_)
      refine sx_move rfl rfl ?_
      refine sx_move rfl rfl ?_
      refine sx_force 56 rfl true (by first | rfl | (simp; done) | (simp; omega)) ?_
      refine sx_off rfl rfl rfl rfl rfl ?_
      refine sx_pick rfl rfl rfl ?_
      refine sx_move rfl rfl ?_
      refine sx_move rfl rfl ?_
      refine sx_force 60 rfl true (by first | rfl | (simp; done) | (simp; omega)) ?_
      refine sx_on rfl rfl rfl ?_
      refine sx_move rfl rfl ?_
      refine sx_pick rfl rfl rfl ?_
      refine sx_move rfl rfl ?_
      refine sx_move rfl rfl ?_
      refine sx_force 64 rfl true (by first | rfl | (simp; done) | (simp; omega)) ?_
      refine sx_on rfl rfl rfl ?_
      refine sx_move rfl rfl ?_
      refine sx_on rfl rfl rfl ?_
      refine sx_not rfl rfl ?_
      refine sx_pick rfl rfl rfl ?_
      refine sx_move rfl rfl ?_
      refine sx_move rfl rfl ?_
      refine sx_force 69 rfl true (by first | rfl | (simp; done) | (simp; omega)) ?_
      refine sx_on rfl rfl rfl ?_
      refine sx_move rfl rfl ?_
      refine sx_on rfl rfl rfl ?_
      refine sx_not rfl rfl ?_
      refine sx_pick rfl rfl rfl ?_
      refine sx_buildSlice Try.underlying41 tyS4 tyZ4 rfl rfl rfl rfl (by first | (simp only [List.take_succ_cons, List.take_zero, List.drop_succ_cons, List.drop_zero, List.cons_append, List.nil_append, List.append_nil, List.length_cons, List.length_nil, Nat.reduceAdd, Nat.zero_add, Nat.add_zero, Value.cells, wrV, zrep_one, List.replicate_succ, List.replicate_zero, Nat.reduceMul, Nat.zero_mul]; first | done | rfl) | rfl) rfl (fun g9 => ?_)
      refine sx_assign rfl rfl ?_
      refine sx_nil (hZ _ _ ?_)
      exact nx_cut g9 trivial (Kn.cons rfl (Kn.cons rfl (Kn.cons rfl (Kn.cons rfl (Kn.cons rfl (Kn.cons rfl (Kn.cons rfl Kn.nil))))))) (HLe.refl _)
  rintro g2 -
  refine awp_heap (.ro g2 0 (ws.map Value.bool) :: .ro g1 0 (ps.map scv) :: H0) (own_ro _) ?_
  have hpl : ps.length = 4 := by rw [← hpse]; rfl
  have hwl : ws.length = 4 := by rw [← hwse]; rfl
  rw [hpse, hwse] at hps

  refine awp_cut (ι := Unit) (fun _ => [(7, .slice A1 L.length c1), (8, .slice A2 M.length c3), (10, .bool p), (11, .bool q)]) (fun _ => H0) (fun _ => True) ?_ ?_
  · refine awp_seq_region (fun Z hZ => ?_)
    refine sx_assign rfl rfl ?_
    refine sx_nil (hZ _ _ ?_)
    refine awp_forget [(2, _), (7, _), (8, _), (10, _), (11, _), (12, _), (13, _), (14, _)] (Kn.cons rfl (Kn.cons rfl (Kn.cons rfl (Kn.cons rfl (Kn.cons rfl (Kn.cons rfl (Kn.cons rfl (Kn.cons rfl (Kn.nil))))))))) ?_
    refine awp_block ?_
    refine awp_loop (ι := Nat) (fun k => [(2, uq id), (7, .slice A1 L.length c1), (8, .slice A2 M.length c3), (10, .bool p), (11, .bool q), (12, .slice (some ⟨g1, 0, none⟩) 4 4), (13, .slice (some ⟨g2, 0, none⟩) 4 4), (14, iq (k : Nat))]) (fun _ => .ro g2 0 (ws.map Value.bool) :: .ro g1 0 (ps.map scv) :: H0) (fun k => k ≤ 4) (fun k => 4 - k) 0 (by simp) (Kn.cons rfl (Kn.cons rfl (Kn.cons rfl (Kn.cons rfl (Kn.cons rfl (Kn.cons rfl (Kn.cons rfl (Kn.cons rfl Kn.nil)))))))) (HLe.refl _) ?_
    rintro k hk
    refine awp_seq ?_
    refine awp_seq_region (fun Z hZ => ?_)
    refine sx_move rfl rfl ?_
    first | refine sx_lss rfl rfl rfl ?_ | refine sx_slss rfl rfl rfl ?_
    refine sx_nil (hZ _ _ ?_)
    refine awp_forget [(2, _), (7, _), (8, _), (10, _), (11, _), (12, _), (13, _), (14, _), (75, _)] (Kn.cons rfl (Kn.cons rfl (Kn.cons rfl (Kn.cons rfl (Kn.cons rfl (Kn.cons rfl (Kn.cons rfl (Kn.cons rfl (Kn.cons rfl (Kn.nil)))))))))) ?_
    first | refine awp_cond rfl (fun h9 => ?_) (fun h9 => ?_) | refine awp_seq (awp_cond rfl (fun h9 => ?_) (fun h9 => ?_))
    · have hlt : k < 4 := by simp at h9; omega
      obtain ⟨x, hx⟩ : ∃ x, ps[k]? = some x := ⟨_, List.getElem?_eq_getElem (by omega)⟩
      obtain ⟨wt, hwt⟩ : ∃ x, ws[k]? = some x := ⟨_, List.getElem?_eq_getElem (by omega)⟩
      have hrd1 : rdV false 1 (ps.map scv) k = some (scv x) := by simp [rdV, hx]
      have hrd2 : rdV false 1 (ws.map Value.bool) k = some (.bool wt) := by simp [rdV, hwt]
      obtain ⟨Ax, cx, X⟩ := x
      replace hrd1 : rdV false 1 (ps.map scv) k = some (.slice Ax X.length cx) := hrd1
      obtain ⟨k1, k2, k3, k4, k5, k6⟩ := hps k Ax cx X wt hx hwt
      refine awp_skip ?_
      repeat (with_reducible (first | refine nx_block_normal ?_ | refine nx_scope_normal ?_))
      with_reducible first | refine nx_normal ?_ | refine nx_normalM ?_
      refine awp_seq (awp_block ?_)
      refine awp_seq ?_
      refine awq_seq_region mixed (by kernel_rfl) (fun Z hZ => ?_)
      refine sq_move rfl rfl ?_
      refine sq_move rfl rfl ?_
      refine sq_indexAddr (0 + k) Try.underlying40 tyS24 rfl rfl (by omega) (by simp) rfl ?_
      refine sq_loadRo 1 rfl rfl k rfl tyA24 tyS24 hrd1 rfl ?_
      refine sq_move rfl rfl ?_
      refine sq_callV (roE Ax (scells X)) (sin_fn Ax cx X _ k1.arg (fun _ => rfl) (Ro.roE _ _) (by omega) id) rfl (HLe.sub (k5.trans ((List.sublist_cons_self _ _).trans (List.sublist_cons_self _ _)))) (Ro.roE _ _) rfl ?_
      rw [k6]
      refine sq_move rfl rfl ?_
      refine sq_move rfl rfl ?_
      refine sq_indexAddr (0 + k) Try.underlying41 tyS4 rfl rfl (by omega) (by simp) rfl ?_
      refine sq_loadRo 0 rfl rfl k rfl tyA4 tyS4 hrd2 rfl ?_
      refine sq_bneq Try.underlying4 rfl rfl rfl ?_
      refine sq_nil (hZ _ _ ?_)
      refine awp_forget [(2, _), (7, _), (8, _), (10, _), (11, _), (12, _), (13, _), (14, _), (88, _)] (Kn.cons rfl (Kn.cons rfl (Kn.cons rfl (Kn.cons rfl (Kn.cons rfl (Kn.cons rfl (Kn.cons rfl (Kn.cons rfl (Kn.cons rfl (Kn.nil)))))))))) ?_
      first | refine awp_cond rfl (fun h11 => ?_) (fun h11 => ?_) | refine awp_seq (awp_cond rfl (fun h11 => ?_) (fun h11 => ?_))
      · exfalso
        simp at h11
      refine awp_skip ?_
      repeat (with_reducible (first | refine nx_block_normal ?_ | refine nx_scope_normal ?_))
      with_reducible first | refine nx_normal ?_ | refine nx_normalM ?_
      refine awp_seq_region (fun Z hZ => ?_)
      refine sx_assign rfl rfl ?_
      refine sx_nil (hZ _ _ ?_)
      refine awp_forget [(2, _), (7, _), (8, _), (10, _), (11, _), (12, _), (13, _), (14, _), (15, _)] (Kn.cons rfl (Kn.cons rfl (Kn.cons rfl (Kn.cons rfl (Kn.cons rfl (Kn.cons rfl (Kn.cons rfl (Kn.cons rfl (Kn.cons rfl (Kn.nil)))))))))) ?_
      refine awp_block ?_
      refine awp_loop (ι := Nat) (fun m => [(2, uq id), (7, .slice A1 L.length c1), (8, .slice A2 M.length c3), (10, .bool p), (11, .bool q), (12, .slice (some ⟨g1, 0, none⟩) 4 4), (13, .slice (some ⟨g2, 0, none⟩) 4 4), (14, iq (k : Nat)), (15, iq (m : Nat))]) (fun _ => .ro g2 0 (ws.map Value.bool) :: .ro g1 0 (ps.map scv) :: H0) (fun m => m ≤ X.length) (fun m => X.length - m) 0 (by simp) (Kn.cons rfl (Kn.cons rfl (Kn.cons rfl (Kn.cons rfl (Kn.cons rfl (Kn.cons rfl (Kn.cons rfl (Kn.cons rfl (Kn.cons rfl Kn.nil))))))))) (HLe.refl _) ?_
      rintro m hm
      refine awp_seq ?_
      refine awp_seq_region (fun Z hZ => ?_)
      refine sx_move rfl rfl ?_
      refine sx_move rfl rfl ?_
      refine sx_move rfl rfl ?_
      refine sx_indexAddr (0 + k) Try.underlying40 tyS24 rfl rfl (by omega) (by simp) rfl ?_
      refine sx_loadRo 1 rfl rfl k rfl tyA24 tyS24 hrd1 rfl ?_
      first | refine sx_len Try.underlying24 rfl rfl ?_ | refine sx_lenS Try.underlying24 rfl rfl ?_
      first | refine sx_lss rfl rfl rfl ?_ | refine sx_slss rfl rfl rfl ?_
      refine sx_nil (hZ _ _ ?_)
      refine awp_forget [(2, _), (7, _), (8, _), (10, _), (11, _), (12, _), (13, _), (14, _), (15, _), (95, _)] (Kn.cons rfl (Kn.cons rfl (Kn.cons rfl (Kn.cons rfl (Kn.cons rfl (Kn.cons rfl (Kn.cons rfl (Kn.cons rfl (Kn.cons rfl (Kn.cons rfl (Kn.nil))))))))))) ?_
      first | refine awp_cond rfl (fun h14 => ?_) (fun h14 => ?_) | refine awp_seq (awp_cond rfl (fun h14 => ?_) (fun h14 => ?_))
      · have hml : m < X.length := by simpa using h14
        obtain ⟨s, hs⟩ : ∃ s, X[m]? = some s := ⟨_, List.getElem?_eq_getElem hml⟩
        have so := k2.ok s (List.mem_of_getElem? hs)
        have sb := k3 s (List.mem_of_getElem? hs)
        obtain ⟨g, o, rfl⟩ := slIn_pos2 k1 (by omega)
        obtain ⟨j, hj⟩ := mem_at (k5.trans ((List.sublist_cons_self (.ro g1 0 (ps.map scv)) _).trans (List.sublist_cons_self (.ro g2 0 (ws.map Value.bool)) _)))
        refine awp_skip ?_
        repeat (with_reducible (first | refine nx_block_normal ?_ | refine nx_scope_normal ?_))
        with_reducible first | refine nx_normal ?_ | refine nx_normalM ?_
        refine awp_seq (awp_block ?_)
        rcases Nat.eq_zero_or_pos m with hm0 | hm0
        · subst hm0
          refine awq_seq_meet [(2, uq id), (7, .slice A1 L.length c1), (8, .slice A2 M.length c3), (10, .bool p), (11, .bool q), (12, .slice (some ⟨g1, 0, none⟩) 4 4), (13, .slice (some ⟨g2, 0, none⟩) 4 4), (14, iq (k : Nat)), (15, iq ((0 : Nat) : Int)), (150, .bool false)] (.ro g2 0 (ws.map Value.bool) :: .ro g1 0 (ps.map scv) :: H0) mixed (by kernel_rfl) (fun Z hZ => ?_) ?_
          · refine sq_move rfl rfl ?_
            refine sq_move rfl rfl ?_
            refine sq_indexAddr (0 + k) Try.underlying40 tyS24 rfl rfl (by omega) (by simp) rfl ?_
            refine sq_loadRo 1 rfl rfl k rfl tyA24 tyS24 hrd1 rfl ?_
            refine sq_move rfl rfl ?_
            refine sq_indexAddr (o + (0) * 2) Try.underlying24 tyS43 rfl rfl (by omega) (by simp) rfl ?_
            refine sq_fieldAddr rfl tyF43_0 (by first | (simp only [Nat.reduceAdd, Nat.add_zero, Nat.zero_add]; first | done | rfl) | rfl) rfl ?_
            refine sq_loadRo j rfl hj ((0) * 2) (by omega) tyA36 tyS36 (scells_a hs) rfl ?_
            refine sq_move rfl rfl ?_
            refine sq_move rfl rfl ?_
            refine sq_indexAddr (0 + k) Try.underlying40 tyS24 rfl rfl (by omega) (by simp) rfl ?_
            refine sq_loadRo 1 rfl rfl k rfl tyA24 tyS24 hrd1 rfl ?_
            refine sq_move rfl rfl ?_
            refine sq_indexAddr (o + (0) * 2) Try.underlying24 tyS43 rfl rfl (by omega) (by simp) rfl ?_
            refine sq_fieldAddr rfl tyF43_1 (by first | (simp only [Nat.reduceAdd, Nat.add_zero, Nat.zero_add]; first | done | rfl) | rfl) rfl ?_
            refine sq_loadRo j rfl hj ((0) * 2 + 1) (by omega) tyA36 tyS36 (scells_b hs) rfl ?_
            first | refine sq_gtr rfl rfl rfl ?_ | refine sq_sgtr rfl rfl rfl ?_
            refine sq_move rfl rfl ?_
            refine sq_force 115 rfl false (by first | (simp; done) | (simp; omega)) ?_
            refine sq_on rfl rfl rfl ?_
            refine sq_move rfl rfl ?_
            refine sq_on rfl rfl rfl ?_
            refine sq_move rfl rfl ?_
            refine sq_on rfl rfl rfl ?_
            refine sq_indexAddr (0 + k) Try.underlying40 tyS24 rfl rfl (by omega) (by simp) rfl ?_
            refine sq_on rfl rfl rfl ?_
            refine sq_loadRo 1 rfl rfl k rfl tyA24 tyS24 hrd1 rfl ?_
            refine sq_on rfl rfl rfl ?_
            refine sq_move rfl rfl ?_
            refine sq_on rfl rfl rfl ?_
            refine sq_indexAddr (o + (0) * 2) Try.underlying24 tyS43 rfl rfl (by omega) (by simp) rfl ?_
            refine sq_on rfl rfl rfl ?_
            refine sq_fieldAddr rfl tyF43_1 (by first | (simp only [Nat.reduceAdd, Nat.add_zero, Nat.zero_add]; first | done | rfl) | rfl) rfl ?_
            refine sq_on rfl rfl rfl ?_
            refine sq_loadRo j rfl hj ((0) * 2 + 1) (by omega) tyA36 tyS36 (scells_b hs) rfl ?_
            refine sq_on rfl rfl rfl ?_
            first | refine sq_geq rfl rfl rfl ?_ | refine sq_sgeq rfl rfl rfl ?_
            refine sq_pick rfl rfl rfl ?_
            refine sq_move rfl rfl ?_
            refine sq_force 126 rfl false (by first | (simp; done) | (simp; omega)) ?_
            refine sq_on rfl rfl rfl ?_
            refine sq_move rfl rfl ?_
            refine sq_on rfl rfl rfl ?_
            first | refine sq_gtr rfl rfl rfl ?_ | refine sq_sgtr rfl rfl rfl ?_
            refine sq_on rfl rfl rfl ?_
            refine sq_move rfl rfl ?_
            refine sq_force 129 rfl false (by first | rfl | (simp; done)) ?_
            refine sq_off rfl rfl rfl rfl rfl ?_
            refine sq_off rfl rfl rfl rfl rfl ?_
            refine sq_off rfl rfl rfl rfl rfl ?_
            refine sq_off rfl rfl rfl rfl rfl ?_
            refine sq_off rfl rfl rfl rfl rfl ?_
            refine sq_off rfl rfl rfl rfl rfl ?_
            refine sq_off rfl rfl rfl rfl rfl ?_
            refine sq_off rfl rfl rfl rfl rfl ?_
            refine sq_off rfl rfl rfl rfl rfl ?_
            refine sq_off rfl rfl rfl rfl rfl ?_
            refine sq_off rfl rfl rfl rfl rfl ?_
            refine sq_off rfl rfl rfl rfl rfl ?_
            refine sq_off rfl rfl rfl rfl rfl ?_
            refine sq_off rfl rfl rfl rfl rfl ?_
            refine sq_off rfl rfl rfl rfl rfl ?_
            refine sq_off rfl rfl rfl rfl rfl ?_
            refine sq_off rfl rfl rfl rfl rfl ?_
            refine sq_off rfl rfl rfl rfl rfl ?_
            refine sq_off rfl rfl rfl rfl rfl ?_
            refine sq_on rfl rfl rfl ?_
            refine sq_pick rfl rfl rfl ?_
            refine sq_pick rfl rfl rfl ?_
            refine sq_nil (hZ _ _ ?_ ?_)
            · exact Kn.cons rfl (Kn.cons rfl (Kn.cons rfl (Kn.cons rfl (Kn.cons rfl (Kn.cons rfl (Kn.cons rfl (Kn.cons rfl (Kn.cons rfl (Kn.cons rfl Kn.nil)))))))))
            · exact HLe.refl _
          first | refine awp_cond rfl (fun h16 => ?_) (fun h16 => ?_) | refine awp_seq (awp_cond rfl (fun h16 => ?_) (fun h16 => ?_))
          · cases h16
          refine awp_skip ?_
          repeat (with_reducible (first | refine nx_block_normal ?_ | refine nx_scope_normal ?_))
          with_reducible first | refine nx_normal ?_ | refine nx_normalM ?_
          refine awp_region (fun Z hZ => ?_)
          refine sx_move rfl rfl ?_
          refine sx_add rfl rfl ((0 + 1 : Nat) : Int) (by rw [IntWalk.i64_in _ (by omega)]; omega) rfl ?_
          refine sx_assign rfl rfl ?_
          refine sx_nil (hZ _ _ ?_)
          refine nx_forget [(2, _), (7, _), (8, _), (10, _), (11, _), (12, _), (13, _), (14, _), (15, _)] (Kn.cons rfl (Kn.cons rfl (Kn.cons rfl (Kn.cons rfl (Kn.cons rfl (Kn.cons rfl (Kn.cons rfl (Kn.cons rfl (Kn.cons rfl (Kn.nil)))))))))) ?_
          exact nx_round (0 + 1) hml (by omega) (Kn.cons rfl (Kn.cons rfl (Kn.cons rfl (Kn.cons rfl (Kn.cons rfl (Kn.cons rfl (Kn.cons rfl (Kn.cons rfl (Kn.cons rfl Kn.nil))))))))) (HLe.refl _)
        · obtain ⟨m', rfl⟩ : ∃ m', m = m' + 1 := ⟨m - 1, by omega⟩
          obtain ⟨r, hr⟩ : ∃ s, X[m']? = some s := ⟨_, List.getElem?_eq_getElem (by omega)⟩
          have rb := k3 r (List.mem_of_getElem? hr)
          have hgap : r.b + 1 < s.a := by
            have h1 := List.pairwise_iff_getElem.1 k2.gap m' (m' + 1) (by omega) hml (by omega)
            rw [(List.getElem?_eq_some_iff.1 hr).2, (List.getElem?_eq_some_iff.1 hs).2] at h1
            exact h1
          refine awq_seq_meet [(2, uq id), (7, .slice A1 L.length c1), (8, .slice A2 M.length c3), (10, .bool p), (11, .bool q), (12, .slice (some ⟨g1, 0, none⟩) 4 4), (13, .slice (some ⟨g2, 0, none⟩) 4 4), (14, iq (k : Nat)), (15, iq ((m' + 1 : Nat) : Int)), (150, .bool false)] (.ro g2 0 (ws.map Value.bool) :: .ro g1 0 (ps.map scv) :: H0) mixed (by kernel_rfl) (fun Z hZ => ?_) ?_
          · refine sq_move rfl rfl ?_
            refine sq_move rfl rfl ?_
            refine sq_indexAddr (0 + k) Try.underlying40 tyS24 rfl rfl (by omega) (by simp) rfl ?_
            refine sq_loadRo 1 rfl rfl k rfl tyA24 tyS24 hrd1 rfl ?_
            refine sq_move rfl rfl ?_
            refine sq_indexAddr (o + (m' + 1) * 2) Try.underlying24 tyS43 rfl rfl (by omega) (by simp) rfl ?_
            refine sq_fieldAddr rfl tyF43_0 (by first | (simp only [Nat.reduceAdd, Nat.add_zero, Nat.zero_add]; first | done | rfl) | rfl) rfl ?_
            refine sq_loadRo j rfl hj ((m' + 1) * 2) (by omega) tyA36 tyS36 (scells_a hs) rfl ?_
            refine sq_move rfl rfl ?_
            refine sq_move rfl rfl ?_
            refine sq_indexAddr (0 + k) Try.underlying40 tyS24 rfl rfl (by omega) (by simp) rfl ?_
            refine sq_loadRo 1 rfl rfl k rfl tyA24 tyS24 hrd1 rfl ?_
            refine sq_move rfl rfl ?_
            refine sq_indexAddr (o + (m' + 1) * 2) Try.underlying24 tyS43 rfl rfl (by omega) (by simp) rfl ?_
            refine sq_fieldAddr rfl tyF43_1 (by first | (simp only [Nat.reduceAdd, Nat.add_zero, Nat.zero_add]; first | done | rfl) | rfl) rfl ?_
            refine sq_loadRo j rfl hj ((m' + 1) * 2 + 1) (by omega) tyA36 tyS36 (scells_b hs) rfl ?_
            first | refine sq_gtr rfl rfl rfl ?_ | refine sq_sgtr rfl rfl rfl ?_
            refine sq_move rfl rfl ?_
            refine sq_force 115 rfl false (by first | (simp; done) | (simp; omega)) ?_
            refine sq_on rfl rfl rfl ?_
            refine sq_move rfl rfl ?_
            refine sq_on rfl rfl rfl ?_
            refine sq_move rfl rfl ?_
            refine sq_on rfl rfl rfl ?_
            refine sq_indexAddr (0 + k) Try.underlying40 tyS24 rfl rfl (by omega) (by simp) rfl ?_
            refine sq_on rfl rfl rfl ?_
            refine sq_loadRo 1 rfl rfl k rfl tyA24 tyS24 hrd1 rfl ?_
            refine sq_on rfl rfl rfl ?_
            refine sq_move rfl rfl ?_
            refine sq_on rfl rfl rfl ?_
            refine sq_indexAddr (o + (m' + 1) * 2) Try.underlying24 tyS43 rfl rfl (by omega) (by simp) rfl ?_
            refine sq_on rfl rfl rfl ?_
            refine sq_fieldAddr rfl tyF43_1 (by first | (simp only [Nat.reduceAdd, Nat.add_zero, Nat.zero_add]; first | done | rfl) | rfl) rfl ?_
            refine sq_on rfl rfl rfl ?_
            refine sq_loadRo j rfl hj ((m' + 1) * 2 + 1) (by omega) tyA36 tyS36 (scells_b hs) rfl ?_
            refine sq_on rfl rfl rfl ?_
            first | refine sq_geq rfl rfl rfl ?_ | refine sq_sgeq rfl rfl rfl ?_
            refine sq_pick rfl rfl rfl ?_
            refine sq_move rfl rfl ?_
            refine sq_force 126 rfl false (by first | (simp; done) | (simp; omega)) ?_
            refine sq_on rfl rfl rfl ?_
            refine sq_move rfl rfl ?_
            refine sq_on rfl rfl rfl ?_
            first | refine sq_gtr rfl rfl rfl ?_ | refine sq_sgtr rfl rfl rfl ?_
            refine sq_on rfl rfl rfl ?_
            refine sq_move rfl rfl ?_
            refine sq_force 129 rfl true (by first | (simp; done) | (simp; omega)) ?_
            refine sq_on rfl rfl rfl ?_
            refine sq_move rfl rfl ?_
            refine sq_on rfl rfl rfl ?_
            refine sq_move rfl rfl ?_
            refine sq_on rfl rfl rfl ?_
            refine sq_indexAddr (0 + k) Try.underlying40 tyS24 rfl rfl (by omega) (by simp) rfl ?_
            refine sq_on rfl rfl rfl ?_
            refine sq_loadRo 1 rfl rfl k rfl tyA24 tyS24 hrd1 rfl ?_
            refine sq_on rfl rfl rfl ?_
            refine sq_move rfl rfl ?_
            refine sq_on rfl rfl rfl ?_
            refine sq_indexAddr (o + (m' + 1) * 2) Try.underlying24 tyS43 rfl rfl (by omega) (by simp) rfl ?_
            refine sq_on rfl rfl rfl ?_
            refine sq_fieldAddr rfl tyF43_0 (by first | (simp only [Nat.reduceAdd, Nat.add_zero, Nat.zero_add]; first | done | rfl) | rfl) rfl ?_
            refine sq_on rfl rfl rfl ?_
            refine sq_loadRo j rfl hj ((m' + 1) * 2) (by omega) tyA36 tyS36 (scells_a hs) rfl ?_
            refine sq_on rfl rfl rfl ?_
            refine sq_move rfl rfl ?_
            refine sq_on rfl rfl rfl ?_
            refine sq_move rfl rfl ?_
            refine sq_on rfl rfl rfl ?_
            refine sq_indexAddr (0 + k) Try.underlying40 tyS24 rfl rfl (by omega) (by simp) rfl ?_
            refine sq_on rfl rfl rfl ?_
            refine sq_loadRo 1 rfl rfl k rfl tyA24 tyS24 hrd1 rfl ?_
            refine sq_on rfl rfl rfl ?_
            refine sq_move rfl rfl ?_
            refine sq_on rfl rfl rfl ?_
            refine sq_sub rfl rfl ((m' : Nat) : Int) (by rw [IntWalk.i64_in _ (by omega)]; omega) rfl ?_
            refine sq_on rfl rfl rfl ?_
            refine sq_indexAddr (o + (m') * 2) Try.underlying24 tyS43 rfl rfl (by omega) (by simp) rfl ?_
            refine sq_on rfl rfl rfl ?_
            refine sq_fieldAddr rfl tyF43_1 (by first | (simp only [Nat.reduceAdd, Nat.add_zero, Nat.zero_add]; first | done | rfl) | rfl) rfl ?_
            refine sq_on rfl rfl rfl ?_
            refine sq_loadRo j rfl hj ((m') * 2 + 1) (by omega) tyA36 tyS36 (scells_b hr) rfl ?_
            refine sq_on rfl rfl rfl ?_
            refine sq_add rfl rfl ((r.b + 1 : Nat) : Int) (by rw [IntWalk.u64_in _ (by omega)]; omega) rfl ?_
            refine sq_on rfl rfl rfl ?_
            first | refine sq_leq rfl rfl rfl ?_ | refine sq_sleq rfl rfl rfl ?_
            refine sq_on rfl rfl rfl ?_
            refine sq_pick rfl rfl rfl ?_
            refine sq_pick rfl rfl rfl ?_
            refine sq_nil (hZ _ _ ?_ ?_)
            · exact Kn.cons rfl (Kn.cons rfl (Kn.cons rfl (Kn.cons rfl (Kn.cons rfl (Kn.cons rfl (Kn.cons rfl (Kn.cons rfl (Kn.cons rfl (Kn.cons (congrArg some (congrArg Value.bool (by simp; omega))) Kn.nil)))))))))
            · exact HLe.refl _
          first | refine awp_cond rfl (fun h16 => ?_) (fun h16 => ?_) | refine awp_seq (awp_cond rfl (fun h16 => ?_) (fun h16 => ?_))
          · cases h16
          refine awp_skip ?_
          repeat (with_reducible (first | refine nx_block_normal ?_ | refine nx_scope_normal ?_))
          with_reducible first | refine nx_normal ?_ | refine nx_normalM ?_
          refine awp_region (fun Z hZ => ?_)
          refine sx_move rfl rfl ?_
          refine sx_add rfl rfl ((m' + 1 + 1 : Nat) : Int) (by rw [IntWalk.i64_in _ (by omega)]; omega) rfl ?_
          refine sx_assign rfl rfl ?_
          refine sx_nil (hZ _ _ ?_)
          refine nx_forget [(2, _), (7, _), (8, _), (10, _), (11, _), (12, _), (13, _), (14, _), (15, _)] (Kn.cons rfl (Kn.cons rfl (Kn.cons rfl (Kn.cons rfl (Kn.cons rfl (Kn.cons rfl (Kn.cons rfl (Kn.cons rfl (Kn.cons rfl (Kn.nil)))))))))) ?_
          exact nx_round (m' + 1 + 1) hml (by omega) (Kn.cons rfl (Kn.cons rfl (Kn.cons rfl (Kn.cons rfl (Kn.cons rfl (Kn.cons rfl (Kn.cons rfl (Kn.cons rfl (Kn.cons rfl Kn.nil))))))))) (HLe.refl _)
      · refine awp_exit ?_
        repeat (with_reducible (first | refine nx_then_exit ?_ | refine nx_block_other (by decide) ?_ | refine nx_scope_exit ?_))
        with_reducible refine nx_block_exit ?_
        repeat (with_reducible (first | refine nx_block_normal ?_ | refine nx_scope_normal ?_))
        repeat (with_reducible (first | refine nx_block_normal ?_ | refine nx_scope_normal ?_))
        with_reducible first | refine nx_normal ?_ | refine nx_normalM ?_
        refine awp_region (fun Z hZ => ?_)
        refine sx_move rfl rfl ?_
        refine sx_add rfl rfl ((k + 1 : Nat) : Int) (by rw [IntWalk.i64_in _ (by omega)]; omega) rfl ?_
        refine sx_assign rfl rfl ?_
        refine sx_nil (hZ _ _ ?_)
        refine nx_forget [(2, _), (7, _), (8, _), (10, _), (11, _), (12, _), (13, _), (14, _)] (Kn.cons rfl (Kn.cons rfl (Kn.cons rfl (Kn.cons rfl (Kn.cons rfl (Kn.cons rfl (Kn.cons rfl (Kn.cons rfl (Kn.nil))))))))) ?_
        exact nx_round (k + 1) hlt (by omega) (Kn.cons rfl (Kn.cons rfl (Kn.cons rfl (Kn.cons rfl (Kn.cons rfl (Kn.cons rfl (Kn.cons rfl (Kn.cons rfl Kn.nil)))))))) (HLe.refl _)
    · refine awp_exit ?_
      repeat (with_reducible (first | refine nx_then_exit ?_ | refine nx_block_other (by decide) ?_ | refine nx_scope_exit ?_))
      with_reducible refine nx_block_exit ?_
      repeat (with_reducible (first | refine nx_block_normal ?_ | refine nx_scope_normal ?_))
      exact nx_cut () trivial (Kn.cons rfl (Kn.cons rfl (Kn.cons rfl (Kn.cons rfl Kn.nil)))) (HLe.drop 2 rfl)
  rintro ⟨⟩ -
  obtain ⟨wi, hwi⟩ : ∃ b, withinQ L M = b := ⟨_, rfl⟩
  rw [hwi] at f5

  refine awp_seq_meet [(6, .bool true)] [] (fun Z hZ => ?_) ?_
  · refine sx_move rfl rfl ?_
    refine sx_move rfl rfl ?_
    refine sx_callV (roE A1 (scells L) ++ roE A2 (scells M)) (mwithin_fn A1 c1 L _ hA1.arg (fun _ => rfl) (Ro.roE _ _) (by omega) ho A2 c3 M _ hA2.arg (fun _ => rfl) (Ro.roE _ _) (by omega) hoM) rfl (HLe.sub s1) ((Ro.roE _ _).append (Ro.roE _ _)) rfl ?_
    rw [hwi]
    refine sx_not rfl rfl ?_
    refine sx_move rfl rfl ?_
    refine sx_split 155 rfl (fun hb4 => ?_) (fun hb4 => ?_)
    · refine sx_off rfl rfl rfl rfl rfl ?_
      refine sx_off rfl rfl rfl rfl rfl ?_
      refine sx_pick rfl rfl rfl ?_
      refine sx_move rfl rfl ?_
      refine sx_off rfl rfl rfl rfl rfl ?_
      refine sx_pick rfl rfl rfl ?_
      refine sx_move rfl rfl ?_
      refine sx_on rfl rfl rfl ?_
      refine sx_callP m43wake_fn rfl rfl ?_
      refine sx_pick rfl rfl rfl ?_
      refine sx_assign rfl rfl ?_
      refine sx_nil (hZ _ _ ?_ ?_)
      · exact Kn.cons (congrArg some (congrArg Value.bool (by clear hin hps q1 q2 q3 q4 f1 f2 f3 f4 hp hq hi hwi; cases wi <;> cases p <;> cases q <;> first | rfl | exact absurd (f5 rfl rfl) (by decide) | exact Bool.noConfusion (show (!true) = true by assumption) | exact Bool.noConfusion (show false = true by assumption) | exact Bool.noConfusion (show true = false by assumption) | exact Bool.noConfusion (show (!false) = false by assumption) | (trace_state; fail)))) Kn.nil
      · exact HLe.sub (List.nil_sublist _)
    · refine sx_on rfl rfl rfl ?_
      refine sx_move rfl rfl ?_
      refine sx_on rfl rfl rfl ?_
      refine sx_not rfl rfl ?_
      refine sx_pick rfl rfl rfl ?_
      refine sx_move rfl rfl ?_
      refine sx_split 159 rfl (fun hb8 => ?_) (fun hb8 => ?_)
      · refine sx_off rfl rfl rfl rfl rfl ?_
        refine sx_pick rfl rfl rfl ?_
        refine sx_move rfl rfl ?_
        refine sx_on rfl rfl rfl ?_
        refine sx_callP m43wake_fn rfl rfl ?_
        refine sx_pick rfl rfl rfl ?_
        refine sx_assign rfl rfl ?_
        refine sx_nil (hZ _ _ ?_ ?_)
        · exact Kn.cons (congrArg some (congrArg Value.bool (by clear hin hps q1 q2 q3 q4 f1 f2 f3 f4 hp hq hi hwi; cases wi <;> cases p <;> cases q <;> first | rfl | exact absurd (f5 rfl rfl) (by decide) | exact Bool.noConfusion (show (!true) = true by assumption) | exact Bool.noConfusion (show false = true by assumption) | exact Bool.noConfusion (show true = false by assumption) | exact Bool.noConfusion (show (!false) = false by assumption) | (trace_state; fail)))) Kn.nil
        · exact HLe.sub (List.nil_sublist _)
      · refine sx_on rfl rfl rfl ?_
        refine sx_move rfl rfl ?_
        refine sx_pick rfl rfl rfl ?_
        refine sx_move rfl rfl ?_
        refine sx_split 162 rfl (fun hb11 => ?_) (fun hb11 => ?_)
        · refine sx_on rfl rfl rfl ?_
          refine sx_callP m43wake_fn rfl rfl ?_
          refine sx_pick rfl rfl rfl ?_
          refine sx_assign rfl rfl ?_
          refine sx_nil (hZ _ _ ?_ ?_)
          · exact Kn.cons (congrArg some (congrArg Value.bool (by clear hin hps q1 q2 q3 q4 f1 f2 f3 f4 hp hq hi hwi; cases wi <;> cases p <;> cases q <;> first | rfl | exact absurd (f5 rfl rfl) (by decide) | exact Bool.noConfusion (show (!true) = true by assumption) | exact Bool.noConfusion (show false = true by assumption) | exact Bool.noConfusion (show true = false by assumption) | exact Bool.noConfusion (show (!false) = false by assumption) | (trace_state; fail)))) Kn.nil
          · exact HLe.sub (List.nil_sublist _)
        · refine sx_off rfl rfl rfl rfl rfl ?_
          refine sx_pick rfl rfl rfl ?_
          refine sx_assign rfl rfl ?_
          refine sx_nil (hZ _ _ ?_ ?_)
          · exact Kn.cons (congrArg some (congrArg Value.bool (by clear hin hps q1 q2 q3 q4 f1 f2 f3 f4 hp hq hi hwi; cases wi <;> cases p <;> cases q <;> first | rfl | exact absurd (f5 rfl rfl) (by decide) | exact Bool.noConfusion (show (!true) = true by assumption) | exact Bool.noConfusion (show false = true by assumption) | exact Bool.noConfusion (show true = false by assumption) | exact Bool.noConfusion (show (!false) = false by assumption) | (trace_state; fail)))) Kn.nil
          · exact HLe.sub (List.nil_sublist _)
  refine awp_ret ?_
  repeat (with_reducible (first | refine nx_then_ret ?_ | refine nx_block_ret ?_ | refine nx_scope_ret ?_))
  exact nx_ret1 rfl rfl rfl
theorem MaskPoint_read {H : Type} {enc : TypeId × Value → H} (w : World) {base : Nat} {v0 v1 v2 : Value} {d0 d1 d2 : DataW H} {p0 p1 p2 : List MemPlace}
    (k0 : Value.okWide Try.prog w .any base 22 v0) (h0 : DataW.Trod enc Try.prog w 0 (fun _ => true) true 22 v0 d0 p0)
    (k1 : Value.okWide Try.prog w .any base 22 v1) (h1 : DataW.Trod enc Try.prog w 0 (fun _ => true) true 22 v1 d1 p1)
    (k2 : Value.okWide Try.prog w .any base 36 v2) (h2 : DataW.Trod enc Try.prog w 0 (fun _ => true) true 36 v2 d2 p2) :
    Calls Try.prog 5 #[v0, v1, v2] w fun e w' => e = .returned (.bool true) ∧ Bel w w' := by
  obtain ⟨A, c, L, T, rfl, hA, hL, ho, hT, hro, hS⟩ := open_sps k0 h0
  obtain ⟨B, c2, M, U, rfl, hB, hM, hoM, hU, hroU, hSU⟩ := open_sps k1 h1
  obtain ⟨b, rfl, _, _, hb⟩ := ChangeShapes.open_int Try.underlying36 k2 h2
  obtain ⟨b1, b2⟩ := wf_u64 hb
  obtain ⟨x, rfl⟩ := Int.eq_ofNat_of_zero_le b1
  exact tail_bel (hro.append hroU) (Sat.bothS hS hSU hro hroU) (mpoint_fn A c L T hA hT hro hL ho B c2 M U hB hU hroU hM hoM x)
namespace maskPoint
open Go.ChangeShapes Go.WideShapes Go.ChangeAt Go.RowKit
theorem own : ownKnob Try.prog.godebug = none := by kernel_rfl
theorem laidOut : laidOutB Try.prog = true := by kernel_rfl
set_option maxRecDepth 100000 in
theorem lifted (os : Os) (started : os.Started) (H : Type) (enc : TypeId × Value → H) :
    ReturnsInHanded {} Try.checked os 5 .any (Rows.maskPointSpec.pre6 enc Try.prog Try.f5 Rows.maskPointRow.domain false) (Rows.maskPointSpec.post enc Try.prog Try.f5 false true false false) := by
  refine returnsInHanded_of_change (C := Try.checked) own started (by kernel_rfl) Try.func5
    (ChangeSpec.witness6 (enc := enc) (C := Try.checked) false ⟨#[], #[.slice none 0 0, .slice none 0 0, .int .u64 0], []⟩ 8 (by kernel_rfl) (by kernel_rfl) (by kernel_rfl) (by kernel_rfl)) ?_
  intro W base args ds gs before hval0 hW hcnd _
  have hval : ∀ (j : Nat) t v, Try.f5.params[j]? = some t → args[j]? = some v → Value.okWide Try.prog W .any base t v := hval0
  have hW' := hW
  obtain ⟨p, q, hA0, hV, rfl, hfz, hnd⟩ := hW
  have hA : DataW.TrodAll enc Try.prog W 0 (fun _ => true) true Try.f5.params.toList args.toList ds p := hA0
  rw [Try.params5] at hA hval
  obtain ⟨v0, vs0, d0, ds0, p0, q0, hargs, rfl, rfl, h0, r0⟩ := trodAll_cons hA
  obtain ⟨v1, vs1, d1, ds1, p1, q1, rfl, rfl, rfl, h1, r1⟩ := trodAll_cons r0
  obtain ⟨v2, vs2, d2, ds2, p2, q2, rfl, rfl, rfl, h2, r2⟩ := trodAll_cons r1
  obtain ⟨rfl, rfl, rfl⟩ := trodAll_nil r2
  obtain rfl : args = #[v0, v1, v2] := by cases args; simp_all
  obtain ⟨rfl, rfl⟩ := trodVars_none hV
  have lt0 : ∀ x ∈ p0, x.block < W.heap.size := by obtain ⟨m, hm⟩ := h0; exact DataW.trod_lt m _ _ _ hm
  have lt1 : ∀ x ∈ p1, x.block < W.heap.size := by obtain ⟨m, hm⟩ := h1; exact DataW.trod_lt m _ _ _ hm
  have lt2 : ∀ x ∈ p2, x.block < W.heap.size := by obtain ⟨m, hm⟩ := h2; exact DataW.trod_lt m _ _ _ hm
  refine (MaskPoint_read W (hval 0 22 v0 rfl rfl) h0 (hval 1 22 v1 rfl rfl) h1 (hval 2 36 v2 rfl rfl) h2).mono fun e W' ⟨he, bel0⟩ => ?_
  have bel : Below W.heap.size W W' := bel0
  subst he
  exact ⟨_, rfl, _, _, _, [], _, [], hW', trodAll_mk1 (shut_bool Try.underlying4 _), (trodAll_cons_mk (Below.trod laidOut (by kernel_rfl) (of_decide_eq_true (by kernel_rfl)) h0 bel lt0) (trodAll_cons_mk (Below.trod laidOut (by kernel_rfl) (of_decide_eq_true (by kernel_rfl)) h1 bel lt1) (trodAll_cons_mk (Below.trod laidOut (by kernel_rfl) (of_decide_eq_true (by kernel_rfl)) h2 bel lt2) trodAll_mk0))), rfl, bel.frame _, fun h => by cases h⟩
theorem over : Rows.maskPointRow.holds Try.pinned (OpenSpec.ofChange Rows.maskPointSpec) :=
  OpenClaim.holds_of_wide 5 Try.f5 rfl rfl rfl rfl rfl rfl rfl ⟨rfl, rfl, rfl, rfl, rfl⟩ rfl rfl rfl rfl rfl (by kernel_rfl) Try.func5 (by kernel_rfl)
    (of_decide_eq_true (by kernel_rfl)) (by unfold Func.isWrapper; first | (rw [if_pos (by decide +kernel)]; kernel_rfl) | (rw [if_neg (by decide +kernel)]; exact ⟨rfl, rfl⟩))
    (fun os started H enc _ => lifted os started H enc)
theorem proved : Rows.MaskPointSaid := over
#print axioms proved
end maskPoint
end Go.Proofs.Ytbldhokgbcljjaa
