/- The walk of the document's Spans; what both tell. Conditions: a small rectangle. -/
import Derived.Test.YtbldhokgbcljjaaGcw1
import Derived.Test.YtbldhokgbcljjaaKv6
namespace Go.Proofs.Ytbldhokgbcljjaa
open Go.RowKit
set_option linter.unusedVariables false
set_option linter.unusedSimpArgs false
set_option maxRecDepth 100000
structure SetQ (Z : Nat) (S : Nat → Nat → Prop) (X : List Sp) : Prop where
  plain : Plain X
  is_ : ∀ k, inS X k ↔ ∃ x y, S x y ∧ k = base4 Z + hp Z x y
theorem SetQ.congr {Z : Nat} {S T : Nat → Nat → Prop} {X : List Sp} (h : SetQ Z S X) (hst : ∀ x y, S x y ↔ T x y) : SetQ Z T X := ⟨h.plain, fun k => (h.is_ k).trans ⟨fun ⟨x, y, h1, h2⟩ => ⟨x, y, (hst x y).1 h1, h2⟩, fun ⟨x, y, h1, h2⟩ => ⟨x, y, (hst x y).2 h1, h2⟩⟩⟩
theorem SetQ.put {Z x0 y0 : Nat} {S T : Nat → Nat → Prop} {X : List Sp} (h : SetQ Z S X) (hst : ∀ x y, T x y ↔ S x y ∨ (x = x0 ∧ y = y0)) : SetQ Z T (putQs X ⟨base4 Z + hp Z x0 y0, base4 Z + hp Z x0 y0⟩) := by
  obtain ⟨p1, p2⟩ := putQs_ok h.plain ⟨base4 Z + hp Z x0 y0, base4 Z + hp Z x0 y0⟩
  refine ⟨p1, fun k => ?_⟩
  rw [p2, h.is_]
  constructor
  · rintro (⟨x, y, h1, h2⟩ | ⟨h1, h2⟩)
    · exact ⟨x, y, (hst x y).2 (.inl h1), h2⟩
    · exact ⟨x0, y0, (hst x0 y0).2 (.inr ⟨rfl, rfl⟩), Nat.le_antisymm h2 h1⟩
  · rintro ⟨x, y, h1, rfl⟩
    rcases (hst x y).1 h1 with h1 | ⟨rfl, rfl⟩
    · exact .inl ⟨x, y, h1, rfl⟩
    · exact .inr ⟨Nat.le_refl _, Nat.le_refl _⟩
theorem SetQ.sps {Z : Nat} {S : Nat → Nat → Prop} {X : List Sp} (h : SetQ Z S X) (hZ : Z ≤ 26) (hS : ∀ x y, S x y → x < 2 ^ Z ∧ y < 2 ^ Z) : SpsOk X := fun s hs => by
  have h1 := h.plain.ok s hs
  obtain ⟨x, y, h2, h3⟩ := (h.is_ s.b).1 ⟨s, hs, h1, Nat.le_refl _⟩
  obtain ⟨h4, h5⟩ := hS x y h2
  have := id_lt hZ h4 h5
  exact ⟨by omega, by omega⟩
theorem rspans_arg (r : Rc) (most : Int) (hm : most < 1 ∨ 4096 < most) : Fn Try.prog 55 [r.val, iq most] [] fun v _ => v = .tuple #[.slice none 0 0, iq (2 : Int)] := by
  refine Fn.enter (N := 58) Try.func55 rfl (by kernel_rfl) rfl (fun w0 => ?_)

  refine awp_seq_region (fun Z hZ => ?_)
  refine sx_box rfl rfl rfl (fun g1 => ?_)
  refine sx_assign rfl rfl ?_
  refine sx_assign rfl rfl ?_
  refine sx_nil (hZ _ _ ?_)
  refine awp_forget [(1, _), (2, _)] (Kn.cons rfl (Kn.cons rfl (Kn.nil))) ?_

  refine awp_seq ?_
  refine awp_seq_meet [(17, .bool true)] [] (fun Z hZ => ?_) ?_
  · refine sx_move rfl rfl ?_
    first | refine sx_lss rfl rfl rfl ?_ | refine sx_slss rfl rfl rfl ?_
    refine sx_move rfl rfl ?_
    refine sx_split 14 rfl (fun hb2 => ?_) (fun hb2 => ?_)
    · refine sx_off rfl rfl rfl rfl rfl ?_
      refine sx_off rfl rfl rfl rfl rfl ?_
      refine sx_pick rfl rfl rfl ?_
      refine sx_nil (hZ _ _ ?_ ?_)
      · exact Kn.cons (congrArg some (congrArg Value.bool (by first | rfl | (exfalso; simp at *; omega) | (simp at *; done) | (simp at *; omega)))) Kn.nil
      · exact HLe.sub (List.nil_sublist _)
    · refine sx_on rfl rfl rfl ?_
      refine sx_move rfl rfl ?_
      refine sx_on rfl rfl rfl ?_
      first | refine sx_gtr rfl rfl rfl ?_ | refine sx_sgtr rfl rfl rfl ?_
      refine sx_pick rfl rfl rfl ?_
      refine sx_nil (hZ _ _ ?_ ?_)
      · exact Kn.cons (congrArg some (congrArg Value.bool (by first | rfl | (exfalso; simp at *; omega) | (simp at *; done) | (simp at *; omega)))) Kn.nil
      · exact HLe.sub (List.nil_sublist _)
  first | refine awp_cond rfl (fun h => ?_) (fun h => ?_) | refine awp_seq (awp_cond rfl (fun h => ?_) (fun h => ?_))
  · refine awp_seq_region (fun Z hZ => ?_)
    refine sx_assign rfl rfl ?_
    refine sx_assign rfl rfl ?_
    refine sx_nil (hZ _ _ ?_)
    refine awp_forget [(4, _), (5, _)] (Kn.cons rfl (Kn.cons rfl (Kn.nil))) ?_
    refine awp_ret ?_
    repeat (with_reducible (first | refine nx_then_ret ?_ | refine nx_block_ret ?_ | refine nx_scope_ret ?_))
    exact nx_ret2 rfl rfl rfl rfl
  cases h
theorem rspans_chk (r : Rc) (most : Int) (h1 : 1 ≤ most) (h2 : most ≤ 4096) (hc : chkE r ≠ 0) : Fn Try.prog 55 [r.val, iq most] [] fun v _ => v = .tuple #[.slice none 0 0, iq (chkE r)] := by
  have hck := rCheck_fn r
  obtain ⟨e, he⟩ : ∃ e, chkE r = e := ⟨_, rfl⟩
  rw [he] at hck hc ⊢
  refine Fn.enter (N := 58) Try.func55 rfl (by kernel_rfl) rfl (fun w0 => ?_)

  refine awp_seq_region (fun Z hZ => ?_)
  refine sx_box rfl rfl rfl (fun g1 => ?_)
  refine sx_assign rfl rfl ?_
  refine sx_assign rfl rfl ?_
  refine sx_nil (hZ _ _ ?_)
  refine awp_forget [(1, _), (2, _)] (Kn.cons rfl (Kn.cons rfl (Kn.nil))) ?_

  refine awp_seq ?_
  refine awp_seq_meet [(1, iq most), (2, ptr g1 0), (17, .bool false)] [.own g1 61 r.cells] (fun Z hZ => ?_) ?_
  · refine sx_move rfl rfl ?_
    first | refine sx_lss rfl rfl rfl ?_ | refine sx_slss rfl rfl rfl ?_
    refine sx_move rfl rfl ?_
    refine sx_split 14 rfl (fun hb2 => ?_) (fun hb2 => ?_)
    · refine sx_off rfl rfl rfl rfl rfl ?_
      refine sx_off rfl rfl rfl rfl rfl ?_
      refine sx_pick rfl rfl rfl ?_
      refine sx_nil (hZ _ _ ?_ ?_)
      · exact Kn.cons rfl (Kn.cons rfl (Kn.cons (congrArg some (congrArg Value.bool (by first | rfl | (exfalso; simp at *; omega) | (simp at *; done) | (simp at *; omega)))) Kn.nil))
      · exact HLe.refl _
    · refine sx_on rfl rfl rfl ?_
      refine sx_move rfl rfl ?_
      refine sx_on rfl rfl rfl ?_
      first | refine sx_gtr rfl rfl rfl ?_ | refine sx_sgtr rfl rfl rfl ?_
      refine sx_pick rfl rfl rfl ?_
      refine sx_nil (hZ _ _ ?_ ?_)
      · exact Kn.cons rfl (Kn.cons rfl (Kn.cons (congrArg some (congrArg Value.bool (by first | rfl | (exfalso; simp at *; omega) | (simp at *; done) | (simp at *; omega)))) Kn.nil))
      · exact HLe.refl _
  first | refine awp_cond rfl (fun h => ?_) (fun h => ?_) | refine awp_seq (awp_cond rfl (fun h => ?_) (fun h => ?_))
  · cases h
  refine awp_skip ?_
  repeat (with_reducible (first | refine nx_block_normal ?_ | refine nx_scope_normal ?_))
  with_reducible first | refine nx_normal ?_ | refine nx_normalM ?_

  refine awp_seq ?_
  refine awp_seq_region (fun Z hZ => ?_)
  first | refine sx_loadA 0 rfl rfl tyA61 tyS61 (by first | (simp only [List.length_cons, List.length_nil, Nat.reduceAdd, Nat.zero_add, Nat.add_zero]; first | done | rfl) | rfl) (by first | (simp only [List.take_succ_cons, List.take_zero, List.drop_succ_cons, List.drop_zero, List.cons_append, List.nil_append, List.append_nil, List.length_cons, List.length_nil, Nat.reduceAdd, Nat.zero_add, Nat.add_zero, Value.cells, wrV]; first | done | rfl) | rfl) rfl ?_
  refine sx_callP (hck) rfl rfl ?_
  refine sx_assign rfl rfl ?_
  refine sx_nil (hZ _ _ ?_)
  refine awp_forget [(1, _), (2, _), (6, _)] (Kn.cons rfl (Kn.cons rfl (Kn.cons rfl (Kn.nil)))) ?_
  refine awp_seq_region (fun Z hZ => ?_)
  refine sx_move rfl rfl ?_
  first | refine sx_neq rfl rfl rfl ?_ | refine sx_sneq rfl rfl rfl ?_
  refine sx_nil (hZ _ _ ?_)
  refine awp_forget [(1, _), (2, _), (6, _), (21, _)] (Kn.cons rfl (Kn.cons rfl (Kn.cons rfl (Kn.cons rfl (Kn.nil))))) ?_
  first | refine awp_cond rfl (fun h4 => ?_) (fun h4 => ?_) | refine awp_seq (awp_cond rfl (fun h4 => ?_) (fun h4 => ?_))
  · refine awp_seq_region (fun Z hZ => ?_)
    refine sx_move rfl rfl ?_
    refine sx_assign rfl rfl ?_
    refine sx_assign rfl rfl ?_
    refine sx_nil (hZ _ _ ?_)
    refine awp_forget [(4, _), (5, _)] (Kn.cons rfl (Kn.cons rfl (Kn.nil))) ?_
    refine awp_ret ?_
    repeat (with_reducible (first | refine nx_then_ret ?_ | refine nx_block_ret ?_ | refine nx_scope_ret ?_))
    exact nx_ret2 rfl rfl rfl rfl
  exact absurd (by simpa using h4) hc
theorem rspans_fn {r : Rc} {Zm A B C D : Nat} (hr : r.Ok Zm A B C D) (most : Nat) (h1 : 1 ≤ most) (h2 : most ≤ 4096) (hsz : (C + 1 - A) * (D + 1 - B) ≤ 300) (L : List Sp) (hL : DoneQ Zm (RIn A B C D) (4 ^ Zm) L) :
    Fn Try.prog 55 [r.val, iq (most : Nat)] [] fun v H' => (L.length ≤ most ∧ ∃ u, v = .tuple #[u, iq (0 : Int)] ∧ RowOk u L.length ∧ H' = rowE u 75 2 (scells L)) ∨ (most < L.length ∧ v = .tuple #[.slice none 0 0, iq (21 : Int)] ∧ H' = []) := by
  have hck := rCheck_fn r
  rw [hr.chk] at hck
  obtain ⟨rfl, hZm, hx, hy, hxl, hyl⟩ := hr
  have h26 := pow2_le26 hZm
  obtain ⟨W, hW⟩ : ∃ W, C + 1 - A = W := ⟨_, rfl⟩
  obtain ⟨M, hM⟩ : ∃ M, D + 1 - B = M := ⟨_, rfl⟩
  rw [hW, hM] at hsz
  refine Fn.enter (N := 58) Try.func55 rfl (by kernel_rfl) rfl (fun w0 => ?_)

  refine awp_seq_region (fun Z hZ => ?_)
  refine sx_box rfl rfl rfl (fun g1 => ?_)
  refine sx_assign rfl rfl ?_
  refine sx_assign rfl rfl ?_
  refine sx_nil (hZ _ _ ?_)
  refine awp_forget [(1, _), (2, _)] (Kn.cons rfl (Kn.cons rfl (Kn.nil))) ?_

  refine awp_seq ?_
  refine awp_seq_meet [(1, iq (most : Nat)), (2, ptr g1 0), (17, .bool false)] [.own g1 61 (Rc.mk (Zm : Nat) A B C D).cells] (fun Z hZ => ?_) ?_
  · refine sx_move rfl rfl ?_
    first | refine sx_lss rfl rfl rfl ?_ | refine sx_slss rfl rfl rfl ?_
    refine sx_move rfl rfl ?_
    refine sx_split 14 rfl (fun hb2 => ?_) (fun hb2 => ?_)
    · refine sx_off rfl rfl rfl rfl rfl ?_
      refine sx_off rfl rfl rfl rfl rfl ?_
      refine sx_pick rfl rfl rfl ?_
      refine sx_nil (hZ _ _ ?_ ?_)
      · exact Kn.cons rfl (Kn.cons rfl (Kn.cons (congrArg some (congrArg Value.bool (by first | rfl | (exfalso; simp at *; omega) | (simp at *; done) | (simp at *; omega)))) Kn.nil))
      · exact HLe.refl _
    · refine sx_on rfl rfl rfl ?_
      refine sx_move rfl rfl ?_
      refine sx_on rfl rfl rfl ?_
      first | refine sx_gtr rfl rfl rfl ?_ | refine sx_sgtr rfl rfl rfl ?_
      refine sx_pick rfl rfl rfl ?_
      refine sx_nil (hZ _ _ ?_ ?_)
      · exact Kn.cons rfl (Kn.cons rfl (Kn.cons (congrArg some (congrArg Value.bool (by first | rfl | (exfalso; simp at *; omega) | (simp at *; done) | (simp at *; omega)))) Kn.nil))
      · exact HLe.refl _
  first | refine awp_cond rfl (fun h => ?_) (fun h => ?_) | refine awp_seq (awp_cond rfl (fun h => ?_) (fun h => ?_))
  · cases h
  refine awp_skip ?_
  repeat (with_reducible (first | refine nx_block_normal ?_ | refine nx_scope_normal ?_))
  with_reducible first | refine nx_normal ?_ | refine nx_normalM ?_
  refine awp_seq ?_
  refine awp_seq_region (fun Z hZ => ?_)
  first | refine sx_loadA 0 rfl rfl tyA61 tyS61 (by first | (simp only [List.length_cons, List.length_nil, Nat.reduceAdd, Nat.zero_add, Nat.add_zero]; first | done | rfl) | rfl) (by first | (simp only [List.take_succ_cons, List.take_zero, List.drop_succ_cons, List.drop_zero, List.cons_append, List.nil_append, List.append_nil, List.length_cons, List.length_nil, Nat.reduceAdd, Nat.zero_add, Nat.add_zero, Value.cells, wrV]; first | done | rfl) | rfl) rfl ?_
  refine sx_callP (hck) rfl rfl ?_
  refine sx_assign rfl rfl ?_
  refine sx_nil (hZ _ _ ?_)
  refine awp_forget [(1, _), (2, _), (6, _)] (Kn.cons rfl (Kn.cons rfl (Kn.cons rfl (Kn.nil)))) ?_
  refine awp_seq_region (fun Z hZ => ?_)
  refine sx_move rfl rfl ?_
  first | refine sx_neq rfl rfl rfl ?_ | refine sx_sneq rfl rfl rfl ?_
  refine sx_nil (hZ _ _ ?_)
  refine awp_forget [(1, _), (2, _), (6, _), (21, _)] (Kn.cons rfl (Kn.cons rfl (Kn.cons rfl (Kn.cons rfl (Kn.nil))))) ?_
  first | refine awp_cond rfl (fun h4 => ?_) (fun h4 => ?_) | refine awp_seq (awp_cond rfl (fun h4 => ?_) (fun h4 => ?_))
  · cases h4
  refine awp_skip ?_
  repeat (with_reducible (first | refine nx_block_normal ?_ | refine nx_scope_normal ?_))
  with_reducible first | refine nx_normal ?_ | refine nx_normalM ?_
  refine awp_seq_region (fun Z hZ => ?_)
  refine sx_assign rfl rfl ?_
  refine sx_nil (hZ _ _ ?_)
  refine awp_forget [(1, _), (2, _), (7, _)] (Kn.cons rfl (Kn.cons rfl (Kn.cons rfl (Kn.nil)))) ?_
  refine awp_seq ?_
  refine awp_seq_region (fun Z hZ => ?_)
  refine sx_fieldAddr rfl tyF61_2 (by first | (simp only [Nat.reduceAdd, Nat.add_zero, Nat.zero_add]; first | done | rfl) | rfl) rfl ?_
  first | refine sx_load 0 rfl rfl tyA3 tyS3 rfl rfl ?_
  refine sx_assign rfl rfl ?_
  refine sx_nil (hZ _ _ ?_)
  refine awp_forget [(1, _), (2, _), (7, _), (8, _)] (Kn.cons rfl (Kn.cons rfl (Kn.cons rfl (Kn.cons rfl (Kn.nil))))) ?_
  refine awp_block ?_
  refine awp_loop (ι := Nat × Value × List Sp) (fun s => [(1, iq (most : Nat)), (2, ptr g1 0), (7, s.2.1), (8, iq (B + s.1 : Nat))]) (fun s => .own g1 61 (Rc.mk (Zm : Nat) A B C D).cells :: rowE s.2.1 75 2 (scells s.2.2))
    (fun s => s.1 ≤ M ∧ RowOk s.2.1 s.2.2.length ∧ s.2.2.length ≤ s.1 * W ∧ SetQ Zm (fun x y => (A ≤ x ∧ x ≤ C) ∧ B ≤ y ∧ y < B + s.1) s.2.2) (fun s => M - s.1) (0, .slice none 0 0, []) ⟨Nat.zero_le _, RowOk.nil, Nat.zero_le _, ⟨Plain.nil, fun k => ⟨fun h => absurd h (inS_nil k), fun ⟨x, y, h, _⟩ => by obtain ⟨_, h3, h4⟩ := h; simp only [Nat.add_zero] at h4; omega⟩⟩⟩ (Kn.cons rfl (Kn.cons rfl (Kn.cons rfl (Kn.cons rfl Kn.nil)))) (HLe.refl _) ?_
  rintro ⟨j, v, X⟩ ⟨hj, hv, hXl, hX⟩
  replace hj : j ≤ M := hj
  replace hv : RowOk v X.length := hv
  replace hXl : X.length ≤ j * W := hXl
  replace hX : SetQ Zm (fun x y => (A ≤ x ∧ x ≤ C) ∧ B ≤ y ∧ y < B + j) X := hX
  refine awp_forget [(1, iq (most : Nat)), (2, ptr g1 0), (7, v), (8, iq (B + j : Nat))] (Kn.cons rfl (Kn.cons rfl (Kn.cons rfl (Kn.cons rfl Kn.nil)))) ?_
  refine awp_heap (.own g1 61 (Rc.mk (Zm : Nat) A B C D).cells :: rowE v 75 2 (scells X)) (HLe.refl _) ?_
  refine awp_seq ?_
  refine awp_seq_region (fun Z hZ => ?_)
  refine sx_move rfl rfl ?_
  refine sx_fieldAddr rfl tyF61_4 (by first | (simp only [Nat.reduceAdd, Nat.add_zero, Nat.zero_add]; first | done | rfl) | rfl) rfl ?_
  first | refine sx_load 0 rfl rfl tyA3 tyS3 rfl rfl ?_
  first | refine sx_leq rfl rfl rfl ?_ | refine sx_sleq rfl rfl rfl ?_
  refine sx_nil (hZ _ _ ?_)
  refine awp_forget [(1, _), (2, _), (7, _), (8, _), (28, _)] (Kn.cons rfl (Kn.cons rfl (Kn.cons rfl (Kn.cons rfl (Kn.cons rfl (Kn.nil)))))) ?_
  first | refine awp_cond rfl (fun h8 => ?_) (fun h8 => ?_) | refine awp_seq (awp_cond rfl (fun h8 => ?_) (fun h8 => ?_))
  · have hlt : j < M := by simp at h8; omega
    have hmw : (j + 1) * W ≤ M * W := Nat.mul_le_mul_right _ hlt
    rw [Nat.succ_mul] at hmw
    rw [Nat.mul_comm W M] at hsz
    refine awp_skip ?_
    repeat (with_reducible (first | refine nx_block_normal ?_ | refine nx_scope_normal ?_))
    with_reducible first | refine nx_normal ?_ | refine nx_normalM ?_
    refine awp_seq (awp_block ?_)
    refine awp_seq_region (fun Z hZ => ?_)
    refine sx_fieldAddr rfl tyF61_1 (by first | (simp only [Nat.reduceAdd, Nat.add_zero, Nat.zero_add]; first | done | rfl) | rfl) rfl ?_
    first | refine sx_load 0 rfl rfl tyA3 tyS3 rfl rfl ?_
    refine sx_assign rfl rfl ?_
    refine sx_nil (hZ _ _ ?_)
    refine awp_forget [(1, _), (2, _), (7, _), (8, _), (9, _)] (Kn.cons rfl (Kn.cons rfl (Kn.cons rfl (Kn.cons rfl (Kn.cons rfl (Kn.nil)))))) ?_
    refine awp_block ?_
    refine awp_loop (ι := Nat × Value × List Sp) (fun s => [(1, iq (most : Nat)), (2, ptr g1 0), (7, s.2.1), (8, iq (B + j : Nat)), (9, iq (A + s.1 : Nat))]) (fun s => .own g1 61 (Rc.mk (Zm : Nat) A B C D).cells :: rowE s.2.1 75 2 (scells s.2.2))
      (fun s => s.1 ≤ W ∧ RowOk s.2.1 s.2.2.length ∧ s.2.2.length ≤ j * W + s.1 ∧ SetQ Zm (fun x y => ((A ≤ x ∧ x ≤ C) ∧ B ≤ y ∧ y < B + j) ∨ (y = B + j ∧ A ≤ x ∧ x < A + s.1)) s.2.2) (fun s => W - s.1) (0, v, X) ⟨Nat.zero_le _, hv, hXl, hX.congr fun x y => by simp only [Nat.add_zero]; omega⟩ (Kn.cons rfl (Kn.cons rfl (Kn.cons rfl (Kn.cons rfl (Kn.cons rfl Kn.nil))))) (HLe.refl _) ?_
    rintro ⟨i, v1, X1⟩ ⟨hi, hv1, hXl1, hX1⟩
    replace hi : i ≤ W := hi
    replace hv1 : RowOk v1 X1.length := hv1
    replace hXl1 : X1.length ≤ j * W + i := hXl1
    replace hX1 : SetQ Zm (fun x y => ((A ≤ x ∧ x ≤ C) ∧ B ≤ y ∧ y < B + j) ∨ (y = B + j ∧ A ≤ x ∧ x < A + i)) X1 := hX1
    refine awp_forget [(1, iq (most : Nat)), (2, ptr g1 0), (7, v1), (8, iq (B + j : Nat)), (9, iq (A + i : Nat))] (Kn.cons rfl (Kn.cons rfl (Kn.cons rfl (Kn.cons rfl (Kn.cons rfl Kn.nil))))) ?_
    refine awp_heap (.own g1 61 (Rc.mk (Zm : Nat) A B C D).cells :: rowE v1 75 2 (scells X1)) (HLe.refl _) ?_
    refine awp_seq ?_
    refine awp_seq_region (fun Z hZ => ?_)
    refine sx_move rfl rfl ?_
    refine sx_fieldAddr rfl tyF61_3 (by first | (simp only [Nat.reduceAdd, Nat.add_zero, Nat.zero_add]; first | done | rfl) | rfl) rfl ?_
    first | refine sx_load 0 rfl rfl tyA3 tyS3 rfl rfl ?_
    first | refine sx_leq rfl rfl rfl ?_ | refine sx_sleq rfl rfl rfl ?_
    refine sx_nil (hZ _ _ ?_)
    refine awp_forget [(1, _), (2, _), (7, _), (8, _), (9, _), (36, _)] (Kn.cons rfl (Kn.cons rfl (Kn.cons rfl (Kn.cons rfl (Kn.cons rfl (Kn.cons rfl (Kn.nil))))))) ?_
    first | refine awp_cond rfl (fun h11 => ?_) (fun h11 => ?_) | refine awp_seq (awp_cond rfl (fun h11 => ?_) (fun h11 => ?_))
    · have hlt1 : i < W := by simp at h11; omega
      have hid := rID_fn (Zm : Nat) (A + i : Nat) (B + j : Nat)
      rw [(place_e0 hZm (by omega) (by omega)).1, id_0 hZm (by omega) (by omega)] at hid
      have hidl := id_lt hZm (show A + i < 2 ^ Zm by omega) (show B + j < 2 ^ Zm by omega)
      have hso := hX1.sps hZm (fun x y h => by omega)
      have hX2 := hX1.put (x0 := A + i) (y0 := B + j) (T := fun x y => ((A ≤ x ∧ x ≤ C) ∧ B ≤ y ∧ y < B + j) ∨ (y = B + j ∧ A ≤ x ∧ x < A + (i + 1))) (fun x y => by omega)
      have hlp := putQs_len X1 ⟨base4 Zm + hp Zm (A + i) (B + j), base4 Zm + hp Zm (A + i) (B + j)⟩
      obtain ⟨id, hide⟩ : ∃ id, base4 Zm + hp Zm (A + i) (B + j) = id := ⟨_, rfl⟩
      rw [hide] at hid hidl hX2 hlp
      have hso2 : SpsOk (⟨id, id⟩ :: X1) := fun s hs => by
        rcases List.mem_cons.1 hs with rfl | hs
        · exact ⟨by show id < _; omega, by show id < _; omega⟩
        · exact hso s hs
      refine awp_skip ?_
      repeat (with_reducible (first | refine nx_block_normal ?_ | refine nx_scope_normal ?_))
      with_reducible first | refine nx_normal ?_ | refine nx_normalM ?_
      refine awp_seq (awp_block ?_)
      refine awp_seq_region (fun Z hZ => ?_)
      refine sx_fieldAddr rfl tyF61_0 (by first | (simp only [Nat.reduceAdd, Nat.add_zero, Nat.zero_add]; first | done | rfl) | rfl) rfl ?_
      first | refine sx_load 0 rfl rfl tyA3 tyS3 rfl rfl ?_
      refine sx_move rfl rfl ?_
      refine sx_move rfl rfl ?_
      refine sx_build tyZ48 tyP48 rfl rfl (by first | (simp only [List.take_succ_cons, List.take_zero, List.drop_succ_cons, List.drop_zero, List.cons_append, List.nil_append, List.append_nil, List.length_cons, List.length_nil, Nat.reduceAdd, Nat.zero_add, Nat.add_zero, Value.cells, wrV, zrep_one, List.replicate_succ, List.replicate_zero, Nat.reduceMul, Nat.zero_mul]; first | done | rfl) | rfl) rfl ?_
      refine sx_callP (hid) rfl rfl ?_
      refine sx_move rfl rfl ?_
      refine sx_extract rfl rfl rfl ?_
      refine sx_extract rfl rfl rfl ?_
      refine sx_assign rfl rfl ?_
      refine sx_assign rfl rfl ?_
      refine sx_nil (hZ _ _ ?_)
      refine awp_forget [(1, _), (2, _), (7, _), (8, _), (9, _), (10, _)] (Kn.cons rfl (Kn.cons rfl (Kn.cons rfl (Kn.cons rfl (Kn.cons rfl (Kn.cons rfl (Kn.nil))))))) ?_
      refine awp_region (fun Z hZ => ?_)
      refine sx_move rfl rfl ?_
      refine sx_move rfl rfl ?_
      refine sx_move rfl rfl ?_
      refine sx_build tyZ75 tyP75 rfl rfl (by first | (simp only [List.take_succ_cons, List.take_zero, List.drop_succ_cons, List.drop_zero, List.cons_append, List.nil_append, List.append_nil, List.length_cons, List.length_nil, Nat.reduceAdd, Nat.zero_add, Nat.add_zero, Value.cells, wrV, zrep_one, List.replicate_succ, List.replicate_zero, Nat.reduceMul, Nat.zero_mul]; first | done | rfl) | rfl) rfl ?_
      refine sx_rput [.own g1 61 (Rc.mk (Zm : Nat) A B C D).cells] X1 ⟨id, id⟩ v1 hv1 (by omega) hso2 (HLe.refl _) rfl rfl (fun u hu => ?_)
      refine sx_assign rfl rfl ?_
      refine sx_nil (hZ _ _ ?_)
      refine nx_forget [(1, _), (2, _), (7, _), (8, _), (9, _)] (Kn.cons rfl (Kn.cons rfl (Kn.cons rfl (Kn.cons rfl (Kn.cons rfl (Kn.nil)))))) ?_
      repeat (with_reducible (first | refine nx_block_normal ?_ | refine nx_scope_normal ?_))
      with_reducible first | refine nx_normal ?_ | refine nx_normalM ?_
      refine awp_region (fun Z hZ => ?_)
      refine sx_move rfl rfl ?_
      refine sx_add rfl rfl ((A + (i + 1) : Nat) : Int) (by rw [IntWalk.i64_in _ (by omega)]; omega) rfl ?_
      refine sx_assign rfl rfl ?_
      refine sx_nil (hZ _ _ ?_)
      refine nx_forget [(1, _), (2, _), (7, _), (8, _), (9, _)] (Kn.cons rfl (Kn.cons rfl (Kn.cons rfl (Kn.cons rfl (Kn.cons rfl (Kn.nil)))))) ?_
      exact nx_round (i + 1, u, putQs X1 ⟨id, id⟩) ⟨hlt1, hu, by show (putQs X1 ⟨id, id⟩).length ≤ j * W + (i + 1); omega, hX2⟩ (show W - (i + 1) < W - i by omega) (Kn.cons rfl (Kn.cons rfl (Kn.cons rfl (Kn.cons rfl (Kn.cons rfl Kn.nil))))) (HLe.refl _)
    · refine awp_exit ?_
      repeat (with_reducible (first | refine nx_then_exit ?_ | refine nx_block_other (by decide) ?_ | refine nx_scope_exit ?_))
      with_reducible refine nx_block_exit ?_
      repeat (with_reducible (first | refine nx_block_normal ?_ | refine nx_scope_normal ?_))
      with_reducible first | refine nx_normal ?_ | refine nx_normalM ?_
      obtain rfl : i = W := by simp at h11; omega
      refine awp_region (fun Z hZ => ?_)
      refine sx_move rfl rfl ?_
      refine sx_add rfl rfl ((B + (j + 1) : Nat) : Int) (by rw [IntWalk.i64_in _ (by omega)]; omega) rfl ?_
      refine sx_assign rfl rfl ?_
      refine sx_nil (hZ _ _ ?_)
      refine nx_forget [(1, _), (2, _), (7, _), (8, _)] (Kn.cons rfl (Kn.cons rfl (Kn.cons rfl (Kn.cons rfl (Kn.nil))))) ?_
      exact nx_round (j + 1, v1, X1) ⟨hlt, hv1, by show X1.length ≤ (j + 1) * i; rw [Nat.succ_mul]; exact hXl1, hX1.congr fun x y => by show _ ↔ (A ≤ x ∧ x ≤ C) ∧ B ≤ y ∧ y < B + (j + 1); omega⟩ (show M - (j + 1) < M - j by omega) (Kn.cons rfl (Kn.cons rfl (Kn.cons rfl (Kn.cons rfl Kn.nil)))) (HLe.refl _)
  · refine awp_exit ?_
    repeat (with_reducible (first | refine nx_then_exit ?_ | refine nx_block_other (by decide) ?_ | refine nx_scope_exit ?_))
    with_reducible refine nx_block_exit ?_
    repeat (with_reducible (first | refine nx_block_normal ?_ | refine nx_scope_normal ?_))
    with_reducible first | refine nx_normal ?_ | refine nx_normalM ?_
    obtain rfl : j = M := by simp at h8; omega
    have hdn : DoneQ Zm (RIn A B C D) (4 ^ Zm) X := done_ids hX.plain hxl hyl fun k => by
      rw [hX.is_]
      constructor
      · rintro ⟨x, y, h, e⟩
        exact ⟨x, y, ⟨h.1, by omega, by omega⟩, e⟩
      · rintro ⟨x, y, ⟨h, h3, h4⟩, e⟩
        exact ⟨x, y, ⟨h, by omega, by omega⟩, e⟩
    obtain rfl := hdn.uniq hL
    obtain ⟨Av, cv, rfl, hAv⟩ := hv.form
    refine awp_seq ?_
    refine awp_seq_region (fun Z hZ => ?_)
    refine sx_move rfl rfl ?_
    first | refine sx_len Try.underlying22 rfl rfl ?_ | refine sx_lenS Try.underlying22 rfl rfl ?_
    refine sx_move rfl rfl ?_
    first | refine sx_gtr rfl rfl rfl ?_ | refine sx_sgtr rfl rfl rfl ?_
    refine sx_nil (hZ _ _ ?_)
    refine awp_forget [(7, _), (56, _)] (Kn.cons rfl (Kn.cons rfl (Kn.nil))) ?_
    first | refine awp_cond rfl (fun h15 => ?_) (fun h15 => ?_) | refine awp_seq (awp_cond rfl (fun h15 => ?_) (fun h15 => ?_))
    · have hgt : most < X.length := by simp at h15; omega
      refine awp_seq_region (fun Z hZ => ?_)
      refine sx_assign rfl rfl ?_
      refine sx_assign rfl rfl ?_
      refine sx_nil (hZ _ _ ?_)
      refine awp_forget [(4, _), (5, _)] (Kn.cons rfl (Kn.cons rfl (Kn.nil))) ?_
      refine awp_ret ?_
      repeat (with_reducible (first | refine nx_then_ret ?_ | refine nx_block_ret ?_ | refine nx_scope_ret ?_))
      exact nx_ret2h [] rfl rfl rfl (HLe.sub (List.nil_sublist _)) (.inr ⟨hgt, rfl, rfl⟩)
    have hle : X.length ≤ most := by simp at h15; omega
    refine awp_skip ?_
    repeat (with_reducible (first | refine nx_block_normal ?_ | refine nx_scope_normal ?_))
    with_reducible first | refine nx_normal ?_ | refine nx_normalM ?_
    refine awp_seq_region (fun Z hZ => ?_)
    refine sx_move rfl rfl ?_
    refine sx_assign rfl rfl ?_
    refine sx_assign rfl rfl ?_
    refine sx_nil (hZ _ _ ?_)
    refine awp_forget [(4, _), (5, _)] (Kn.cons rfl (Kn.cons rfl (Kn.nil))) ?_
    refine awp_ret ?_
    repeat (with_reducible (first | refine nx_then_ret ?_ | refine nx_block_ret ?_ | refine nx_scope_ret ?_))
    exact nx_ret2h _ rfl rfl rfl (HLe.drop 1 rfl) (.inl ⟨hle, _, rfl, hv, rfl⟩)
/-- What is told of a rectangle. -/
def SpR (r : Rc) (most : Int) (L : List Sp) (e : Int) : Prop :=
  (e ≠ 0 ∧ L = [] ∧ (((most < 1 ∨ 4096 < most) ∧ e = 2) ∨ (1 ≤ most ∧ most ≤ 4096 ∧ chkE r ≠ 0 ∧ e = chkE r) ∨ (1 ≤ most ∧ most ≤ 4096 ∧ e = 21 ∧ ∃ Z a b c d M, r.Ok Z a b c d ∧ DoneQ Z (RIn a b c d) (4 ^ Z) M ∧ most < M.length))) ∨
    (e = 0 ∧ ∃ Z a b c d, r.Ok Z a b c d ∧ 1 ≤ most ∧ most ≤ 4096 ∧ DoneQ Z (RIn a b c d) (4 ^ Z) L ∧ (L.length : Int) ≤ most)
theorem Fn.mono {P : Program} {f : FuncId} {vs : List Value} {H : Heap} {R R' : Value → Heap → Prop} (h : Fn P f vs H R) (hr : ∀ v H', R v H' → R' v H') : Fn P f vs H R' :=
  ⟨h.1, fun w hw => (h.2 w hw).mono fun e w' he => by
    obtain ⟨v, H', h1, h2, h3⟩ := he
    exact ⟨v, H', h1, hr v H' h2, h3⟩⟩
end Go.Proofs.Ytbldhokgbcljjaa
