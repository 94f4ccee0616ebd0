/- LeavesBack. No conditions. -/
import Derived.Test.YtodclhiggafkbaaLf15
namespace Go.Proofs.Ytodclhiggafkbaa
open Go.RowKit
set_option linter.unusedVariables false
set_option linter.unusedSimpArgs false
set_option maxRecDepth 100000
theorem enc_of {M : List En} {b : Int} (hr : rowC M = 0) (hs : (sizeQ M : Int) ≤ b) (hb : b ≤ 16257) : ∃ S, encQ M = (S, 0) ∧ (S.length : Int) ≤ b := by
  have hz : sizeQ M = sumB (numsQ M) := by unfold sizeQ; rw [if_pos hr]
  rw [hz] at hs
  refine ⟨allB (numsQ M), ?_, hs⟩
  unfold encQ
  rw [if_pos hr, if_neg (by omega)]
theorem encQ_sm {P : List En} (hE : EnsOk P) (hl : P.length < 1000000) : (encQ P).1.length ≤ 10 + 40 * P.length := by
  have h := allB_len (numsQ_lt hE (by omega))
  rw [numsQ_len] at h
  unfold encQ
  split
  · split
    · exact Nat.zero_le _
    · show (allB (numsQ P)).length ≤ _
      omega
  · exact Nat.zero_le _
theorem textP_sm : ∀ ps : List (List En), (∀ P ∈ ps, EnsOk P ∧ P.length < 1000000) → (textP ps).length ≤ 10 * ps.length + 40 * ps.flatten.length
  | [], _ => by simp [textP]
  | P :: r, h => by
    have h1 := encQ_sm (h P List.mem_cons_self).1 (h P List.mem_cons_self).2
    have h2 := textP_sm r (fun Q hQ => h Q (List.mem_cons_of_mem _ hQ))
    simp only [textP, List.flatMap_cons, List.length_append, List.length_cons, List.flatten_cons] at h2 ⊢
    omega
theorem back_facts {L M : List En} {b : Int} {s : List UInt8} {m : Nat} (hE : EnsOk L) (h : splitQ L b = (M, s, m, 0)) :
    EnsOk M ∧ M.length ≤ L.length ∧ (∃ S, encQ M = (S, 0) ∧ (S.length : Int) ≤ b) ∧ joinQ M s = (L, 0) ∧ (m = 0 ↔ s = []) ∧ (M.filter isPtr).length = (if 0 < m then M.length else 0) ∧ endQ 0 M * min m 1 = s.length ∧ s.length ≤ 50 * L.length := by
  rcases splitQ_cases L b with ⟨e, he, h1⟩ | ⟨hr, hh, hb1, hb2, h1⟩
  · rw [h1] at h
    have := congrArg (·.2.2.2) h
    exact absurd this he
  obtain ⟨hq0, hl⟩ := rowC_q hr
  rcases h1 with ⟨h1, hs⟩ | ⟨y, hy, hok, h1⟩
  · rw [h1] at h
    simp only [Prod.mk.injEq] at h
    obtain ⟨rfl, rfl, rfl, _⟩ := h
    have hhl := hasPtr_len L
    rw [hh] at hhl
    refine ⟨hE, Nat.le_refl _, enc_of hr hs hb2, ?_, by simp, ?_, by simp, by simp⟩
    · unfold joinQ
      rw [if_neg (by simpa using hr), join_plain L [] hh hr]
      rfl
    · have : ¬ 0 < (L.filter isPtr).length := by simpa using hhl.symm
      rw [if_neg (by decide)]
      omega
  · rw [h1] at h
    simp only [Prod.mk.injEq] at h
    obtain ⟨rfl, rfl, rfl, _⟩ := h
    obtain ⟨hP, hsz⟩ := okQ_facts hy hE hh hok
    have hpl : (pcs L y).length ≤ L.length := by rw [pcs_len]; exact cntP_le hy
    have hfl := pcs_flat (L := L) hy
    have hP3 : ∀ P ∈ pcs L y, 0 < P.length ∧ EnsOk P ∧ (encQ P).2 = 0 := fun P h => ⟨(hP P h).1, (hP P h).2.1, (hP P h).2.2.1⟩
    have hrow := root_row (pcs L y) 0 0 hP3 (by rw [hfl]; exact hq0) (by omega)
    have hrl := rootR_len (pcs L y) 0
    have hrc := q_rowC hrow (by omega)
    have hL0 : 0 < (pcs L y).length := by
      rcases Nat.eq_zero_or_pos (pcs L y).length with h0 | h0
      · exfalso
        have hnil : pcs L y = [] := List.length_eq_zero_iff.1 h0
        rw [hnil] at hfl
        have hLn : L = [] := hfl.symm
        subst hLn
        have hs0 : sizeQ ([] : List En) = 1 := by
          unfold sizeQ
          rw [if_pos (by rfl), show numsQ [] = [0] from rfl, sumB, allB, List.flatMap_cons, List.flatMap_nil, vb_lt (by omega)]
          rfl
        have : splitQ [] b = ([], [], 0, 0) := by
          unfold splitQ
          rw [if_neg (by omega), if_neg (by decide), if_neg (by decide), if_pos (by rw [hs0]; omega)]
        rw [this] at h1
        have := congrArg (·.2.2.1) h1
        simp only at this
        omega
      · exact h0
    have htp : 0 < (textP (pcs L y)).length := by
      match hpc : pcs L y, hL0 with
      | P :: r, _ =>
        rw [hpc] at hP3
        have h1 := enc_pos (hP3 P List.mem_cons_self).2.2
        rw [textP, List.flatMap_cons, List.length_append]
        omega
    refine ⟨rootR_ok _ 0 (fun P h => (hP P h).2.1) (by omega), by omega, enc_of hrc hsz hb2, ?_, ⟨fun h => by omega, fun h => by rw [h] at htp; simp at htp⟩, ?_, ?_, ?_⟩
    · unfold joinQ
      rw [if_neg (by simpa using hrc)]
      have := join_root (pcs L y) [] [] hP (by rw [List.nil_append, hfl]; exact hr)
      rw [hfl] at this
      exact this
    · rw [root_ptr, if_pos hy]
    · have := root_end (pcs L y) 0 0 (Nat.le_refl _) hP3 (fun _ _ => trivial) (rowQ_chk hrow) (by omega) (fun _ => rfl)
      rw [this, show min y 1 = 1 by omega]
      omega
    · have := textP_sm (pcs L y) (fun P h => ⟨(hP P h).2.1, by
        obtain ⟨q, _, hq⟩ := List.mem_map.1 h
        rw [← hq, pcL_len]
        omega⟩)
      rw [hfl] at this
      omega
theorem lback_fn (A : Option Addr) (c : Nat) (L : List En) (T : Heap) (hA : ArgOk A L.length) (hT : 0 < L.length → T = roE A (ecells L)) (hro : Ro T) (hL : L.length ≤ maxLen) (hE : EnsOk L) (b : Int) :
    Fn Try.prog 5 [.slice A L.length c, iq b] T fun v _ => v = .bool true := by
  have hL' : L.length ≤ 9223372036854775807 := hL
  refine Fn.enter (N := 105) Try.func5 rfl (by kernel_rfl) rfl (fun w0 => ?_)

  refine awp_seq_region (fun Z hZ => ?_)
  refine sx_assign rfl rfl ?_
  refine sx_nil (hZ _ _ ?_)
  refine awp_forget [(0, _), (1, _)] (Kn.cons rfl (Kn.cons rfl (Kn.nil))) ?_
  refine awp_seq ?_
  refine awp_seq_region (fun Z hZ => ?_)
  refine sx_move rfl rfl ?_
  first | refine sx_len Try.underlying22 rfl rfl ?_ | refine sx_lenS Try.underlying22 rfl rfl ?_
  first | refine sx_gtr rfl rfl rfl ?_ | refine sx_sgtr rfl rfl rfl ?_
  refine sx_nil (hZ _ _ ?_)
  refine awp_forget [(0, _), (1, _), (17, _)] (Kn.cons rfl (Kn.cons rfl (Kn.cons rfl (Kn.nil)))) ?_
  first | refine awp_cond rfl (fun h => ?_) (fun h => ?_) | refine awp_seq (awp_cond rfl (fun h => ?_) (fun h => ?_))
  · refine awp_seq_region (fun Z hZ => ?_)
    refine sx_callP lawake_fn rfl rfl ?_
    refine sx_assign rfl rfl ?_
    refine sx_nil (hZ _ _ ?_)
    refine awp_forget [(4, _)] (Kn.cons rfl (Kn.nil)) ?_
    refine awp_ret ?_
    repeat (with_reducible (first | refine nx_then_ret ?_ | refine nx_block_ret ?_ | refine nx_scope_ret ?_))
    exact nx_ret1 rfl rfl rfl
  have h3 : L.length ≤ 150 := by simp at h; omega
  refine awp_skip ?_
  repeat (with_reducible (first | refine nx_block_normal ?_ | refine nx_scope_normal ?_))
  with_reducible first | refine nx_normal ?_ | refine nx_normalM ?_
  have hS := fun A1 c1 hA1 hnil hc1 => split_fn A1 c1 L (roE A1 (ecells L)) b hA1 (fun _ => rfl) (Ro.roE _ _) (by omega) hE hnil hc1
  obtain ⟨M, s, m, e, hD⟩ : ∃ M s m e, splitQ L b = (M, s, m, e) := ⟨_, _, _, _, rfl⟩
  rw [hD] at hS
  refine awp_seq_region (fun Z hZ => ?_)
  refine sx_move rfl rfl ?_
  refine sx_callRT T (eown_fn A c L T hA hT hro (by omega)) rfl (List.Sublist.refl _) hro rfl (fun v hv => ?_)
  obtain ⟨A1, c1, rfl, hA1, hle⟩ := hv.ro
  refine sx_pure (fun w hw => row_cap hv (fun x hx => List.mem_append_left _ hx) hw) (fun hcap => ?_)
  refine sx_heap (roE A1 (ecells L) ++ T) (hle [] T _ _ _) ?_
  refine sx_assign rfl rfl ?_
  refine sx_nil (hZ _ _ ?_)
  refine awp_forget [(1, _), (5, _)] (Kn.cons rfl (Kn.cons rfl (Kn.nil))) ?_
  have hnil1 : A1 = none → L.length = 0 := fun h => by
    rcases hA1 with ⟨_, h0⟩ | ⟨g, o, h0⟩
    · exact h0
    · rw [h] at h0; cases h0
  refine awp_heap (roE A1 (ecells L)) (HLe.sub (List.sublist_append_left _ _)) ?_
  refine awp_seq_region (fun Z hZ => ?_)
  refine sx_move rfl rfl ?_
  refine sx_move rfl rfl ?_
  refine sx_callU (roE A1 (ecells L)) (hS A1 c1 hA1.arg hnil1 hcap.1) rfl (List.Sublist.refl _) (Ro.roE _ _) rfl ?_
  rintro v H' ⟨u, rfl, hu, rfl⟩
  rw [rowE_flt]
  obtain ⟨A2, c2, rfl, hA2, hle2⟩ := hu.ro
  refine sx_heap (roE A2 (ecells M) ++ roE A1 (ecells L)) (hle2 [] _ _ _ _) ?_
  refine sx_move rfl rfl ?_
  refine sx_extract rfl rfl rfl ?_
  refine sx_extract rfl rfl rfl ?_
  refine sx_extract rfl rfl rfl ?_
  refine sx_extract rfl rfl rfl ?_
  refine sx_assign rfl rfl ?_
  refine sx_assign rfl rfl ?_
  refine sx_assign rfl rfl ?_
  refine sx_assign rfl rfl ?_
  refine sx_nil (hZ _ _ ?_)
  refine awp_forget [(1, _), (5, _), (6, _), (7, _), (8, _), (9, _)] (Kn.cons rfl (Kn.cons rfl (Kn.cons rfl (Kn.cons rfl (Kn.cons rfl (Kn.cons rfl (Kn.nil))))))) ?_
  refine awp_seq ?_
  refine awp_seq_region (fun Z hZ => ?_)
  refine sx_move rfl rfl ?_
  first | refine sx_neq rfl rfl rfl ?_ | refine sx_sneq rfl rfl rfl ?_
  refine sx_nil (hZ _ _ ?_)
  refine awp_forget [(1, _), (5, _), (6, _), (7, _), (8, _), (30, _)] (Kn.cons rfl (Kn.cons rfl (Kn.cons rfl (Kn.cons rfl (Kn.cons rfl (Kn.cons rfl (Kn.nil))))))) ?_
  first | refine awp_cond rfl (fun h4 => ?_) (fun h4 => ?_) | refine awp_seq (awp_cond rfl (fun h4 => ?_) (fun h4 => ?_))
  · have he : e ≠ 0 := by simp at h4; omega
    rcases splitQ_cases L b with ⟨e', he', h1⟩ | ⟨hr, hh, hb1, hb2, h1⟩
    · rw [hD] at h1
      simp only [Prod.mk.injEq] at h1
      obtain ⟨rfl, rfl, rfl, rfl⟩ := h1
      refine awp_seq_meet [(4, .bool true)] [] (fun Z hZ => ?_) ?_
      · refine sx_move rfl rfl ?_
        first | refine sx_len Try.underlying24 rfl rfl ?_ | refine sx_lenS Try.underlying24 rfl rfl ?_
        first | refine sx_eql rfl rfl rfl ?_ | refine sx_seql rfl rfl rfl ?_
        refine sx_move rfl rfl ?_
        refine sx_force 34 rfl true (by first | rfl | (simp; done)) ?_
        refine sx_on rfl rfl rfl ?_
        refine sx_move rfl rfl ?_
        refine sx_on rfl rfl rfl ?_
        first | refine sx_eql rfl rfl rfl ?_ | refine sx_seql rfl rfl rfl ?_
        refine sx_pick rfl rfl rfl ?_
        refine sx_move rfl rfl ?_
        refine sx_force 38 rfl true (by first | rfl | (simp; done)) ?_
        refine sx_on rfl rfl rfl ?_
        refine sx_move rfl rfl ?_
        refine sx_on rfl rfl rfl ?_
        first | refine sx_eql rfl rfl rfl ?_ | refine sx_seql rfl rfl rfl ?_
        refine sx_pick rfl rfl rfl ?_
        refine sx_move rfl rfl ?_
        refine sx_force 42 rfl true (by first | rfl | (simp; done)) ?_
        refine sx_on rfl rfl rfl ?_
        refine sx_callP lawake_fn rfl rfl ?_
        refine sx_pick rfl rfl rfl ?_
        refine sx_assign rfl rfl ?_
        refine sx_nil (hZ _ _ ?_ ?_)
        · exact Kn.cons rfl Kn.nil
        · exact HLe.sub (List.nil_sublist _)
      refine awp_ret ?_
      repeat (with_reducible (first | refine nx_then_ret ?_ | refine nx_block_ret ?_ | refine nx_scope_ret ?_))
      exact nx_ret1 rfl rfl rfl
    · exfalso
      rcases h1 with ⟨h1, _⟩ | ⟨y, _, _, h1⟩
      · rw [hD] at h1
        exact he (congrArg (·.2.2.2) h1)
      · rw [hD] at h1
        exact he (congrArg (·.2.2.2) h1)
  have he : e = 0 := by simp at h4; omega
  subst he
  obtain ⟨hEM, hMl, ⟨S, hS1, hS2⟩, hJ, hms, hfl, hend, hsl⟩ := back_facts hE hD
  have hmax : L.length ≤ maxLen := hL
  have henc := dencode_fn A2 c2 M _ hA2.arg (fun _ => rfl) (Ro.roE _ _) (by omega) hEM
  rw [hS1] at henc
  have hjn := join_fn A2 c2 M _ hA2.arg (fun _ => rfl) (Ro.roE _ _) (by show _ ≤ 9223372036854775807; omega) hEM s (by omega)
  rw [hJ] at hjn
  refine awp_skip ?_
  repeat (with_reducible (first | refine nx_block_normal ?_ | refine nx_scope_normal ?_))
  with_reducible first | refine nx_normal ?_ | refine nx_normalM ?_
  refine awp_seq_region (fun Z hZ => ?_)
  refine sx_move rfl rfl ?_
  refine sx_callPT (roE A2 (ecells M)) henc rfl (List.sublist_append_left _ _) (Ro.roE _ _) rfl ?_
  refine sx_move rfl rfl ?_
  refine sx_extract rfl rfl rfl ?_
  refine sx_extract rfl rfl rfl ?_
  refine sx_assign rfl rfl ?_
  refine sx_assign rfl rfl ?_
  refine sx_nil (hZ _ _ ?_)
  refine awp_forget [(1, _), (5, _), (6, _), (7, _), (8, _), (10, _), (11, _)] (Kn.cons rfl (Kn.cons rfl (Kn.cons rfl (Kn.cons rfl (Kn.cons rfl (Kn.cons rfl (Kn.cons rfl (Kn.nil)))))))) ?_
  refine awp_seq_region (fun Z hZ => ?_)
  refine sx_move rfl rfl ?_
  refine sx_move rfl rfl ?_
  refine sx_callU (roE A2 (ecells M)) hjn rfl (List.sublist_append_left _ _) (Ro.roE _ _) rfl ?_
  rintro v H' ⟨u, rfl, hu3, rfl⟩
  rw [rowE_flt]
  obtain ⟨A3, c3, rfl, hA3, hle3⟩ := hu3.ro
  refine sx_heap (roE A3 (ecells L) ++ (roE A2 (ecells M) ++ roE A1 (ecells L))) (hle3 [] _ _ _ _) ?_
  refine sx_move rfl rfl ?_
  refine sx_extract rfl rfl rfl ?_
  refine sx_extract rfl rfl rfl ?_
  refine sx_assign rfl rfl ?_
  refine sx_assign rfl rfl ?_
  refine sx_nil (hZ _ _ ?_)
  refine awp_forget [(1, _), (5, _), (6, _), (7, _), (8, _), (10, _), (11, _), (12, _), (13, _)] (Kn.cons rfl (Kn.cons rfl (Kn.cons rfl (Kn.cons rfl (Kn.cons rfl (Kn.cons rfl (Kn.cons rfl (Kn.cons rfl (Kn.cons rfl (Kn.nil)))))))))) ?_
  have hseq : ((m : Int) == 0) = decide (s = []) := by
    rw [Bool.eq_iff_iff]
    simp only [beq_iff_eq, decide_eq_true_eq, ← hms]
    omega
  refine awp_seq ?_
  refine awp_seq_meet [(6, .slice A2 M.length c2), (7, .string (str s)), (8, iq (m : Nat)), (80, .bool false)] (roE A3 (ecells L) ++ (roE A2 (ecells M) ++ roE A1 (ecells L))) (fun Z hZ => ?_) ?_
  · refine sx_move rfl rfl ?_
    first | refine sx_neq rfl rfl rfl ?_ | refine sx_sneq rfl rfl rfl ?_
    refine sx_move rfl rfl ?_
    refine sx_force 58 rfl false (by first | rfl | (simp; done) | (simp; omega)) ?_
    refine sx_on rfl rfl rfl ?_
    refine sx_move rfl rfl ?_
    refine sx_on rfl rfl rfl ?_
    first | refine sx_len Try.underlying9 rfl rfl ?_ | refine sx_lenS Try.underlying9 rfl rfl ?_
    refine sx_on rfl rfl rfl ?_
    refine sx_move rfl rfl ?_
    refine sx_on rfl rfl rfl ?_
    first | refine sx_gtr rfl rfl rfl ?_ | refine sx_sgtr rfl rfl rfl ?_
    refine sx_pick rfl rfl rfl ?_
    refine sx_move rfl rfl ?_
    refine sx_force 64 rfl false (by first | rfl | (simp; done) | (simp; omega)) ?_
    refine sx_on rfl rfl rfl ?_
    refine sx_move rfl rfl ?_
    refine sx_on rfl rfl rfl ?_
    first | refine sx_neq rfl rfl rfl ?_ | refine sx_sneq rfl rfl rfl ?_
    refine sx_pick rfl rfl rfl ?_
    refine sx_move rfl rfl ?_
    refine sx_force 68 rfl false (by first | rfl | (simp; done) | (simp; omega)) ?_
    refine sx_on rfl rfl rfl ?_
    refine sx_move rfl rfl ?_
    refine sx_on rfl rfl rfl ?_
    refine sx_move rfl rfl ?_
    refine sx_on rfl rfl rfl ?_
    refine sx_callV (roE A3 (ecells L) ++ roE A1 (ecells L)) (esame_fn A3 c3 L _ hA3.arg (fun _ => rfl) (Ro.roE _ _) hmax A1 c1 L _ hA1.arg (fun _ => rfl) (Ro.roE _ _) hmax) rfl (HLe.mid _ _ _) ((Ro.roE _ _).append (Ro.roE _ _)) rfl ?_
    rw [show sameL L L = true from sameL_iff.2 rfl]
    refine sx_on rfl rfl rfl ?_
    refine sx_not rfl rfl ?_
    refine sx_pick rfl rfl rfl ?_
    refine sx_move rfl rfl ?_
    refine sx_force 74 rfl false (by first | rfl | (simp; done) | (simp; omega)) ?_
    refine sx_on rfl rfl rfl ?_
    refine sx_move rfl rfl ?_
    refine sx_on rfl rfl rfl ?_
    first | refine sx_eql rfl rfl rfl ?_ | refine sx_seql rfl rfl rfl ?_
    refine sx_on rfl rfl rfl ?_
    refine sx_move rfl rfl ?_
    refine sx_on rfl rfl rfl ?_
    first | refine sx_eql rfl rfl rfl ?_ | refine sx_seql rfl rfl rfl ?_
    refine sx_on rfl rfl rfl ?_
    refine sx_bneq Try.underlying4 rfl rfl rfl ?_
    refine sx_pick rfl rfl rfl ?_
    refine sx_nil (hZ _ _ ?_ ?_)
    · exact Kn.cons rfl (Kn.cons rfl (Kn.cons rfl (Kn.cons (congrArg some (congrArg Value.bool (by first | (simp [hseq]; done) | (simp [hseq]; cases s <;> rfl)))) Kn.nil)))
    · exact HLe.refl _
  first | refine awp_cond rfl (fun h5 => ?_) (fun h5 => ?_) | refine awp_seq (awp_cond rfl (fun h5 => ?_) (fun h5 => ?_))
  · cases h5
  refine awp_skip ?_
  repeat (with_reducible (first | refine nx_block_normal ?_ | refine nx_scope_normal ?_))
  with_reducible first | refine nx_normal ?_ | refine nx_normalM ?_
  refine awp_heap (roE A2 (ecells M)) (HLe.sub ((List.sublist_append_left _ _).trans (List.sublist_append_right _ _))) ?_
  refine awp_seq_region (fun Z hZ => ?_)
  refine sx_assign rfl rfl ?_
  refine sx_nil (hZ _ _ ?_)
  refine awp_forget [(6, _), (7, _), (8, _), (14, _)] (Kn.cons rfl (Kn.cons rfl (Kn.cons rfl (Kn.cons rfl (Kn.nil))))) ?_
  refine awp_cut (ι := Unit) (fun _ => [(6, .slice A2 M.length c2), (7, .string (str s)), (8, iq (m : Nat)), (14, iq ((M.filter isPtr).length : Nat))]) (fun _ => roE A2 (ecells M)) (fun _ => True) ?_ ?_
  · refine awp_seq_region (fun Z hZ => ?_)
    refine sx_move rfl rfl ?_
    first | refine sx_gtr rfl rfl rfl ?_ | refine sx_sgtr rfl rfl rfl ?_
    refine sx_nil (hZ _ _ ?_)
    refine awp_forget [(6, _), (7, _), (8, _), (14, _), (82, _)] (Kn.cons rfl (Kn.cons rfl (Kn.cons rfl (Kn.cons rfl (Kn.cons rfl (Kn.nil)))))) ?_
    first | refine awp_cond rfl (fun h6 => ?_) (fun h6 => ?_) | refine awp_seq (awp_cond rfl (fun h6 => ?_) (fun h6 => ?_))
    · have hm : 0 < m := by simp at h6; omega
      refine awp_region (fun Z hZ => ?_)
      refine sx_move rfl rfl ?_
      first | refine sx_len Try.underlying24 rfl rfl ?_ | refine sx_lenS Try.underlying24 rfl rfl ?_
      refine sx_assign rfl rfl ?_
      refine sx_nil (hZ _ _ ?_)
      refine nx_forget [(6, _), (7, _), (8, _), (14, _)] (Kn.cons rfl (Kn.cons rfl (Kn.cons rfl (Kn.cons rfl (Kn.nil))))) ?_
      exact nx_cut () trivial (Kn.cons rfl (Kn.cons rfl (Kn.cons rfl (Kn.cons (by rw [hfl, if_pos hm]; rfl) Kn.nil)))) (HLe.refl _)
    · have hm : ¬ 0 < m := by simp at h6; omega
      refine awp_skip ?_
      exact nx_cut () trivial (Kn.cons rfl (Kn.cons rfl (Kn.cons rfl (Kn.cons (by rw [hfl, if_neg hm]; rfl) Kn.nil)))) (HLe.refl _)
  rintro ⟨⟩ -
  refine awp_seq_meet [(4, .bool true)] [] (fun Z hZ => ?_) ?_
  · refine sx_move rfl rfl ?_
    refine sx_callU (roE A2 (ecells M)) (sleaves_fn A2 c2 M _ hA2.arg (fun _ => rfl) (Ro.roE _ _) (by omega)) rfl (List.Sublist.refl _) (Ro.roE _ _) rfl ?_
    rintro v H' ⟨hv5, rfl⟩
    refine sx_heap (roE A2 (ecells M)) (HLe.sub (List.sublist_append_right _ _)) ?_
    obtain ⟨A5, c5, rfl, _⟩ := hv5.form
    first | refine sx_len Try.underlying24 rfl rfl ?_ | refine sx_lenS Try.underlying24 rfl rfl ?_
    refine sx_move rfl rfl ?_
    first | refine sx_eql rfl rfl rfl ?_ | refine sx_seql rfl rfl rfl ?_
    refine sx_move rfl rfl ?_
    refine sx_force 90 rfl true (by first | rfl | (simp; done)) ?_
    refine sx_on rfl rfl rfl ?_
    refine sx_move rfl rfl ?_
    refine sx_on rfl rfl rfl ?_
    refine sx_callPT (roE A2 (ecells M)) (end_fn A2 c2 M _ hA2.arg (fun _ => rfl) (by omega) hEM) rfl (List.Sublist.refl _) (Ro.roE _ _) rfl ?_
    refine sx_on rfl rfl rfl ?_
    refine sx_move rfl rfl ?_
    refine sx_on rfl rfl rfl ?_
    refine sx_min rfl rfl ((min m 1 : Nat) : Int) (by omega) rfl ?_
    refine sx_on rfl rfl rfl ?_
    refine sx_conv Try.underlying3 Try.underlying47 rfl ((min m 1 : Nat) : Int) (by rw [IntWalk.u64_in _ (by omega)]) rfl ?_
    refine sx_on rfl rfl rfl ?_
    refine sx_mul rfl rfl ((s.length : Nat) : Int) (by rw [← Int.natCast_mul, hend, IntWalk.u64_in _ (by omega)]) rfl ?_
    refine sx_on rfl rfl rfl ?_
    refine sx_move rfl rfl ?_
    refine sx_on rfl rfl rfl ?_
    first | refine sx_len Try.underlying9 rfl rfl ?_ | refine sx_lenS Try.underlying9 rfl rfl ?_
    refine sx_on rfl rfl rfl ?_
    refine sx_conv Try.underlying3 Try.underlying47 rfl ((s.length : Nat) : Int) (by rw [IntWalk.u64_in _ (by omega)]) rfl ?_
    refine sx_on rfl rfl rfl ?_
    first | refine sx_eql rfl rfl rfl ?_ | refine sx_seql rfl rfl rfl ?_
    refine sx_pick rfl rfl rfl ?_
    refine sx_move rfl rfl ?_
    refine sx_force 102 rfl true (by first | rfl | (simp; done)) ?_
    refine sx_on rfl rfl rfl ?_
    refine sx_callP lawake_fn rfl rfl ?_
    refine sx_pick rfl rfl rfl ?_
    refine sx_assign rfl rfl ?_
    refine sx_nil (hZ _ _ ?_ ?_)
    · exact Kn.cons rfl Kn.nil
    · exact HLe.sub (List.nil_sublist _)
  refine awp_ret ?_
  repeat (with_reducible (first | refine nx_then_ret ?_ | refine nx_block_ret ?_ | refine nx_scope_ret ?_))
  exact nx_ret1 rfl rfl rfl
theorem LeavesBack_read {H : Type} {enc : TypeId × Value → H} (w : World) {base : Nat} {v0 v1 : Value} {d0 d1 : DataW H} {p0 p1 : List MemPlace}
    (k0 : Value.okWide Try.prog w .any base 22 v0) (h0 : DataW.Trod enc Try.prog w 0 (fun _ => true) true 22 v0 d0 p0)
    (k1 : Value.okWide Try.prog w .any base 3 v1) (h1 : DataW.Trod enc Try.prog w 0 (fun _ => true) true 3 v1 d1 p1) :
    Calls Try.prog 5 #[v0, v1] w fun e w' => e = .returned (.bool true) ∧ Bel w w' := by
  obtain ⟨A, c, L, T, rfl, hA, hL, hE, hT, hro, hS⟩ := open_ens k0 h0
  obtain ⟨b, rfl, _, _, hb⟩ := ChangeShapes.open_int Try.underlying3 k1 h1
  exact tail_bel hro hS (lback_fn A c L T hA hT hro hL hE b)
namespace leavesBack
open Go.ChangeShapes Go.WideShapes Go.ChangeAt Go.RowKit
theorem own : ownKnob Try.prog.godebug = none := by kernel_rfl
theorem laidOut : laidOutB Try.prog = true := by kernel_rfl
set_option maxRecDepth 100000 in
theorem lifted (os : Os) (started : os.Started) (H : Type) (enc : TypeId × Value → H) :
    ReturnsInHanded {} Try.checked os 5 .any (Rows.leavesBackSpec.pre6 enc Try.prog Try.f5 Rows.leavesBackRow.domain false) (Rows.leavesBackSpec.post enc Try.prog Try.f5 false true false false) := by
  refine returnsInHanded_of_change (C := Try.checked) own started (by kernel_rfl) Try.func5
    (ChangeSpec.witness6 (enc := enc) (C := Try.checked) false ⟨#[], #[.slice none 0 0, .int .i64 0], []⟩ 8 (by kernel_rfl) (by kernel_rfl) (by kernel_rfl) (by kernel_rfl)) ?_
  intro W base args ds gs before hval0 hW hcnd _
  have hval : ∀ (j : Nat) t v, Try.f5.params[j]? = some t → args[j]? = some v → Value.okWide Try.prog W .any base t v := hval0
  have hW' := hW
  obtain ⟨p, q, hA0, hV, rfl, hfz, hnd⟩ := hW
  have hA : DataW.TrodAll enc Try.prog W 0 (fun _ => true) true Try.f5.params.toList args.toList ds p := hA0
  rw [Try.params5] at hA hval
  obtain ⟨v0, vs0, d0, ds0, p0, q0, hargs, rfl, rfl, h0, r0⟩ := trodAll_cons hA
  obtain ⟨v1, vs1, d1, ds1, p1, q1, rfl, rfl, rfl, h1, r1⟩ := trodAll_cons r0
  obtain ⟨rfl, rfl, rfl⟩ := trodAll_nil r1
  obtain rfl : args = #[v0, v1] := by cases args; simp_all
  obtain ⟨rfl, rfl⟩ := trodVars_none hV
  have lt0 : ∀ x ∈ p0, x.block < W.heap.size := by obtain ⟨m, hm⟩ := h0; exact DataW.trod_lt m _ _ _ hm
  have lt1 : ∀ x ∈ p1, x.block < W.heap.size := by obtain ⟨m, hm⟩ := h1; exact DataW.trod_lt m _ _ _ hm
  refine (LeavesBack_read W (hval 0 22 v0 rfl rfl) h0 (hval 1 3 v1 rfl rfl) h1).mono fun e W' ⟨he, bel0⟩ => ?_
  have bel : Below W.heap.size W W' := bel0
  subst he
  exact ⟨_, rfl, _, _, _, [], _, [], hW', trodAll_mk1 (shut_bool Try.underlying4 _), (trodAll_cons_mk (Below.trod laidOut (by kernel_rfl) (of_decide_eq_true (by kernel_rfl)) h0 bel lt0) (trodAll_cons_mk (Below.trod laidOut (by kernel_rfl) (of_decide_eq_true (by kernel_rfl)) h1 bel lt1) trodAll_mk0)), rfl, bel.frame _, fun h => by cases h⟩
theorem over : Rows.leavesBackRow.holds Try.pinned (OpenSpec.ofChange Rows.leavesBackSpec) :=
  OpenClaim.holds_of_wide 5 Try.f5 rfl rfl rfl rfl rfl rfl rfl ⟨rfl, rfl, rfl, rfl, rfl⟩ rfl rfl rfl rfl rfl (by kernel_rfl) Try.func5 (by kernel_rfl)
    (of_decide_eq_true (by kernel_rfl)) (by unfold Func.isWrapper; first | (rw [if_pos (by decide +kernel)]; kernel_rfl) | (rw [if_neg (by decide +kernel)]; exact ⟨rfl, rfl⟩))
    (fun os started H enc _ => lifted os started H enc)
theorem proved : Rows.LeavesBackSaid := over
#print axioms proved
end leavesBack
end Go.Proofs.Ytodclhiggafkbaa
