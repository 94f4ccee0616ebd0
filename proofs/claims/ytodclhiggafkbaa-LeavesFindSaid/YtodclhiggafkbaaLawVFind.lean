/- LeavesFind. No conditions. -/
import Derived.Test.YtodclhiggafkbaaLf17
namespace Go.Proofs.Ytodclhiggafkbaa
open Go.RowKit
set_option linter.unusedVariables false
set_option linter.unusedSimpArgs false
set_option maxRecDepth 100000
theorem textP_sm2 : ∀ ps : List (List En), (∀ P ∈ ps, EnsOk P ∧ P.length < 1000000) → (textP ps).length ≤ 10 * ps.length + 40 * ps.flatten.length
  | [], _ => by simp [textP]
  | P :: r, h => by
    have hE := (h P List.mem_cons_self).1
    have hl := (h P List.mem_cons_self).2
    have h0 := allB_len (numsQ_lt hE (by omega))
    rw [numsQ_len] at h0
    have h1 : (encQ P).1.length ≤ 10 + 40 * P.length := by
      unfold encQ
      split
      · split
        · exact Nat.zero_le _
        · show (allB (numsQ P)).length ≤ _
          omega
      · exact Nat.zero_le _
    have h2 := textP_sm2 r (fun Q hQ => h Q (List.mem_cons_of_mem _ hQ))
    simp only [textP, List.flatMap_cons, List.length_append, List.length_cons, List.flatten_cons] at h2 ⊢
    omega
theorem lfind_fn (A : Option Addr) (c : Nat) (L : List En) (T : Heap) (hA : ArgOk A L.length) (hT : 0 < L.length → T = roE A (ecells L)) (hro : Ro T) (hL : L.length ≤ maxLen) (hE : EnsOk L) (b : Int) (k : Nat) :
    Fn Try.prog 6 [.slice A L.length c, iq b, uq k] T fun v _ => v = .bool true := by
  have hL' : L.length ≤ 9223372036854775807 := hL
  refine Fn.enter (N := 126) Try.func6 rfl (by kernel_rfl) rfl (fun w0 => ?_)

  refine awp_seq_region (fun Z hZ => ?_)
  refine sx_assign rfl rfl ?_
  refine sx_nil (hZ _ _ ?_)
  refine awp_forget [(0, _), (1, _), (2, _)] (Kn.cons rfl (Kn.cons rfl (Kn.cons rfl (Kn.nil)))) ?_
  refine awp_seq ?_
  refine awp_seq_region (fun Z hZ => ?_)
  refine sx_move rfl rfl ?_
  first | refine sx_len Try.underlying22 rfl rfl ?_ | refine sx_lenS Try.underlying22 rfl rfl ?_
  first | refine sx_gtr rfl rfl rfl ?_ | refine sx_sgtr rfl rfl rfl ?_
  refine sx_nil (hZ _ _ ?_)
  refine awp_forget [(0, _), (1, _), (2, _), (23, _)] (Kn.cons rfl (Kn.cons rfl (Kn.cons rfl (Kn.cons rfl (Kn.nil))))) ?_
  first | refine awp_cond rfl (fun h => ?_) (fun h => ?_) | refine awp_seq (awp_cond rfl (fun h => ?_) (fun h => ?_))
  · refine awp_seq_region (fun Z hZ => ?_)
    refine sx_callP lawake_fn rfl rfl ?_
    refine sx_assign rfl rfl ?_
    refine sx_nil (hZ _ _ ?_)
    refine awp_forget [(6, _)] (Kn.cons rfl (Kn.nil)) ?_
    refine awp_ret ?_
    repeat (with_reducible (first | refine nx_then_ret ?_ | refine nx_block_ret ?_ | refine nx_scope_ret ?_))
    exact nx_ret1 rfl rfl rfl
  have h3 : L.length ≤ 150 := by simp at h; omega
  refine awp_skip ?_
  repeat (with_reducible (first | refine nx_block_normal ?_ | refine nx_scope_normal ?_))
  with_reducible first | refine nx_normal ?_ | refine nx_normalM ?_
  have hS := fun A1 c1 hA1 hnil hc1 => split_fn A1 c1 L (roE A1 (ecells L)) b hA1 (fun _ => rfl) (Ro.roE _ _) (by omega) hE hnil hc1
  obtain ⟨M, s, m, e, hD⟩ : ∃ M s m e, splitQ L b = (M, s, m, e) := ⟨_, _, _, _, rfl⟩
  rw [hD] at hS
  refine awp_seq_region (fun Z hZ => ?_)
  refine sx_move rfl rfl ?_
  refine sx_callRT T (eown_fn A c L T hA hT hro (by omega)) rfl (List.Sublist.refl _) hro rfl (fun v hv => ?_)
  obtain ⟨A1, c1, rfl, hA1, hle⟩ := hv.ro
  refine sx_pure (fun w hw => row_cap hv (fun x hx => List.mem_append_left _ hx) hw) (fun hcap => ?_)
  refine sx_heap (roE A1 (ecells L) ++ T) (hle [] T _ _ _) ?_
  refine sx_assign rfl rfl ?_
  refine sx_nil (hZ _ _ ?_)
  refine awp_forget [(1, _), (2, _), (7, _)] (Kn.cons rfl (Kn.cons rfl (Kn.cons rfl (Kn.nil)))) ?_
  have hnil1 : A1 = none → L.length = 0 := fun h => by
    rcases hA1 with ⟨_, h0⟩ | ⟨g, o, h0⟩
    · exact h0
    · rw [h] at h0; cases h0
  refine awp_heap (roE A1 (ecells L)) (HLe.sub (List.sublist_append_left _ _)) ?_
  refine awp_seq_region (fun Z hZ => ?_)
  refine sx_move rfl rfl ?_
  refine sx_move rfl rfl ?_
  refine sx_callU (roE A1 (ecells L)) (hS A1 c1 hA1.arg hnil1 hcap.1) rfl (List.Sublist.refl _) (Ro.roE _ _) rfl ?_
  rintro v H' ⟨u, rfl, hu, rfl⟩
  rw [rowE_flt]
  obtain ⟨A2, c2, rfl, hA2, hle2⟩ := hu.ro
  refine sx_heap (roE A2 (ecells M) ++ roE A1 (ecells L)) (hle2 [] _ _ _ _) ?_
  refine sx_move rfl rfl ?_
  refine sx_extract rfl rfl rfl ?_
  refine sx_extract rfl rfl rfl ?_
  refine sx_extract rfl rfl rfl ?_
  refine sx_extract rfl rfl rfl ?_
  refine sx_assign rfl rfl ?_
  refine sx_assign rfl rfl ?_
  refine sx_assign rfl rfl ?_
  refine sx_assign rfl rfl ?_
  refine sx_nil (hZ _ _ ?_)
  refine awp_forget [(2, _), (7, _), (8, _), (9, _), (10, _), (11, _)] (Kn.cons rfl (Kn.cons rfl (Kn.cons rfl (Kn.cons rfl (Kn.cons rfl (Kn.cons rfl (Kn.nil))))))) ?_
  by_cases hgo : e ≠ 0 ∨ m = 0
  · refine awp_seq ?_
    refine awp_seq_meet [(40, .bool true)] [] (fun Z hZ => ?_) ?_
    · refine sx_move rfl rfl ?_
      first | refine sx_neq rfl rfl rfl ?_ | refine sx_sneq rfl rfl rfl ?_
      refine sx_move rfl rfl ?_
      refine sx_split 37 rfl (fun hb2 => ?_) (fun hb2 => ?_)
      · refine sx_off rfl rfl rfl rfl rfl ?_
        refine sx_off rfl rfl rfl rfl rfl ?_
        refine sx_pick rfl rfl rfl ?_
        refine sx_nil (hZ _ _ ?_ ?_)
        · exact Kn.cons (congrArg some (congrArg Value.bool (by first | (simp at *; done) | (simp at *; omega)))) Kn.nil
        · exact HLe.sub (List.nil_sublist _)
      · refine sx_on rfl rfl rfl ?_
        refine sx_move rfl rfl ?_
        refine sx_on rfl rfl rfl ?_
        first | refine sx_eql rfl rfl rfl ?_ | refine sx_seql rfl rfl rfl ?_
        refine sx_pick rfl rfl rfl ?_
        refine sx_nil (hZ _ _ ?_ ?_)
        · exact Kn.cons (congrArg some (congrArg Value.bool (by first | (simp at *; done) | (simp at *; omega)))) Kn.nil
        · exact HLe.sub (List.nil_sublist _)
    first | refine awp_cond rfl (fun h4 => ?_) (fun h4 => ?_) | refine awp_seq (awp_cond rfl (fun h4 => ?_) (fun h4 => ?_))
    · refine awp_seq_region (fun Z hZ => ?_)
      refine sx_callP lawake_fn rfl rfl ?_
      refine sx_assign rfl rfl ?_
      refine sx_nil (hZ _ _ ?_)
      refine awp_forget [(6, _)] (Kn.cons rfl (Kn.nil)) ?_
      refine awp_ret ?_
      repeat (with_reducible (first | refine nx_then_ret ?_ | refine nx_block_ret ?_ | refine nx_scope_ret ?_))
      exact nx_ret1 rfl rfl rfl
    · cases h4
  have he : e = 0 := by omega
  have hm : m ≠ 0 := by omega
  subst he
  obtain ⟨hEM, hMl, hrc, hsl, hfind0, hfind1⟩ : EnsOk M ∧ M.length ≤ L.length ∧ rowC M = 0 ∧ s.length ≤ 50 * L.length ∧ (leQ k M = 0 → findQ M k = (zeroEn, false) ∧ findQ L k = (zeroEn, false)) ∧
      ∀ i, leQ k M = i + 1 → ∃ P t, findQ M k = (rootE t P, true) ∧ EnsOk P ∧ P.length ≤ m ∧ P.length ≤ L.length ∧ findQ P k = findQ L k ∧ t + (encQ P).1.length ≤ s.length ∧ ∃ q, decQ ((s.drop t).take (encQ P).1.length) = (P, q, 0) := by
    rcases splitQ_cases L b with ⟨e', he', h1⟩ | ⟨hr, hh, hb1, hb2, h1⟩
    · rw [hD] at h1
      exact absurd (congrArg (·.2.2.2) h1).symm he'
    rcases h1 with ⟨h1, _⟩ | ⟨y, hy, hok, h1⟩
    · rw [hD] at h1
      exact absurd (congrArg (·.2.2.1) h1) hm
    rw [hD] at h1
    simp only [Prod.mk.injEq] at h1
    obtain ⟨rfl, rfl, rfl, _⟩ := h1
    obtain ⟨f1, f2, f3, f4⟩ := find_root (k := k) hE hr hh hy hok
    have hpl : (pcs L m).length ≤ L.length := by rw [pcs_len]; exact cntP_le hy
    obtain ⟨hP, _⟩ := okQ_facts hy hE hh hok
    refine ⟨f1, by rw [rootR_len]; exact hpl, f2, ?_, f3, f4⟩
    have := textP_sm2 (pcs L m) (fun P h => ⟨(hP P h).2.1, by
      obtain ⟨q, _, hq⟩ := List.mem_map.1 h
      rw [← hq, pcL_len]
      omega⟩)
    rw [pcs_flat hy] at this
    omega
  refine awp_seq ?_
  refine awp_seq_meet [(2, uq k), (7, .slice A1 L.length c1), (8, .slice A2 M.length c2), (9, .string (str s)), (10, iq (m : Nat)), (40, .bool false)] (roE A2 (ecells M) ++ roE A1 (ecells L)) (fun Z hZ => ?_) ?_
  · refine sx_move rfl rfl ?_
    first | refine sx_neq rfl rfl rfl ?_ | refine sx_sneq rfl rfl rfl ?_
    refine sx_move rfl rfl ?_
    refine sx_split 37 rfl (fun hb2 => ?_) (fun hb2 => ?_)
    · refine sx_off rfl rfl rfl rfl rfl ?_
      refine sx_off rfl rfl rfl rfl rfl ?_
      refine sx_pick rfl rfl rfl ?_
      refine sx_nil (hZ _ _ ?_ ?_)
      · exact Kn.cons rfl (Kn.cons rfl (Kn.cons rfl (Kn.cons rfl (Kn.cons rfl (Kn.cons (congrArg some (congrArg Value.bool (by first | (simp at *; done) | (simp at *; omega)))) Kn.nil)))))
      · exact HLe.refl _
    · refine sx_on rfl rfl rfl ?_
      refine sx_move rfl rfl ?_
      refine sx_on rfl rfl rfl ?_
      first | refine sx_eql rfl rfl rfl ?_ | refine sx_seql rfl rfl rfl ?_
      refine sx_pick rfl rfl rfl ?_
      refine sx_nil (hZ _ _ ?_ ?_)
      · exact Kn.cons rfl (Kn.cons rfl (Kn.cons rfl (Kn.cons rfl (Kn.cons rfl (Kn.cons (congrArg some (congrArg Value.bool (by first | (simp at *; done) | (simp at *; omega)))) Kn.nil)))))
      · exact HLe.refl _
  first | refine awp_cond rfl (fun h4 => ?_) (fun h4 => ?_) | refine awp_seq (awp_cond rfl (fun h4 => ?_) (fun h4 => ?_))
  · cases h4
  refine awp_skip ?_
  repeat (with_reducible (first | refine nx_block_normal ?_ | refine nx_scope_normal ?_))
  with_reducible first | refine nx_normal ?_ | refine nx_normalM ?_
  have hfL := find_fn A1 c1 L _ hA1.arg (fun _ => rfl) (Ro.roE _ _) (by omega) hE k
  have hfM := find_fn A2 c2 M _ hA2.arg (fun _ => rfl) (Ro.roE _ _) (by omega) hEM k
  obtain ⟨x, w, hxw⟩ : ∃ x w, findQ L k = (x, w) := ⟨_, _, rfl⟩
  rcases Nat.eq_zero_or_pos (leQ k M) with hle0 | hle0
  · obtain ⟨q1, q2⟩ := hfind0 hle0
    rw [q1] at hfM
    rw [q2] at hfL
    refine awp_seq_region (fun Z hZ => ?_)
    refine sx_move rfl rfl ?_
    refine sx_move rfl rfl ?_
    refine sx_callPT (roE A1 (ecells L)) hfL rfl (List.sublist_append_right _ _) (Ro.roE _ _) rfl ?_
    refine sx_move rfl rfl ?_
    refine sx_extract rfl rfl rfl ?_
    refine sx_extract rfl rfl rfl ?_
    refine sx_alloc tyZ52 rfl (fun g1 => ?_)
    first | refine sx_store 0 rfl rfl rfl tyS52 (by first | (simp only [Value.cells]; first | done | rfl) | rfl) rfl rfl (by first | (simp only [List.length_cons, List.length_nil, Nat.reduceAdd, Nat.zero_add, Nat.add_zero]; first | done | rfl) | rfl) (by first | (simp only [List.take_succ_cons, List.take_zero, List.drop_succ_cons, List.drop_zero, List.cons_append, List.nil_append, List.append_nil, List.length_cons, List.length_nil, Nat.reduceAdd, Nat.zero_add, Nat.add_zero, Value.cells, wrV]; first | done | rfl) | rfl) (by first | (simp only [List.set_cons_succ, List.set_cons_zero]; first | done | rfl) | rfl) ?_
    refine sx_assign rfl rfl ?_
    refine sx_nil (hZ _ _ ?_)
    refine awp_forget [(2, _), (8, _), (9, _), (10, _), (12, _), (13, _)] (Kn.cons rfl (Kn.cons rfl (Kn.cons rfl (Kn.cons rfl (Kn.cons rfl (Kn.cons rfl (Kn.nil))))))) ?_
    refine awp_seq_region (fun Z hZ => ?_)
    refine sx_move rfl rfl ?_
    refine sx_move rfl rfl ?_
    refine sx_callPT (roE A2 (ecells M)) hfM rfl ((List.sublist_append_left _ _).trans (List.sublist_cons_self _ _)) (Ro.roE _ _) rfl ?_
    refine sx_move rfl rfl ?_
    refine sx_extract rfl rfl rfl ?_
    refine sx_extract rfl rfl rfl ?_
    refine sx_alloc tyZ52 rfl (fun g2 => ?_)
    first | refine sx_store 0 rfl rfl rfl tyS52 (by first | (simp only [Value.cells]; first | done | rfl) | rfl) rfl rfl (by first | (simp only [List.length_cons, List.length_nil, Nat.reduceAdd, Nat.zero_add, Nat.add_zero]; first | done | rfl) | rfl) (by first | (simp only [List.take_succ_cons, List.take_zero, List.drop_succ_cons, List.drop_zero, List.cons_append, List.nil_append, List.append_nil, List.length_cons, List.length_nil, Nat.reduceAdd, Nat.zero_add, Nat.add_zero, Value.cells, wrV]; first | done | rfl) | rfl) (by first | (simp only [List.set_cons_succ, List.set_cons_zero]; first | done | rfl) | rfl) ?_ | refine sx_store 1 rfl rfl rfl tyS52 (by first | (simp only [Value.cells]; first | done | rfl) | rfl) rfl rfl (by first | (simp only [List.length_cons, List.length_nil, Nat.reduceAdd, Nat.zero_add, Nat.add_zero]; first | done | rfl) | rfl) (by first | (simp only [List.take_succ_cons, List.take_zero, List.drop_succ_cons, List.drop_zero, List.cons_append, List.nil_append, List.append_nil, List.length_cons, List.length_nil, Nat.reduceAdd, Nat.zero_add, Nat.add_zero, Value.cells, wrV]; first | done | rfl) | rfl) (by first | (simp only [List.set_cons_succ, List.set_cons_zero]; first | done | rfl) | rfl) ?_
    refine sx_assign rfl rfl ?_
    refine sx_nil (hZ _ _ ?_)
    refine awp_forget [(2, _), (9, _), (10, _), (12, _), (13, _), (14, _), (15, _)] (Kn.cons rfl (Kn.cons rfl (Kn.cons rfl (Kn.cons rfl (Kn.cons rfl (Kn.cons rfl (Kn.cons rfl (Kn.nil)))))))) ?_
    refine awp_seq ?_
    refine awp_seq_region (fun Z hZ => ?_)
    refine sx_move rfl rfl ?_
    refine sx_not rfl rfl ?_
    refine sx_nil (hZ _ _ ?_)
    refine awp_forget [(2, _), (9, _), (10, _), (12, _), (13, _), (14, _), (55, _)] (Kn.cons rfl (Kn.cons rfl (Kn.cons rfl (Kn.cons rfl (Kn.cons rfl (Kn.cons rfl (Kn.cons rfl (Kn.nil)))))))) ?_
    first | refine awp_cond rfl (fun h5 => ?_) (fun h5 => ?_) | refine awp_seq (awp_cond rfl (fun h5 => ?_) (fun h5 => ?_))
    · refine awp_seq_meet [(6, .bool true)] [] (fun Z hZ => ?_) ?_
      · refine sx_move rfl rfl ?_
        refine sx_not rfl rfl ?_
        refine sx_move rfl rfl ?_
        refine sx_force 58 rfl true (by first | rfl | (simp; done)) ?_
        refine sx_on rfl rfl rfl ?_
        refine sx_callP lawake_fn rfl rfl ?_
        refine sx_pick rfl rfl rfl ?_
        refine sx_assign rfl rfl ?_
        refine sx_nil (hZ _ _ ?_ ?_)
        · exact Kn.cons rfl Kn.nil
        · exact HLe.sub (List.nil_sublist _)
      refine awp_ret ?_
      repeat (with_reducible (first | refine nx_then_ret ?_ | refine nx_block_ret ?_ | refine nx_scope_ret ?_))
      exact nx_ret1 rfl rfl rfl
    · cases h5
  obtain ⟨i, hi⟩ : ∃ i, leQ k M = i + 1 := ⟨leQ k M - 1, by omega⟩
  obtain ⟨P, t, q1, hEP, hPm, hPl, q2, hts, q, hdq⟩ := hfind1 i hi
  obtain ⟨S, hSe⟩ : ∃ S, (s.drop t).take (encQ P).1.length = S := ⟨_, rfl⟩
  rw [hSe] at hdq
  have hSl : S.length ≤ 1000000 := by rw [← hSe, List.length_take, List.length_drop]; omega
  have hdec := ddecode_fn S hSl
  rw [hdq] at hdec
  obtain ⟨n, hn⟩ : ∃ n, (encQ P).1.length = n := ⟨_, rfl⟩
  obtain ⟨p, hp⟩ : ∃ p, rootE t P = p := ⟨_, rfl⟩
  have hpo : p.off = t := by rw [← hp]; rfl
  have hpn : p.len = n := by rw [← hp, ← hn]; rfl
  have hpr : p.run = 0 := by rw [← hp]; rfl
  rw [hn] at hSe hts
  rw [q1, hp] at hfM
  rw [hxw] at hfL
  have hfP := fun A3 c3 hA3 => find_fn A3 c3 P (roE A3 (ecells P)) hA3 (fun _ => rfl) (Ro.roE _ _) (by omega) hEP k
  rw [q2, hxw] at hfP
  refine awp_seq_region (fun Z hZ => ?_)
  refine sx_move rfl rfl ?_
  refine sx_move rfl rfl ?_
  refine sx_callPT (roE A1 (ecells L)) hfL rfl (List.sublist_append_right _ _) (Ro.roE _ _) rfl ?_
  refine sx_move rfl rfl ?_
  refine sx_extract rfl rfl rfl ?_
  refine sx_extract rfl rfl rfl ?_
  refine sx_alloc tyZ52 rfl (fun g3 => ?_)
  first | refine sx_store 0 rfl rfl rfl tyS52 (by first | (simp only [Value.cells]; first | done | rfl) | rfl) rfl rfl (by first | (simp only [List.length_cons, List.length_nil, Nat.reduceAdd, Nat.zero_add, Nat.add_zero]; first | done | rfl) | rfl) (by first | (simp only [List.take_succ_cons, List.take_zero, List.drop_succ_cons, List.drop_zero, List.cons_append, List.nil_append, List.append_nil, List.length_cons, List.length_nil, Nat.reduceAdd, Nat.zero_add, Nat.add_zero, Value.cells, wrV]; first | done | rfl) | rfl) (by first | (simp only [List.set_cons_succ, List.set_cons_zero]; first | done | rfl) | rfl) ?_ | refine sx_store 1 rfl rfl rfl tyS52 (by first | (simp only [Value.cells]; first | done | rfl) | rfl) rfl rfl (by first | (simp only [List.length_cons, List.length_nil, Nat.reduceAdd, Nat.zero_add, Nat.add_zero]; first | done | rfl) | rfl) (by first | (simp only [List.take_succ_cons, List.take_zero, List.drop_succ_cons, List.drop_zero, List.cons_append, List.nil_append, List.append_nil, List.length_cons, List.length_nil, Nat.reduceAdd, Nat.zero_add, Nat.add_zero, Value.cells, wrV]; first | done | rfl) | rfl) (by first | (simp only [List.set_cons_succ, List.set_cons_zero]; first | done | rfl) | rfl) ?_ | refine sx_store 2 rfl rfl rfl tyS52 (by first | (simp only [Value.cells]; first | done | rfl) | rfl) rfl rfl (by first | (simp only [List.length_cons, List.length_nil, Nat.reduceAdd, Nat.zero_add, Nat.add_zero]; first | done | rfl) | rfl) (by first | (simp only [List.take_succ_cons, List.take_zero, List.drop_succ_cons, List.drop_zero, List.cons_append, List.nil_append, List.append_nil, List.length_cons, List.length_nil, Nat.reduceAdd, Nat.zero_add, Nat.add_zero, Value.cells, wrV]; first | done | rfl) | rfl) (by first | (simp only [List.set_cons_succ, List.set_cons_zero]; first | done | rfl) | rfl) ?_
  refine sx_assign rfl rfl ?_
  refine sx_nil (hZ _ _ ?_)
  refine awp_forget [(2, _), (8, _), (9, _), (10, _), (12, _), (13, _)] (Kn.cons rfl (Kn.cons rfl (Kn.cons rfl (Kn.cons rfl (Kn.cons rfl (Kn.cons rfl (Kn.nil))))))) ?_
  refine awp_seq_region (fun Z hZ => ?_)
  refine sx_move rfl rfl ?_
  refine sx_move rfl rfl ?_
  refine sx_callPT (roE A2 (ecells M)) hfM rfl ((List.sublist_append_left _ _).trans (List.sublist_cons_self _ _)) (Ro.roE _ _) rfl ?_
  refine sx_move rfl rfl ?_
  refine sx_extract rfl rfl rfl ?_
  refine sx_extract rfl rfl rfl ?_
  refine sx_alloc tyZ52 rfl (fun g4 => ?_)
  first | refine sx_store 0 rfl rfl rfl tyS52 (by first | (simp only [Value.cells]; first | done | rfl) | rfl) rfl rfl (by first | (simp only [List.length_cons, List.length_nil, Nat.reduceAdd, Nat.zero_add, Nat.add_zero]; first | done | rfl) | rfl) (by first | (simp only [List.take_succ_cons, List.take_zero, List.drop_succ_cons, List.drop_zero, List.cons_append, List.nil_append, List.append_nil, List.length_cons, List.length_nil, Nat.reduceAdd, Nat.zero_add, Nat.add_zero, Value.cells, wrV]; first | done | rfl) | rfl) (by first | (simp only [List.set_cons_succ, List.set_cons_zero]; first | done | rfl) | rfl) ?_ | refine sx_store 1 rfl rfl rfl tyS52 (by first | (simp only [Value.cells]; first | done | rfl) | rfl) rfl rfl (by first | (simp only [List.length_cons, List.length_nil, Nat.reduceAdd, Nat.zero_add, Nat.add_zero]; first | done | rfl) | rfl) (by first | (simp only [List.take_succ_cons, List.take_zero, List.drop_succ_cons, List.drop_zero, List.cons_append, List.nil_append, List.append_nil, List.length_cons, List.length_nil, Nat.reduceAdd, Nat.zero_add, Nat.add_zero, Value.cells, wrV]; first | done | rfl) | rfl) (by first | (simp only [List.set_cons_succ, List.set_cons_zero]; first | done | rfl) | rfl) ?_ | refine sx_store 2 rfl rfl rfl tyS52 (by first | (simp only [Value.cells]; first | done | rfl) | rfl) rfl rfl (by first | (simp only [List.length_cons, List.length_nil, Nat.reduceAdd, Nat.zero_add, Nat.add_zero]; first | done | rfl) | rfl) (by first | (simp only [List.take_succ_cons, List.take_zero, List.drop_succ_cons, List.drop_zero, List.cons_append, List.nil_append, List.append_nil, List.length_cons, List.length_nil, Nat.reduceAdd, Nat.zero_add, Nat.add_zero, Value.cells, wrV]; first | done | rfl) | rfl) (by first | (simp only [List.set_cons_succ, List.set_cons_zero]; first | done | rfl) | rfl) ?_ | refine sx_store 3 rfl rfl rfl tyS52 (by first | (simp only [Value.cells]; first | done | rfl) | rfl) rfl rfl (by first | (simp only [List.length_cons, List.length_nil, Nat.reduceAdd, Nat.zero_add, Nat.add_zero]; first | done | rfl) | rfl) (by first | (simp only [List.take_succ_cons, List.take_zero, List.drop_succ_cons, List.drop_zero, List.cons_append, List.nil_append, List.append_nil, List.length_cons, List.length_nil, Nat.reduceAdd, Nat.zero_add, Nat.add_zero, Value.cells, wrV]; first | done | rfl) | rfl) (by first | (simp only [List.set_cons_succ, List.set_cons_zero]; first | done | rfl) | rfl) ?_
  refine sx_assign rfl rfl ?_
  refine sx_nil (hZ _ _ ?_)
  refine awp_forget [(2, _), (9, _), (10, _), (12, _), (13, _), (14, _), (15, _)] (Kn.cons rfl (Kn.cons rfl (Kn.cons rfl (Kn.cons rfl (Kn.cons rfl (Kn.cons rfl (Kn.cons rfl (Kn.nil)))))))) ?_
  refine awp_seq ?_
  refine awp_seq_region (fun Z hZ => ?_)
  refine sx_move rfl rfl ?_
  refine sx_not rfl rfl ?_
  refine sx_nil (hZ _ _ ?_)
  refine awp_forget [(2, _), (9, _), (10, _), (12, _), (13, _), (14, _), (55, _)] (Kn.cons rfl (Kn.cons rfl (Kn.cons rfl (Kn.cons rfl (Kn.cons rfl (Kn.cons rfl (Kn.cons rfl (Kn.nil)))))))) ?_
  first | refine awp_cond rfl (fun h5 => ?_) (fun h5 => ?_) | refine awp_seq (awp_cond rfl (fun h5 => ?_) (fun h5 => ?_))
  · cases h5
  refine awp_skip ?_
  repeat (with_reducible (first | refine nx_block_normal ?_ | refine nx_scope_normal ?_))
  with_reducible first | refine nx_normal ?_ | refine nx_normalM ?_

  refine awp_seq ?_
  refine awp_seq_meet [(2, uq k), (9, .string (str s)), (10, iq (m : Nat)), (12, ptr g3 0), (13, .bool w), (14, ptr g4 0), (83, .bool false)] [.own g4 52 p.cells, .own g3 52 x.cells] (fun Z hZ => ?_) ?_
  · refine sx_fieldAddr rfl tyF52_3 (by first | (simp only [Nat.reduceAdd, Nat.add_zero, Nat.zero_add]; first | done | rfl) | rfl) rfl ?_
    first | refine sx_load 0 rfl rfl tyA50 tyS50 rfl rfl ?_ | refine sx_load 1 rfl rfl tyA50 tyS50 rfl rfl ?_
    first | refine sx_neq rfl rfl rfl ?_ | refine sx_sneq rfl rfl rfl ?_
    refine sx_move rfl rfl ?_
    refine sx_force 64 rfl false (by first | rfl | (simp [hpr]; done) | (simp [hpr]; omega)) ?_
    refine sx_on rfl rfl rfl ?_
    refine sx_fieldAddr rfl tyF52_1 (by first | (simp only [Nat.reduceAdd, Nat.add_zero, Nat.zero_add]; first | done | rfl) | rfl) rfl ?_
    refine sx_on rfl rfl rfl ?_
    first | refine sx_load 0 rfl rfl tyA47 tyS47 rfl rfl ?_ | refine sx_load 1 rfl rfl tyA47 tyS47 rfl rfl ?_
    refine sx_on rfl rfl rfl ?_
    refine sx_move rfl rfl ?_
    refine sx_on rfl rfl rfl ?_
    first | refine sx_len Try.underlying9 rfl rfl ?_ | refine sx_lenS Try.underlying9 rfl rfl ?_
    refine sx_on rfl rfl rfl ?_
    refine sx_conv Try.underlying3 Try.underlying47 rfl ((s.length : Nat) : Int) (by rw [IntWalk.u64_in _ (by omega)]) rfl ?_
    refine sx_on rfl rfl rfl ?_
    first | refine sx_gtr rfl rfl rfl ?_ | refine sx_sgtr rfl rfl rfl ?_
    refine sx_pick rfl rfl rfl ?_
    refine sx_move rfl rfl ?_
    refine sx_force 72 rfl false (by first | rfl | (simp [hpr]; done) | (simp [hpr]; omega)) ?_
    refine sx_on rfl rfl rfl ?_
    refine sx_fieldAddr rfl tyF52_1 (by first | (simp only [Nat.reduceAdd, Nat.add_zero, Nat.zero_add]; first | done | rfl) | rfl) rfl ?_
    refine sx_on rfl rfl rfl ?_
    first | refine sx_load 0 rfl rfl tyA47 tyS47 rfl rfl ?_ | refine sx_load 1 rfl rfl tyA47 tyS47 rfl rfl ?_
    refine sx_on rfl rfl rfl ?_
    refine sx_fieldAddr rfl tyF52_2 (by first | (simp only [Nat.reduceAdd, Nat.add_zero, Nat.zero_add]; first | done | rfl) | rfl) rfl ?_
    refine sx_on rfl rfl rfl ?_
    first | refine sx_load 0 rfl rfl tyA50 tyS50 rfl rfl ?_ | refine sx_load 1 rfl rfl tyA50 tyS50 rfl rfl ?_
    refine sx_on rfl rfl rfl ?_
    refine sx_conv Try.underlying50 Try.underlying47 rfl ((p.len : Nat) : Int) (by rw [IntWalk.u64_in _ (by omega)]) rfl ?_
    refine sx_on rfl rfl rfl ?_
    refine sx_add rfl rfl ((p.off + p.len : Nat) : Int) (by rw [IntWalk.u64_in _ (by omega)]; omega) rfl ?_
    refine sx_on rfl rfl rfl ?_
    refine sx_move rfl rfl ?_
    refine sx_on rfl rfl rfl ?_
    first | refine sx_len Try.underlying9 rfl rfl ?_ | refine sx_lenS Try.underlying9 rfl rfl ?_
    refine sx_on rfl rfl rfl ?_
    refine sx_conv Try.underlying3 Try.underlying47 rfl ((s.length : Nat) : Int) (by rw [IntWalk.u64_in _ (by omega)]) rfl ?_
    refine sx_on rfl rfl rfl ?_
    first | refine sx_gtr rfl rfl rfl ?_ | refine sx_sgtr rfl rfl rfl ?_
    refine sx_pick rfl rfl rfl ?_
    refine sx_nil (hZ _ _ ?_ ?_)
    · exact Kn.cons rfl (Kn.cons rfl (Kn.cons rfl (Kn.cons rfl (Kn.cons rfl (Kn.cons rfl (Kn.cons (congrArg some (congrArg Value.bool (by simp; omega))) Kn.nil))))))
    · exact HLe.sub (List.Sublist.cons_cons _ (List.Sublist.cons_cons _ (List.nil_sublist _)))
  first | refine awp_cond rfl (fun h6 => ?_) (fun h6 => ?_) | refine awp_seq (awp_cond rfl (fun h6 => ?_) (fun h6 => ?_))
  · cases h6
  refine awp_skip ?_
  repeat (with_reducible (first | refine nx_block_normal ?_ | refine nx_scope_normal ?_))
  with_reducible first | refine nx_normal ?_ | refine nx_normalM ?_
  refine awp_seq_region (fun Z hZ => ?_)
  refine sx_move rfl rfl ?_
  refine sx_fieldAddr rfl tyF52_1 (by first | (simp only [Nat.reduceAdd, Nat.add_zero, Nat.zero_add]; first | done | rfl) | rfl) rfl ?_
  first | refine sx_load 0 rfl rfl tyA47 tyS47 rfl rfl ?_ | refine sx_load 1 rfl rfl tyA47 tyS47 rfl rfl ?_
  refine sx_fieldAddr rfl tyF52_1 (by first | (simp only [Nat.reduceAdd, Nat.add_zero, Nat.zero_add]; first | done | rfl) | rfl) rfl ?_
  first | refine sx_load 0 rfl rfl tyA47 tyS47 rfl rfl ?_ | refine sx_load 1 rfl rfl tyA47 tyS47 rfl rfl ?_
  refine sx_fieldAddr rfl tyF52_2 (by first | (simp only [Nat.reduceAdd, Nat.add_zero, Nat.zero_add]; first | done | rfl) | rfl) rfl ?_
  first | refine sx_load 0 rfl rfl tyA50 tyS50 rfl rfl ?_ | refine sx_load 1 rfl rfl tyA50 tyS50 rfl rfl ?_
  refine sx_conv Try.underlying50 Try.underlying47 rfl ((p.len : Nat) : Int) (by rw [IntWalk.u64_in _ (by omega)]) rfl ?_
  refine sx_add rfl rfl ((p.off + p.len : Nat) : Int) (by rw [IntWalk.u64_in _ (by omega)]; omega) rfl ?_
  refine sx_sliceS S Try.underlying9 rfl rfl rfl (by omega) (by omega) (by omega) (by rw [← hSe, hpo, hpn]; simp only [Int.toNat_natCast]; rw [Nat.add_sub_cancel_left]) rfl ?_
  refine sx_callO [] [_, _] hdec rfl (HLe.refl _) rfl ?_
  rintro v H' ⟨u, rfl, hu, rfl⟩
  rw [rowE_flt]
  obtain ⟨A3, c3, rfl, hA3, hle3⟩ := hu.ro
  refine sx_heap (roE A3 (ecells P) ++ [.own g4 52 p.cells, .own g3 52 x.cells]) (hle3 [] _ _ _ _) ?_
  refine sx_move rfl rfl ?_
  refine sx_extract rfl rfl rfl ?_
  refine sx_extract rfl rfl rfl ?_
  refine sx_extract rfl rfl rfl ?_
  refine sx_assign rfl rfl ?_
  refine sx_assign rfl rfl ?_
  refine sx_assign rfl rfl ?_
  refine sx_nil (hZ _ _ ?_)
  refine awp_forget [(2, _), (10, _), (12, _), (13, _), (16, _), (18, _)] (Kn.cons rfl (Kn.cons rfl (Kn.cons rfl (Kn.cons rfl (Kn.cons rfl (Kn.cons rfl (Kn.nil))))))) ?_
  refine awp_seq_region (fun Z hZ => ?_)
  refine sx_move rfl rfl ?_
  refine sx_move rfl rfl ?_
  refine sx_callPT (roE A3 (ecells P)) (hfP A3 c3 hA3.arg) rfl (List.sublist_append_left _ _) (Ro.roE _ _) rfl ?_
  refine sx_heap [.own g3 52 x.cells] (HLe.sub ((List.sublist_cons_self _ _).trans (List.sublist_append_right _ _))) ?_
  refine sx_move rfl rfl ?_
  refine sx_extract rfl rfl rfl ?_
  refine sx_extract rfl rfl rfl ?_
  refine sx_alloc tyZ52 rfl (fun g5 => ?_)
  first | refine sx_store 0 rfl rfl rfl tyS52 (by first | (simp only [Value.cells]; first | done | rfl) | rfl) rfl rfl (by first | (simp only [List.length_cons, List.length_nil, Nat.reduceAdd, Nat.zero_add, Nat.add_zero]; first | done | rfl) | rfl) (by first | (simp only [List.take_succ_cons, List.take_zero, List.drop_succ_cons, List.drop_zero, List.cons_append, List.nil_append, List.append_nil, List.length_cons, List.length_nil, Nat.reduceAdd, Nat.zero_add, Nat.add_zero, Value.cells, wrV]; first | done | rfl) | rfl) (by first | (simp only [List.set_cons_succ, List.set_cons_zero]; first | done | rfl) | rfl) ?_ | refine sx_store 1 rfl rfl rfl tyS52 (by first | (simp only [Value.cells]; first | done | rfl) | rfl) rfl rfl (by first | (simp only [List.length_cons, List.length_nil, Nat.reduceAdd, Nat.zero_add, Nat.add_zero]; first | done | rfl) | rfl) (by first | (simp only [List.take_succ_cons, List.take_zero, List.drop_succ_cons, List.drop_zero, List.cons_append, List.nil_append, List.append_nil, List.length_cons, List.length_nil, Nat.reduceAdd, Nat.zero_add, Nat.add_zero, Value.cells, wrV]; first | done | rfl) | rfl) (by first | (simp only [List.set_cons_succ, List.set_cons_zero]; first | done | rfl) | rfl) ?_ | refine sx_store 2 rfl rfl rfl tyS52 (by first | (simp only [Value.cells]; first | done | rfl) | rfl) rfl rfl (by first | (simp only [List.length_cons, List.length_nil, Nat.reduceAdd, Nat.zero_add, Nat.add_zero]; first | done | rfl) | rfl) (by first | (simp only [List.take_succ_cons, List.take_zero, List.drop_succ_cons, List.drop_zero, List.cons_append, List.nil_append, List.append_nil, List.length_cons, List.length_nil, Nat.reduceAdd, Nat.zero_add, Nat.add_zero, Value.cells, wrV]; first | done | rfl) | rfl) (by first | (simp only [List.set_cons_succ, List.set_cons_zero]; first | done | rfl) | rfl) ?_
  refine sx_assign rfl rfl ?_
  refine sx_nil (hZ _ _ ?_)
  refine awp_forget [(10, _), (12, _), (13, _), (16, _), (18, _), (19, _), (20, _)] (Kn.cons rfl (Kn.cons rfl (Kn.cons rfl (Kn.cons rfl (Kn.cons rfl (Kn.cons rfl (Kn.cons rfl (Kn.nil)))))))) ?_
  refine awp_seq_meet [(6, .bool true)] [] (fun Z hZ => ?_) ?_
  · refine sx_move rfl rfl ?_
    first | refine sx_eql rfl rfl rfl ?_ | refine sx_seql rfl rfl rfl ?_
    refine sx_move rfl rfl ?_
    refine sx_force 107 rfl true (by first | rfl | (simp; done) | (simp; omega)) ?_
    refine sx_on rfl rfl rfl ?_
    first | refine sx_loadA 0 rfl rfl tyA52 tyS52 (by first | (simp only [List.length_cons, List.length_nil, Nat.reduceAdd, Nat.zero_add, Nat.add_zero]; first | done | rfl) | rfl) (by first | (simp only [List.take_succ_cons, List.take_zero, List.drop_succ_cons, List.drop_zero, List.cons_append, List.nil_append, List.append_nil, List.length_cons, List.length_nil, Nat.reduceAdd, Nat.zero_add, Nat.add_zero, Value.cells, wrV]; first | done | rfl) | rfl) rfl ?_ | refine sx_loadA 1 rfl rfl tyA52 tyS52 (by first | (simp only [List.length_cons, List.length_nil, Nat.reduceAdd, Nat.zero_add, Nat.add_zero]; first | done | rfl) | rfl) (by first | (simp only [List.take_succ_cons, List.take_zero, List.drop_succ_cons, List.drop_zero, List.cons_append, List.nil_append, List.append_nil, List.length_cons, List.length_nil, Nat.reduceAdd, Nat.zero_add, Nat.add_zero, Value.cells, wrV]; first | done | rfl) | rfl) rfl ?_ | refine sx_loadA 2 rfl rfl tyA52 tyS52 (by first | (simp only [List.length_cons, List.length_nil, Nat.reduceAdd, Nat.zero_add, Nat.add_zero]; first | done | rfl) | rfl) (by first | (simp only [List.take_succ_cons, List.take_zero, List.drop_succ_cons, List.drop_zero, List.cons_append, List.nil_append, List.append_nil, List.length_cons, List.length_nil, Nat.reduceAdd, Nat.zero_add, Nat.add_zero, Value.cells, wrV]; first | done | rfl) | rfl) rfl ?_
    refine sx_on rfl rfl rfl ?_
    first | refine sx_loadA 0 rfl rfl tyA52 tyS52 (by first | (simp only [List.length_cons, List.length_nil, Nat.reduceAdd, Nat.zero_add, Nat.add_zero]; first | done | rfl) | rfl) (by first | (simp only [List.take_succ_cons, List.take_zero, List.drop_succ_cons, List.drop_zero, List.cons_append, List.nil_append, List.append_nil, List.length_cons, List.length_nil, Nat.reduceAdd, Nat.zero_add, Nat.add_zero, Value.cells, wrV]; first | done | rfl) | rfl) rfl ?_ | refine sx_loadA 1 rfl rfl tyA52 tyS52 (by first | (simp only [List.length_cons, List.length_nil, Nat.reduceAdd, Nat.zero_add, Nat.add_zero]; first | done | rfl) | rfl) (by first | (simp only [List.take_succ_cons, List.take_zero, List.drop_succ_cons, List.drop_zero, List.cons_append, List.nil_append, List.append_nil, List.length_cons, List.length_nil, Nat.reduceAdd, Nat.zero_add, Nat.add_zero, Value.cells, wrV]; first | done | rfl) | rfl) rfl ?_ | refine sx_loadA 2 rfl rfl tyA52 tyS52 (by first | (simp only [List.length_cons, List.length_nil, Nat.reduceAdd, Nat.zero_add, Nat.add_zero]; first | done | rfl) | rfl) (by first | (simp only [List.take_succ_cons, List.take_zero, List.drop_succ_cons, List.drop_zero, List.cons_append, List.nil_append, List.append_nil, List.length_cons, List.length_nil, Nat.reduceAdd, Nat.zero_add, Nat.add_zero, Value.cells, wrV]; first | done | rfl) | rfl) rfl ?_
    refine sx_on rfl rfl rfl ?_
    refine sx_aeql (en_eq x x) guard_en rfl rfl rfl ?_
    rw [show enq x x = true from enq_iff.2 rfl]
    refine sx_pick rfl rfl rfl ?_
    refine sx_move rfl rfl ?_
    refine sx_force 112 rfl true (by first | rfl | (simp; done) | (simp; omega)) ?_
    refine sx_on rfl rfl rfl ?_
    refine sx_move rfl rfl ?_
    refine sx_on rfl rfl rfl ?_
    refine sx_move rfl rfl ?_
    refine sx_on rfl rfl rfl ?_
    refine sx_beql Try.underlying4 rfl rfl rfl ?_
    refine sx_pick rfl rfl rfl ?_
    refine sx_move rfl rfl ?_
    refine sx_force 117 rfl true (by first | rfl | (simp; done) | (simp; omega)) ?_
    refine sx_on rfl rfl rfl ?_
    refine sx_move rfl rfl ?_
    refine sx_on rfl rfl rfl ?_
    first | refine sx_len Try.underlying24 rfl rfl ?_ | refine sx_lenS Try.underlying24 rfl rfl ?_
    refine sx_on rfl rfl rfl ?_
    refine sx_move rfl rfl ?_
    refine sx_on rfl rfl rfl ?_
    first | refine sx_leq rfl rfl rfl ?_ | refine sx_sleq rfl rfl rfl ?_
    refine sx_pick rfl rfl rfl ?_
    refine sx_move rfl rfl ?_
    refine sx_force 123 rfl true (by first | rfl | (simp; done) | (simp; omega)) ?_
    refine sx_on rfl rfl rfl ?_
    refine sx_callP lawake_fn rfl rfl ?_
    refine sx_pick rfl rfl rfl ?_
    refine sx_assign rfl rfl ?_
    refine sx_nil (hZ _ _ ?_ ?_)
    · exact Kn.cons rfl Kn.nil
    · exact HLe.sub (List.nil_sublist _)
  refine awp_ret ?_
  repeat (with_reducible (first | refine nx_then_ret ?_ | refine nx_block_ret ?_ | refine nx_scope_ret ?_))
  exact nx_ret1 rfl rfl rfl
theorem LeavesFind_read {H : Type} {enc : TypeId × Value → H} (w : World) {base : Nat} {v0 v1 v2 : Value} {d0 d1 d2 : DataW H} {p0 p1 p2 : List MemPlace}
    (k0 : Value.okWide Try.prog w .any base 22 v0) (h0 : DataW.Trod enc Try.prog w 0 (fun _ => true) true 22 v0 d0 p0)
    (k1 : Value.okWide Try.prog w .any base 3 v1) (h1 : DataW.Trod enc Try.prog w 0 (fun _ => true) true 3 v1 d1 p1)
    (k2 : Value.okWide Try.prog w .any base 47 v2) (h2 : DataW.Trod enc Try.prog w 0 (fun _ => true) true 47 v2 d2 p2) :
    Calls Try.prog 6 #[v0, v1, v2] w fun e w' => e = .returned (.bool true) ∧ Bel w w' := by
  obtain ⟨A, c, L, T, rfl, hA, hL, hE, hT, hro, hS⟩ := open_ens k0 h0
  obtain ⟨b, rfl, _, _, hb⟩ := ChangeShapes.open_int Try.underlying3 k1 h1
  obtain ⟨k, rfl, _, _, hk⟩ := ChangeShapes.open_int Try.underlying47 k2 h2
  have hk := wf_u64 hk
  obtain ⟨j, rfl⟩ : ∃ a : Nat, k = a := ⟨k.toNat, by omega⟩
  exact tail_bel hro hS (lfind_fn A c L T hA hT hro hL hE b j)
namespace leavesFind
open Go.ChangeShapes Go.WideShapes Go.ChangeAt Go.RowKit
theorem own : ownKnob Try.prog.godebug = none := by kernel_rfl
theorem laidOut : laidOutB Try.prog = true := by kernel_rfl
set_option maxRecDepth 100000 in
theorem lifted (os : Os) (started : os.Started) (H : Type) (enc : TypeId × Value → H) :
    ReturnsInHanded {} Try.checked os 6 .any (Rows.leavesFindSpec.pre6 enc Try.prog Try.f6 Rows.leavesFindRow.domain false) (Rows.leavesFindSpec.post enc Try.prog Try.f6 false true false false) := by
  refine returnsInHanded_of_change (C := Try.checked) own started (by kernel_rfl) Try.func6
    (ChangeSpec.witness6 (enc := enc) (C := Try.checked) false ⟨#[], #[.slice none 0 0, .int .i64 0, .int .u64 0], []⟩ 8 (by kernel_rfl) (by kernel_rfl) (by kernel_rfl) (by kernel_rfl)) ?_
  intro W base args ds gs before hval0 hW hcnd _
  have hval : ∀ (j : Nat) t v, Try.f6.params[j]? = some t → args[j]? = some v → Value.okWide Try.prog W .any base t v := hval0
  have hW' := hW
  obtain ⟨p, q, hA0, hV, rfl, hfz, hnd⟩ := hW
  have hA : DataW.TrodAll enc Try.prog W 0 (fun _ => true) true Try.f6.params.toList args.toList ds p := hA0
  rw [Try.params6] at hA hval
  obtain ⟨v0, vs0, d0, ds0, p0, q0, hargs, rfl, rfl, h0, r0⟩ := trodAll_cons hA
  obtain ⟨v1, vs1, d1, ds1, p1, q1, rfl, rfl, rfl, h1, r1⟩ := trodAll_cons r0
  obtain ⟨v2, vs2, d2, ds2, p2, q2, rfl, rfl, rfl, h2, r2⟩ := trodAll_cons r1
  obtain ⟨rfl, rfl, rfl⟩ := trodAll_nil r2
  obtain rfl : args = #[v0, v1, v2] := by cases args; simp_all
  obtain ⟨rfl, rfl⟩ := trodVars_none hV
  have lt0 : ∀ x ∈ p0, x.block < W.heap.size := by obtain ⟨m, hm⟩ := h0; exact DataW.trod_lt m _ _ _ hm
  have lt1 : ∀ x ∈ p1, x.block < W.heap.size := by obtain ⟨m, hm⟩ := h1; exact DataW.trod_lt m _ _ _ hm
  have lt2 : ∀ x ∈ p2, x.block < W.heap.size := by obtain ⟨m, hm⟩ := h2; exact DataW.trod_lt m _ _ _ hm
  refine (LeavesFind_read W (hval 0 22 v0 rfl rfl) h0 (hval 1 3 v1 rfl rfl) h1 (hval 2 47 v2 rfl rfl) h2).mono fun e W' ⟨he, bel0⟩ => ?_
  have bel : Below W.heap.size W W' := bel0
  subst he
  exact ⟨_, rfl, _, _, _, [], _, [], hW', trodAll_mk1 (shut_bool Try.underlying4 _), (trodAll_cons_mk (Below.trod laidOut (by kernel_rfl) (of_decide_eq_true (by kernel_rfl)) h0 bel lt0) (trodAll_cons_mk (Below.trod laidOut (by kernel_rfl) (of_decide_eq_true (by kernel_rfl)) h1 bel lt1) (trodAll_cons_mk (Below.trod laidOut (by kernel_rfl) (of_decide_eq_true (by kernel_rfl)) h2 bel lt2) trodAll_mk0))), rfl, bel.frame _, fun h => by cases h⟩
theorem over : Rows.leavesFindRow.holds Try.pinned (OpenSpec.ofChange Rows.leavesFindSpec) :=
  OpenClaim.holds_of_wide 6 Try.f6 rfl rfl rfl rfl rfl rfl rfl ⟨rfl, rfl, rfl, rfl, rfl⟩ rfl rfl rfl rfl rfl (by kernel_rfl) Try.func6 (by kernel_rfl)
    (of_decide_eq_true (by kernel_rfl)) (by unfold Func.isWrapper; first | (rw [if_pos (by decide +kernel)]; kernel_rfl) | (rw [if_neg (by decide +kernel)]; exact ⟨rfl, rfl⟩))
    (fun os started H enc _ => lifted os started H enc)
theorem proved : Rows.LeavesFindSaid := over
#print axioms proved
end leavesFind
end Go.Proofs.Ytodclhiggafkbaa
