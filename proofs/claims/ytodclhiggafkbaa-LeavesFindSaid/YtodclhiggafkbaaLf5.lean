/- The walk of leaves.Split. Conditions: the lists are not too long. -/
import Derived.Test.YtodclhiggafkbaaLf4
namespace Go.Proofs.Ytodclhiggafkbaa
open Go.RowKit
set_option linter.unusedVariables false
set_option linter.unusedSimpArgs false
theorem okQ_bad {L : List En} {b : Int} {z j : Nat} {P : List En} (hP : (pcs L z)[j]? = some P) (he : (encQ P).2 ≠ 0) : okQ L b z = false := by
  unfold okQ
  rw [Bool.and_eq_false_iff]
  refine .inl ?_
  rw [List.all_eq_false]
  exact ⟨P, List.mem_of_getElem? hP, by simpa using he⟩
theorem le_rot (x : Ent) (a b c : Heap) : HLe ((c ++ b) ++ a) (x :: ((a ++ b) ++ c)) := fun _ _ _ hw => (hw.sub (List.sublist_cons_self x _)).perm (by
  rw [List.append_assoc c b a]
  exact List.perm_append_comm.trans (List.Perm.append_left c List.perm_append_comm))
theorem le_back (a b c : Heap) : HLe (a ++ (c ++ b)) ((a ++ b) ++ c) := fun _ _ _ hw => hw.perm (by
  rw [List.append_assoc]
  exact List.Perm.append_left a List.perm_append_comm)
theorem split_fn (A : Option Addr) (c : Nat) (L : List En) (T : Heap) (b : Int) (hA : ArgOk A L.length) (hT : 0 < L.length → T = roE A (ecells L)) (hro : Ro T) (hL : L.length ≤ 10000) (hE : EnsOk L) (hnil : A = none → L.length = 0) (hc : L.length ≤ c) :
    Fn Try.prog 9 [.slice A L.length c, iq b] T fun v H' => ∃ u, v = .tuple #[u, .string (str (splitQ L b).2.1), iq (splitQ L b).2.2.1, iq (splitQ L b).2.2.2] ∧ RowOk u (splitQ L b).1.length ∧ H' = rowE u 52 4 (ecells (splitQ L b).1) := by
  have hmax : L.length ≤ maxLen := by show _ ≤ 9223372036854775807; omega
  refine Fn.enter (N := 80) Try.func9 rfl (by kernel_rfl) rfl (fun w0 => ?_)

  refine awp_seq_region (fun Z hZ => ?_)
  refine sx_assign rfl rfl ?_
  refine sx_assign rfl rfl ?_
  refine sx_assign rfl rfl ?_
  refine sx_assign rfl rfl ?_
  refine sx_nil (hZ _ _ ?_)
  refine awp_forget [(0, _), (1, _)] (Kn.cons rfl (Kn.cons rfl (Kn.nil))) ?_
  refine awp_scope ?_
  refine awp_seq ?_
  refine awp_seq_meet [(0, .slice A L.length c), (1, iq b), (21, .bool (decide (b < 1 ∨ 16257 < b)))] T (fun Z hZ => ?_) ?_
  · refine sx_move rfl rfl ?_
    first | refine sx_lss rfl rfl rfl ?_ | refine sx_slss rfl rfl rfl ?_
    refine sx_move rfl rfl ?_
    refine sx_split 18 rfl (fun hb2 => ?_) (fun hb2 => ?_)
    · refine sx_off rfl rfl rfl rfl rfl ?_
      refine sx_off rfl rfl rfl rfl rfl ?_
      refine sx_pick rfl rfl rfl ?_
      refine sx_nil (hZ _ _ ?_ ?_)
      · exact Kn.cons rfl (Kn.cons rfl (Kn.cons (congrArg some (congrArg Value.bool (by first | (simp at *; done) | (simp at *; omega) | (simp at *; rw [Bool.eq_iff_iff]; simp; omega)))) Kn.nil))
      · exact HLe.refl _
    · refine sx_on rfl rfl rfl ?_
      refine sx_move rfl rfl ?_
      refine sx_on rfl rfl rfl ?_
      first | refine sx_gtr rfl rfl rfl ?_ | refine sx_sgtr rfl rfl rfl ?_
      refine sx_pick rfl rfl rfl ?_
      refine sx_nil (hZ _ _ ?_ ?_)
      · exact Kn.cons rfl (Kn.cons rfl (Kn.cons (congrArg some (congrArg Value.bool (by first | (simp at *; done) | (simp at *; omega) | (simp at *; rw [Bool.eq_iff_iff]; simp; omega)))) Kn.nil))
      · exact HLe.refl _
  first | refine awp_cond rfl (fun h => ?_) (fun h => ?_) | refine awp_seq (awp_cond rfl (fun h => ?_) (fun h => ?_))
  · have h1 : b < 1 ∨ 16257 < b := by simpa using h
    rw [show splitQ L b = ([], [], 0, 2) by unfold splitQ; rw [if_pos h1]]
    refine awp_seq_region (fun Z hZ => ?_)
    refine sx_assign rfl rfl ?_
    refine sx_assign rfl rfl ?_
    refine sx_assign rfl rfl ?_
    refine sx_assign rfl rfl ?_
    refine sx_nil (hZ _ _ ?_)
    refine awp_forget [(4, _), (5, _), (6, _), (7, _)] (Kn.cons rfl (Kn.cons rfl (Kn.cons rfl (Kn.cons rfl (Kn.nil))))) ?_
    refine awp_ret ?_
    repeat (with_reducible (first | refine nx_then_ret ?_ | refine nx_block_ret ?_ | refine nx_scope_ret ?_))
    exact nx_ret4h [] rfl rfl rfl rfl rfl (HLe.sub (List.nil_sublist _)) ⟨_, rfl, RowOk.nil, rfl⟩
  have h1 : ¬ (b < 1 ∨ 16257 < b) := by simpa using h
  refine awp_skip ?_
  repeat (with_reducible (first | refine nx_block_normal ?_ | refine nx_scope_normal ?_))
  with_reducible first | refine nx_normal ?_ | refine nx_normalM ?_
  refine awp_seq ?_
  refine awp_seq_region (fun Z hZ => ?_)
  refine sx_move rfl rfl ?_
  refine sx_callPT T (erow_fn A c L T hA hT hro hmax hE) rfl (List.Sublist.refl _) hro rfl ?_
  refine sx_assign rfl rfl ?_
  refine sx_nil (hZ _ _ ?_)
  refine awp_forget [(0, _), (1, _), (8, _)] (Kn.cons rfl (Kn.cons rfl (Kn.cons rfl (Kn.nil)))) ?_
  refine awp_seq_region (fun Z hZ => ?_)
  refine sx_move rfl rfl ?_
  first | refine sx_neq rfl rfl rfl ?_ | refine sx_sneq rfl rfl rfl ?_
  refine sx_nil (hZ _ _ ?_)
  refine awp_forget [(0, _), (1, _), (8, _), (25, _)] (Kn.cons rfl (Kn.cons rfl (Kn.cons rfl (Kn.cons rfl (Kn.nil))))) ?_
  first | refine awp_cond rfl (fun h2 => ?_) (fun h2 => ?_) | refine awp_seq (awp_cond rfl (fun h2 => ?_) (fun h2 => ?_))
  · have h2' : rowC L ≠ 0 := by simp at h2; omega
    rw [show splitQ L b = ([], [], 0, rowC L) by unfold splitQ; rw [if_neg h1, if_pos h2']]
    refine awp_seq_region (fun Z hZ => ?_)
    refine sx_move rfl rfl ?_
    refine sx_assign rfl rfl ?_
    refine sx_assign rfl rfl ?_
    refine sx_assign rfl rfl ?_
    refine sx_assign rfl rfl ?_
    refine sx_nil (hZ _ _ ?_)
    refine awp_forget [(4, _), (5, _), (6, _), (7, _)] (Kn.cons rfl (Kn.cons rfl (Kn.cons rfl (Kn.cons rfl (Kn.nil))))) ?_
    refine awp_ret ?_
    repeat (with_reducible (first | refine nx_then_ret ?_ | refine nx_block_ret ?_ | refine nx_scope_ret ?_))
    exact nx_ret4h [] rfl rfl rfl rfl rfl (HLe.sub (List.nil_sublist _)) ⟨_, rfl, RowOk.nil, rfl⟩
  have h2' : rowC L = 0 := by simp at h2; omega
  refine awp_skip ?_
  repeat (with_reducible (first | refine nx_block_normal ?_ | refine nx_scope_normal ?_))
  with_reducible first | refine nx_normal ?_ | refine nx_normalM ?_
  refine awp_seq ?_
  refine awp_seq_region (fun Z hZ => ?_)
  refine sx_move rfl rfl ?_
  refine sx_callPT T (contains_fn A c L T hA hT hro hmax hE) rfl (List.Sublist.refl _) hro rfl ?_
  refine sx_nil (hZ _ _ ?_)
  refine awp_forget [(0, _), (1, _), (28, _)] (Kn.cons rfl (Kn.cons rfl (Kn.cons rfl (Kn.nil)))) ?_
  first | refine awp_cond rfl (fun h3 => ?_) (fun h3 => ?_) | refine awp_seq (awp_cond rfl (fun h3 => ?_) (fun h3 => ?_))
  · have h3' : hasPtr L = true := h3
    rw [show splitQ L b = ([], [], 0, 14) by unfold splitQ; rw [if_neg h1, if_neg (by simpa using h2'), if_pos h3']]
    refine awp_seq_region (fun Z hZ => ?_)
    refine sx_assign rfl rfl ?_
    refine sx_assign rfl rfl ?_
    refine sx_assign rfl rfl ?_
    refine sx_assign rfl rfl ?_
    refine sx_nil (hZ _ _ ?_)
    refine awp_forget [(4, _), (5, _), (6, _), (7, _)] (Kn.cons rfl (Kn.cons rfl (Kn.cons rfl (Kn.cons rfl (Kn.nil))))) ?_
    refine awp_ret ?_
    repeat (with_reducible (first | refine nx_then_ret ?_ | refine nx_block_ret ?_ | refine nx_scope_ret ?_))
    exact nx_ret4h [] rfl rfl rfl rfl rfl (HLe.sub (List.nil_sublist _)) ⟨_, rfl, RowOk.nil, rfl⟩
  have h3' : ¬ hasPtr L = true := by rw [show hasPtr L = false from h3]; decide
  refine awp_skip ?_
  repeat (with_reducible (first | refine nx_block_normal ?_ | refine nx_scope_normal ?_))
  with_reducible first | refine nx_normal ?_ | refine nx_normalM ?_
  refine awp_seq ?_
  refine awp_seq_region (fun Z hZ => ?_)
  refine sx_move rfl rfl ?_
  refine sx_callPT T (dsize_fn A c L T hA hT hro (by omega) hE) rfl (List.Sublist.refl _) hro rfl ?_
  refine sx_move rfl rfl ?_
  first | refine sx_leq rfl rfl rfl ?_ | refine sx_sleq rfl rfl rfl ?_
  refine sx_nil (hZ _ _ ?_)
  refine awp_forget [(0, _), (1, _), (32, _)] (Kn.cons rfl (Kn.cons rfl (Kn.cons rfl (Kn.nil)))) ?_
  first | refine awp_cond rfl (fun h4 => ?_) (fun h4 => ?_) | refine awp_seq (awp_cond rfl (fun h4 => ?_) (fun h4 => ?_))
  · have h4' : (sizeQ L : Int) ≤ b := by simpa using h4
    rw [show splitQ L b = (L, [], 0, 0) by unfold splitQ; rw [if_neg h1, if_neg (by simpa using h2'), if_neg h3', if_pos h4']]
    refine awp_seq_region (fun Z hZ => ?_)
    refine sx_move rfl rfl ?_
    refine sx_callU T (clone_fn A c L T hA hT hnil hro (by omega)) rfl (List.Sublist.refl _) hro rfl ?_
    rintro v H' ⟨hv, rfl⟩
    rw [rowE_flt]
    refine sx_assign rfl rfl ?_
    refine sx_assign rfl rfl ?_
    refine sx_assign rfl rfl ?_
    refine sx_assign rfl rfl ?_
    refine sx_nil (hZ _ _ ?_)
    refine awp_forget [(4, _), (5, _), (6, _), (7, _)] (Kn.cons rfl (Kn.cons rfl (Kn.cons rfl (Kn.cons rfl (Kn.nil))))) ?_
    refine awp_ret ?_
    repeat (with_reducible (first | refine nx_then_ret ?_ | refine nx_block_ret ?_ | refine nx_scope_ret ?_))
    exact nx_ret4h _ rfl rfl rfl rfl rfl (HLe.sub (List.sublist_append_left _ _)) ⟨_, rfl, hv, rfl⟩
  have h4' : ¬ (sizeQ L : Int) ≤ b := by simpa using h4
  have hL0 : 0 < L.length := by
    rcases Nat.eq_zero_or_pos L.length with h0 | h0
    · exfalso
      have : L = [] := List.length_eq_zero_iff.1 h0
      subst this
      have hs0 : sizeQ [] = 1 := by
        unfold sizeQ
        rw [if_pos (by rfl), show numsQ [] = [0] from rfl, sumB, allB, List.flatMap_cons, List.flatMap_nil, vb_lt (by omega)]
        rfl
      rw [hs0] at h4'
      omega
    · exact h0
  have hD : splitQ L b = splitG L b 13 1 := by unfold splitQ; rw [if_neg h1, if_neg (by simpa using h2'), if_neg h3', if_neg h4']
  rw [hD]
  obtain ⟨D, hDD⟩ : ∃ D, splitG L b 13 1 = D := ⟨_, rfl⟩
  rw [hDD]
  refine awp_skip ?_
  repeat (with_reducible (first | refine nx_block_normal ?_ | refine nx_scope_normal ?_))
  with_reducible first | refine nx_normal ?_ | refine nx_normalM ?_
  refine awp_seq (awp_label ?_)
  repeat (with_reducible (first | refine nx_block_normal ?_ | refine nx_scope_normal ?_))
  with_reducible first | refine nx_normal ?_ | refine nx_normalM ?_
  refine awp_seq ?_
  refine awp_seq_region (fun Z hZ => ?_)
  refine sx_assign rfl rfl ?_
  refine sx_nil (hZ _ _ ?_)
  refine awp_forget [(0, _), (1, _), (9, _)] (Kn.cons rfl (Kn.cons rfl (Kn.cons rfl (Kn.nil)))) ?_
  refine awp_block ?_
  refine awp_loop (ι := Nat) (fun i => [(0, .slice A L.length c), (1, iq b), (9, iq (2 ^ i : Nat))]) (fun _ => T)
    (fun i => i ≤ 13 ∧ splitG L b (13 - i) (2 ^ i) = D) (fun i => 13 - i) 0 ⟨by omega, hDD⟩ (Kn.cons rfl (Kn.cons rfl (Kn.cons rfl Kn.nil))) (HLe.refl _) ?_
  rintro i ⟨hi, hq⟩
  refine awp_seq ?_
  refine awp_seq_region (fun Z hZ => ?_)
  refine sx_move rfl rfl ?_
  first | refine sx_leq rfl rfl rfl ?_ | refine sx_sleq rfl rfl rfl ?_
  refine sx_nil (hZ _ _ ?_)
  refine awp_forget [(0, _), (1, _), (9, _), (36, _)] (Kn.cons rfl (Kn.cons rfl (Kn.cons rfl (Kn.cons rfl (Kn.nil))))) ?_
  first | refine awp_cond rfl (fun h5 => ?_) (fun h5 => ?_) | refine awp_seq (awp_cond rfl (fun h5 => ?_) (fun h5 => ?_))
  · have hz4 : 2 ^ i ≤ 4096 := Int.ofNat_le.1 (of_decide_eq_true h5)
    have hi12 : i ≤ 12 := by
      rcases Nat.lt_or_ge i 13 with h | h
      · omega
      · have : 2 ^ 13 ≤ 2 ^ i := Nat.pow_le_pow_right (by omega) h
        omega
    obtain ⟨m', hm'⟩ : ∃ m', 13 - i = m' + 1 := ⟨12 - i, by omega⟩
    have hz0 : 0 < 2 ^ i := Nat.pow_pos (by omega)
    have hpow : 2 ^ (i + 1) = 2 * 2 ^ i := by rw [Nat.pow_succ]; omega
    rw [hm', splitG] at hq
    obtain ⟨z, hz⟩ : ∃ z, 2 ^ i = z := ⟨_, rfl⟩
    rw [hz] at hq hz4 hz0 hpow
    refine awp_skip ?_
    repeat (with_reducible (first | refine nx_block_normal ?_ | refine nx_scope_normal ?_))
    with_reducible first | refine nx_normal ?_ | refine nx_normalM ?_
    refine awp_cut (ι := Unit) (fun _ => [(0, .slice A L.length c), (1, iq b), (9, iq z)]) (fun _ => T) (fun _ => okQ L b z = false) ?_ ?_
    · refine awp_block ?_
      refine awp_forget [(0, .slice A L.length c), (1, iq b), (9, iq z)] (Kn.cons rfl (Kn.cons rfl (Kn.cons (by show some (iq ((2 ^ i : Nat) : Int)) = _; rw [hz]) Kn.nil))) ?_
      refine awp_seq_region (fun Z hZ => ?_)
      refine sx_assign rfl rfl ?_
      refine sx_nil (hZ _ _ ?_)
      refine awp_forget [(0, _), (1, _), (9, _), (10, _)] (Kn.cons rfl (Kn.cons rfl (Kn.cons rfl (Kn.cons rfl (Kn.nil))))) ?_
      refine awp_seq_region (fun Z hZ => ?_)
      refine sx_assign rfl rfl ?_
      refine sx_nil (hZ _ _ ?_)
      refine awp_forget [(0, _), (1, _), (9, _), (10, _), (11, _)] (Kn.cons rfl (Kn.cons rfl (Kn.cons rfl (Kn.cons rfl (Kn.cons rfl (Kn.nil)))))) ?_
      refine awp_seq ?_
      refine awp_seq_region (fun Z hZ => ?_)
      refine sx_move rfl rfl ?_
      refine sx_move rfl rfl ?_
      refine sx_callU T (cut_fn A c L T z hA hT hro hL hc hz0 (by show _ ≤ 9223372036854775807; omega)) rfl (List.Sublist.refl _) hro rfl ?_
      rintro v H' ⟨us, hv, husl, hus, hsnd, rfl⟩
      rw [((rowE_wrs _ _ _ _).append (pcH_wrs us)).filter]
      obtain ⟨A1, c1, rfl, hA1, hle1⟩ := hv.ro
      refine sx_heap (roE A1 (us.map Prod.fst) ++ (pcR us ++ T)) (HLe.trans (pcH_ro us (roE A1 (us.map Prod.fst)) T hus) (by rw [List.append_assoc]; exact hle1 [] _ _ _ _)) ?_
      first | refine sx_len Try.underlying33 rfl rfl ?_ | refine sx_lenS Try.underlying33 rfl rfl ?_
      refine sx_move rfl rfl ?_
      refine sx_nil (hZ _ _ ?_)
      refine awp_forget [(0, _), (1, _), (9, _), (10, _), (11, _), (41, _), (42, _), (43, _)] (Kn.cons rfl (Kn.cons rfl (Kn.cons rfl (Kn.cons rfl (Kn.cons rfl (Kn.cons rfl (Kn.cons rfl (Kn.cons rfl (Kn.nil))))))))) ?_
      have hps : us.map Prod.snd = pcs L z := hsnd
      have hul : us.length ≤ 10000 := by
        rw [husl]
        rcases Nat.lt_or_ge L.length (cntP L.length z) with h | h
        · have h1 := (cntP_iff hz0).1 h
          have := Nat.le_mul_of_pos_right L.length hz0
          omega
        · omega
      have hro2 : Ro (roE A1 (us.map Prod.fst) ++ (pcR us ++ T)) := (Ro.roE _ _).append ((pcR_ro us).append hro)
      have hget : ∀ {j : Nat} {x : Value × List En}, us[j]? = some x → (pcs L z)[j]? = some x.2 := fun {j x} hx => by rw [← hps, List.getElem?_map, hx]; rfl
      have hpl : (pcs L z).length = us.length := by rw [← hps, List.length_map]
      refine awp_meet (ι := Value × Value) (fun i => [(0, .slice A L.length c), (1, iq b), (9, iq z), (10, i.1), (11, i.2)]) (fun i => rowE i.1 52 4 (ecells (rootR 0 (pcs L z))) ++ (rowE i.2 5 1 (bv (textP (pcs L z))) ++ (roE A1 (us.map Prod.fst) ++ (pcR us ++ T)))) (fun i => RowOk i.1 (pcs L z).length ∧ RowOk i.2 (textP (pcs L z)).length ∧ ∀ P ∈ pcs L z, (encQ P).2 = 0) ?_ ?_
      · refine awp_block ?_
        refine awp_loop (ι := Nat × Value × Value) (fun i => [(0, .slice A L.length c), (1, iq b), (9, iq z), (10, i.2.1), (11, i.2.2), (41, .slice A1 us.length c1), (42, iq (us.length : Nat)), (43, iq (i.1 : Nat))]) (fun i => rowE i.2.1 52 4 (ecells (rootR 0 ((pcs L z).take i.1))) ++ (rowE i.2.2 5 1 (bv (textP ((pcs L z).take i.1))) ++ (roE A1 (us.map Prod.fst) ++ (pcR us ++ T))))
          (fun i => i.1 ≤ us.length ∧ RowOk i.2.1 i.1 ∧ RowOk i.2.2 (textP ((pcs L z).take i.1)).length ∧ ∀ P ∈ (pcs L z).take i.1, (encQ P).2 = 0) (fun i => us.length - i.1) (0, .slice none 0 0, .slice none 0 0) ⟨by simp, RowOk.nil, by rw [List.take_zero]; exact RowOk.nil, fun P hP => by rw [List.take_zero] at hP; cases hP⟩ (Kn.cons rfl (Kn.cons rfl (Kn.cons rfl (Kn.cons rfl (Kn.cons rfl (Kn.cons rfl (Kn.cons rfl (Kn.cons rfl Kn.nil)))))))) (HLe.refl _) ?_
        rintro ⟨j, v, w⟩ ⟨hj, hv2, hw2, hgood⟩
        simp only at hj hv2 hw2 hgood

        refine awp_seq_region (fun Z hZ => ?_)
        first | refine sx_lss rfl rfl rfl ?_ | refine sx_slss rfl rfl rfl ?_
        refine sx_nil (hZ _ _ ?_)
        refine awp_forget [(0, _), (1, _), (9, _), (10, _), (11, _), (41, _), (42, _), (43, _), (44, _)] (Kn.cons rfl (Kn.cons rfl (Kn.cons rfl (Kn.cons rfl (Kn.cons rfl (Kn.cons rfl (Kn.cons rfl (Kn.cons rfl (Kn.cons rfl (Kn.nil)))))))))) ?_
        first | refine awp_cond rfl (fun h6 => ?_) (fun h6 => ?_) | refine awp_seq (awp_cond rfl (fun h6 => ?_) (fun h6 => ?_))
        · have hlt : j < us.length := by simpa using h6
          obtain ⟨x, hx⟩ : ∃ x, us[j]? = some x := ⟨_, List.getElem?_eq_getElem hlt⟩
          have hxm := List.mem_of_getElem? hx
          have hP := hget hx
          have hPm := List.mem_of_getElem? hP
          have hP0 := pcs_pos hz0 hPm
          have hPE : EnsOk x.2 := fun e he => hE e (pcs_mem hPm e he)
          have hPl : x.2.length ≤ 10000 := by
            obtain ⟨q, _, hq⟩ := List.mem_map.1 hPm
            rw [← hq, pcL_len]
            omega
          obtain ⟨gp, cp, hxv⟩ := (hus x hxm).some hP0
          obtain ⟨u, P⟩ := x
          simp only at hxv hP hPm hP0 hPE hPl hxm
          subst hxv
          obtain ⟨ga, o1, hA1e⟩ := hA1.some (by omega)
          have hrd : rdV false 1 (us.map Prod.fst) j = some (.slice (some ⟨gp, 0, none⟩) P.length cp) := by show (us.map Prod.fst)[j]? = _; rw [List.getElem?_map, hx]; rfl
          have htake : (pcs L z).take (j + 1) = (pcs L z).take j ++ [P] := by rw [List.take_add_one, hP]; rfl
          have hel := encQ_len P
          have htl := textP_len ((pcs L z).take j)
          rw [List.length_take, hpl, Nat.min_eq_left hj] at htl
          obtain ⟨S, hS⟩ : ∃ S, (encQ P).1 = S := ⟨_, rfl⟩
          obtain ⟨e, he⟩ : ∃ e, (encQ P).2 = e := ⟨_, rfl⟩
          have henc := dencode_fn (some ⟨gp, 0, none⟩) cp P _ (fun _ => ⟨_, _, rfl⟩) (fun _ => rfl) (Ro.roE _ _) hPl hPE
          rw [hS, he] at henc
          rw [hS] at hel
          have hpsub : (roE (some ⟨gp, 0, none⟩) (ecells P)).Sublist (rowE v 52 4 (ecells (rootR 0 ((pcs L z).take j))) ++ (rowE w 5 1 (bv (textP ((pcs L z).take j))) ++ (roE A1 (us.map Prod.fst) ++ (pcR us ++ T)))) :=
            ((((pcR_sub hxm).trans (List.sublist_append_left _ T)).trans (List.sublist_append_right (roE A1 (us.map Prod.fst)) _)).trans (List.sublist_append_right (rowE w 5 1 _) _)).trans (List.sublist_append_right _ _)
          have hasub : (roE A1 (us.map Prod.fst)).Sublist (rowE v 52 4 (ecells (rootR 0 ((pcs L z).take j))) ++ (rowE w 5 1 (bv (textP ((pcs L z).take j))) ++ (roE A1 (us.map Prod.fst) ++ (pcR us ++ T)))) :=
            ((List.sublist_append_left _ (pcR us ++ T)).trans (List.sublist_append_right (rowE w 5 1 _) _)).trans (List.sublist_append_right _ _)
          refine awp_skip ?_
          repeat (with_reducible (first | refine nx_block_normal ?_ | refine nx_scope_normal ?_))
          with_reducible first | refine nx_normal ?_ | refine nx_normalM ?_
          refine awp_seq (awp_block ?_)
          refine awp_seq_region (fun Z hZ => ?_)
          refine sx_indexAddr (o1 + j * 1) Try.underlying33 tyS24 (by rw [hA1e]; rfl) rfl (by omega) (by simp) rfl ?_
          refine sx_loadRd (o := o1) (n := us.length) (size := 1) (xs := us.map Prod.fst) j rfl (by rw [Nat.mul_one]) (fun w hw => by rw [← hA1e]; exact rd_roE hA1 (fun y hy => hasub.subset hy) (by rw [List.length_map]; omega) hw) (by omega) tyA24 tyS24 hrd rfl ?_
          refine sx_assign rfl rfl ?_
          refine sx_nil (hZ _ _ ?_)
          refine awp_forget [(0, _), (1, _), (9, _), (10, _), (11, _), (13, _), (41, _), (42, _), (43, _)] (Kn.cons rfl (Kn.cons rfl (Kn.cons rfl (Kn.cons rfl (Kn.cons rfl (Kn.cons rfl (Kn.cons rfl (Kn.cons rfl (Kn.cons rfl (Kn.nil)))))))))) ?_
          refine awp_seq_region (fun Z hZ => ?_)
          refine sx_move rfl rfl ?_
          refine sx_callPT (roE (some ⟨gp, 0, none⟩) (ecells P)) henc rfl hpsub (Ro.roE _ _) rfl ?_
          refine sx_move rfl rfl ?_
          refine sx_extract rfl rfl rfl ?_
          refine sx_extract rfl rfl rfl ?_
          refine sx_assign rfl rfl ?_
          refine sx_assign rfl rfl ?_
          refine sx_nil (hZ _ _ ?_)
          refine awp_forget [(0, _), (1, _), (9, _), (10, _), (11, _), (13, _), (14, _), (15, _), (41, _), (42, _), (43, _)] (Kn.cons rfl (Kn.cons rfl (Kn.cons rfl (Kn.cons rfl (Kn.cons rfl (Kn.cons rfl (Kn.cons rfl (Kn.cons rfl (Kn.cons rfl (Kn.cons rfl (Kn.cons rfl (Kn.nil)))))))))))) ?_
          refine awp_seq ?_
          refine awp_seq_region (fun Z hZ => ?_)
          refine sx_move rfl rfl ?_
          first | refine sx_neq rfl rfl rfl ?_ | refine sx_sneq rfl rfl rfl ?_
          refine sx_nil (hZ _ _ ?_)
          refine awp_forget [(0, _), (1, _), (9, _), (10, _), (11, _), (13, _), (14, _), (41, _), (42, _), (43, _), (53, _)] (Kn.cons rfl (Kn.cons rfl (Kn.cons rfl (Kn.cons rfl (Kn.cons rfl (Kn.cons rfl (Kn.cons rfl (Kn.cons rfl (Kn.cons rfl (Kn.cons rfl (Kn.cons rfl (Kn.nil)))))))))))) ?_
          first | refine awp_cond rfl (fun h7 => ?_) (fun h7 => ?_) | refine awp_seq (awp_cond rfl (fun h7 => ?_) (fun h7 => ?_))
          · have he0 : e ≠ 0 := by simp at h7; omega
            refine awp_exit ?_
            repeat (with_reducible (first | refine nx_then_exit ?_ | refine nx_block_other (by decide) ?_))
            refine nx_block_exit ?_
            exact nx_cut () (okQ_bad hP (by rw [he]; exact he0)) (Kn.cons rfl (Kn.cons rfl (Kn.cons rfl Kn.nil))) (HLe.sub (((List.sublist_append_right (pcR us) T).trans (List.sublist_append_right (roE A1 _) _)).trans ((List.sublist_append_right (rowE w 5 1 _) _).trans (List.sublist_append_right _ _))))
          have he0 : e = 0 := by simp at h7; omega
          subst he0
          refine awp_skip ?_
          repeat (with_reducible (first | refine nx_block_normal ?_ | refine nx_scope_normal ?_))
          with_reducible first | refine nx_normal ?_ | refine nx_normalM ?_
          have hid : rdV false 1 (ecells P) 0 = some (uq (atE P 0).id) := rd_id (k := 0) (atE_at hP0)
          have hroot : rootR 0 ((pcs L z).take (j + 1)) = rootR 0 ((pcs L z).take j) ++ [⟨(atE P 0).id, (textP ((pcs L z).take j)).length, S.length, 0⟩] := by rw [htake, rootR_snoc, rootE, hS, Nat.zero_add]
          have htext : textP ((pcs L z).take (j + 1)) = textP ((pcs L z).take j) ++ S := by rw [htake, textP_snoc, hS]
          have hcells : ecells (rootR 0 ((pcs L z).take (j + 1))) = ecells (rootR 0 ((pcs L z).take j)) ++ [uq (atE P 0).id, uq (textP ((pcs L z).take j)).length, wq4 S.length, wq4 0] := by rw [hroot]; exact fm_snoc _ _
          obtain ⟨aw, cw, rfl, _⟩ := hw2.form
          refine awp_seq_region (fun Z hZ => ?_)
          refine sx_move rfl rfl ?_
          refine sx_move rfl rfl ?_
          refine sx_indexAddr 0 Try.underlying24 tyS52 rfl rfl (by omega) (by simp) rfl ?_
          refine sx_fieldAddr rfl tyF52_0 (by first | (simp only [Nat.reduceAdd, Nat.add_zero, Nat.zero_add]; first | done | rfl) | rfl) rfl ?_
          refine sx_loadRd (o := 0) (n := P.length) (size := 4) (xs := ecells P) 0 rfl rfl (fun w hw => rd_roE (.inr ⟨_, _, rfl⟩) (fun y hy => hpsub.subset hy) (ecells_len P) hw) hP0 tyA47 tyS47 hid rfl ?_
          refine sx_move rfl rfl ?_
          first | refine sx_len Try.underlying63 rfl rfl ?_ | refine sx_lenS Try.underlying63 rfl rfl ?_
          refine sx_conv Try.underlying3 Try.underlying47 rfl (((textP ((pcs L z).take j)).length : Nat) : Int) (by rw [IntWalk.u64_in _ (by omega)]) rfl ?_
          refine sx_move rfl rfl ?_
          first | refine sx_len Try.underlying9 rfl rfl ?_ | refine sx_lenS Try.underlying9 rfl rfl ?_
          refine sx_conv Try.underlying3 Try.underlying50 rfl ((S.length : Nat) : Int) (by rw [u32_w, Nat.mod_eq_of_lt (by omega)]) rfl ?_
          refine sx_build tyZ52 tyP52 rfl rfl (by first | (simp only [List.take_succ_cons, List.take_zero, List.drop_succ_cons, List.drop_zero, List.cons_append, List.nil_append, List.append_nil, List.length_cons, List.length_nil, Nat.reduceAdd, Nat.zero_add, Nat.add_zero, Value.cells, wrV, zrep_one, List.replicate_succ, List.replicate_zero, Nat.reduceMul, Nat.zero_mul]; first | done | rfl) | rfl) rfl ?_
          refine sx_buildSlice Try.underlying24 tyS52 tyZ52 rfl rfl rfl rfl (by first | (simp only [List.take_succ_cons, List.take_zero, List.drop_succ_cons, List.drop_zero, List.cons_append, List.nil_append, List.append_nil, List.length_cons, List.length_nil, Nat.reduceAdd, Nat.zero_add, Nat.add_zero, Value.cells, wrV, zrep_one, List.replicate_succ, List.replicate_zero, Nat.reduceMul, Nat.zero_mul]; first | done | rfl) | rfl) rfl (fun g1 => ?_)
          refine sx_appendE (_ :: (rowE (.slice aw (textP ((pcs L z).take j)).length cw) 5 1 (bv (textP ((pcs L z).take j))) ++ (roE A1 (us.map Prod.fst) ++ (pcR us ++ T)))) elemEn rfl hv2 (by rw [ecells_len, rootR_len, List.length_take, hpl, Nat.min_eq_left hj]) rfl (fun w hw => rd_own (i := 0) (xs := [uq (atE P 0).id, uq (textP ((pcs L z).take j)).length, wq4 S.length, wq4 0]) rfl rfl hw) rfl (by show _ ≤ 9223372036854775807; omega) (by omega) (HLe.toEnd [_] _ _) rfl (fun v2 hv2' => ?_)
          rw [← hcells]
          refine sx_assign rfl rfl ?_
          refine sx_nil (hZ _ _ ?_)
          refine awp_forget [(0, _), (1, _), (9, _), (10, _), (11, _), (14, _), (41, _), (42, _), (43, _)] (Kn.cons rfl (Kn.cons rfl (Kn.cons rfl (Kn.cons rfl (Kn.cons rfl (Kn.cons rfl (Kn.cons rfl (Kn.cons rfl (Kn.cons rfl (Kn.nil)))))))))) ?_
          refine awp_region (fun Z hZ => ?_)
          refine sx_move rfl rfl ?_
          refine sx_move rfl rfl ?_
          refine sx_appendStr (rowE v2 52 4 (ecells (rootR 0 ((pcs L z).take (j + 1)))) ++ (roE A1 (us.map Prod.fst) ++ (pcR us ++ T))) Try.underlying63 Try.underlying9 (by kernel_rfl) rfl hw2 rfl (by omega) (le_rot _ _ _ _) rfl (fun w2 hw2' => ?_)
          rw [← htext]
          rw [← htext] at hw2'
          refine sx_assign rfl rfl ?_
          refine sx_nil (hZ _ _ ?_)
          refine nx_forget [(0, _), (1, _), (9, _), (10, _), (11, _), (41, _), (42, _), (43, _)] (Kn.cons rfl (Kn.cons rfl (Kn.cons rfl (Kn.cons rfl (Kn.cons rfl (Kn.cons rfl (Kn.cons rfl (Kn.cons rfl (Kn.nil))))))))) ?_
          repeat (with_reducible (first | refine nx_block_normal ?_ | refine nx_scope_normal ?_))
          with_reducible first | refine nx_normal ?_ | refine nx_normalM ?_
          refine awp_region (fun Z hZ => ?_)
          refine sx_add rfl rfl ((j + 1 : Nat) : Int) (by rw [IntWalk.i64_in _ (by omega)]; omega) rfl ?_
          refine sx_move rfl rfl ?_
          refine sx_nil (hZ _ _ ?_)
          refine nx_forget [(0, _), (1, _), (9, _), (10, _), (11, _), (41, _), (42, _), (43, _)] (Kn.cons rfl (Kn.cons rfl (Kn.cons rfl (Kn.cons rfl (Kn.cons rfl (Kn.cons rfl (Kn.cons rfl (Kn.cons rfl (Kn.nil))))))))) ?_
          refine nx_round (j + 1, v2, w2) ⟨by show j + 1 ≤ _; omega, hv2', hw2', fun Q hQ => ?_⟩ (by simp; omega) (Kn.cons rfl (Kn.cons rfl (Kn.cons rfl (Kn.cons rfl (Kn.cons rfl (Kn.cons rfl (Kn.cons rfl (Kn.cons rfl Kn.nil)))))))) ?_
          · rw [htake] at hQ
            rcases List.mem_append.1 hQ with hQ | hQ
            · exact hgood Q hQ
            · rw [List.mem_singleton.1 hQ]; exact he
          · exact le_back _ _ _
        · have hje : j = us.length := by simp at h6; omega
          subst hje
          have hall : (pcs L z).take us.length = pcs L z := List.take_of_length_le (by omega)
          rw [hall] at hw2 hgood
          refine awp_exit ?_
          repeat (with_reducible (first | refine nx_then_exit ?_ | refine nx_block_other (by decide) ?_ | refine nx_scope_exit ?_))
          with_reducible refine nx_block_exit ?_
          repeat (with_reducible (first | refine nx_block_normal ?_ | refine nx_scope_normal ?_))
          refine nx_cut (v, w) ⟨by rw [hpl]; exact hv2, hw2, hgood⟩ (Kn.cons rfl (Kn.cons rfl (Kn.cons rfl (Kn.cons rfl (Kn.cons rfl Kn.nil))))) ?_
          simp only [hall]
          exact HLe.refl _
      · rintro ⟨v, w⟩ ⟨hv2, hw2, hgood⟩
        simp only at hv2 hw2
        have hps0 : 0 < (pcs L z).length := by
          rw [pcs_len]
          exact (cntP_iff hz0).2 (by omega)
        have hRE : EnsOk (rootR 0 (pcs L z)) := rootR_ok _ 0 (fun P hP e he => hE e (pcs_mem hP e he)) (by omega)
        have hrl := rootR_len (pcs L z) 0
        obtain ⟨gr, cr, rfl⟩ := hv2.some hps0
        have hok : okQ L b z = decide ((sizeQ (rootR 0 (pcs L z)) : Int) ≤ b) := by
          unfold okQ
          rw [List.all_eq_true.2 (fun P hP => by simpa using hgood P hP), Bool.true_and]
        have hsz := dsize_fn (some ⟨gr, 0, none⟩) cr (rootR 0 (pcs L z)) _ (fun _ => ⟨_, _, rfl⟩) (fun _ => rfl) (Ro.roE _ _) (by omega) hRE
        rw [hrl] at hsz
        repeat (with_reducible (first | refine nx_block_normal ?_ | refine nx_scope_normal ?_))
        with_reducible first | refine nx_normal ?_ | refine nx_normalM ?_

        refine awp_seq ?_
        refine awp_seq_region (fun Z hZ => ?_)
        refine sx_move rfl rfl ?_
        refine sx_callV (roE (some ⟨gr, 0, none⟩) (ecells (rootR 0 (pcs L z)))) hsz rfl ((HLe.sub (List.Sublist.cons_cons _ (List.nil_sublist _))).trans (HLe.rowRo [] _)) (Ro.roE _ _) rfl ?_
        refine sx_move rfl rfl ?_
        first | refine sx_gtr rfl rfl rfl ?_ | refine sx_sgtr rfl rfl rfl ?_
        refine sx_nil (hZ _ _ ?_)
        refine awp_forget [(0, _), (1, _), (9, _), (10, _), (11, _), (75, _)] (Kn.cons rfl (Kn.cons rfl (Kn.cons rfl (Kn.cons rfl (Kn.cons rfl (Kn.cons rfl (Kn.nil))))))) ?_
        first | refine awp_cond rfl (fun h8 => ?_) (fun h8 => ?_) | refine awp_seq (awp_cond rfl (fun h8 => ?_) (fun h8 => ?_))
        · have hbad : ¬ (sizeQ (rootR 0 (pcs L z)) : Int) ≤ b := by simp at h8; omega
          refine awp_exit ?_
          repeat (with_reducible (first | refine nx_then_exit ?_ | refine nx_block_other (by decide) ?_))
          refine nx_block_exit ?_
          exact nx_cut () (by rw [hok, decide_eq_false hbad]) (Kn.cons rfl (Kn.cons rfl (Kn.cons rfl Kn.nil))) (HLe.sub (((List.sublist_append_right (pcR us) T).trans (List.sublist_append_right (roE A1 _) _)).trans ((List.sublist_append_right (rowE w 5 1 _) _).trans (List.sublist_cons_self _ _))))
        have hgd : (sizeQ (rootR 0 (pcs L z)) : Int) ≤ b := by simp at h8; omega
        rw [hok, decide_eq_true hgd, if_pos rfl] at hq
        rw [← hq]
        have htp : 0 < (textP (pcs L z)).length := by
          match hpc : pcs L z, hps0 with
          | P :: r, _ =>
            rw [hpc] at hgood
            have h1 := encQ_ok (hgood P List.mem_cons_self)
            have h2 := allB_pos P
            rw [textP, List.flatMap_cons, List.length_append, h1.2.2]
            show 0 < (allB (numsQ P)).length + _
            omega
        obtain ⟨gw, cw, rfl⟩ := hw2.some htp
        refine awp_skip ?_
        repeat (with_reducible (first | refine nx_block_normal ?_ | refine nx_scope_normal ?_))
        with_reducible first | refine nx_normal ?_ | refine nx_normalM ?_
        refine awp_heap [.ob gr (RowP 52 4 (pcs L z).length cr (ecells (rootR 0 (pcs L z)))), .ob gw (RowP 5 1 (textP (pcs L z)).length cw (bv (textP (pcs L z))))] (HLe.sub (List.Sublist.cons_cons _ (List.Sublist.cons_cons _ (List.nil_sublist _)))) ?_

        refine aww_seq_region _ [(0, true), (1, true), (2, false), (3, true), (4, true), (5, true), (6, true), (7, true)] mixed (by kernel_rfl) (HLe.pick [0, 1] (by simp) (by simp only [pick, List.filterMap_cons, List.filterMap_nil, List.getElem?_cons_succ, List.getElem?_cons_zero]; rfl)) (fun Z hZ => ?_)
        refine tw_p rfl ?_
        refine sv_move rfl rfl ?_
        refine sv_nil ?_
        refine tw_p rfl ?_
        refine sv_move rfl rfl ?_
        refine sv_nil ?_
        refine tw_g rfl ?_
        refine sx_strB (l := textP (pcs L z)) Try.underlying63 Try.underlying5 Try.underlying9 rfl (fun w hw => rd_row (i := 1) rfl hw) rfl ?_
        refine sx_nil ⟨HLe.pick [0, 1] (by simp) rfl, ?_⟩
        refine tw_p rfl ?_
        refine sv_move rfl rfl ?_
        refine sv_nil ?_
        refine tw_p rfl ?_
        refine sv_assign rfl rfl ?_
        refine sv_nil ?_
        refine tw_p rfl ?_
        refine sv_assign rfl rfl ?_
        refine sv_nil ?_
        refine tw_p rfl ?_
        refine sv_assign rfl rfl ?_
        refine sv_nil ?_
        refine tw_p rfl ?_
        refine sv_assign rfl rfl ?_
        refine sv_nil ?_
        refine tw_nil (hZ _ _ ?_)
        refine awp_forget [(4, _), (5, _), (6, _), (7, _)] (Kn.cons rfl (Kn.cons rfl (Kn.cons rfl (Kn.cons rfl (Kn.nil))))) ?_
        refine awp_ret ?_
        repeat (with_reducible (first | refine nx_then_ret ?_ | refine nx_block_ret ?_ | refine nx_scope_ret ?_))
        exact nx_ret4h _ rfl rfl rfl rfl rfl (HLe.pick [0] (by simp) rfl) ⟨_, rfl, by rw [hrl]; exact RowOk.mk _ _ _, rfl⟩
    · rintro ⟨⟩ hok
      rw [hok] at hq
      rw [if_neg (by decide)] at hq
      refine awp_region (fun Z hZ => ?_)
      refine sx_move rfl rfl ?_
      refine sx_mul rfl rfl ((2 ^ (i + 1) : Nat) : Int) (by rw [hpow, IntWalk.i64_in _ (by omega)]; omega) rfl ?_
      refine sx_assign rfl rfl ?_
      refine sx_nil (hZ _ _ ?_)
      refine nx_forget [(0, _), (1, _), (9, _)] (Kn.cons rfl (Kn.cons rfl (Kn.cons rfl (Kn.nil)))) ?_
      exact nx_round (i + 1) ⟨by omega, by rw [hpow, show 13 - (i + 1) = m' by omega]; exact hq⟩ (by omega) (Kn.cons rfl (Kn.cons rfl (Kn.cons rfl Kn.nil))) (HLe.refl _)
  · have hi13 : i = 13 := by
      rcases Nat.lt_or_ge i 13 with h | h
      · have : 2 ^ i ≤ 2 ^ 12 := Nat.pow_le_pow_right (by omega) (by omega)
        exact absurd (Int.ofNat_le.2 (Nat.le_trans this (by decide : 2 ^ 12 ≤ 4096))) (of_decide_eq_false h5)
      · omega
    subst hi13
    rw [Nat.sub_self, splitG] at hq
    rw [← hq]
    refine awp_exit ?_
    repeat (with_reducible (first | refine nx_then_exit ?_ | refine nx_block_other (by decide) ?_ | refine nx_scope_exit ?_))
    with_reducible refine nx_block_exit ?_
    repeat (with_reducible (first | refine nx_block_normal ?_ | refine nx_scope_normal ?_))
    with_reducible first | refine nx_normal ?_ | refine nx_normalM ?_
    refine awp_seq_region (fun Z hZ => ?_)
    refine sx_assign rfl rfl ?_
    refine sx_assign rfl rfl ?_
    refine sx_assign rfl rfl ?_
    refine sx_assign rfl rfl ?_
    refine sx_nil (hZ _ _ ?_)
    refine awp_forget [(4, _), (5, _), (6, _), (7, _)] (Kn.cons rfl (Kn.cons rfl (Kn.cons rfl (Kn.cons rfl (Kn.nil))))) ?_
    refine awp_ret ?_
    repeat (with_reducible (first | refine nx_then_ret ?_ | refine nx_block_ret ?_ | refine nx_scope_ret ?_))
    exact nx_ret4h [] rfl rfl rfl rfl rfl (HLe.sub (List.nil_sublist _)) ⟨_, rfl, RowOk.nil, rfl⟩
end Go.Proofs.Ytodclhiggafkbaa
