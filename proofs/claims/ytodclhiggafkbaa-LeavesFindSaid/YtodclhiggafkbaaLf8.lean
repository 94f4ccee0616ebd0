/- The walks of the document's answer for leaves: Leaves, piece. Conditions: the lists and texts are not too long. -/
import Derived.Test.YtodclhiggafkbaaLf7
namespace Go.Proofs.Ytodclhiggafkbaa
open Go.RowKit
set_option linter.unusedVariables false
set_option linter.unusedSimpArgs false
theorem hasPtr_len (L : List En) : hasPtr L = decide (0 < (L.filter isPtr).length) := by
  induction L with
  | nil => rfl
  | cons x r ih =>
    rw [hasPtr, List.any_cons, List.filter_cons]
    cases hx : isPtr x with
    | true => simp
    | false => simpa [hasPtr] using ih
theorem rleaves_fn (A : Option Addr) (c : Nat) (L : List En) (T : Heap) (hA : ArgOk A L.length) (hT : 0 < L.length → T = roE A (ecells L)) (hro : Ro T) (hL : L.length ≤ 1000000) :
    Fn Try.prog 29 [.slice A L.length c] T fun v H' => RowOk v (L.filter isPtr).length ∧ H' = rowE v 58 4 (ecells (L.filter isPtr)) := by
  refine Fn.enter (N := 25) Try.func29 rfl (by kernel_rfl) rfl (fun w0 => ?_)

  refine awp_seq_region (fun Z hZ => ?_)
  refine sx_assign rfl rfl ?_
  refine sx_nil (hZ _ _ ?_)
  refine awp_forget [(0, _)] (Kn.cons rfl (Kn.nil)) ?_
  refine awp_seq_region (fun Z hZ => ?_)
  refine sx_assign rfl rfl ?_
  refine sx_nil (hZ _ _ ?_)
  refine awp_forget [(0, _), (3, _)] (Kn.cons rfl (Kn.cons rfl (Kn.nil))) ?_
  refine awp_seq ?_
  refine awp_seq_region (fun Z hZ => ?_)
  refine sx_assign rfl rfl ?_
  refine sx_nil (hZ _ _ ?_)
  refine awp_forget [(0, _), (3, _), (4, _)] (Kn.cons rfl (Kn.cons rfl (Kn.cons rfl (Kn.nil)))) ?_
  refine awp_block ?_
  refine awp_loop (ι := Nat × Value) (fun i => [(0, .slice A L.length c), (3, i.2), (4, iq (i.1 : Nat))]) (fun i => T ++ rowE i.2 58 4 (ecells ((L.take i.1).filter isPtr)))
    (fun i => i.1 ≤ L.length ∧ RowOk i.2 ((L.take i.1).filter isPtr).length) (fun i => L.length - i.1) (0, .slice none 0 0) ⟨by simp, RowOk.nil⟩ (Kn.cons rfl (Kn.cons rfl (Kn.cons rfl Kn.nil))) (by simp [rowE]; exact HLe.refl _) ?_
  rintro ⟨k, v⟩ ⟨hk, hv⟩
  simp only at hk hv
  refine awp_seq ?_
  refine awp_seq_region (fun Z hZ => ?_)
  refine sx_move rfl rfl ?_
  refine sx_move rfl rfl ?_
  first | refine sx_len Try.underlying22 rfl rfl ?_ | refine sx_lenS Try.underlying22 rfl rfl ?_
  first | refine sx_lss rfl rfl rfl ?_ | refine sx_slss rfl rfl rfl ?_
  refine sx_nil (hZ _ _ ?_)
  refine awp_forget [(0, _), (3, _), (4, _), (8, _)] (Kn.cons rfl (Kn.cons rfl (Kn.cons rfl (Kn.cons rfl (Kn.nil))))) ?_
  first | refine awp_cond rfl (fun h => ?_) (fun h => ?_) | refine awp_seq (awp_cond rfl (fun h => ?_) (fun h => ?_))
  · have hlt : k < L.length := by simpa using h
    obtain ⟨x, hx⟩ : ∃ x, L[k]? = some x := ⟨_, List.getElem?_eq_getElem hlt⟩
    have hfl : ((L.take k).filter isPtr).length ≤ k := by
      refine Nat.le_trans (List.length_filter_le _ _) ?_
      rw [List.length_take]
      omega
    have htk : (L.take (k + 1)).filter isPtr = (L.take k).filter isPtr ++ (if isPtr x = true then [x] else []) := by
      rw [List.take_add_one, hx, List.filter_append]
      congr 1
      simp only [Option.toList, List.filter_cons, List.filter_nil]
    obtain ⟨g, o, rfl⟩ := hA (by omega)
    obtain rfl := hT (by omega)
    refine awp_skip ?_
    repeat (with_reducible (first | refine nx_block_normal ?_ | refine nx_scope_normal ?_))
    with_reducible first | refine nx_normal ?_ | refine nx_normalM ?_
    refine awp_cut (ι := Value) (fun v => [(0, .slice (some ⟨g, o, none⟩) L.length c), (3, v), (4, iq (k : Nat))]) (fun v => [.ro g o (ecells L)] ++ rowE v 58 4 (ecells ((L.take (k + 1)).filter isPtr))) (fun v => RowOk v ((L.take (k + 1)).filter isPtr).length) ?_ ?_
    · refine awp_block ?_

      refine awp_seq_region (fun Z hZ => ?_)
      refine sx_move rfl rfl ?_
      refine sx_move rfl rfl ?_
      refine sx_indexAddr (o + k * 4) Try.underlying22 tyS58 rfl rfl (by omega) (by simp) rfl ?_
      refine sx_fieldAddr rfl tyF58_3 (by first | (simp only [Nat.reduceAdd, Nat.add_zero, Nat.zero_add]; first | done | rfl) | rfl) rfl ?_
      refine sx_loadRo 0 rfl rfl (k * 4 + 3) rfl tyA50 tyS50 (rd_run hx) rfl ?_
      first | refine sx_eql rfl rfl rfl ?_ | refine sx_seql rfl rfl rfl ?_
      refine sx_nil (hZ _ _ ?_)
      refine awp_forget [(0, _), (3, _), (4, _), (16, _)] (Kn.cons rfl (Kn.cons rfl (Kn.cons rfl (Kn.cons rfl (Kn.nil))))) ?_
      first | refine awp_cond rfl (fun h1 => ?_) (fun h1 => ?_) | refine awp_seq (awp_cond rfl (fun h1 => ?_) (fun h1 => ?_))
      · have hp : isPtr x = true := by simp at h1; simp [isPtr]; omega
        rw [hp, if_pos rfl] at htk
        refine awp_region (fun Z hZ => ?_)
        refine sx_move rfl rfl ?_
        refine sx_move rfl rfl ?_
        refine sx_move rfl rfl ?_
        refine sx_indexAddr (o + k * 4) Try.underlying22 tyS58 rfl rfl (by omega) (by simp) rfl ?_
        refine sx_loadRo 0 rfl rfl (k * 4) rfl tyA58 tyS58 (ecells_all hx) rfl ?_
        refine sx_buildSlice Try.underlying22 tyS58 tyZ58 rfl rfl rfl rfl (by first | (simp only [List.take_succ_cons, List.take_zero, List.drop_succ_cons, List.drop_zero, List.cons_append, List.nil_append, List.append_nil, List.length_cons, List.length_nil, Nat.reduceAdd, Nat.zero_add, Nat.add_zero, Value.cells, wrV, zrep_one, List.replicate_succ, List.replicate_zero, Nat.reduceMul, Nat.zero_mul]; first | done | rfl) | rfl) rfl (fun g1 => ?_)
        refine sx_appendE [_, _] elemEnR rfl hv (ecells_len _) rfl (fun w hw => rd_own (i := 0) (xs := x.cells) rfl rfl hw) rfl (by show _ ≤ 9223372036854775807; omega) (by omega) (HLe.refl _) rfl (fun v2 hv2 => ?_)
        refine sx_assign rfl rfl ?_
        refine sx_nil (hZ _ _ ?_)
        refine nx_forget [(0, _), (3, _), (4, _)] (Kn.cons rfl (Kn.cons rfl (Kn.cons rfl (Kn.nil)))) ?_
        repeat (with_reducible refine nx_block_normal ?_)
        refine nx_cut v2 (by rw [htk]; simpa using hv2) (Kn.cons rfl (Kn.cons rfl (Kn.cons rfl Kn.nil))) ?_
        rw [htk, show ecells ((L.take k).filter isPtr ++ [x]) = ecells ((L.take k).filter isPtr) ++ x.cells from fm_snoc _ _]
        exact HLe.drop 1 rfl
      · have hp : isPtr x = false := by simp at h1; simp [isPtr]; omega
        rw [hp, if_neg (by decide), List.append_nil] at htk
        refine awp_skip ?_
        repeat (with_reducible refine nx_block_normal ?_)
        refine nx_cut v (by rw [htk]; exact hv) (Kn.cons rfl (Kn.cons rfl (Kn.cons rfl Kn.nil))) ?_
        rw [htk]
        exact HLe.refl _
    · rintro v2 hv2
      refine awp_region (fun Z hZ => ?_)
      refine sx_move rfl rfl ?_
      refine sx_add rfl rfl ((k + 1 : Nat) : Int) (by rw [IntWalk.i64_in _ (by omega)]; omega) rfl ?_
      refine sx_assign rfl rfl ?_
      refine sx_nil (hZ _ _ ?_)
      refine nx_forget [(0, _), (3, _), (4, _)] (Kn.cons rfl (Kn.cons rfl (Kn.cons rfl (Kn.nil)))) ?_
      exact nx_round (k + 1, v2) ⟨by show k + 1 ≤ _; omega, hv2⟩ (by simp; omega) (Kn.cons rfl (Kn.cons rfl (Kn.cons rfl Kn.nil))) (HLe.refl _)
  · refine awp_exit ?_
    repeat (with_reducible (first | refine nx_then_exit ?_ | refine nx_block_other (by decide) ?_ | refine nx_scope_exit ?_))
    with_reducible refine nx_block_exit ?_
    repeat (with_reducible (first | refine nx_block_normal ?_ | refine nx_scope_normal ?_))
    with_reducible first | refine nx_normal ?_ | refine nx_normalM ?_
    have hke : k = L.length := by simp at h; omega
    subst hke
    rw [List.take_length] at hv ⊢
    refine awp_seq_region (fun Z hZ => ?_)
    refine sx_move rfl rfl ?_
    refine sx_assign rfl rfl ?_
    refine sx_nil (hZ _ _ ?_)
    refine awp_forget [(2, _)] (Kn.cons rfl (Kn.nil)) ?_
    refine awp_ret ?_
    repeat (with_reducible (first | refine nx_then_ret ?_ | refine nx_block_ret ?_ | refine nx_scope_ret ?_))
    exact nx_ret1h _ rfl rfl (HLe.sub (List.sublist_append_right _ _)) ⟨hv, rfl⟩
theorem rpiece_fn (p : En) (hp : p.ok) (ho : p.off ≤ 1099511627776) (t : List UInt8) (ht : t.length ≤ 1000000) :
    Fn Try.prog 34 [p.val, .string (str t)] [] fun v H' => ∃ u, v = .tuple #[u, iq (pieceQ p t).2] ∧ RowOk u (pieceQ p t).1.length ∧ H' = rowE u 58 4 (ecells (pieceQ p t).1) := by
  obtain ⟨p1, p2, p3, p4⟩ := hp
  refine Fn.enter (N := 54) Try.func34 rfl (by kernel_rfl) rfl (fun w0 => ?_)

  refine awp_seq_region (fun Z hZ => ?_)
  refine sx_box rfl rfl rfl (fun g1 => ?_)
  refine sx_assign rfl rfl ?_
  refine sx_assign rfl rfl ?_
  refine sx_nil (hZ _ _ ?_)
  refine awp_forget [(1, _), (2, _)] (Kn.cons rfl (Kn.cons rfl (Kn.nil))) ?_
  refine awp_seq ?_
  refine awp_seq_region (fun Z hZ => ?_)
  refine sx_fieldAddr rfl tyF58_1 (by first | (simp only [Nat.reduceAdd, Nat.add_zero, Nat.zero_add]; first | done | rfl) | rfl) rfl ?_
  first | refine sx_load 0 rfl rfl tyA47 tyS47 rfl rfl ?_
  refine sx_fieldAddr rfl tyF58_2 (by first | (simp only [Nat.reduceAdd, Nat.add_zero, Nat.zero_add]; first | done | rfl) | rfl) rfl ?_
  first | refine sx_load 0 rfl rfl tyA50 tyS50 rfl rfl ?_
  refine sx_conv Try.underlying50 Try.underlying47 rfl ((p.len : Nat) : Int) (by rw [IntWalk.u64_in _ (by omega)]) rfl ?_
  refine sx_add rfl rfl ((p.off + p.len : Nat) : Int) (by rw [IntWalk.u64_in _ (by omega)]; omega) rfl ?_
  refine sx_move rfl rfl ?_
  first | refine sx_len Try.underlying9 rfl rfl ?_ | refine sx_lenS Try.underlying9 rfl rfl ?_
  refine sx_conv Try.underlying3 Try.underlying47 rfl ((t.length : Nat) : Int) (by rw [IntWalk.u64_in _ (by omega)]) rfl ?_
  first | refine sx_gtr rfl rfl rfl ?_ | refine sx_sgtr rfl rfl rfl ?_
  refine sx_nil (hZ _ _ ?_)
  refine awp_forget [(1, _), (2, _), (18, _)] (Kn.cons rfl (Kn.cons rfl (Kn.cons rfl (Kn.nil)))) ?_
  first | refine awp_cond rfl (fun h => ?_) (fun h => ?_) | refine awp_seq (awp_cond rfl (fun h => ?_) (fun h => ?_))
  · have h1 : t.length < p.off + p.len := by simp at h; omega
    rw [show pieceQ p t = ([], 8) by unfold pieceQ; rw [if_pos h1]]
    refine awp_seq_region (fun Z hZ => ?_)
    refine sx_assign rfl rfl ?_
    refine sx_assign rfl rfl ?_
    refine sx_nil (hZ _ _ ?_)
    refine awp_forget [(4, _), (5, _)] (Kn.cons rfl (Kn.cons rfl (Kn.nil))) ?_
    refine awp_ret ?_
    repeat (with_reducible (first | refine nx_then_ret ?_ | refine nx_block_ret ?_ | refine nx_scope_ret ?_))
    exact nx_ret2h [] rfl rfl rfl (HLe.sub (List.nil_sublist _)) ⟨_, rfl, RowOk.nil, rfl⟩
  have h1 : ¬ t.length < p.off + p.len := by simp at h; omega
  obtain ⟨s, hs⟩ : ∃ s, (t.drop p.off).take p.len = s := ⟨_, rfl⟩
  have hsl : s.length ≤ 1000000 := by rw [← hs, List.length_take, List.length_drop]; omega
  have hD := rdecode_fn s hsl
  obtain ⟨d1, d2, d3, d4⟩ := decQ_ok s
  obtain ⟨M, hM⟩ : ∃ M, (decQ s).1 = M := ⟨_, rfl⟩
  obtain ⟨e, he⟩ : ∃ e, (decQ s).2.2 = e := ⟨_, rfl⟩
  rw [hM, he] at hD
  rw [hM] at d1 d2
  have hfl : (M.filter isPtr).length ≤ M.length := List.length_filter_le _ _
  have hhp := hasPtr_len M
  refine awp_skip ?_
  repeat (with_reducible (first | refine nx_block_normal ?_ | refine nx_scope_normal ?_))
  with_reducible first | refine nx_normal ?_ | refine nx_normalM ?_
  refine awp_seq_region (fun Z hZ => ?_)
  refine sx_move rfl rfl ?_
  refine sx_fieldAddr rfl tyF58_1 (by first | (simp only [Nat.reduceAdd, Nat.add_zero, Nat.zero_add]; first | done | rfl) | rfl) rfl ?_
  first | refine sx_load 0 rfl rfl tyA47 tyS47 rfl rfl ?_
  refine sx_fieldAddr rfl tyF58_1 (by first | (simp only [Nat.reduceAdd, Nat.add_zero, Nat.zero_add]; first | done | rfl) | rfl) rfl ?_
  first | refine sx_load 0 rfl rfl tyA47 tyS47 rfl rfl ?_
  refine sx_fieldAddr rfl tyF58_2 (by first | (simp only [Nat.reduceAdd, Nat.add_zero, Nat.zero_add]; first | done | rfl) | rfl) rfl ?_
  first | refine sx_load 0 rfl rfl tyA50 tyS50 rfl rfl ?_
  refine sx_conv Try.underlying50 Try.underlying47 rfl ((p.len : Nat) : Int) (by rw [IntWalk.u64_in _ (by omega)]) rfl ?_
  refine sx_add rfl rfl ((p.off + p.len : Nat) : Int) (by rw [IntWalk.u64_in _ (by omega)]; omega) rfl ?_
  refine sx_sliceS s Try.underlying9 rfl rfl rfl (by omega) (by omega) (by omega) (by rw [← hs]; simp only [Int.toNat_natCast]; rw [Nat.add_sub_cancel_left]) rfl ?_
  refine sx_callO [] [_] hD rfl (HLe.refl _) rfl ?_
  rintro v H' ⟨u, rfl, hu, rfl⟩
  rw [rowE_flt]
  obtain ⟨A1, c1, rfl, hA1, hle1⟩ := hu.ro
  refine sx_heap ([_] ++ rowE (.slice A1 M.length c1) 58 4 (ecells M)) (HLe.swap _ _) ?_
  refine sx_move rfl rfl ?_
  refine sx_extract rfl rfl rfl ?_
  refine sx_extract rfl rfl rfl ?_
  refine sx_extract rfl rfl rfl ?_
  refine sx_assign rfl rfl ?_
  refine sx_assign rfl rfl ?_
  refine sx_assign rfl rfl ?_
  refine sx_nil (hZ _ _ ?_)
  refine awp_forget [(2, _), (6, _), (8, _)] (Kn.cons rfl (Kn.cons rfl (Kn.cons rfl (Kn.nil)))) ?_

  refine awp_seq ?_
  refine awp_seq_region (fun Z hZ => ?_)
  refine sx_move rfl rfl ?_
  first | refine sx_neq rfl rfl rfl ?_ | refine sx_sneq rfl rfl rfl ?_
  refine sx_nil (hZ _ _ ?_)
  refine awp_forget [(2, _), (6, _), (8, _), (35, _)] (Kn.cons rfl (Kn.cons rfl (Kn.cons rfl (Kn.cons rfl (Kn.nil))))) ?_
  first | refine awp_cond rfl (fun h2 => ?_) (fun h2 => ?_) | refine awp_seq (awp_cond rfl (fun h2 => ?_) (fun h2 => ?_))
  · have he0 : e ≠ 0 := by simp at h2; omega
    rw [show pieceQ p t = ([], e) by unfold pieceQ; rw [if_neg h1, hs, he, if_pos he0]]
    refine awp_seq_region (fun Z hZ => ?_)
    refine sx_move rfl rfl ?_
    refine sx_assign rfl rfl ?_
    refine sx_assign rfl rfl ?_
    refine sx_nil (hZ _ _ ?_)
    refine awp_forget [(4, _), (5, _)] (Kn.cons rfl (Kn.cons rfl (Kn.nil))) ?_
    refine awp_ret ?_
    repeat (with_reducible (first | refine nx_then_ret ?_ | refine nx_block_ret ?_ | refine nx_scope_ret ?_))
    exact nx_ret2h [] rfl rfl rfl (HLe.sub (List.nil_sublist _)) ⟨_, rfl, RowOk.nil, rfl⟩
  have he0 : e = 0 := by simp at h2; omega
  refine awp_skip ?_
  repeat (with_reducible (first | refine nx_block_normal ?_ | refine nx_scope_normal ?_))
  with_reducible first | refine nx_normal ?_ | refine nx_normalM ?_
  refine awp_seq ?_
  refine awp_seq_region (fun Z hZ => ?_)
  refine sx_move rfl rfl ?_
  refine sx_callVU (roE A1 (ecells M)) (rleaves_fn A1 c1 M _ hA1.arg (fun _ => rfl) (Ro.roE _ _) (by omega)) rfl (row_view hle1 [.own g1 58 p.cells] _ _ _) (Ro.roE _ _) rfl ?_
  rintro v H' ⟨hv, rfl⟩
  refine sx_heap ([.own g1 58 p.cells] ++ rowE (.slice A1 M.length c1) 58 4 (ecells M)) (HLe.sub (List.sublist_append_right _ _)) ?_
  obtain ⟨A5, c5, rfl, _⟩ := hv.form
  first | refine sx_len Try.underlying22 rfl rfl ?_ | refine sx_lenS Try.underlying22 rfl rfl ?_
  first | refine sx_gtr rfl rfl rfl ?_ | refine sx_sgtr rfl rfl rfl ?_
  refine sx_nil (hZ _ _ ?_)
  refine awp_forget [(2, _), (6, _), (40, _)] (Kn.cons rfl (Kn.cons rfl (Kn.cons rfl (Kn.nil)))) ?_
  first | refine awp_cond rfl (fun h3 => ?_) (fun h3 => ?_) | refine awp_seq (awp_cond rfl (fun h3 => ?_) (fun h3 => ?_))
  · have h3' : hasPtr M = true := by rw [hhp]; simpa using h3
    rw [show pieceQ p t = ([], 20) by unfold pieceQ; rw [if_neg h1, hs, he, if_neg (by simpa using he0), hM, if_pos h3']]
    refine awp_seq_region (fun Z hZ => ?_)
    refine sx_assign rfl rfl ?_
    refine sx_assign rfl rfl ?_
    refine sx_nil (hZ _ _ ?_)
    refine awp_forget [(4, _), (5, _)] (Kn.cons rfl (Kn.cons rfl (Kn.nil))) ?_
    refine awp_ret ?_
    repeat (with_reducible (first | refine nx_then_ret ?_ | refine nx_block_ret ?_ | refine nx_scope_ret ?_))
    exact nx_ret2h [] rfl rfl rfl (HLe.sub (List.nil_sublist _)) ⟨_, rfl, RowOk.nil, rfl⟩
  have h3' : ¬ hasPtr M = true := by rw [hhp]; simpa using h3
  refine awp_skip ?_
  repeat (with_reducible (first | refine nx_block_normal ?_ | refine nx_scope_normal ?_))
  with_reducible first | refine nx_normal ?_ | refine nx_normalM ?_
  have hAs : 0 < M.length → ∃ g, A1 = some ⟨g, 0, none⟩ := fun h0 => by
    obtain ⟨g, c', hh⟩ := hu.some h0
    injection hh with hh _ _
    exact ⟨g, hh⟩
  obtain ⟨gz, hgz⟩ : ∃ g, 0 < M.length → A1 = some ⟨g, 0, none⟩ := by
    rcases Nat.eq_zero_or_pos M.length with h0 | h0
    · exact ⟨0, fun h => by omega⟩
    · obtain ⟨g, hg⟩ := hAs h0
      exact ⟨g, fun _ => hg⟩
  have hpos : ((M.length : Int) == 0) = false → 0 < M.length := fun h => by simp at h; exact List.length_pos_iff.2 h
  refine awp_seq ?_
  refine awq_seq_meet [(6, .slice A1 M.length c1), (52, .bool (decide (M.length = 0 ∨ (atE M 0).id ≠ p.id)))] ([.own g1 58 p.cells] ++ rowE (.slice A1 M.length c1) 58 4 (ecells M)) mixed (by kernel_rfl) (fun Z hZ => ?_) ?_
  · refine sq_move rfl rfl ?_
    first | refine sq_len Try.underlying22 rfl rfl ?_ | refine sq_lenS Try.underlying22 rfl rfl ?_
    first | refine sq_eql rfl rfl rfl ?_ | refine sq_seql rfl rfl rfl ?_
    refine sq_move rfl rfl ?_
    refine sq_split 44 rfl (fun hb3 => ?_) (fun hb3 => ?_)
    · refine sq_off rfl rfl rfl rfl rfl ?_
      refine sq_off rfl rfl rfl rfl rfl ?_
      refine sq_off rfl rfl rfl rfl rfl ?_
      refine sq_off rfl rfl rfl rfl rfl ?_
      refine sq_off rfl rfl rfl rfl rfl ?_
      refine sq_off rfl rfl rfl rfl rfl ?_
      refine sq_off rfl rfl rfl rfl rfl ?_
      refine sq_pick rfl rfl rfl ?_
      refine sq_nil (hZ _ _ ?_ ?_)
      · exact Kn.cons rfl (Kn.cons (congrArg some (congrArg Value.bool (by first | (simp at hb3; subst hb3; rfl) | (simp at hb3; rw [Bool.eq_iff_iff]; simp [hb3]; omega) | (simp at hb3; rw [Bool.eq_iff_iff]; simp [hb3])))) Kn.nil)
      · exact HLe.refl _
    · refine sq_on rfl rfl rfl ?_
      refine sq_move rfl rfl ?_
      refine sq_on rfl rfl rfl ?_
      refine sq_indexAddr 0 Try.underlying22 tyS58 (by rw [hgz (hpos hb3)]; rfl) rfl (by have := hpos hb3; omega) (by simp) rfl ?_
      refine sq_on rfl rfl rfl ?_
      refine sq_fieldAddr rfl tyF58_0 (by first | (simp only [Nat.reduceAdd, Nat.add_zero, Nat.zero_add]; first | done | rfl) | rfl) rfl ?_
      refine sq_on rfl rfl rfl ?_
      refine sq_loadRd (o := 0) (n := M.length) (size := 4) (xs := ecells M) 0 rfl rfl (fun w hw => by have hg := hgz (hpos hb3); subst hg; exact rd_rowE hu (ecells_len M) (fun y hy => List.mem_append_right _ hy) hw) (hpos hb3) tyA47 tyS47 (rd_id (k := 0) (atE_at (hpos hb3))) rfl ?_
      refine sq_on rfl rfl rfl ?_
      refine sq_fieldAddr rfl tyF58_0 (by first | (simp only [Nat.reduceAdd, Nat.add_zero, Nat.zero_add]; first | done | rfl) | rfl) rfl ?_
      refine sq_on rfl rfl rfl ?_
      first | refine sq_load 0 rfl rfl tyA47 tyS47 rfl rfl ?_
      refine sq_on rfl rfl rfl ?_
      first | refine sq_neq rfl rfl rfl ?_ | refine sq_sneq rfl rfl rfl ?_
      refine sq_pick rfl rfl rfl ?_
      refine sq_nil (hZ _ _ ?_ ?_)
      · exact Kn.cons rfl (Kn.cons (congrArg some (congrArg Value.bool (by first | (simp at hb3; subst hb3; rfl) | (simp at hb3; rw [Bool.eq_iff_iff]; simp [hb3]; omega) | (simp at hb3; rw [Bool.eq_iff_iff]; simp [hb3])))) Kn.nil)
      · exact HLe.refl _
  first | refine awp_cond rfl (fun h4 => ?_) (fun h4 => ?_) | refine awp_seq (awp_cond rfl (fun h4 => ?_) (fun h4 => ?_))
  · have h4' : M.length = 0 ∨ (atE M 0).id ≠ p.id := by simpa using h4
    rw [show pieceQ p t = ([], 10) by unfold pieceQ; rw [if_neg h1, hs, he, if_neg (by simpa using he0), hM, if_neg h3', if_pos h4']]
    refine awp_seq_region (fun Z hZ => ?_)
    refine sx_assign rfl rfl ?_
    refine sx_assign rfl rfl ?_
    refine sx_nil (hZ _ _ ?_)
    refine awp_forget [(4, _), (5, _)] (Kn.cons rfl (Kn.cons rfl (Kn.nil))) ?_
    refine awp_ret ?_
    repeat (with_reducible (first | refine nx_then_ret ?_ | refine nx_block_ret ?_ | refine nx_scope_ret ?_))
    exact nx_ret2h [] rfl rfl rfl (HLe.sub (List.nil_sublist _)) ⟨_, rfl, RowOk.nil, rfl⟩
  have h4' : ¬ (M.length = 0 ∨ (atE M 0).id ≠ p.id) := by simpa using h4
  rw [show pieceQ p t = (M, 0) by unfold pieceQ; rw [if_neg h1, hs, he, if_neg (by simpa using he0), hM, if_neg h3', if_neg h4']]
  refine awp_skip ?_
  repeat (with_reducible (first | refine nx_block_normal ?_ | refine nx_scope_normal ?_))
  with_reducible first | refine nx_normal ?_ | refine nx_normalM ?_
  refine awp_seq_region (fun Z hZ => ?_)
  refine sx_move rfl rfl ?_
  refine sx_assign rfl rfl ?_
  refine sx_assign rfl rfl ?_
  refine sx_nil (hZ _ _ ?_)
  refine awp_forget [(4, _), (5, _)] (Kn.cons rfl (Kn.cons rfl (Kn.nil))) ?_
  refine awp_ret ?_
  repeat (with_reducible (first | refine nx_then_ret ?_ | refine nx_block_ret ?_ | refine nx_scope_ret ?_))
  exact nx_ret2h _ rfl rfl rfl (HLe.sub (List.sublist_append_right _ _)) ⟨_, rfl, hu, rfl⟩
end Go.Proofs.Ytodclhiggafkbaa
