/- The walks of the document's Or, Not, And, Less, Within, Zoom, Size at sets. Conditions: the lists are not too long. -/
import Derived.Test.YtbldhokgbcljjaaMw3
namespace Go.Proofs.Ytbldhokgbcljjaa
open Go.RowKit
set_option linter.unusedVariables false
set_option linter.unusedSimpArgs false
set_option maxRecDepth 100000
theorem rcut_fn (A : Option Addr) (c : Nat) (L : List Sp) (T : Heap) (hA : ArgOk A L.length) (hT : 0 < L.length → T = roE A (scells L)) (hro : Ro T) (hL : L.length ≤ 30000) (ho : SpsOk L) :
    Fn Try.prog 58 [.slice A L.length c] T fun v H' => RowOk v (plainQ L).length ∧ H' = rowE v 75 2 (scells (plainQ L)) := by
  have hcl := clip_len L
  refine Fn.enter (N := 34) Try.func58 rfl (by kernel_rfl) rfl (fun w0 => ?_)

  refine awp_seq_region (fun Z hZ => ?_)
  refine sx_assign rfl rfl ?_
  refine sx_nil (hZ _ _ ?_)
  refine awp_forget [(0, _)] (Kn.cons rfl (Kn.nil)) ?_
  refine awp_seq_region (fun Z hZ => ?_)
  refine sx_assign rfl rfl ?_
  refine sx_nil (hZ _ _ ?_)
  refine awp_forget [(0, _), (3, _)] (Kn.cons rfl (Kn.cons rfl (Kn.nil))) ?_
  refine awp_seq ?_
  refine awp_seq_region (fun Z hZ => ?_)
  refine sx_assign rfl rfl ?_
  refine sx_nil (hZ _ _ ?_)
  refine awp_forget [(0, _), (3, _), (4, _)] (Kn.cons rfl (Kn.cons rfl (Kn.cons rfl (Kn.nil)))) ?_
  refine awp_block ?_
  refine awp_loop (ι := Nat × Value) (fun i => [(0, .slice A L.length c), (3, i.2), (4, iq (i.1 : Nat))]) (fun i => T ++ rowE i.2 75 2 (scells (clipQ (L.take i.1))))
    (fun i => i.1 ≤ L.length ∧ RowOk i.2 (clipQ (L.take i.1)).length) (fun i => L.length - i.1) (0, .slice none 0 0) ⟨by simp, RowOk.nil⟩ (Kn.cons rfl (Kn.cons rfl (Kn.cons rfl Kn.nil))) (by simp [rowE, clipQ]; exact HLe.refl _) ?_
  rintro ⟨i, v⟩ ⟨hi, hv⟩
  simp only at hi hv
  refine awp_seq ?_
  refine awp_seq_region (fun Z hZ => ?_)
  refine sx_move rfl rfl ?_
  refine sx_move rfl rfl ?_
  refine sx_len Try.underlying22 rfl rfl ?_
  refine sx_lss rfl rfl rfl ?_
  refine sx_nil (hZ _ _ ?_)
  refine awp_forget [(0, _), (3, _), (4, _), (8, _)] (Kn.cons rfl (Kn.cons rfl (Kn.cons rfl (Kn.cons rfl (Kn.nil))))) ?_
  refine awp_cond rfl (fun h => ?_) (fun h => ?_)
  · have hlt : i < L.length := by simpa using h
    obtain ⟨x, hx⟩ : ∃ x, L[i]? = some x := ⟨_, List.getElem?_eq_getElem hlt⟩
    have hxo := ho x (List.mem_of_getElem? hx)
    have hsn := clip_snoc hx
    have hql := clip_len (L.take i)
    rw [List.length_take] at hql
    obtain ⟨X, hX⟩ : ∃ X, clipQ (L.take i) = X := ⟨_, rfl⟩
    rw [hX] at hsn hql hv ⊢
    obtain ⟨g, o, rfl⟩ := hA (by omega)
    obtain rfl := hT (by omega)
    refine awp_heap (.ro g o (scells L) :: rowE v 75 2 (scells X)) (HLe.refl _) ?_
    refine awp_skip ?_
    with_reducible refine nx_normal ?_
    refine awp_seq (awp_block ?_)

    refine awp_seq_region (fun Z hZ => ?_)
    refine sx_move rfl rfl ?_
    refine sx_move rfl rfl ?_
    refine sx_indexAddr (o + i * 2) Try.underlying22 tyS75 rfl rfl (by omega) (by simp) rfl ?_
    refine sx_fieldAddr rfl tyF75_0 (by first | (simp only [Nat.reduceAdd, Nat.add_zero, Nat.zero_add]; first | done | rfl) | rfl) rfl ?_
    refine sx_loadRo 0 rfl rfl (i * 2) (by omega) tyA36 tyS36 (scells_a hx) rfl ?_
    refine sx_lss rfl rfl rfl ?_
    refine sx_nil (hZ _ _ ?_)
    refine awp_forget [(0, _), (3, _), (4, _), (16, _)] (Kn.cons rfl (Kn.cons rfl (Kn.cons rfl (Kn.cons rfl (Kn.nil))))) ?_
    refine awp_cond rfl (fun h2 => ?_) (fun h2 => ?_)
    · have h2' : x.a < 6004799503160661 := by simp at h2; omega
      rw [if_pos h2'] at hsn
      refine aww_region _ [(0, true), (1, true), (2, true), (3, true), (4, true), (5, true), (6, true), (7, true), (8, true), (9, true), (10, true), (11, true), (12, true), (13, false), (14, false), (15, true)] mixed (by kernel_rfl) (HLe.pick [0] (by simp) (by simp only [pick, List.filterMap_cons, List.filterMap_nil, List.getElem?_cons_succ, List.getElem?_cons_zero]; rfl)) (fun Z hZ => ?_)
      refine tw_p rfl ?_
      refine sv_move rfl rfl ?_
      refine sv_nil ?_
      refine tw_p rfl ?_
      refine sv_move rfl rfl ?_
      refine sv_nil ?_
      refine tw_p rfl ?_
      refine sv_move rfl rfl ?_
      refine sv_nil ?_
      refine tw_p rfl ?_
      refine sv_indexAddr (o + i * 2) Try.underlying22 tyS75 rfl rfl (by omega) (by simp) rfl ?_
      refine sv_nil ?_
      refine tw_p rfl ?_
      refine sv_fieldAddr rfl tyF75_0 (by first | (simp only [Nat.reduceAdd, Nat.add_zero, Nat.zero_add]; first | done | rfl) | rfl) rfl ?_
      refine sv_nil ?_
      refine tw_p rfl ?_
      refine sv_loadRo 0 rfl rfl (i * 2) (by omega) tyA36 tyS36 (scells_a hx) rfl ?_
      refine sv_nil ?_
      refine tw_p rfl ?_
      refine sv_move rfl rfl ?_
      refine sv_nil ?_
      refine tw_p rfl ?_
      refine sv_move rfl rfl ?_
      refine sv_nil ?_
      refine tw_p rfl ?_
      refine sv_indexAddr (o + i * 2) Try.underlying22 tyS75 rfl rfl (by omega) (by simp) rfl ?_
      refine sv_nil ?_
      refine tw_p rfl ?_
      refine sv_fieldAddr rfl tyF75_1 (by first | (simp only [Nat.reduceAdd, Nat.add_zero, Nat.zero_add]; first | done | rfl) | rfl) rfl ?_
      refine sv_nil ?_
      refine tw_p rfl ?_
      refine sv_loadRo 0 rfl rfl (i * 2 + 1) (by omega) tyA36 tyS36 (scells_b hx) rfl ?_
      refine sv_nil ?_
      refine tw_p rfl ?_
      refine sv_min rfl rfl ((min x.b 6004799503160660 : Nat) : Int) (by omega) rfl ?_
      refine sv_nil ?_
      refine tw_p rfl ?_
      refine sv_build tyZ75 tyP75 rfl rfl (by first | (simp only [List.take_succ_cons, List.take_zero, List.drop_succ_cons, List.drop_zero, List.cons_append, List.nil_append, List.append_nil, List.length_cons, List.length_nil, Nat.reduceAdd, Nat.zero_add, Nat.add_zero, Value.cells, wrV, zrep_one, List.replicate_succ, List.replicate_zero, Nat.reduceMul, Nat.zero_mul]; first | done | rfl) | rfl) rfl ?_
      refine sv_nil ?_
      refine tw_g rfl ?_
      refine sx_buildSlice Try.underlying22 tyS75 tyZ75 rfl rfl rfl rfl (by first | (simp only [List.take_succ_cons, List.take_zero, List.drop_succ_cons, List.drop_zero, List.cons_append, List.nil_append, List.append_nil, List.length_cons, List.length_nil, Nat.reduceAdd, Nat.zero_add, Nat.add_zero, Value.cells, wrV, zrep_one, List.replicate_succ, List.replicate_zero, Nat.reduceMul, Nat.zero_mul]; first | done | rfl) | rfl) rfl (fun g1 => ?_)
      refine sx_nil ⟨HLe.pick [1] (by simp) rfl, ?_⟩
      refine tw_g rfl ?_
      refine sx_appendE (xs := scells X) [_, _] elemSpR rfl hv (by rw [scells_len]) rfl (fun w hw => rd_own (i := 0) (xs := (⟨x.a, min x.b 6004799503160660⟩ : Sp).cells) rfl rfl hw) rfl (by show _ ≤ 9223372036854775807; omega) (by omega) (HLe.refl _) rfl (fun v2 hv2 => ?_)
      refine sx_nil ⟨HLe.pick [1] (by simp) rfl, ?_⟩
      refine tw_p rfl ?_
      refine sv_assign rfl rfl ?_
      refine sv_nil ?_
      refine tw_nil (hZ _ _ ?_)
      refine nx_forget [(0, _), (3, _), (4, _)] (Kn.cons rfl (Kn.cons rfl (Kn.cons rfl (Kn.nil)))) ?_
      repeat (with_reducible refine nx_block_normal ?_)
      with_reducible refine nx_normal ?_
      refine awp_region (fun Z hZ => ?_)
      refine sx_move rfl rfl ?_
      refine sx_add rfl rfl ((i + 1 : Nat) : Int) (by rw [IntWalk.i64_in _ (by omega)]; omega) rfl ?_
      refine sx_assign rfl rfl ?_
      refine sx_nil (hZ _ _ ?_)
      refine nx_forget [(0, _), (3, _), (4, _)] (Kn.cons rfl (Kn.cons rfl (Kn.cons rfl (Kn.nil)))) ?_
      refine nx_round (i + 1, v2) ⟨hlt, by rw [hsn, List.length_append]; exact hv2⟩ (by simp; omega) (Kn.cons rfl (Kn.cons rfl (Kn.cons rfl Kn.nil))) ?_
      simp only
      rw [hsn, scells_app]
      exact HLe.drop 1 rfl
    · have h2' : ¬ x.a < 6004799503160661 := by simp at h2; omega
      rw [if_neg h2', List.append_nil] at hsn
      refine awp_skip ?_
      repeat (with_reducible refine nx_block_normal ?_)
      with_reducible refine nx_normal ?_
      refine awp_region (fun Z hZ => ?_)
      refine sx_move rfl rfl ?_
      refine sx_add rfl rfl ((i + 1 : Nat) : Int) (by rw [IntWalk.i64_in _ (by omega)]; omega) rfl ?_
      refine sx_assign rfl rfl ?_
      refine sx_nil (hZ _ _ ?_)
      refine nx_forget [(0, _), (3, _), (4, _)] (Kn.cons rfl (Kn.cons rfl (Kn.cons rfl (Kn.nil)))) ?_
      refine nx_round (i + 1, v) ⟨hlt, by rw [hsn]; exact hv⟩ (by simp; omega) (Kn.cons rfl (Kn.cons rfl (Kn.cons rfl Kn.nil))) ?_
      simp only
      rw [hsn]
      exact HLe.refl _
  · refine awp_exit ?_
    repeat (with_reducible refine nx_then_exit ?_)
    with_reducible refine nx_block_exit ?_
    with_reducible refine nx_normal ?_
    have hke : i = L.length := by simp at h; omega
    subst hke
    rw [List.take_length] at hv ⊢
    refine awp_heap (rowE v 75 2 (scells (clipQ L)) ++ []) (by rw [List.append_nil]; exact HLe.sub (List.sublist_append_right _ _)) ?_
    refine awp_seq_region (fun Z hZ => ?_)
    refine sx_move rfl rfl ?_
    refine sx_toRoE (fun u => (32, u) :: _) hv (fun A1 c1 hA1 => ?_)
    refine sx_callO (roE A1 (scells (clipQ L)) ++ []) [] (runion_fn A1 none c1 0 (clipQ L) [] _ [] hA1.arg (fun _ => rfl) (Ro.roE _ _) (by omega) clip_sps (fun h => by simp at h) (fun h => by simp at h) Ro.nil (by simp) (fun s hs => by cases hs)) rfl (by rw [List.nil_append, List.append_nil, List.append_nil]; exact HLe.refl _) rfl ?_
    rintro v2 H2 ⟨hv2, rfl⟩
    rw [rowE_flt, List.append_nil]
    refine sx_assign rfl rfl ?_
    refine sx_nil (hZ _ _ ?_)
    refine awp_forget [(2, _)] (Kn.cons rfl (Kn.nil)) ?_
    refine awp_ret ?_
    exact nx_ret1h _ rfl rfl (HLe.refl _) ⟨hv2, rfl⟩
theorem ror_fn (A : Option Addr) (c : Nat) (L : List Sp) (T : Heap) (hA : ArgOk A L.length) (hT : 0 < L.length → T = roE A (scells L)) (hro : Ro T) (hL : L.length ≤ 30000) (ho : SpsOk L)
    (B : Option Addr) (c2 : Nat) (M : List Sp) (U : Heap) (hB : ArgOk B M.length) (hU : 0 < M.length → U = roE B (scells M)) (hroU : Ro U) (hM : M.length ≤ 30000) (hoM : SpsOk M) :
    Fn Try.prog 17 [.slice A L.length c, .slice B M.length c2] (T ++ U) fun v H' => RowOk v (orQ L M).length ∧ H' = rowE v 75 2 (scells (orQ L M)) := by
  have h1 := plain_len L
  have h2 := plain_len M
  refine Fn.enter (N := 10) Try.func17 rfl (by kernel_rfl) rfl (fun w0 => ?_)

  refine awp_seq_region (fun Z hZ => ?_)
  refine sx_assign rfl rfl ?_
  refine sx_nil (hZ _ _ ?_)
  refine awp_forget [(0, _), (1, _)] (Kn.cons rfl (Kn.cons rfl (Kn.nil))) ?_
  refine awp_seq_region (fun Z hZ => ?_)
  refine sx_move rfl rfl ?_
  refine sx_callIE T (rcut_fn A c L T hA hT hro hL ho) rfl (HLe.sub (List.sublist_append_left _ _)) hro rfl (fun A1 c1 hA1 => ?_)
  refine sx_move rfl rfl ?_
  refine sx_callIE U (rcut_fn B c2 M U hB hU hroU hM hoM) rfl (HLe.sub ((List.sublist_append_right T U).trans (List.sublist_append_left _ _))) hroU rfl (fun A2 c3 hA2 => ?_)
  refine sx_callVU (roE A1 (scells (plainQ L)) ++ roE A2 (scells (plainQ M))) (runion_fn A1 A2 c1 c3 _ _ _ _ hA1.arg (fun _ => rfl) (Ro.roE _ _) (by omega) (below_sps (plain_plain L) (plain_below L)) hA2.arg (fun _ => rfl) (Ro.roE _ _) (by omega) (below_sps (plain_plain M) (plain_below M))) rfl (HLe.twoS (by repeat (first | exact List.Sublist.refl _ | exact List.nil_sublist _ | exact List.sublist_append_right _ _ | refine List.Sublist.trans ?_ (List.sublist_append_left _ _) | exact List.Sublist.cons_cons _ (List.nil_sublist _) | refine List.Sublist.cons _ ?_)) (by repeat (first | exact List.Sublist.refl _ | exact List.nil_sublist _ | exact List.sublist_append_right _ _ | refine List.Sublist.trans ?_ (List.sublist_append_left _ _) | exact List.Sublist.cons_cons _ (List.nil_sublist _) | refine List.Sublist.cons _ ?_)) (Ro.roE _ _)) ((Ro.roE _ _).append (Ro.roE _ _)) rfl ?_
  rintro v H' ⟨hv, rfl⟩
  rw [rowE_flt]
  refine sx_assign rfl rfl ?_
  refine sx_nil (hZ _ _ ?_)
  refine awp_forget [(4, _)] (Kn.cons rfl (Kn.nil)) ?_
  refine awp_ret ?_
  exact nx_ret1h _ rfl rfl (HLe.sub (List.sublist_append_left _ _)) ⟨hv, rfl⟩
theorem rnot_fn (A : Option Addr) (c : Nat) (L : List Sp) (T : Heap) (hA : ArgOk A L.length) (hT : 0 < L.length → T = roE A (scells L)) (hro : Ro T) (hL : L.length ≤ 30000) (ho : SpsOk L) :
    Fn Try.prog 21 [.slice A L.length c] T fun v H' => RowOk v (notQ L).length ∧ H' = rowE v 75 2 (scells (notQ L)) := by
  have hpl := plain_len L
  have hpb := plain_below L
  have hpo := below_sps (plain_plain L) hpb
  have hnot : notQ L = finN (gapN (plainQ L)) := rfl
  refine Fn.enter (N := 47) Try.func21 rfl (by kernel_rfl) rfl (fun w0 => ?_)

  refine awp_seq_region (fun Z hZ => ?_)
  refine sx_assign rfl rfl ?_
  refine sx_nil (hZ _ _ ?_)
  refine awp_forget [(0, _)] (Kn.cons rfl (Kn.nil)) ?_
  refine awp_seq_region (fun Z hZ => ?_)
  refine sx_move rfl rfl ?_
  refine sx_callIE T (rcut_fn A c L T hA hT hro hL ho) rfl (HLe.refl _) hro rfl (fun A1 c1 hA1 => ?_)
  refine sx_assign rfl rfl ?_
  refine sx_nil (hZ _ _ ?_)
  refine awp_forget [(3, _)] (Kn.cons rfl (Kn.nil)) ?_
  refine awp_heap (roE A1 (scells (plainQ L))) (HLe.sub (List.sublist_append_right _ _)) ?_
  obtain ⟨P, hP⟩ : ∃ P, plainQ L = P := ⟨_, rfl⟩
  rw [hP] at hpl hpb hpo hA1 hnot ⊢
  refine awp_seq_region (fun Z hZ => ?_)
  refine sx_assign rfl rfl ?_
  refine sx_nil (hZ _ _ ?_)
  refine awp_forget [(3, _), (4, _)] (Kn.cons rfl (Kn.cons rfl (Kn.nil))) ?_
  refine awp_seq_region (fun Z hZ => ?_)
  refine sx_assign rfl rfl ?_
  refine sx_nil (hZ _ _ ?_)
  refine awp_forget [(3, _), (4, _), (5, _)] (Kn.cons rfl (Kn.cons rfl (Kn.cons rfl (Kn.nil)))) ?_
  refine awp_cut (ι := Value) (fun v => [(4, v), (5, uq (gapN P).1)]) (fun v => rowE v 75 2 (scells (gapN P).2)) (fun v => RowOk v (gapN P).2.length) ?_ ?_
  · refine awp_seq_region (fun Z hZ => ?_)
    refine sx_assign rfl rfl ?_
    refine sx_nil (hZ _ _ ?_)
    refine awp_forget [(3, _), (4, _), (5, _), (6, _)] (Kn.cons rfl (Kn.cons rfl (Kn.cons rfl (Kn.cons rfl (Kn.nil))))) ?_
    refine awp_block ?_
    refine awp_loop (ι := Nat × Value) (fun i => [(3, .slice A1 P.length c1), (4, i.2), (5, uq (gapN (P.take i.1)).1), (6, iq (i.1 : Nat))]) (fun i => roE A1 (scells P) ++ rowE i.2 75 2 (scells (gapN (P.take i.1)).2))
      (fun i => i.1 ≤ P.length ∧ RowOk i.2 (gapN (P.take i.1)).2.length) (fun i => P.length - i.1) (0, .slice none 0 0) ⟨by simp, RowOk.nil⟩ (Kn.cons rfl (Kn.cons rfl (Kn.cons rfl (Kn.cons rfl Kn.nil)))) (by simp [rowE]; exact HLe.refl _) ?_
    rintro ⟨i, v⟩ ⟨hi, hv⟩
    simp only at hi hv
    refine awp_seq ?_
    refine awp_seq_region (fun Z hZ => ?_)
    refine sx_move rfl rfl ?_
    refine sx_move rfl rfl ?_
    refine sx_len Try.underlying22 rfl rfl ?_
    refine sx_lss rfl rfl rfl ?_
    refine sx_nil (hZ _ _ ?_)
    refine awp_forget [(3, _), (4, _), (5, _), (6, _), (12, _)] (Kn.cons rfl (Kn.cons rfl (Kn.cons rfl (Kn.cons rfl (Kn.cons rfl (Kn.nil)))))) ?_
    refine awp_cond rfl (fun h => ?_) (fun h => ?_)
    · have hlt : i < P.length := by simpa using h
      obtain ⟨x, hx⟩ : ∃ x, P[i]? = some x := ⟨_, List.getElem?_eq_getElem hlt⟩
      have hxo := hpo x (List.mem_of_getElem? hx)
      have hxb := hpb x (List.mem_of_getElem? hx)
      have hsn := gapN_snoc hx
      have hgl := gapN_len P i hi
      have hgt := gapN_top hpb i hi
      obtain ⟨st, hst⟩ : ∃ st, gapN (P.take i) = st := ⟨_, rfl⟩
      obtain ⟨free, out⟩ := st
      rw [hst] at hsn hgl hgt hv ⊢
      simp only at hsn hgl hgt hv
      obtain ⟨g, o, rfl⟩ := slIn_pos2 hA1 (by omega)
      refine awp_heap (.ro g o (scells P) :: rowE v 75 2 (scells out)) (HLe.refl _) ?_
      refine awp_skip ?_
      with_reducible refine nx_normal ?_
      refine awp_seq (awp_block ?_)

      refine awp_cut (ι := Value) (fun v => [(3, .slice (some ⟨g, o, none⟩) P.length c1), (4, v), (6, iq (i : Nat))]) (fun v => .ro g o (scells P) :: rowE v 75 2 (scells (stepN (free, out) x).2)) (fun v => RowOk v (stepN (free, out) x).2.length) ?_ ?_
      · refine awp_seq_region (fun Z hZ => ?_)
        refine sx_move rfl rfl ?_
        refine sx_move rfl rfl ?_
        refine sx_indexAddr (o + i * 2) Try.underlying22 tyS75 rfl rfl (by omega) (by simp) rfl ?_
        refine sx_fieldAddr rfl tyF75_0 (by first | (simp only [Nat.reduceAdd, Nat.add_zero, Nat.zero_add]; first | done | rfl) | rfl) rfl ?_
        refine sx_loadRo 0 rfl rfl (i * 2) (by omega) tyA36 tyS36 (scells_a hx) rfl ?_
        refine sx_move rfl rfl ?_
        refine sx_gtr rfl rfl rfl ?_
        refine sx_nil (hZ _ _ ?_)
        refine awp_forget [(3, _), (4, _), (5, _), (6, _), (21, _)] (Kn.cons rfl (Kn.cons rfl (Kn.cons rfl (Kn.cons rfl (Kn.cons rfl (Kn.nil)))))) ?_
        refine awp_cond rfl (fun h6 => ?_) (fun h6 => ?_)
        · have h6' : free < x.a := by simp at h6; omega
          have e : (stepN (free, out) x).2 = out ++ [⟨free, x.a - 1⟩] := by unfold stepN; simp only; rw [if_pos h6']
          rw [e]
          refine awp_region (fun Z hZ => ?_)
          refine sx_move rfl rfl ?_
          refine sx_move rfl rfl ?_
          refine sx_move rfl rfl ?_
          refine sx_move rfl rfl ?_
          refine sx_indexAddr (o + i * 2) Try.underlying22 tyS75 rfl rfl (by omega) (by simp) rfl ?_
          refine sx_fieldAddr rfl tyF75_0 (by first | (simp only [Nat.reduceAdd, Nat.add_zero, Nat.zero_add]; first | done | rfl) | rfl) rfl ?_
          refine sx_loadRo 0 rfl rfl (i * 2) (by omega) tyA36 tyS36 (scells_a hx) rfl ?_
          refine sx_sub rfl rfl ((x.a - 1 : Nat) : Int) (by rw [IntWalk.u64_in _ (by omega)]; omega) rfl ?_
          refine sx_build tyZ75 tyP75 rfl rfl (by first | (simp only [List.take_succ_cons, List.take_zero, List.drop_succ_cons, List.drop_zero, List.cons_append, List.nil_append, List.append_nil, List.length_cons, List.length_nil, Nat.reduceAdd, Nat.zero_add, Nat.add_zero, Value.cells, wrV, zrep_one, List.replicate_succ, List.replicate_zero, Nat.reduceMul, Nat.zero_mul]; first | done | rfl) | rfl) rfl ?_
          refine sx_buildSlice Try.underlying22 tyS75 tyZ75 rfl rfl rfl rfl (by first | (simp only [List.take_succ_cons, List.take_zero, List.drop_succ_cons, List.drop_zero, List.cons_append, List.nil_append, List.append_nil, List.length_cons, List.length_nil, Nat.reduceAdd, Nat.zero_add, Nat.add_zero, Value.cells, wrV, zrep_one, List.replicate_succ, List.replicate_zero, Nat.reduceMul, Nat.zero_mul]; first | done | rfl) | rfl) rfl (fun g1 => ?_)
          refine sx_appendE (xs := scells out) [_, _] elemSpR rfl hv (by rw [scells_len]) rfl (fun w hw => rd_own (i := 0) (xs := (⟨free, x.a - 1⟩ : Sp).cells) rfl rfl hw) rfl (by show _ ≤ 9223372036854775807; omega) (by omega) (HLe.refl _) rfl (fun v2 hv2 => ?_)
          refine sx_assign rfl rfl ?_
          refine sx_nil (hZ _ _ ?_)
          refine nx_forget [(3, _), (4, _), (6, _)] (Kn.cons rfl (Kn.cons rfl (Kn.cons rfl (Kn.nil)))) ?_
          refine nx_cut v2 (by rw [List.length_append]; exact hv2) (Kn.cons rfl (Kn.cons rfl (Kn.cons rfl Kn.nil))) ?_
          rw [scells_app]
          exact HLe.drop 1 rfl
        · have h6' : ¬ free < x.a := by simp at h6; omega
          have e : (stepN (free, out) x).2 = out := by unfold stepN; simp only; rw [if_neg h6']
          rw [e]
          refine awp_skip ?_
          exact nx_cut v hv (Kn.cons rfl (Kn.cons rfl (Kn.cons rfl Kn.nil))) (HLe.refl _)
      intro v hv

      refine awp_region (fun Z hZ => ?_)
      refine sx_move rfl rfl ?_
      refine sx_move rfl rfl ?_
      refine sx_indexAddr (o + i * 2) Try.underlying22 tyS75 rfl rfl (by omega) (by simp) rfl ?_
      refine sx_fieldAddr rfl tyF75_1 (by first | (simp only [Nat.reduceAdd, Nat.add_zero, Nat.zero_add]; first | done | rfl) | rfl) rfl ?_
      refine sx_loadRo 0 rfl rfl (i * 2 + 1) (by omega) tyA36 tyS36 (scells_b hx) rfl ?_
      refine sx_add rfl rfl ((x.b + 1 : Nat) : Int) (by rw [IntWalk.u64_in _ (by omega)]; omega) rfl ?_
      refine sx_assign rfl rfl ?_
      refine sx_nil (hZ _ _ ?_)
      refine nx_forget [(3, _), (4, _), (5, _), (6, _)] (Kn.cons rfl (Kn.cons rfl (Kn.cons rfl (Kn.cons rfl (Kn.nil))))) ?_
      repeat (with_reducible refine nx_block_normal ?_)
      with_reducible refine nx_normal ?_
      refine awp_region (fun Z hZ => ?_)
      refine sx_move rfl rfl ?_
      refine sx_add rfl rfl ((i + 1 : Nat) : Int) (by rw [IntWalk.i64_in _ (by omega)]; omega) rfl ?_
      refine sx_assign rfl rfl ?_
      refine sx_nil (hZ _ _ ?_)
      refine nx_forget [(3, _), (4, _), (5, _), (6, _)] (Kn.cons rfl (Kn.cons rfl (Kn.cons rfl (Kn.cons rfl (Kn.nil))))) ?_
      refine nx_round (i + 1, v) ⟨hlt, by rw [hsn]; exact hv⟩ (by simp; omega) (Kn.cons rfl (Kn.cons rfl (Kn.cons (by rw [hsn]; rfl) (Kn.cons rfl Kn.nil)))) ?_
      simp only
      rw [hsn]
      exact HLe.refl _
    · refine awp_exit ?_
      repeat (with_reducible refine nx_then_exit ?_)
      with_reducible refine nx_block_exit ?_
      have hke : i = P.length := by simp at h; omega
      subst hke
      rw [List.take_length] at hv ⊢
      exact nx_cut v hv (Kn.cons rfl (Kn.cons rfl Kn.nil)) (HLe.sub (List.sublist_append_right _ _))
  intro v hv
  have hgl := gapN_len P P.length (Nat.le_refl _)
  have hgt := gapN_top hpb P.length (Nat.le_refl _)
  rw [List.take_length] at hgl hgt
  obtain ⟨st, hst⟩ : ∃ st, gapN P = st := ⟨_, rfl⟩
  rw [hst] at hnot hv hgl hgt ⊢
  obtain ⟨free, out⟩ := st
  simp only at hv hgl hgt
  rw [hnot]
  refine awp_cut (ι := Value) (fun v => [(4, v)]) (fun v => rowE v 75 2 (scells (finN (free, out)))) (fun v => RowOk v (finN (free, out)).length) ?_ ?_
  · skip
    refine awp_seq_region (fun Z hZ => ?_)
    refine sx_move rfl rfl ?_
    refine sx_lss rfl rfl rfl ?_
    refine sx_nil (hZ _ _ ?_)
    refine awp_forget [(4, _), (5, _), (40, _)] (Kn.cons rfl (Kn.cons rfl (Kn.cons rfl (Kn.nil)))) ?_
    refine awp_cond rfl (fun h => ?_) (fun h => ?_)
    · have h' : free < 6004799503160661 := by simp at h; omega
      have e : finN (free, out) = out ++ [⟨free, 6004799503160660⟩] := by unfold finN; simp only; rw [if_pos h']
      rw [e]
      refine awp_region (fun Z hZ => ?_)
      refine sx_move rfl rfl ?_
      refine sx_move rfl rfl ?_
      refine sx_build tyZ75 tyP75 rfl rfl (by first | (simp only [List.take_succ_cons, List.take_zero, List.drop_succ_cons, List.drop_zero, List.cons_append, List.nil_append, List.append_nil, List.length_cons, List.length_nil, Nat.reduceAdd, Nat.zero_add, Nat.add_zero, Value.cells, wrV, zrep_one, List.replicate_succ, List.replicate_zero, Nat.reduceMul, Nat.zero_mul]; first | done | rfl) | rfl) rfl ?_
      refine sx_buildSlice Try.underlying22 tyS75 tyZ75 rfl rfl rfl rfl (by first | (simp only [List.take_succ_cons, List.take_zero, List.drop_succ_cons, List.drop_zero, List.cons_append, List.nil_append, List.append_nil, List.length_cons, List.length_nil, Nat.reduceAdd, Nat.zero_add, Nat.add_zero, Value.cells, wrV, zrep_one, List.replicate_succ, List.replicate_zero, Nat.reduceMul, Nat.zero_mul]; first | done | rfl) | rfl) rfl (fun g2 => ?_)
      refine sx_appendE (xs := scells out) [_] elemSpR rfl hv (by rw [scells_len]) rfl (fun w hw => rd_own (i := 0) (xs := (⟨free, 6004799503160660⟩ : Sp).cells) rfl rfl hw) rfl (by show _ ≤ 9223372036854775807; omega) (by omega) (HLe.refl _) rfl (fun v2 hv2 => ?_)
      refine sx_assign rfl rfl ?_
      refine sx_nil (hZ _ _ ?_)
      refine nx_forget [(4, _)] (Kn.cons rfl (Kn.nil)) ?_
      refine nx_cut v2 (by rw [List.length_append]; exact hv2) (Kn.cons rfl Kn.nil) ?_
      rw [scells_app]
      exact HLe.drop 1 rfl
    · have h' : ¬ free < 6004799503160661 := by simp at h; omega
      have e : finN (free, out) = out := by unfold finN; simp only; rw [if_neg h']
      rw [e]
      refine awp_skip ?_
      exact nx_cut v hv (Kn.cons rfl Kn.nil) (HLe.refl _)
  intro v hv
  refine awp_seq_region (fun Z hZ => ?_)
  refine sx_move rfl rfl ?_
  refine sx_assign rfl rfl ?_
  refine sx_nil (hZ _ _ ?_)
  refine awp_forget [(2, _)] (Kn.cons rfl (Kn.nil)) ?_
  refine awp_ret ?_
  exact nx_ret1h _ rfl rfl (HLe.refl _) ⟨hv, rfl⟩
theorem rand_fn (A : Option Addr) (c : Nat) (L : List Sp) (T : Heap) (hA : ArgOk A L.length) (hT : 0 < L.length → T = roE A (scells L)) (hro : Ro T) (hL : L.length ≤ 14000) (ho : SpsOk L)
    (B : Option Addr) (c2 : Nat) (M : List Sp) (U : Heap) (hB : ArgOk B M.length) (hU : 0 < M.length → U = roE B (scells M)) (hroU : Ro U) (hM : M.length ≤ 14000) (hoM : SpsOk M) :
    Fn Try.prog 19 [.slice A L.length c, .slice B M.length c2] (T ++ U) fun v H' => RowOk v (andQ L M).length ∧ H' = rowE v 75 2 (scells (andQ L M)) := by
  have h1 := not_len L
  have h2 := not_len M
  have h3 := or_len (notQ L) (notQ M)
  refine Fn.enter (N := 11) Try.func19 rfl (by kernel_rfl) rfl (fun w0 => ?_)

  refine awp_seq_region (fun Z hZ => ?_)
  refine sx_assign rfl rfl ?_
  refine sx_nil (hZ _ _ ?_)
  refine awp_forget [(0, _), (1, _)] (Kn.cons rfl (Kn.cons rfl (Kn.nil))) ?_
  refine awp_seq_region (fun Z hZ => ?_)
  refine sx_move rfl rfl ?_
  refine sx_callIE T (rnot_fn A c L T hA hT hro (by omega) ho) rfl (HLe.sub (List.sublist_append_left _ _)) hro rfl (fun A1 c1 hA1 => ?_)
  refine sx_move rfl rfl ?_
  refine sx_callIE U (rnot_fn B c2 M U hB hU hroU (by omega) hoM) rfl (HLe.sub ((List.sublist_append_right T U).trans (List.sublist_append_left _ _))) hroU rfl (fun A2 c3 hA2 => ?_)
  refine sx_callIE (roE A1 (scells (notQ L)) ++ roE A2 (scells (notQ M))) (ror_fn A1 c1 _ _ hA1.arg (fun _ => rfl) (Ro.roE _ _) (by omega) (below_sps (not_plain L) (not_below L)) A2 c3 _ _ hA2.arg (fun _ => rfl) (Ro.roE _ _) (by omega) (below_sps (not_plain M) (not_below M))) rfl (HLe.twoS (by repeat (first | exact List.Sublist.refl _ | exact List.nil_sublist _ | exact List.sublist_append_right _ _ | refine List.Sublist.trans ?_ (List.sublist_append_left _ _) | exact List.Sublist.cons_cons _ (List.nil_sublist _) | refine List.Sublist.cons _ ?_)) (by repeat (first | exact List.Sublist.refl _ | exact List.nil_sublist _ | exact List.sublist_append_right _ _ | refine List.Sublist.trans ?_ (List.sublist_append_left _ _) | exact List.Sublist.cons_cons _ (List.nil_sublist _) | refine List.Sublist.cons _ ?_)) (Ro.roE _ _)) ((Ro.roE _ _).append (Ro.roE _ _)) rfl (fun A3 c4 hA3 => ?_)
  refine sx_callVU (roE A3 (scells (orQ (notQ L) (notQ M)))) (rnot_fn A3 c4 _ _ hA3.arg (fun _ => rfl) (Ro.roE _ _) (by omega) (below_sps (or_plain _ _) (or_below _ _))) rfl (HLe.sub (by repeat (first | exact List.Sublist.refl _ | exact List.nil_sublist _ | exact List.sublist_append_right _ _ | refine List.Sublist.trans ?_ (List.sublist_append_left _ _) | exact List.Sublist.cons_cons _ (List.nil_sublist _) | refine List.Sublist.cons _ ?_))) (Ro.roE _ _) rfl ?_
  rintro v H' ⟨hv, rfl⟩
  rw [rowE_flt]
  refine sx_assign rfl rfl ?_
  refine sx_nil (hZ _ _ ?_)
  refine awp_forget [(4, _)] (Kn.cons rfl (Kn.nil)) ?_
  refine awp_ret ?_
  exact nx_ret1h _ rfl rfl (HLe.sub (List.sublist_append_left _ _)) ⟨hv, rfl⟩
theorem rless_fn (A : Option Addr) (c : Nat) (L : List Sp) (T : Heap) (hA : ArgOk A L.length) (hT : 0 < L.length → T = roE A (scells L)) (hro : Ro T) (hL : L.length ≤ 14000) (ho : SpsOk L)
    (B : Option Addr) (c2 : Nat) (M : List Sp) (U : Heap) (hB : ArgOk B M.length) (hU : 0 < M.length → U = roE B (scells M)) (hroU : Ro U) (hM : M.length ≤ 13000) (hoM : SpsOk M) :
    Fn Try.prog 23 [.slice A L.length c, .slice B M.length c2] (T ++ U) fun v H' => RowOk v (lessQ L M).length ∧ H' = rowE v 75 2 (scells (lessQ L M)) := by
  have hnl := not_len M
  refine Fn.enter (N := 9) Try.func23 rfl (by kernel_rfl) rfl (fun w0 => ?_)

  refine awp_seq_region (fun Z hZ => ?_)
  refine sx_assign rfl rfl ?_
  refine sx_nil (hZ _ _ ?_)
  refine awp_forget [(0, _), (1, _)] (Kn.cons rfl (Kn.cons rfl (Kn.nil))) ?_
  refine awp_seq_region (fun Z hZ => ?_)
  refine sx_move rfl rfl ?_
  refine sx_move rfl rfl ?_
  refine sx_callIE U (rnot_fn B c2 M U hB hU hroU (by omega) hoM) rfl (HLe.sub (List.sublist_append_right _ _)) hroU rfl (fun A2 c3 hA2 => ?_)
  refine sx_callVU (T ++ roE A2 (scells (notQ M))) (rand_fn A c L T hA hT hro hL ho A2 c3 (notQ M) _ hA2.arg (fun _ => rfl) (Ro.roE _ _) (by omega) (below_sps (not_plain M) (not_below M))) rfl (HLe.sub (List.Sublist.append_right (List.sublist_append_left _ _) _)) (hro.append (Ro.roE _ _)) rfl ?_
  rintro v H' ⟨hv, rfl⟩
  rw [rowE_flt]
  refine sx_assign rfl rfl ?_
  refine sx_nil (hZ _ _ ?_)
  refine awp_forget [(4, _)] (Kn.cons rfl (Kn.nil)) ?_
  refine awp_ret ?_
  exact nx_ret1h _ rfl rfl (HLe.sub (List.sublist_append_left _ _)) ⟨hv, rfl⟩
theorem rwithin_fn (A : Option Addr) (c : Nat) (L : List Sp) (T : Heap) (hA : ArgOk A L.length) (hT : 0 < L.length → T = roE A (scells L)) (hro : Ro T) (hL : L.length ≤ 14000) (ho : SpsOk L)
    (B : Option Addr) (c2 : Nat) (M : List Sp) (U : Heap) (hB : ArgOk B M.length) (hU : 0 < M.length → U = roE B (scells M)) (hroU : Ro U) (hM : M.length ≤ 13000) (hoM : SpsOk M) :
    Fn Try.prog 25 [.slice A L.length c, .slice B M.length c2] (T ++ U) fun v _ => v = .bool (withinQ L M) := by
  refine Fn.enter (N := 10) Try.func25 rfl (by kernel_rfl) rfl (fun w0 => ?_)

  refine awp_seq_region (fun Z hZ => ?_)
  refine sx_assign rfl rfl ?_
  refine sx_nil (hZ _ _ ?_)
  refine awp_forget [(0, _), (1, _)] (Kn.cons rfl (Kn.cons rfl (Kn.nil))) ?_
  refine awp_seq_region (fun Z hZ => ?_)
  refine sx_move rfl rfl ?_
  refine sx_move rfl rfl ?_
  refine sx_callIE (T ++ U) (rless_fn A c L T hA hT hro hL ho B c2 M U hB hU hroU hM hoM) rfl (HLe.refl _) (hro.append hroU) rfl (fun A2 c3 hA2 => ?_)
  refine sx_len Try.underlying22 rfl rfl ?_
  refine sx_eql rfl rfl rfl ?_
  refine sx_assign rfl rfl ?_
  refine sx_nil (hZ _ _ ?_)
  refine awp_forget [(4, _)] (Kn.cons rfl (Kn.nil)) ?_
  refine awp_ret ?_
  exact nx_ret1 rfl rfl (congrArg Value.bool (by unfold withinQ; rw [Bool.eq_iff_iff, List.isEmpty_iff]; simp))
theorem rZoom_fn (A : Option Addr) (c : Nat) (L : List Sp) (T : Heap) (hA : ArgOk A L.length) (hT : 0 < L.length → T = roE A (scells L)) (hro : Ro T) (hL : L.length ≤ 14000) (ho : SpsOk L) (z : Int) :
    Fn Try.prog 27 [.slice A L.length c, iq z] T fun v H' => RowOk v (ZoomQ L z).length ∧ H' = rowE v 75 2 (scells (ZoomQ L z)) := by
  refine Fn.enter (N := 33) Try.func27 rfl (by kernel_rfl) rfl (fun w0 => ?_)

  refine awp_seq_region (fun Z hZ => ?_)
  refine sx_assign rfl rfl ?_
  refine sx_nil (hZ _ _ ?_)
  refine awp_forget [(0, _), (1, _)] (Kn.cons rfl (Kn.cons rfl (Kn.nil))) ?_
  refine awp_seq ?_
  refine awp_seq_meet [(0, .slice A L.length c), (1, iq z), (14, .bool (decide (z < 0 ∨ 26 < z)))] T (fun Z hZ => ?_) ?_
  · refine sx_move rfl rfl ?_
    refine sx_lss rfl rfl rfl ?_
    refine sx_move rfl rfl ?_
    refine sx_split 11 rfl (fun hb2 => ?_) (fun hb2 => ?_)
    · refine sx_off rfl rfl rfl rfl rfl ?_
      refine sx_off rfl rfl rfl rfl rfl ?_
      refine sx_pick rfl rfl rfl ?_
      refine sx_nil (hZ _ _ ?_ ?_)
      · exact Kn.cons rfl (Kn.cons rfl (Kn.cons (congrArg some (congrArg Value.bool (by first | (rw [Bool.eq_iff_iff]; simp only [decide_eq_true_eq, decide_eq_false_iff_not] at hb2 ⊢; omega) | (simp at *; done) | (simp at *; omega)))) Kn.nil))
      · exact HLe.refl _
    · refine sx_on rfl rfl rfl ?_
      refine sx_move rfl rfl ?_
      refine sx_on rfl rfl rfl ?_
      refine sx_gtr rfl rfl rfl ?_
      refine sx_pick rfl rfl rfl ?_
      refine sx_nil (hZ _ _ ?_ ?_)
      · exact Kn.cons rfl (Kn.cons rfl (Kn.cons (congrArg some (congrArg Value.bool (by first | (rw [Bool.eq_iff_iff]; simp only [decide_eq_true_eq, decide_eq_false_iff_not] at hb2 ⊢; omega) | (simp at *; done) | (simp at *; omega)))) Kn.nil))
      · exact HLe.refl _
  refine awp_cond rfl (fun h => ?_) (fun h => ?_)
  · have h' : z < 0 ∨ 26 < z := by simpa using h
    rw [show ZoomQ L z = [] by unfold ZoomQ; rw [if_pos h']]
    refine awp_seq_region (fun Z hZ => ?_)
    refine sx_assign rfl rfl ?_
    refine sx_nil (hZ _ _ ?_)
    refine awp_forget [(4, _)] (Kn.cons rfl (Kn.nil)) ?_
    refine awp_ret ?_
    repeat (with_reducible refine nx_then_ret ?_)
    exact nx_ret1h [] rfl rfl (HLe.sub (List.nil_sublist _)) ⟨RowOk.nil, rfl⟩
  have h' : ¬ (z < 0 ∨ 26 < z) := by simpa using h
  obtain ⟨y, rfl⟩ : ∃ y : Nat, z = y := ⟨z.toNat, by omega⟩
  have hy : y ≤ 26 := by omega
  have e : ZoomQ L (y : Int) = andQ L [zoomS y] := by unfold ZoomQ; rw [if_neg h', Int.toNat_natCast]; rfl
  rw [e]
  obtain ⟨hz1, hz2⟩ := zoomS_ok hy
  have h1 : base4 (y + 1) ≤ base4 27 := base4_mono (by omega)
  rw [base4_27] at h1
  have h2 := pow4_pos y
  have h3 : base4 (y + 1) = base4 y + 4 ^ y := rfl
  refine awp_skip ?_
  with_reducible refine nx_normal ?_
  refine awp_seq_region (fun Z hZ => ?_)
  refine sx_move rfl rfl ?_
  refine sx_callP (rbase_fn y (by omega)) rfl rfl ?_
  refine sx_move rfl rfl ?_
  refine sx_extract rfl rfl rfl ?_
  refine sx_extract rfl rfl rfl ?_
  refine sx_assign rfl rfl ?_
  refine sx_assign rfl rfl ?_
  refine sx_nil (hZ _ _ ?_)
  refine awp_forget [(0, _), (1, _), (5, _)] (Kn.cons rfl (Kn.cons rfl (Kn.cons rfl (Kn.nil)))) ?_
  refine awp_seq_region (fun Z hZ => ?_)
  refine sx_move rfl rfl ?_
  refine sx_add rfl rfl ((y + 1 : Nat) : Int) (by rw [IntWalk.i64_in _ (by omega)]; omega) rfl ?_
  refine sx_callP (rbase_fn (y + 1) (by omega)) rfl rfl ?_
  refine sx_move rfl rfl ?_
  refine sx_extract rfl rfl rfl ?_
  refine sx_extract rfl rfl rfl ?_
  refine sx_assign rfl rfl ?_
  refine sx_assign rfl rfl ?_
  refine sx_nil (hZ _ _ ?_)
  refine awp_forget [(0, _), (5, _), (7, _)] (Kn.cons rfl (Kn.cons rfl (Kn.cons rfl (Kn.nil)))) ?_
  refine awp_seq_region (fun Z hZ => ?_)
  refine sx_move rfl rfl ?_
  refine sx_move rfl rfl ?_
  refine sx_move rfl rfl ?_
  refine sx_sub rfl rfl ((base4 (y + 1) - 1 : Nat) : Int) (by rw [IntWalk.u64_in _ (by omega)]; omega) rfl ?_
  refine sx_build tyZ75 tyP75 rfl rfl (by first | (simp only [List.take_succ_cons, List.take_zero, List.drop_succ_cons, List.drop_zero, List.cons_append, List.nil_append, List.append_nil, List.length_cons, List.length_nil, Nat.reduceAdd, Nat.zero_add, Nat.add_zero, Value.cells, wrV, zrep_one, List.replicate_succ, List.replicate_zero, Nat.reduceMul, Nat.zero_mul]; first | done | rfl) | rfl) rfl ?_
  refine sx_buildSlice Try.underlying22 tyS75 tyZ75 rfl rfl rfl rfl (by first | (simp only [List.take_succ_cons, List.take_zero, List.drop_succ_cons, List.drop_zero, List.cons_append, List.nil_append, List.append_nil, List.length_cons, List.length_nil, Nat.reduceAdd, Nat.zero_add, Nat.add_zero, Value.cells, wrV, zrep_one, List.replicate_succ, List.replicate_zero, Nat.reduceMul, Nat.zero_mul]; first | done | rfl) | rfl) rfl (fun g1 => ?_)
  refine sx_heap (T ++ [Ent.ro g1 0 (scells [zoomS y])]) ((HLe.swap [Ent.ro g1 0 (scells [zoomS y])] T).trans (own_ro (xs := scells [zoomS y]) T)) ?_
  refine sx_callVU (T ++ [Ent.ro g1 0 (scells [zoomS y])]) (rand_fn A c L T hA hT hro hL ho (some ⟨g1, 0, none⟩) 1 [zoomS y] [Ent.ro g1 0 (scells [zoomS y])] (fun _ => ⟨_, _, rfl⟩) (fun _ => rfl) (Ro.roE (some ⟨g1, 0, none⟩) (scells [zoomS y])) (by simp) (fun s hs => by rw [List.mem_singleton.1 hs]; omega)) rfl (HLe.refl _) (hro.append (Ro.roE (some ⟨g1, 0, none⟩) (scells [zoomS y]))) rfl ?_
  rintro v H' ⟨hv, rfl⟩
  rw [rowE_flt]
  refine sx_assign rfl rfl ?_
  refine sx_nil (hZ _ _ ?_)
  refine awp_forget [(4, _)] (Kn.cons rfl (Kn.nil)) ?_
  refine awp_ret ?_
  exact nx_ret1h _ rfl rfl (HLe.sub (List.sublist_append_left _ _)) ⟨hv, rfl⟩
theorem rSize_fn (A : Option Addr) (c : Nat) (L : List Sp) (T : Heap) (hA : ArgOk A L.length) (hT : 0 < L.length → T = roE A (scells L)) (hro : Ro T) (hL : L.length ≤ 30000) (ho : SpsOk L) :
    Fn Try.prog 28 [.slice A L.length c] T fun v _ => v = uq (totalQ (plainQ L)) := by
  have hpl := plain_len L
  have htl := total_le (plain_plain L) (plain_below L)
  refine Fn.enter (N := 6) Try.func28 rfl (by kernel_rfl) rfl (fun w0 => ?_)

  refine awp_seq_region (fun Z hZ => ?_)
  refine sx_assign rfl rfl ?_
  refine sx_nil (hZ _ _ ?_)
  refine awp_forget [(0, _)] (Kn.cons rfl (Kn.nil)) ?_
  refine awp_seq_region (fun Z hZ => ?_)
  refine sx_move rfl rfl ?_
  refine sx_callIE T (rcut_fn A c L T hA hT hro hL ho) rfl (HLe.refl _) hro rfl (fun A1 c1 hA1 => ?_)
  refine sx_callPT (roE A1 (scells (plainQ L))) (rstotal_fn A1 c1 _ _ hA1.arg (fun _ => rfl) (by omega) (below_sps (plain_plain L) (plain_below L))) rfl (by repeat (first | exact List.Sublist.refl _ | exact List.nil_sublist _ | exact List.sublist_append_right _ _ | refine List.Sublist.trans ?_ (List.sublist_append_left _ _) | exact List.Sublist.cons_cons _ (List.nil_sublist _) | refine List.Sublist.cons _ ?_)) (Ro.roE _ _) rfl ?_
  refine sx_assign rfl rfl ?_
  refine sx_nil (hZ _ _ ?_)
  refine awp_forget [(2, _)] (Kn.cons rfl (Kn.nil)) ?_
  refine awp_ret ?_
  exact nx_ret1 rfl rfl (by rw [show totM (plainQ L) = totalQ (plainQ L) from Nat.mod_eq_of_lt (by omega)])
end Go.Proofs.Ytbldhokgbcljjaa
