/- The walks of mask's Not, Less, Within, Zoom. Conditions: the lists are not too long. -/
import Derived.Test.YtbldhokgbcljjaaMw2
namespace Go.Proofs.Ytbldhokgbcljjaa
open Go.RowKit
set_option linter.unusedVariables false
set_option linter.unusedSimpArgs false
set_option maxRecDepth 100000
theorem gapN_top {L : List Sp} (hb : BelowS 6004799503160661 L) : ∀ k, k ≤ L.length → (gapN (L.take k)).1 ≤ 6004799503160661
  | 0, _ => by simp [gapN]
  | k + 1, hk => by
    rw [gapN_snoc (List.getElem?_eq_getElem (by omega : k < L.length))]
    have := hb _ (List.getElem_mem (by omega : k < L.length))
    show L[k].b + 1 ≤ _
    omega
theorem mnot_fn (A : Option Addr) (c : Nat) (L : List Sp) (T : Heap) (hA : ArgOk A L.length) (hT : 0 < L.length → T = roE A (scells L)) (hro : Ro T) (hL : L.length ≤ 30000) (ho : SpsOk L) :
    Fn Try.prog 20 [.slice A L.length c] T fun v H' => RowOk v (notQ L).length ∧ H' = rowE v 43 2 (scells (notQ L)) := by
  have hpl := plain_len L
  have hpb := plain_below L
  have hpo := below_sps (plain_plain L) hpb
  have hnot : notQ L = finN (gapN (plainQ L)) := rfl
  refine Fn.enter (N := 38) Try.func20 rfl (by kernel_rfl) rfl (fun w0 => ?_)

  refine awp_seq_region (fun Z hZ => ?_)
  refine sx_assign rfl rfl ?_
  refine sx_nil (hZ _ _ ?_)
  refine awp_forget [(0, _)] (Kn.cons rfl (Kn.nil)) ?_
  refine awp_seq_region (fun Z hZ => ?_)
  refine sx_assign rfl rfl ?_
  refine sx_nil (hZ _ _ ?_)
  refine awp_forget [(0, _), (3, _)] (Kn.cons rfl (Kn.cons rfl (Kn.nil))) ?_
  refine awp_seq_region (fun Z hZ => ?_)
  refine sx_assign rfl rfl ?_
  refine sx_nil (hZ _ _ ?_)
  refine awp_forget [(0, _), (3, _), (4, _)] (Kn.cons rfl (Kn.cons rfl (Kn.cons rfl (Kn.nil)))) ?_
  refine awp_cut (ι := Value) (fun v => [(3, v), (4, uq (gapN (plainQ L)).1)]) (fun v => rowE v 43 2 (scells (gapN (plainQ L)).2)) (fun v => RowOk v (gapN (plainQ L)).2.length) ?_ ?_
  · refine awp_seq_region (fun Z hZ => ?_)
    refine sx_move rfl rfl ?_
    refine sx_callIE T (mplain_fn A c L T hA hT hro (by omega) ho) rfl (HLe.refl _) hro rfl (fun A1 c1 hA1 => ?_)
    refine sx_len Try.underlying24 rfl rfl ?_
    refine sx_move rfl rfl ?_
    refine sx_nil (hZ _ _ ?_)
    refine awp_forget [(3, _), (4, _), (8, _), (9, _), (10, _)] (Kn.cons rfl (Kn.cons rfl (Kn.cons rfl (Kn.cons rfl (Kn.cons rfl (Kn.nil)))))) ?_
    obtain ⟨P, hP⟩ : ∃ P, plainQ L = P := ⟨_, rfl⟩
    rw [hP] at hpl hpb hpo hA1 ⊢
    refine awp_heap (roE A1 (scells P)) (HLe.sub (List.sublist_append_right _ _)) ?_
    refine awp_block ?_
    refine awp_loop (ι := Nat × Value) (fun i => [(3, i.2), (4, uq (gapN (P.take i.1)).1), (8, .slice A1 P.length c1), (9, iq (P.length : Nat)), (10, iq (i.1 : Nat))]) (fun i => roE A1 (scells P) ++ rowE i.2 43 2 (scells (gapN (P.take i.1)).2))
      (fun i => i.1 ≤ P.length ∧ RowOk i.2 (gapN (P.take i.1)).2.length) (fun i => P.length - i.1) (0, .slice none 0 0) ⟨by simp, RowOk.nil⟩ (Kn.cons rfl (Kn.cons rfl (Kn.cons rfl (Kn.cons rfl (Kn.cons rfl Kn.nil))))) (by simp [rowE]; exact HLe.refl _) ?_
    rintro ⟨i, v⟩ ⟨hi, hv⟩
    simp only at hi hv
    refine awp_seq_region (fun Z hZ => ?_)
    refine sx_lss rfl rfl rfl ?_
    refine sx_nil (hZ _ _ ?_)
    refine awp_forget [(3, _), (4, _), (8, _), (9, _), (10, _), (11, _)] (Kn.cons rfl (Kn.cons rfl (Kn.cons rfl (Kn.cons rfl (Kn.cons rfl (Kn.cons rfl (Kn.nil))))))) ?_
    refine awp_seq (awp_cond rfl (fun h => ?_) (fun h => ?_))
    · have hlt : i < P.length := by simpa using h
      obtain ⟨x, hx⟩ : ∃ x, P[i]? = some x := ⟨_, List.getElem?_eq_getElem hlt⟩
      have hxo := hpo x (List.mem_of_getElem? hx)
      have hxb := hpb x (List.mem_of_getElem? hx)
      have hsn := gapN_snoc hx
      have hgl := gapN_len P i hi
      have hgt := gapN_top hpb i hi
      obtain ⟨st, hst⟩ : ∃ st, gapN (P.take i) = st := ⟨_, rfl⟩
      obtain ⟨free, out⟩ := st
      rw [hst] at hsn hgl hgt hv ⊢
      simp only at hsn hgl hgt hv
      obtain ⟨g, o, rfl⟩ := slIn_pos2 hA1 (by omega)
      refine awp_heap (.ro g o (scells P) :: rowE v 43 2 (scells out)) (HLe.refl _) ?_
      refine awp_skip ?_
      with_reducible refine nx_normal ?_
      refine awp_seq (awp_block ?_)

      refine awp_seq_region (fun Z hZ => ?_)
      refine sx_indexAddr (o + i * 2) Try.underlying24 tyS43 rfl rfl (by omega) (by simp) rfl ?_
      refine sx_loadRo 0 rfl rfl (i * 2) rfl tyA43 tyS43 (scells_all hx) rfl ?_
      refine sx_alloc tyZ43 rfl (fun g1 => ?_)
      refine sx_store 0 rfl rfl rfl tyS43 (by first | (simp only [Value.cells]; first | done | rfl) | rfl) rfl rfl (by first | (simp only [List.length_cons, List.length_nil, Nat.reduceAdd, Nat.zero_add, Nat.add_zero]; first | done | rfl) | rfl) (by first | (simp only [List.take_succ_cons, List.take_zero, List.drop_succ_cons, List.drop_zero, List.cons_append, List.nil_append, List.append_nil, List.length_cons, List.length_nil, Nat.reduceAdd, Nat.zero_add, Nat.add_zero, Value.cells, wrV]; first | done | rfl) | rfl) (by first | (simp only [List.set_cons_succ, List.set_cons_zero]; first | done | rfl) | rfl) ?_
      refine sx_nil (hZ _ _ ?_)
      refine awp_forget [(3, _), (4, _), (6, _), (8, _), (9, _), (10, _)] (Kn.cons rfl (Kn.cons rfl (Kn.cons rfl (Kn.cons rfl (Kn.cons rfl (Kn.cons rfl (Kn.nil))))))) ?_

      refine awp_cut (ι := Value) (fun v => [(3, v), (6, ptr g1 0), (8, .slice (some ⟨g, o, none⟩) P.length c1), (9, iq (P.length : Nat)), (10, iq (i : Nat))]) (fun v => .own g1 43 x.cells :: .ro g o (scells P) :: rowE v 43 2 (scells (stepN (free, out) x).2)) (fun v => RowOk v (stepN (free, out) x).2.length) ?_ ?_
      · refine awp_seq_region (fun Z hZ => ?_)
        refine sx_fieldAddr rfl tyF43_0 (by first | (simp only [Nat.reduceAdd, Nat.add_zero, Nat.zero_add]; first | done | rfl) | rfl) rfl ?_
        refine sx_load 0 rfl rfl tyA36 tyS36 rfl rfl ?_
        refine sx_move rfl rfl ?_
        refine sx_gtr rfl rfl rfl ?_
        refine sx_nil (hZ _ _ ?_)
        refine awp_forget [(3, _), (4, _), (6, _), (8, _), (9, _), (10, _), (17, _)] (Kn.cons rfl (Kn.cons rfl (Kn.cons rfl (Kn.cons rfl (Kn.cons rfl (Kn.cons rfl (Kn.cons rfl (Kn.nil)))))))) ?_
        refine awp_cond rfl (fun h6 => ?_) (fun h6 => ?_)
        · have h6' : free < x.a := by simp at h6; omega
          have e : (stepN (free, out) x).2 = out ++ [⟨free, x.a - 1⟩] := by unfold stepN; simp only; rw [if_pos h6']
          rw [e]
          refine awp_region (fun Z hZ => ?_)
          refine sx_move rfl rfl ?_
          refine sx_move rfl rfl ?_
          refine sx_fieldAddr rfl tyF43_0 (by first | (simp only [Nat.reduceAdd, Nat.add_zero, Nat.zero_add]; first | done | rfl) | rfl) rfl ?_
          refine sx_load 0 rfl rfl tyA36 tyS36 rfl rfl ?_
          refine sx_sub rfl rfl ((x.a - 1 : Nat) : Int) (by rw [IntWalk.u64_in _ (by omega)]; omega) rfl ?_
          refine sx_build tyZ43 tyP43 rfl rfl (by first | (simp only [List.take_succ_cons, List.take_zero, List.drop_succ_cons, List.drop_zero, List.cons_append, List.nil_append, List.append_nil, List.length_cons, List.length_nil, Nat.reduceAdd, Nat.zero_add, Nat.add_zero, Value.cells, wrV, zrep_one, List.replicate_succ, List.replicate_zero, Nat.reduceMul, Nat.zero_mul]; first | done | rfl) | rfl) rfl ?_
          refine sx_buildSlice Try.underlying24 tyS43 tyZ43 rfl rfl rfl rfl (by first | (simp only [List.take_succ_cons, List.take_zero, List.drop_succ_cons, List.drop_zero, List.cons_append, List.nil_append, List.append_nil, List.length_cons, List.length_nil, Nat.reduceAdd, Nat.zero_add, Nat.add_zero, Value.cells, wrV, zrep_one, List.replicate_succ, List.replicate_zero, Nat.reduceMul, Nat.zero_mul]; first | done | rfl) | rfl) rfl (fun g2 => ?_)
          refine sx_appendE (xs := scells out) [_, _, _] elemSp rfl hv (by rw [scells_len]) rfl (fun w hw => rd_own (i := 0) (xs := (⟨free, x.a - 1⟩ : Sp).cells) rfl rfl hw) rfl (by show _ ≤ 9223372036854775807; omega) (by omega) (HLe.refl _) rfl (fun v2 hv2 => ?_)
          refine sx_assign rfl rfl ?_
          refine sx_nil (hZ _ _ ?_)
          refine nx_forget [(3, _), (6, _), (8, _), (9, _), (10, _)] (Kn.cons rfl (Kn.cons rfl (Kn.cons rfl (Kn.cons rfl (Kn.cons rfl (Kn.nil)))))) ?_
          refine nx_cut v2 (by rw [List.length_append]; exact hv2) (Kn.cons rfl (Kn.cons rfl (Kn.cons rfl (Kn.cons rfl (Kn.cons rfl Kn.nil))))) ?_
          rw [scells_app]
          exact HLe.drop 1 rfl
        · have h6' : ¬ free < x.a := by simp at h6; omega
          have e : (stepN (free, out) x).2 = out := by unfold stepN; simp only; rw [if_neg h6']
          rw [e]
          refine awp_skip ?_
          exact nx_cut v hv (Kn.cons rfl (Kn.cons rfl (Kn.cons rfl (Kn.cons rfl (Kn.cons rfl Kn.nil))))) (HLe.refl _)
      intro v hv
      refine awp_region (fun Z hZ => ?_)
      refine sx_fieldAddr rfl tyF43_1 (by first | (simp only [Nat.reduceAdd, Nat.add_zero, Nat.zero_add]; first | done | rfl) | rfl) rfl ?_
      refine sx_load 0 rfl rfl tyA36 tyS36 rfl rfl ?_
      refine sx_add rfl rfl ((x.b + 1 : Nat) : Int) (by rw [IntWalk.u64_in _ (by omega)]; omega) rfl ?_
      refine sx_assign rfl rfl ?_
      refine sx_nil (hZ _ _ ?_)
      refine nx_forget [(3, _), (4, _), (8, _), (9, _), (10, _)] (Kn.cons rfl (Kn.cons rfl (Kn.cons rfl (Kn.cons rfl (Kn.cons rfl (Kn.nil)))))) ?_
      repeat (with_reducible refine nx_block_normal ?_)
      with_reducible refine nx_normal ?_
      refine awp_region (fun Z hZ => ?_)
      refine sx_add rfl rfl ((i + 1 : Nat) : Int) (by rw [IntWalk.i64_in _ (by omega)]; omega) rfl ?_
      refine sx_move rfl rfl ?_
      refine sx_nil (hZ _ _ ?_)
      refine nx_forget [(3, _), (4, _), (8, _), (9, _), (10, _)] (Kn.cons rfl (Kn.cons rfl (Kn.cons rfl (Kn.cons rfl (Kn.cons rfl (Kn.nil)))))) ?_
      refine nx_round (i + 1, v) ⟨hlt, by rw [hsn]; exact hv⟩ (by simp; omega) (Kn.cons rfl (Kn.cons (by rw [hsn]; rfl) (Kn.cons rfl (Kn.cons rfl (Kn.cons rfl Kn.nil))))) ?_
      simp only
      rw [hsn]
      exact HLe.drop 1 rfl
    · refine awp_exit ?_
      repeat (with_reducible refine nx_then_exit ?_)
      with_reducible refine nx_block_exit ?_
      have hke : i = P.length := by simp at h; omega
      subst hke
      rw [List.take_length] at hv ⊢
      exact nx_cut v hv (Kn.cons rfl (Kn.cons rfl Kn.nil)) (HLe.sub (List.sublist_append_right _ _))
  intro v hv
  have hgl := gapN_len (plainQ L) (plainQ L).length (Nat.le_refl _)
  have hgt := gapN_top hpb (plainQ L).length (Nat.le_refl _)
  rw [List.take_length] at hgl hgt
  obtain ⟨st, hst⟩ : ∃ st, gapN (plainQ L) = st := ⟨_, rfl⟩
  rw [hst] at hnot hv hgl hgt ⊢
  obtain ⟨free, out⟩ := st
  simp only at hv hgl hgt ⊢
  rw [hnot]
  refine awp_cut (ι := Value) (fun v => [(3, v)]) (fun v => rowE v 43 2 (scells (finN (free, out)))) (fun v => RowOk v (finN (free, out)).length) ?_ ?_
  · skip
    refine awp_seq_region (fun Z hZ => ?_)
    refine sx_move rfl rfl ?_
    refine sx_leq rfl rfl rfl ?_
    refine sx_nil (hZ _ _ ?_)
    refine awp_forget [(3, _), (4, _), (31, _)] (Kn.cons rfl (Kn.cons rfl (Kn.cons rfl (Kn.nil)))) ?_
    refine awp_cond rfl (fun h => ?_) (fun h => ?_)
    · have h' : free < 6004799503160661 := by simp at h; omega
      have e : finN (free, out) = out ++ [⟨free, 6004799503160660⟩] := by unfold finN; simp only; rw [if_pos h']
      rw [e]
      refine awp_region (fun Z hZ => ?_)
      refine sx_move rfl rfl ?_
      refine sx_move rfl rfl ?_
      refine sx_build tyZ43 tyP43 rfl rfl (by first | (simp only [List.take_succ_cons, List.take_zero, List.drop_succ_cons, List.drop_zero, List.cons_append, List.nil_append, List.append_nil, List.length_cons, List.length_nil, Nat.reduceAdd, Nat.zero_add, Nat.add_zero, Value.cells, wrV, zrep_one, List.replicate_succ, List.replicate_zero, Nat.reduceMul, Nat.zero_mul]; first | done | rfl) | rfl) rfl ?_
      refine sx_buildSlice Try.underlying24 tyS43 tyZ43 rfl rfl rfl rfl (by first | (simp only [List.take_succ_cons, List.take_zero, List.drop_succ_cons, List.drop_zero, List.cons_append, List.nil_append, List.append_nil, List.length_cons, List.length_nil, Nat.reduceAdd, Nat.zero_add, Nat.add_zero, Value.cells, wrV, zrep_one, List.replicate_succ, List.replicate_zero, Nat.reduceMul, Nat.zero_mul]; first | done | rfl) | rfl) rfl (fun g3 => ?_)
      refine sx_appendE (xs := scells out) [_] elemSp rfl hv (by rw [scells_len]) rfl (fun w hw => rd_own (i := 0) (xs := (⟨free, 6004799503160660⟩ : Sp).cells) rfl rfl hw) rfl (by show _ ≤ 9223372036854775807; omega) (by omega) (HLe.refl _) rfl (fun v2 hv2 => ?_)
      refine sx_assign rfl rfl ?_
      refine sx_nil (hZ _ _ ?_)
      refine nx_forget [(3, _)] (Kn.cons rfl (Kn.nil)) ?_
      refine nx_cut v2 (by rw [List.length_append]; exact hv2) (Kn.cons rfl Kn.nil) ?_
      rw [scells_app]
      exact HLe.drop 1 rfl
    · have h' : ¬ free < 6004799503160661 := by simp at h; omega
      have e : finN (free, out) = out := by unfold finN; simp only; rw [if_neg h']
      rw [e]
      refine awp_skip ?_
      exact nx_cut v hv (Kn.cons rfl Kn.nil) (HLe.refl _)
  intro v hv
  refine awp_seq_region (fun Z hZ => ?_)
  refine sx_move rfl rfl ?_
  refine sx_assign rfl rfl ?_
  refine sx_nil (hZ _ _ ?_)
  refine awp_forget [(2, _)] (Kn.cons rfl (Kn.nil)) ?_
  refine awp_ret ?_
  exact nx_ret1h _ rfl rfl (HLe.refl _) ⟨hv, rfl⟩
theorem mless_fn (A : Option Addr) (c : Nat) (L : List Sp) (T : Heap) (hA : ArgOk A L.length) (hT : 0 < L.length → T = roE A (scells L)) (hro : Ro T) (hL : L.length ≤ 15000) (ho : SpsOk L)
    (B : Option Addr) (c2 : Nat) (M : List Sp) (U : Heap) (hB : ArgOk B M.length) (hU : 0 < M.length → U = roE B (scells M)) (hroU : Ro U) (hM : M.length ≤ 25000) (hoM : SpsOk M) :
    Fn Try.prog 22 [.slice A L.length c, .slice B M.length c2] (T ++ U) fun v H' => RowOk v (lessQ L M).length ∧ H' = rowE v 43 2 (scells (lessQ L M)) := by
  have hnl := not_len M
  refine Fn.enter (N := 9) Try.func22 rfl (by kernel_rfl) rfl (fun w0 => ?_)

  refine awp_seq_region (fun Z hZ => ?_)
  refine sx_assign rfl rfl ?_
  refine sx_nil (hZ _ _ ?_)
  refine awp_forget [(0, _), (1, _)] (Kn.cons rfl (Kn.cons rfl (Kn.nil))) ?_
  refine awp_seq_region (fun Z hZ => ?_)
  refine sx_move rfl rfl ?_
  refine sx_move rfl rfl ?_
  refine sx_callIE U (mnot_fn B c2 M U hB hU hroU (by omega) hoM) rfl (HLe.sub (List.sublist_append_right _ _)) hroU rfl (fun A2 c3 hA2 => ?_)
  refine sx_callVU (T ++ roE A2 (scells (notQ M))) (mand_fn A c L T hA hT hro hL ho A2 c3 (notQ M) _ hA2.arg (fun _ => rfl) (Ro.roE _ _) (by omega) (below_sps (not_plain M) (not_below M))) rfl (HLe.sub (List.Sublist.append_right (List.sublist_append_left _ _) _)) (hro.append (Ro.roE _ _)) rfl ?_
  rintro v H' ⟨hv, rfl⟩
  rw [rowE_flt]
  refine sx_assign rfl rfl ?_
  refine sx_nil (hZ _ _ ?_)
  refine awp_forget [(4, _)] (Kn.cons rfl (Kn.nil)) ?_
  refine awp_ret ?_
  exact nx_ret1h _ rfl rfl (HLe.sub (List.sublist_append_left _ _)) ⟨hv, rfl⟩
theorem mwithin_fn (A : Option Addr) (c : Nat) (L : List Sp) (T : Heap) (hA : ArgOk A L.length) (hT : 0 < L.length → T = roE A (scells L)) (hro : Ro T) (hL : L.length ≤ 15000) (ho : SpsOk L)
    (B : Option Addr) (c2 : Nat) (M : List Sp) (U : Heap) (hB : ArgOk B M.length) (hU : 0 < M.length → U = roE B (scells M)) (hroU : Ro U) (hM : M.length ≤ 25000) (hoM : SpsOk M) :
    Fn Try.prog 24 [.slice A L.length c, .slice B M.length c2] (T ++ U) fun v _ => v = .bool (withinQ L M) := by
  refine Fn.enter (N := 10) Try.func24 rfl (by kernel_rfl) rfl (fun w0 => ?_)

  refine awp_seq_region (fun Z hZ => ?_)
  refine sx_assign rfl rfl ?_
  refine sx_nil (hZ _ _ ?_)
  refine awp_forget [(0, _), (1, _)] (Kn.cons rfl (Kn.cons rfl (Kn.nil))) ?_
  refine awp_seq_region (fun Z hZ => ?_)
  refine sx_move rfl rfl ?_
  refine sx_move rfl rfl ?_
  refine sx_callIE (T ++ U) (mless_fn A c L T hA hT hro hL ho B c2 M U hB hU hroU hM hoM) rfl (HLe.refl _) (hro.append hroU) rfl (fun A2 c3 hA2 => ?_)
  refine sx_len Try.underlying24 rfl rfl ?_
  refine sx_eql rfl rfl rfl ?_
  refine sx_assign rfl rfl ?_
  refine sx_nil (hZ _ _ ?_)
  refine awp_forget [(4, _)] (Kn.cons rfl (Kn.nil)) ?_
  refine awp_ret ?_
  exact nx_ret1 rfl rfl (congrArg Value.bool (by unfold withinQ; rw [Bool.eq_iff_iff, List.isEmpty_iff]; simp))
theorem base4_pow (z : Nat) : (4 ^ z - 1) / 3 = base4 z := by
  have := base4_eq z
  omega
theorem tbase_fn (z : Nat) (hz : z ≤ 27) : Fn Try.prog 71 [iq (z : Nat)] [] fun v _ => v = uq (base4 z) := by
  have h1 := base4_eq z
  have h2 : base4 z ≤ base4 27 := base4_mono hz
  rw [base4_27] at h2
  have h4 : (2 : Nat) ^ (2 * z) = 4 ^ z := by rw [Nat.pow_mul]
  have hi : ((2 : Int) ^ (2 * z)) = ((4 ^ z : Nat) : Int) := by rw [← h4]; norm_cast
  obtain ⟨p, hp⟩ : ∃ p : Nat, 4 ^ z = p := ⟨_, rfl⟩
  obtain ⟨b, hb⟩ : ∃ b : Nat, base4 z = b := ⟨_, rfl⟩
  rw [hp] at h1 hi
  rw [hb] at h1 h2 ⊢
  refine Fn.enter (N := 8) Try.func71 rfl (by kernel_rfl) rfl (fun w0 => ?_)

  refine awp_seq_region (fun Z hZ => ?_)
  refine sx_assign rfl rfl ?_
  refine sx_nil (hZ _ _ ?_)
  refine awp_forget [(0, _)] (Kn.cons rfl (Kn.nil)) ?_
  refine awp_seq_region (fun Z hZ => ?_)
  refine sx_move rfl rfl ?_
  refine sx_mul rfl rfl ((2 * z : Nat) : Int) (by rw [IntWalk.i64_in _ (by omega)]; omega) rfl ?_
  refine sx_shl rfl rfl (by omega) ((p : Nat) : Int) (by rw [Int.toNat_natCast, show min (2 * z) IntKind.u64.bits = 2 * z from Nat.min_eq_left (by show 2 * z ≤ 64; omega), Int.one_mul, hi, IntWalk.u64_in _ (by omega)]) rfl ?_
  refine sx_sub rfl rfl ((p - 1 : Nat) : Int) (by rw [IntWalk.u64_in _ (by omega)]; omega) rfl ?_
  refine sx_quo rfl rfl (by decide) ((b : Nat) : Int) (by rw [Int.tdiv_eq_ediv_of_nonneg (by omega), IntWalk.u64_in _ (by omega)]; omega) rfl ?_
  refine sx_assign rfl rfl ?_
  refine sx_nil (hZ _ _ ?_)
  refine awp_forget [(2, _)] (Kn.cons rfl (Kn.nil)) ?_
  refine awp_ret ?_
  exact nx_ret1 rfl rfl rfl
theorem tBase_fn (z : Nat) (hz : z ≤ 27) : Fn Try.prog 90 [iq (z : Nat)] [] fun v _ => v = .tuple #[uq (base4 z), iq (0 : Nat)] := by
  refine Fn.enter (N := 12) Try.func90 rfl (by kernel_rfl) rfl (fun w0 => ?_)

  refine awp_seq_region (fun Z hZ => ?_)
  refine sx_assign rfl rfl ?_
  refine sx_assign rfl rfl ?_
  refine sx_nil (hZ _ _ ?_)
  refine awp_forget [(0, _)] (Kn.cons rfl (Kn.nil)) ?_
  refine awp_seq ?_
  refine awp_seq_meet [(0, iq (z : Nat)), (9, .bool false)] [] (fun Z hZ => ?_) ?_
  · refine sx_move rfl rfl ?_
    refine sx_lss rfl rfl rfl ?_
    refine sx_move rfl rfl ?_
    refine sx_split 6 rfl (fun hb2 => ?_) (fun hb2 => ?_)
    · refine sx_off rfl rfl rfl rfl rfl ?_
      refine sx_off rfl rfl rfl rfl rfl ?_
      refine sx_pick rfl rfl rfl ?_
      refine sx_nil (hZ _ _ ?_ ?_)
      · exact Kn.cons rfl (Kn.cons (congrArg some (congrArg Value.bool (by first | rfl | (simp at *; done) | (simp at *; omega)))) Kn.nil)
      · exact HLe.refl _
    · refine sx_on rfl rfl rfl ?_
      refine sx_move rfl rfl ?_
      refine sx_on rfl rfl rfl ?_
      refine sx_gtr rfl rfl rfl ?_
      refine sx_pick rfl rfl rfl ?_
      refine sx_nil (hZ _ _ ?_ ?_)
      · exact Kn.cons rfl (Kn.cons (congrArg some (congrArg Value.bool (by first | rfl | (simp at *; done) | (simp at *; omega)))) Kn.nil)
      · exact HLe.refl _
  refine awp_cond rfl (fun h => ?_) (fun h => ?_)
  · cases h
  refine awp_skip ?_
  with_reducible refine nx_normal ?_
  refine awp_seq_region (fun Z hZ => ?_)
  refine sx_move rfl rfl ?_
  refine sx_callP (tbase_fn z hz) rfl rfl ?_
  refine sx_assign rfl rfl ?_
  refine sx_assign rfl rfl ?_
  refine sx_nil (hZ _ _ ?_)
  refine awp_forget [(2, _), (3, _)] (Kn.cons rfl (Kn.cons rfl (Kn.nil))) ?_
  refine awp_ret ?_
  exact nx_ret2 rfl rfl rfl rfl
def zoomS (z : Nat) : Sp := ⟨base4 z, base4 (z + 1) - 1⟩
theorem zoomS_ok {z : Nat} (hz : z ≤ 26) : (zoomS z).a ≤ (zoomS z).b ∧ (zoomS z).b < 6004799503160661 := by
  have h1 : base4 (z + 1) ≤ base4 27 := base4_mono (by omega)
  rw [base4_27] at h1
  have h2 := pow4_pos z
  have h3 : base4 (z + 1) = base4 z + 4 ^ z := rfl
  exact ⟨by show base4 z ≤ base4 (z + 1) - 1; omega, by show base4 (z + 1) - 1 < _; omega⟩
theorem mzoom_fn (z : Nat) (hz : z ≤ 26) : Fn Try.prog 60 [iq (z : Nat)] [] fun v _ => v = (zoomS z).val := by
  have h1 : base4 (z + 1) ≤ base4 27 := base4_mono (by omega)
  rw [base4_27] at h1
  have h2 := pow4_pos z
  have h3 : base4 (z + 1) = base4 z + 4 ^ z := rfl
  refine Fn.enter (N := 22) Try.func60 rfl (by kernel_rfl) rfl (fun w0 => ?_)

  refine awp_seq_region (fun Z hZ => ?_)
  refine sx_alloc tyZ43 rfl (fun g1 => ?_)
  refine sx_nil (hZ _ _ ?_)
  refine awp_forget [(0, _), (2, _)] (Kn.cons rfl (Kn.cons rfl (Kn.nil))) ?_

  refine awp_seq_region (fun Z hZ => ?_)
  refine sx_move rfl rfl ?_
  refine sx_callP (tBase_fn z (by omega)) rfl rfl ?_
  refine sx_move rfl rfl ?_
  refine sx_extract rfl rfl rfl ?_
  refine sx_extract rfl rfl rfl ?_
  refine sx_assign rfl rfl ?_
  refine sx_assign rfl rfl ?_
  refine sx_nil (hZ _ _ ?_)
  refine awp_forget [(0, _), (2, _), (3, _)] (Kn.cons rfl (Kn.cons rfl (Kn.cons rfl (Kn.nil)))) ?_
  refine awp_seq_region (fun Z hZ => ?_)
  refine sx_move rfl rfl ?_
  refine sx_add rfl rfl ((z + 1 : Nat) : Int) (by rw [IntWalk.i64_in _ (by omega)]; omega) rfl ?_
  refine sx_callP (tBase_fn (z + 1) (by omega)) rfl rfl ?_
  refine sx_move rfl rfl ?_
  refine sx_extract rfl rfl rfl ?_
  refine sx_extract rfl rfl rfl ?_
  refine sx_assign rfl rfl ?_
  refine sx_assign rfl rfl ?_
  refine sx_nil (hZ _ _ ?_)
  refine awp_forget [(2, _), (3, _), (5, _)] (Kn.cons rfl (Kn.cons rfl (Kn.cons rfl (Kn.nil)))) ?_
  refine awp_seq_region (fun Z hZ => ?_)
  refine sx_move rfl rfl ?_
  refine sx_move rfl rfl ?_
  refine sx_sub rfl rfl ((base4 (z + 1) - 1 : Nat) : Int) (by rw [IntWalk.u64_in _ (by omega)]; omega) rfl ?_
  refine sx_build tyZ43 tyP43 rfl rfl (by first | (simp only [List.take_succ_cons, List.take_zero, List.drop_succ_cons, List.drop_zero, List.cons_append, List.nil_append, List.append_nil, List.length_cons, List.length_nil, Nat.reduceAdd, Nat.zero_add, Nat.add_zero, Value.cells, wrV, zrep_one, List.replicate_succ, List.replicate_zero, Nat.reduceMul, Nat.zero_mul]; first | done | rfl) | rfl) rfl ?_
  first | refine sx_store 0 rfl rfl rfl tyS43 (by first | (simp only [Value.cells]; first | done | rfl) | rfl) rfl rfl (by first | (simp only [List.length_cons, List.length_nil, Nat.reduceAdd, Nat.zero_add, Nat.add_zero]; first | done | rfl) | rfl) (by first | (simp only [List.take_succ_cons, List.take_zero, List.drop_succ_cons, List.drop_zero, List.cons_append, List.nil_append, List.append_nil, List.length_cons, List.length_nil, Nat.reduceAdd, Nat.zero_add, Nat.add_zero, Value.cells, wrV]; first | done | rfl) | rfl) (by first | (simp only [List.set_cons_succ, List.set_cons_zero]; first | done | rfl) | rfl) ?_
  refine sx_nil (hZ _ _ ?_)
  refine awp_forget [(2, _)] (Kn.cons rfl (Kn.nil)) ?_
  refine awp_ret ?_
  exact nx_ret1 rfl (ResOk.cell 0 rfl rfl tyA43 tyS43 rfl) rfl
def ZoomQ (L : List Sp) (z : Int) : List Sp := if z < 0 ∨ 26 < z then [] else zoS L z.toNat
theorem mZoom_fn (A : Option Addr) (c : Nat) (L : List Sp) (T : Heap) (hA : ArgOk A L.length) (hT : 0 < L.length → T = roE A (scells L)) (hro : Ro T) (hL : L.length ≤ 15000) (ho : SpsOk L) (z : Int) :
    Fn Try.prog 26 [.slice A L.length c, iq z] T fun v H' => RowOk v (ZoomQ L z).length ∧ H' = rowE v 43 2 (scells (ZoomQ L z)) := by
  refine Fn.enter (N := 16) Try.func26 rfl (by kernel_rfl) rfl (fun w0 => ?_)

  refine awp_seq_region (fun Z hZ => ?_)
  refine sx_assign rfl rfl ?_
  refine sx_nil (hZ _ _ ?_)
  refine awp_forget [(0, _), (1, _)] (Kn.cons rfl (Kn.cons rfl (Kn.nil))) ?_
  refine awp_seq ?_
  refine awp_seq_meet [(0, .slice A L.length c), (1, iq z), (10, .bool (decide (z < 0 ∨ 26 < z)))] T (fun Z hZ => ?_) ?_
  · refine sx_move rfl rfl ?_
    refine sx_lss rfl rfl rfl ?_
    refine sx_move rfl rfl ?_
    refine sx_split 7 rfl (fun hb2 => ?_) (fun hb2 => ?_)
    · refine sx_off rfl rfl rfl rfl rfl ?_
      refine sx_off rfl rfl rfl rfl rfl ?_
      refine sx_pick rfl rfl rfl ?_
      refine sx_nil (hZ _ _ ?_ ?_)
      · exact Kn.cons rfl (Kn.cons rfl (Kn.cons (congrArg some (congrArg Value.bool (by first | (rw [Bool.eq_iff_iff]; simp only [decide_eq_true_eq, decide_eq_false_iff_not] at hb2 ⊢; omega) | (simp at *; done) | (simp at *; omega)))) Kn.nil))
      · exact HLe.refl _
    · refine sx_on rfl rfl rfl ?_
      refine sx_move rfl rfl ?_
      refine sx_on rfl rfl rfl ?_
      refine sx_gtr rfl rfl rfl ?_
      refine sx_pick rfl rfl rfl ?_
      refine sx_nil (hZ _ _ ?_ ?_)
      · exact Kn.cons rfl (Kn.cons rfl (Kn.cons (congrArg some (congrArg Value.bool (by first | (rw [Bool.eq_iff_iff]; simp only [decide_eq_true_eq, decide_eq_false_iff_not] at hb2 ⊢; omega) | (simp at *; done) | (simp at *; omega)))) Kn.nil))
      · exact HLe.refl _
  refine awp_cond rfl (fun h => ?_) (fun h => ?_)
  · have h' : z < 0 ∨ 26 < z := by simpa using h
    rw [show ZoomQ L z = [] by unfold ZoomQ; rw [if_pos h']]
    refine awp_seq_region (fun Z hZ => ?_)
    refine sx_assign rfl rfl ?_
    refine sx_nil (hZ _ _ ?_)
    refine awp_forget [(4, _)] (Kn.cons rfl (Kn.nil)) ?_
    refine awp_ret ?_
    repeat (with_reducible refine nx_then_ret ?_)
    exact nx_ret1h [] rfl rfl (HLe.sub (List.nil_sublist _)) ⟨RowOk.nil, rfl⟩
  have h' : ¬ (z < 0 ∨ 26 < z) := by simpa using h
  obtain ⟨y, rfl⟩ : ∃ y : Nat, z = y := ⟨z.toNat, by omega⟩
  have hy : y ≤ 26 := by omega
  have e : ZoomQ L (y : Int) = andQ L [zoomS y] := by unfold ZoomQ; rw [if_neg h', Int.toNat_natCast]; rfl
  rw [e]
  obtain ⟨hz1, hz2⟩ := zoomS_ok hy
  refine awp_skip ?_
  with_reducible refine nx_normal ?_
  refine awp_seq_region (fun Z hZ => ?_)
  refine sx_move rfl rfl ?_
  refine sx_move rfl rfl ?_
  refine sx_callP (mzoom_fn y hy) rfl rfl ?_
  refine sx_buildSlice Try.underlying24 tyS43 tyZ43 rfl rfl rfl rfl (by first | (simp only [List.take_succ_cons, List.take_zero, List.drop_succ_cons, List.drop_zero, List.cons_append, List.nil_append, List.append_nil, List.length_cons, List.length_nil, Nat.reduceAdd, Nat.zero_add, Nat.add_zero, Value.cells, wrV, zrep_one, List.replicate_succ, List.replicate_zero, Nat.reduceMul, Nat.zero_mul]; first | done | rfl) | rfl) rfl (fun g1 => ?_)
  refine sx_heap (T ++ [Ent.ro g1 0 (scells [zoomS y])]) ((HLe.swap [Ent.ro g1 0 (scells [zoomS y])] T).trans (own_ro (xs := scells [zoomS y]) T)) ?_
  refine sx_callVU (T ++ [Ent.ro g1 0 (scells [zoomS y])]) (mand_fn A c L T hA hT hro hL ho (some ⟨g1, 0, none⟩) 1 [zoomS y] [Ent.ro g1 0 (scells [zoomS y])] (fun _ => ⟨_, _, rfl⟩) (fun _ => rfl) (Ro.roE (some ⟨g1, 0, none⟩) (scells [zoomS y])) (by simp) (fun s hs => by rw [List.mem_singleton.1 hs]; omega)) rfl (HLe.refl _) (hro.append (Ro.roE (some ⟨g1, 0, none⟩) (scells [zoomS y]))) rfl ?_
  rintro v H' ⟨hv, rfl⟩
  rw [rowE_flt]
  refine sx_assign rfl rfl ?_
  refine sx_nil (hZ _ _ ?_)
  refine awp_forget [(4, _)] (Kn.cons rfl (Kn.nil)) ?_
  refine awp_ret ?_
  exact nx_ret1h _ rfl rfl (HLe.sub (List.sublist_append_left _ _)) ⟨hv, rfl⟩
end Go.Proofs.Ytbldhokgbcljjaa
