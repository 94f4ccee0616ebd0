/- The walks of the document's try and Split for leaves. Conditions: the lists are not too long. -/
import Derived.Test.YtodclhiggafkbaaLf11
namespace Go.Proofs.Ytodclhiggafkbaa
open Go.RowKit
set_option linter.unusedVariables false
set_option linter.unusedSimpArgs false
theorem pcs_at {L : List En} {z j : Nat} (h : j < cntP L.length z) : (pcs L z)[j]? = some (pcL L z j) := by
  rw [pcs, List.getElem?_map, List.getElem?_range h]
  rfl
theorem rtry_fn (A : Option Addr) (c : Nat) (L : List En) (T : Heap) (b : Int) (z : Nat) (hA : ArgOk A L.length) (hT : 0 < L.length → T = roE A (ecells L)) (hro : Ro T) (hL : L.length ≤ 10000) (hE : EnsOk L) (hc : L.length ≤ c) (hcm : c ≤ maxLen) (hz : 0 < z) (hzm : z ≤ 10000) :
    Fn Try.prog 31 [.slice A L.length c, iq b, iq z] T fun v H' => ∃ u tx, v = .tuple #[u, .string (str tx), .bool (okQ L b z)] ∧ (okQ L b z = true → tx = textP (pcs L z) ∧ RowOk u (rootR 0 (pcs L z)).length ∧ H' = rowE u 58 4 (ecells (rootR 0 (pcs L z)))) := by
  have hcn := cntP_le (n := L.length) hz
  have hpl := pcs_len L z
  refine Fn.enter (N := 60) Try.func31 rfl (by kernel_rfl) rfl (fun w0 => ?_)

  refine awp_seq_region (fun Z hZ => ?_)
  refine sx_assign rfl rfl ?_
  refine sx_assign rfl rfl ?_
  refine sx_assign rfl rfl ?_
  refine sx_nil (hZ _ _ ?_)
  refine awp_forget [(0, _), (1, _), (2, _)] (Kn.cons rfl (Kn.cons rfl (Kn.cons rfl (Kn.nil)))) ?_
  refine awp_seq_region (fun Z hZ => ?_)
  refine sx_assign rfl rfl ?_
  refine sx_nil (hZ _ _ ?_)
  refine awp_forget [(0, _), (1, _), (2, _), (9, _)] (Kn.cons rfl (Kn.cons rfl (Kn.cons rfl (Kn.cons rfl (Kn.nil))))) ?_
  refine awp_seq_region (fun Z hZ => ?_)
  refine sx_assign rfl rfl ?_
  refine sx_nil (hZ _ _ ?_)
  refine awp_forget [(0, _), (1, _), (2, _), (9, _), (10, _)] (Kn.cons rfl (Kn.cons rfl (Kn.cons rfl (Kn.cons rfl (Kn.cons rfl (Kn.nil)))))) ?_
  refine awp_seq_region (fun Z hZ => ?_)
  refine sx_move rfl rfl ?_
  refine sx_move rfl rfl ?_
  refine sx_callU [] (rcut_fn A L.length c z hA hL hc hcm hz (by show _ ≤ 9223372036854775807; omega)) rfl (List.nil_sublist _) Ro.nil rfl ?_
  rintro v H' ⟨hv, rfl⟩
  rw [rowE_flt]
  obtain ⟨A1, c1, rfl, hA1, hle1⟩ := hv.ro
  refine sx_heap (roE A1 (rcVs A L.length c z (cntP L.length z)) ++ T) (hle1 [] _ _ _ _) ?_
  refine sx_assign rfl rfl ?_
  refine sx_nil (hZ _ _ ?_)
  refine awp_forget [(1, _), (9, _), (10, _), (11, _)] (Kn.cons rfl (Kn.cons rfl (Kn.cons rfl (Kn.cons rfl (Kn.nil))))) ?_
  refine awp_seq ?_
  refine awp_seq_region (fun Z hZ => ?_)
  refine sx_assign rfl rfl ?_
  refine sx_nil (hZ _ _ ?_)
  refine awp_forget [(1, _), (9, _), (10, _), (11, _), (12, _)] (Kn.cons rfl (Kn.cons rfl (Kn.cons rfl (Kn.cons rfl (Kn.cons rfl (Kn.nil)))))) ?_
  refine awp_meet (ι := Value) (fun v => [(1, iq b), (9, v), (10, .string (str (textP (pcs L z))))]) (fun v => rowE v 58 4 (ecells (rootR 0 (pcs L z)))) (fun v => RowOk v (pcs L z).length ∧ ∀ P ∈ pcs L z, (encQ P).2 = 0) ?_ ?_
  · refine awp_block ?_
    refine awp_loop (ι := Nat × Value) (fun i => [(1, iq b), (9, i.2), (10, .string (str (textP ((pcs L z).take i.1)))), (11, .slice A1 (cntP L.length z) c1), (12, iq (i.1 : Nat))]) (fun i => rowE i.2 58 4 (ecells (rootR 0 ((pcs L z).take i.1))) ++ (roE A1 (rcVs A L.length c z (cntP L.length z)) ++ T))
      (fun i => i.1 ≤ cntP L.length z ∧ RowOk i.2 i.1 ∧ ∀ P ∈ (pcs L z).take i.1, (encQ P).2 = 0) (fun i => cntP L.length z - i.1) (0, .slice none 0 0) ⟨by simp, RowOk.nil, fun P hP => by rw [List.take_zero] at hP; cases hP⟩ (Kn.cons rfl (Kn.cons rfl (Kn.cons rfl (Kn.cons rfl (Kn.cons rfl Kn.nil))))) (HLe.refl _) ?_
    rintro ⟨j, v⟩ ⟨hj, hv2, hgood⟩
    simp only at hj hv2 hgood
    refine awp_forget [(1, iq b), (9, v), (10, .string (str (textP ((pcs L z).take j)))), (11, .slice A1 (cntP L.length z) c1), (12, iq (j : Nat))] (Kn.cons rfl (Kn.cons rfl (Kn.cons rfl (Kn.cons rfl (Kn.cons rfl Kn.nil))))) ?_
    refine awp_seq ?_
    refine awp_seq_region (fun Z hZ => ?_)
    refine sx_move rfl rfl ?_
    refine sx_move rfl rfl ?_
    first | refine sx_len Try.underlying35 rfl rfl ?_ | refine sx_lenS Try.underlying35 rfl rfl ?_
    first | refine sx_lss rfl rfl rfl ?_ | refine sx_slss rfl rfl rfl ?_
    refine sx_nil (hZ _ _ ?_)
    refine awp_forget [(1, _), (9, _), (10, _), (11, _), (12, _), (21, _)] (Kn.cons rfl (Kn.cons rfl (Kn.cons rfl (Kn.cons rfl (Kn.cons rfl (Kn.cons rfl (Kn.nil))))))) ?_
    first | refine awp_cond rfl (fun h6 => ?_) (fun h6 => ?_) | refine awp_seq (awp_cond rfl (fun h6 => ?_) (fun h6 => ?_))
    · have hlt : j < cntP L.length z := by simpa using h6
      have hjz := (cntP_iff hz).1 hlt
      have hP := pcs_at hlt
      obtain ⟨P, hPe⟩ : ∃ P, pcL L z j = P := ⟨_, rfl⟩
      have hPl : P.length = min z (L.length - j * z) := by rw [← hPe, pcL_len]
      have hsubP : ∀ j' u, (ecells P)[j']? = some u → (ecells L)[j * z * 4 + j']? = some u := fun j' u hu => by rw [← hPe] at hu; exact ecells_pc hu
      rw [hPe] at hP
      have hPm := List.mem_of_getElem? hP
      have hP0 : 0 < P.length := by omega
      have hPE : EnsOk P := fun e he => hE e (pcs_mem hPm e he)
      obtain ⟨ga, o, rfl⟩ := hA (by omega)
      obtain rfl := hT (by omega)
      have hrv : rcV (some ⟨ga, o, none⟩) L.length c z j = .slice (some ⟨ga, o + j * z * 4, none⟩) P.length (c - j * z) := by rw [hPl]; rfl
      obtain ⟨g1, o1, hA1e⟩ := hA1.some (by omega)
      have hrd : rdV false 1 (rcVs (some ⟨ga, o, none⟩) L.length c z (cntP L.length z)) j = some (.slice (some ⟨ga, o + j * z * 4, none⟩) P.length (c - j * z)) := by
        show (rcVs (some ⟨ga, o, none⟩) L.length c z (cntP L.length z))[j]? = _
        rw [rcVs, List.getElem?_map, List.getElem?_range hlt, ← hrv]
        rfl
      have htake : (pcs L z).take (j + 1) = (pcs L z).take j ++ [P] := by rw [List.take_add_one, hP]; rfl
      have hel := encQ_len P
      have htl := textP_len ((pcs L z).take j)
      rw [List.length_take, hpl, Nat.min_eq_left hj] at htl
      obtain ⟨S, hS⟩ : ∃ S, (encQ P).1 = S := ⟨_, rfl⟩
      obtain ⟨e, he⟩ : ∃ e, (encQ P).2 = e := ⟨_, rfl⟩
      have henc := rencode_fn (some ⟨ga, o + j * z * 4, none⟩) (c - j * z) P _ (fun _ => ⟨_, _, rfl⟩) (fun _ => rfl) (Ro.roE _ _) (by omega) hPE
      rw [hS, he] at henc
      rw [hS] at hel
      have hview : ∀ X : Heap, HLe (roE (some ⟨ga, o + j * z * 4, none⟩) (ecells P)) (X ++ (rowE v 58 4 (ecells (rootR 0 ((pcs L z).take j))) ++ (roE A1 (rcVs (some ⟨ga, o, none⟩) L.length c z (cntP L.length z)) ++ [.ro ga o (ecells L)]))) := fun X =>
        (HLe.sub (List.Sublist.cons_cons _ (List.nil_sublist _))).trans (HLe.view (k := j * z * 4) (xs := ecells L) (by simp) hsubP)
      have hasub : (roE A1 (rcVs (some ⟨ga, o, none⟩) L.length c z (cntP L.length z))).Sublist (rowE v 58 4 (ecells (rootR 0 ((pcs L z).take j))) ++ (roE A1 (rcVs (some ⟨ga, o, none⟩) L.length c z (cntP L.length z)) ++ [.ro ga o (ecells L)])) :=
        (List.sublist_append_left _ [.ro ga o (ecells L)]).trans (List.sublist_append_right _ _)
      have hvl : (rcVs (some ⟨ga, o, none⟩) L.length c z (cntP L.length z)).length = cntP L.length z * 1 := by simp [rcVs]
      refine awp_skip ?_
      repeat (with_reducible (first | refine nx_block_normal ?_ | refine nx_scope_normal ?_))
      with_reducible first | refine nx_normal ?_ | refine nx_normalM ?_
      refine awp_seq (awp_block ?_)
      refine awp_seq_region (fun Z hZ => ?_)
      refine sx_move rfl rfl ?_
      refine sx_move rfl rfl ?_
      refine sx_indexAddr (o1 + j * 1) Try.underlying35 tyS22 (by rw [hA1e]; rfl) rfl (by omega) (by simp) rfl ?_
      refine sx_loadRd (o := o1) (n := cntP L.length z) (size := 1) (xs := rcVs (some ⟨ga, o, none⟩) L.length c z (cntP L.length z)) j rfl (by rw [Nat.mul_one]) (fun w hw => by rw [← hA1e]; exact rd_roE hA1 (fun y hy => hasub.subset hy) hvl hw) (by omega) tyA22 tyS22 hrd rfl ?_
      refine sx_callV (roE (some ⟨ga, o + j * z * 4, none⟩) (ecells P)) henc rfl (hview []) (Ro.roE _ _) rfl ?_
      refine sx_move rfl rfl ?_
      refine sx_extract rfl rfl rfl ?_
      refine sx_extract rfl rfl rfl ?_
      refine sx_assign rfl rfl ?_
      refine sx_assign rfl rfl ?_
      refine sx_nil (hZ _ _ ?_)
      refine awp_forget [(1, _), (9, _), (10, _), (11, _), (12, _), (13, _), (14, _)] (Kn.cons rfl (Kn.cons rfl (Kn.cons rfl (Kn.cons rfl (Kn.cons rfl (Kn.cons rfl (Kn.cons rfl (Kn.nil)))))))) ?_
      refine awp_seq ?_
      refine awp_seq_region (fun Z hZ => ?_)
      refine sx_move rfl rfl ?_
      first | refine sx_neq rfl rfl rfl ?_ | refine sx_sneq rfl rfl rfl ?_
      refine sx_nil (hZ _ _ ?_)
      refine awp_forget [(1, _), (9, _), (10, _), (11, _), (12, _), (13, _), (33, _)] (Kn.cons rfl (Kn.cons rfl (Kn.cons rfl (Kn.cons rfl (Kn.cons rfl (Kn.cons rfl (Kn.cons rfl (Kn.nil)))))))) ?_
      first | refine awp_cond rfl (fun h7 => ?_) (fun h7 => ?_) | refine awp_seq (awp_cond rfl (fun h7 => ?_) (fun h7 => ?_))
      · have he0 : e ≠ 0 := by simp at h7; omega
        have hb := okQ_bad (b := b) hP (by rw [he]; exact he0)
        rw [hb]
        refine awp_seq_region (fun Z hZ => ?_)
        refine sx_assign rfl rfl ?_
        refine sx_assign rfl rfl ?_
        refine sx_assign rfl rfl ?_
        refine sx_nil (hZ _ _ ?_)
        refine awp_forget [(6, _), (7, _), (8, _)] (Kn.cons rfl (Kn.cons rfl (Kn.cons rfl (Kn.nil)))) ?_
        refine awp_ret ?_
        repeat (with_reducible (first | refine nx_then_ret ?_ | refine nx_block_ret ?_ | refine nx_scope_ret ?_))
        exact nx_ret3h [] rfl rfl rfl rfl (HLe.sub (List.nil_sublist _)) ⟨_, _, rfl, fun h => by cases h⟩
      have he0 : e = 0 := by simp at h7; omega
      subst he0
      refine awp_skip ?_
      repeat (with_reducible (first | refine nx_block_normal ?_ | refine nx_scope_normal ?_))
      with_reducible first | refine nx_normal ?_ | refine nx_normalM ?_
      have hid : rdV false 1 (ecells P) 0 = some (uq (atE P 0).id) := rd_id (k := 0) (atE_at hP0)
      have hroot : rootR 0 ((pcs L z).take (j + 1)) = rootR 0 ((pcs L z).take j) ++ [⟨(atE P 0).id, (textP ((pcs L z).take j)).length, S.length, 0⟩] := by rw [htake, rootR_snoc, rootE, hS, Nat.zero_add]
      have htext : textP ((pcs L z).take (j + 1)) = textP ((pcs L z).take j) ++ S := by rw [htake, textP_snoc, hS]
      have hcells : ecells (rootR 0 ((pcs L z).take (j + 1))) = ecells (rootR 0 ((pcs L z).take j)) ++ [uq (atE P 0).id, uq (textP ((pcs L z).take j)).length, wq4 S.length, wq4 0] := by rw [hroot]; exact fm_snoc _ _
      refine awp_seq_region (fun Z hZ => ?_)
      refine sx_move rfl rfl ?_
      refine sx_move rfl rfl ?_
      refine sx_move rfl rfl ?_
      refine sx_indexAddr (o1 + j * 1) Try.underlying35 tyS22 (by rw [hA1e]; rfl) rfl (by omega) (by simp) rfl ?_
      refine sx_loadRd (o := o1) (n := cntP L.length z) (size := 1) (xs := rcVs (some ⟨ga, o, none⟩) L.length c z (cntP L.length z)) j rfl (by rw [Nat.mul_one]) (fun w hw => by rw [← hA1e]; exact rd_roE hA1 (fun y hy => hasub.subset hy) hvl hw) (by omega) tyA22 tyS22 hrd rfl ?_
      refine sx_indexAddr (o + j * z * 4) Try.underlying22 tyS58 rfl rfl (by omega) (by simp) rfl ?_
      refine sx_fieldAddr rfl tyF58_0 (by first | (simp only [Nat.reduceAdd, Nat.add_zero, Nat.zero_add]; first | done | rfl) | rfl) rfl ?_
      refine sx_loadRd (o := o + j * z * 4) (n := P.length) (size := 4) (xs := ecells P) 0 rfl rfl (fun w hw => rd_ro (i := 0) rfl (ecells_len P) (hview [] _ _ _ hw)) hP0 tyA47 tyS47 hid rfl ?_
      refine sx_move rfl rfl ?_
      first | refine sx_len Try.underlying9 rfl rfl ?_ | refine sx_lenS Try.underlying9 rfl rfl ?_
      refine sx_conv Try.underlying3 Try.underlying47 rfl (((textP ((pcs L z).take j)).length : Nat) : Int) (by rw [IntWalk.u64_in _ (by omega)]) rfl ?_
      refine sx_move rfl rfl ?_
      first | refine sx_len Try.underlying9 rfl rfl ?_ | refine sx_lenS Try.underlying9 rfl rfl ?_
      refine sx_conv Try.underlying3 Try.underlying50 rfl ((S.length : Nat) : Int) (by rw [u32_w, Nat.mod_eq_of_lt (by omega)]) rfl ?_
      refine sx_build tyZ58 tyP58 rfl rfl (by first | (simp only [List.take_succ_cons, List.take_zero, List.drop_succ_cons, List.drop_zero, List.cons_append, List.nil_append, List.append_nil, List.length_cons, List.length_nil, Nat.reduceAdd, Nat.zero_add, Nat.add_zero, Value.cells, wrV, zrep_one, List.replicate_succ, List.replicate_zero, Nat.reduceMul, Nat.zero_mul]; first | done | rfl) | rfl) rfl ?_
      refine sx_buildSlice Try.underlying22 tyS58 tyZ58 rfl rfl rfl rfl (by first | (simp only [List.take_succ_cons, List.take_zero, List.drop_succ_cons, List.drop_zero, List.cons_append, List.nil_append, List.append_nil, List.length_cons, List.length_nil, Nat.reduceAdd, Nat.zero_add, Nat.add_zero, Value.cells, wrV, zrep_one, List.replicate_succ, List.replicate_zero, Nat.reduceMul, Nat.zero_mul]; first | done | rfl) | rfl) rfl (fun g1 => ?_)
      refine sx_appendE (_ :: (roE A1 (rcVs (some ⟨ga, o, none⟩) L.length c z (cntP L.length z)) ++ [.ro ga o (ecells L)])) elemEnR rfl hv2 (by rw [ecells_len, rootR_len, List.length_take, hpl, Nat.min_eq_left hj]) rfl (fun w hw => rd_own (i := 0) (xs := [uq (atE P 0).id, uq (textP ((pcs L z).take j)).length, wq4 S.length, wq4 0]) rfl rfl hw) rfl (by show _ ≤ 9223372036854775807; omega) (by omega) (HLe.toEnd [_] _ _) rfl (fun v2 hv2' => ?_)
      rw [← hcells]
      refine sx_assign rfl rfl ?_
      refine sx_nil (hZ _ _ ?_)
      refine awp_forget [(1, _), (9, _), (10, _), (11, _), (12, _), (13, _)] (Kn.cons rfl (Kn.cons rfl (Kn.cons rfl (Kn.cons rfl (Kn.cons rfl (Kn.cons rfl (Kn.nil))))))) ?_
      refine awp_region (fun Z hZ => ?_)
      refine sx_move rfl rfl ?_
      refine sx_move rfl rfl ?_
      refine sx_cat rfl rfl (by omega) rfl ?_
      rw [← htext]
      refine sx_assign rfl rfl ?_
      refine sx_nil (hZ _ _ ?_)
      refine nx_forget [(1, _), (9, _), (10, _), (11, _), (12, _)] (Kn.cons rfl (Kn.cons rfl (Kn.cons rfl (Kn.cons rfl (Kn.cons rfl (Kn.nil)))))) ?_
      repeat (with_reducible (first | refine nx_block_normal ?_ | refine nx_scope_normal ?_))
      with_reducible first | refine nx_normal ?_ | refine nx_normalM ?_
      refine awp_region (fun Z hZ => ?_)
      refine sx_move rfl rfl ?_
      refine sx_add rfl rfl ((j + 1 : Nat) : Int) (by rw [IntWalk.i64_in _ (by omega)]; omega) rfl ?_
      refine sx_assign rfl rfl ?_
      refine sx_nil (hZ _ _ ?_)
      refine nx_forget [(1, _), (9, _), (10, _), (11, _), (12, _)] (Kn.cons rfl (Kn.cons rfl (Kn.cons rfl (Kn.cons rfl (Kn.cons rfl (Kn.nil)))))) ?_
      refine nx_round (j + 1, v2) ⟨by show j + 1 ≤ _; omega, hv2', fun Q hQ => ?_⟩ (by simp; omega) (Kn.cons rfl (Kn.cons rfl (Kn.cons rfl (Kn.cons rfl (Kn.cons rfl Kn.nil))))) ((HLe.swap (roE A1 (rcVs (some ⟨ga, o, none⟩) L.length c z (cntP L.length z)) ++ [.ro ga o (ecells L)]) _).trans (HLe.sub (List.sublist_cons_self _ _)))
      rw [htake] at hQ
      rcases List.mem_append.1 hQ with hQ | hQ
      · exact hgood Q hQ
      · rw [List.mem_singleton.1 hQ]; exact he
    · have hje : j = cntP L.length z := by simp at h6; omega
      subst hje
      have hall : (pcs L z).take (cntP L.length z) = pcs L z := List.take_of_length_le (by omega)
      rw [hall] at hgood
      refine awp_exit ?_
      repeat (with_reducible (first | refine nx_then_exit ?_ | refine nx_block_other (by decide) ?_ | refine nx_scope_exit ?_))
      with_reducible refine nx_block_exit ?_
      repeat (with_reducible (first | refine nx_block_normal ?_ | refine nx_scope_normal ?_))
      refine nx_cut v ⟨by rw [hpl]; exact hv2, hgood⟩ (Kn.cons rfl (Kn.cons rfl (Kn.cons (by simp only [hall]; rfl) Kn.nil))) ?_
      simp only [hall]
      exact HLe.sub (List.sublist_append_left _ _)
  · rintro v ⟨hv2, hgood⟩
    have hRE : EnsOk (rootR 0 (pcs L z)) := rootR_ok _ 0 (fun P hP e he => hE e (pcs_mem hP e he)) (by omega)
    have hrl := rootR_len (pcs L z) 0
    have hok : okQ L b z = decide ((sizeQ (rootR 0 (pcs L z)) : Int) ≤ b) := by
      unfold okQ
      rw [List.all_eq_true.2 (fun P hP => by simpa using hgood P hP), Bool.true_and]
    rw [hok]
    obtain ⟨A3, c3, rfl, hA3, hle3⟩ := hv2.ro
    have hsz := rsize_fn A3 c3 (rootR 0 (pcs L z)) _ (by rw [hrl]; exact hA3.arg) (fun _ => rfl) (Ro.roE _ _) (by omega) hRE
    rw [hrl] at hsz
    repeat (with_reducible (first | refine nx_block_normal ?_ | refine nx_scope_normal ?_))
    with_reducible first | refine nx_normal ?_ | refine nx_normalM ?_
    refine awp_seq_region (fun Z hZ => ?_)
    refine sx_move rfl rfl ?_
    refine sx_move rfl rfl ?_
    refine sx_move rfl rfl ?_
    refine sx_callV (roE A3 (ecells (rootR 0 (pcs L z)))) hsz rfl (row_view hle3 [] _ _ _) (Ro.roE _ _) rfl ?_
    refine sx_move rfl rfl ?_
    first | refine sx_leq rfl rfl rfl ?_ | refine sx_sleq rfl rfl rfl ?_
    refine sx_assign rfl rfl ?_
    refine sx_assign rfl rfl ?_
    refine sx_assign rfl rfl ?_
    refine sx_nil (hZ _ _ ?_)
    refine awp_forget [(6, _), (7, _), (8, _)] (Kn.cons rfl (Kn.cons rfl (Kn.cons rfl (Kn.nil)))) ?_
    refine awp_ret ?_
    repeat (with_reducible (first | refine nx_then_ret ?_ | refine nx_block_ret ?_ | refine nx_scope_ret ?_))
    exact nx_ret3h _ rfl rfl rfl rfl (HLe.refl _) ⟨_, _, rfl, fun _ => ⟨rfl, by rw [hrl]; exact hv2, rfl⟩⟩
end Go.Proofs.Ytodclhiggafkbaa
