/- ShelfTells. No conditions. -/
import Derived.Test.YtjelakmndcecoaaSh13
namespace Go.Proofs.Ytjelakmndcecoaa
open Go.RowKit
set_option linter.unusedVariables false
set_option linter.unusedSimpArgs false
set_option maxRecDepth 100000
theorem ocells_k {L : List Opn} {i : Nat} {x : Opn} (h : L[i]? = some x) : rdV true 2 (ocells L) (i * 4 + 1) = some (.agg #[uq x.k.1, uq x.k.2]) := fm_rdm ocell_len 1 2 h (by omega)
set_option maxHeartbeats 1000000 in
theorem tells_fn (n : Int) (A : Option Addr) (c : Nat) (OL : List Opn) (hA : ArgOk A OL.length) (hL : OL.length ≤ maxLen) (hO : ∀ x ∈ OL, x.d < 256) (T0 : Heap) (hT : 0 < OL.length → T0 = roE A (ocells OL)) (hro : Ro T0) :
    Fn Try.prog 4 [iq n, .slice A OL.length c] T0 fun v _ => v = .bool true := by
  refine Fn.enter (N := 178) Try.func4 rfl (by kernel_rfl) rfl (fun w0 => ?_)

  refine awp_seq_region (fun Z hZ => ?_)
  refine sx_assign rfl rfl ?_
  refine sx_nil (hZ _ _ ?_)
  refine awp_forget [(0, _), (1, _)] (Kn.cons rfl (Kn.cons rfl (Kn.nil))) ?_
  by_cases hn : 0 ≤ n ∧ n ≤ 64
  · obtain ⟨most, rfl⟩ : ∃ m : Nat, n = m := ⟨n.toNat, by omega⟩
    refine awp_seq_region (fun Z hZ => ?_)
    refine sx_move rfl rfl ?_
    refine sx_callA [] [] T0 (shnew_fn most (by omega)) rfl (HLe.refl _) (List.nil_sublist _) Ro.nil rfl ?_
    rintro v H' ⟨B, rfl, rfl⟩
    refine sx_move rfl rfl ?_
    refine sx_extract rfl rfl rfl ?_
    refine sx_extract rfl rfl rfl ?_
    refine sx_assign rfl rfl ?_
    refine sx_assign rfl rfl ?_
    refine sx_nil (hZ _ _ ?_)
    refine awp_forget [(0, _), (1, _), (5, _), (6, _)] (Kn.cons rfl (Kn.cons rfl (Kn.cons rfl (Kn.cons rfl (Kn.nil))))) ?_
    refine awp_heap (shH B most sh0 ++ T0) (HLe.refl _) ?_

    refine awp_seq ?_
    refine awp_seq_meet [(0, iq most), (1, .slice A OL.length c), (5, ptr B.g 0), (39, .bool (overV OL 40))] (shH B most sh0 ++ T0) (fun Z hZ => ?_) ?_
    · refine sx_move rfl rfl ?_
      refine sx_neq rfl rfl rfl ?_
      refine sx_move rfl rfl ?_
      refine sx_split 32 rfl (fun hb2 => ?_) (fun hb2 => ?_)
      · refine sx_off rfl rfl rfl rfl rfl ?_
        refine sx_off rfl rfl rfl rfl rfl ?_
        refine sx_pick rfl rfl rfl ?_
        refine sx_move rfl rfl ?_
        refine sx_off rfl rfl rfl rfl rfl ?_
        refine sx_off rfl rfl rfl rfl rfl ?_
        refine sx_pick rfl rfl rfl ?_
        refine sx_nil (hZ _ _ ?_ ?_)
        · exact Kn.cons rfl (Kn.cons rfl (Kn.cons rfl (Kn.cons (congrArg some (congrArg Value.bool (by first | (exfalso; simp at hb2; done) | simp_all))) Kn.nil)))
        · exact HLe.refl _
      · refine sx_on rfl rfl rfl ?_
        refine sx_move rfl rfl ?_
        refine sx_on rfl rfl rfl ?_
        refine sx_ptrNil Try.underlying23 rfl rfl ?_
        refine sx_pick rfl rfl rfl ?_
        refine sx_move rfl rfl ?_
        refine sx_split 36 rfl (fun hb6 => ?_) (fun hb6 => ?_)
        · refine sx_off rfl rfl rfl rfl rfl ?_
          refine sx_off rfl rfl rfl rfl rfl ?_
          refine sx_pick rfl rfl rfl ?_
          refine sx_nil (hZ _ _ ?_ ?_)
          · exact Kn.cons rfl (Kn.cons rfl (Kn.cons rfl (Kn.cons (congrArg some (congrArg Value.bool (by first | (exfalso; simp at hb2; done) | simp_all))) Kn.nil)))
          · exact HLe.refl _
        · refine sx_on rfl rfl rfl ?_
          refine sx_move rfl rfl ?_
          refine sx_on rfl rfl rfl ?_
          refine sx_callPT T0 (over_fn A c OL 40 hA hL T0 hT) rfl (List.sublist_append_right [_, _, _, _] _) hro rfl ?_
          refine sx_pick rfl rfl rfl ?_
          refine sx_nil (hZ _ _ ?_ ?_)
          · exact Kn.cons rfl (Kn.cons rfl (Kn.cons rfl (Kn.cons (congrArg some (congrArg Value.bool (by first | (exfalso; simp at hb2; done) | simp_all))) Kn.nil)))
          · exact HLe.refl _
    refine awp_cond rfl (fun h => ?_) (fun h => ?_)
    · refine awp_seq_meet [(4, .bool true)] [] (fun Z hZ => ?_) ?_
      · refine sx_move rfl rfl ?_
        refine sx_ptrNeNil Try.underlying23 rfl rfl ?_
        refine sx_move rfl rfl ?_
        refine sx_split 42 rfl (fun hb2 => ?_) (fun hb2 => ?_)
        · refine sx_off rfl rfl rfl rfl rfl ?_
          refine sx_off rfl rfl rfl rfl rfl ?_
          refine sx_pick rfl rfl rfl ?_
          refine sx_move rfl rfl ?_
          refine sx_off rfl rfl rfl rfl rfl ?_
          refine sx_off rfl rfl rfl rfl rfl ?_
          refine sx_pick rfl rfl rfl ?_
          refine sx_move rfl rfl ?_
          refine sx_on rfl rfl rfl ?_
          refine sx_callP awake_fn rfl rfl ?_
          refine sx_pick rfl rfl rfl ?_
          refine sx_assign rfl rfl ?_
          refine sx_nil (hZ _ _ ?_ ?_)
          · exact Kn.cons (congrArg some (congrArg Value.bool (by first | rfl | (exfalso; simp at hb2; done) | (exfalso; cases hb2)))) Kn.nil
          · exact HLe.sub (List.nil_sublist _)
        · refine sx_on rfl rfl rfl ?_
          refine sx_move rfl rfl ?_
          refine sx_on rfl rfl rfl ?_
          refine sx_lss rfl rfl rfl ?_
          refine sx_pick rfl rfl rfl ?_
          refine sx_move rfl rfl ?_
          refine sx_split 46 rfl (fun hb6 => ?_) (fun hb6 => ?_)
          · refine sx_off rfl rfl rfl rfl rfl ?_
            refine sx_off rfl rfl rfl rfl rfl ?_
            refine sx_pick rfl rfl rfl ?_
            refine sx_move rfl rfl ?_
            refine sx_on rfl rfl rfl ?_
            refine sx_callP awake_fn rfl rfl ?_
            refine sx_pick rfl rfl rfl ?_
            refine sx_assign rfl rfl ?_
            refine sx_nil (hZ _ _ ?_ ?_)
            · exact Kn.cons (congrArg some (congrArg Value.bool (by first | rfl | (exfalso; simp at hb2; done) | (exfalso; cases hb2)))) Kn.nil
            · exact HLe.sub (List.nil_sublist _)
          · refine sx_on rfl rfl rfl ?_
            refine sx_move rfl rfl ?_
            refine sx_on rfl rfl rfl ?_
            refine sx_gtr rfl rfl rfl ?_
            refine sx_pick rfl rfl rfl ?_
            refine sx_move rfl rfl ?_
            refine sx_split 50 rfl (fun hb10 => ?_) (fun hb10 => ?_)
            · refine sx_on rfl rfl rfl ?_
              refine sx_callP awake_fn rfl rfl ?_
              refine sx_pick rfl rfl rfl ?_
              refine sx_assign rfl rfl ?_
              refine sx_nil (hZ _ _ ?_ ?_)
              · exact Kn.cons (congrArg some (congrArg Value.bool (by first | rfl | (exfalso; simp at hb2; done) | (exfalso; cases hb2)))) Kn.nil
              · exact HLe.sub (List.nil_sublist _)
            · refine sx_off rfl rfl rfl rfl rfl ?_
              refine sx_pick rfl rfl rfl ?_
              refine sx_assign rfl rfl ?_
              refine sx_nil (hZ _ _ ?_ ?_)
              · exact Kn.cons (congrArg some (congrArg Value.bool (by first | rfl | (exfalso; simp at hb2; done) | (exfalso; cases hb2)))) Kn.nil
              · exact HLe.sub (List.nil_sublist _)
      refine awp_ret ?_
      repeat (with_reducible refine nx_then_ret ?_)
      exact nx_ret1 rfl rfl rfl
    refine awp_skip ?_
    with_reducible refine nx_normal ?_
    obtain ⟨hov, hsh⟩ := over_short h
    refine awp_seq ?_
    refine awp_seq_region (fun Z hZ => ?_)
    refine sx_assign rfl rfl ?_
    refine sx_nil (hZ _ _ ?_)
    refine awp_forget [(0, _), (1, _), (5, _), (7, _)] (Kn.cons rfl (Kn.cons rfl (Kn.cons rfl (Kn.cons rfl (Kn.nil))))) ?_
    refine awp_block ?_
    refine awp_loop (ι := Nat × Sh × List Item × Heap) (fun i => [(0, iq most), (1, .slice A OL.length c), (5, ptr B.g 0), (7, iq (i.1 : Nat))]) (fun i => shH B most i.2.1 ++ (T0 ++ i.2.2.2))
      (fun i => i.1 ≤ OL.length ∧ ShIs most i.2.1 i.2.2.1 i.2.2.2 ∧ Ro i.2.2.2 ∧ Said OL i.1 i.2.2.1 ∧ i.2.1.nx ≤ i.1 ∧ i.2.1.hi ≤ 50 * i.1 ∧ i.2.1.mi ≤ 50 * i.1) (fun i => OL.length - i.1) (0, sh0, [], []) ⟨by simp, sh0_ok most, Ro.nil, Said.nil _ _, Nat.le_refl _, Nat.le_refl _, Nat.le_refl _⟩ (Kn.cons rfl (Kn.cons rfl (Kn.cons rfl (Kn.cons rfl Kn.nil)))) (by simp only [List.append_nil]; exact HLe.refl _) ?_
    rintro ⟨i, S, X, T⟩ ⟨hi, hS, hTro, hSd, hb1, hb2, hb3⟩
    simp only at hi hS hTro hSd hb1 hb2 hb3

    refine awp_seq ?_
    refine awp_seq_region (fun Z hZ => ?_)
    refine sx_move rfl rfl ?_
    refine sx_move rfl rfl ?_
    refine sx_len Try.underlying22 rfl rfl ?_
    refine sx_lss rfl rfl rfl ?_
    refine sx_nil (hZ _ _ ?_)
    refine awp_forget [(0, _), (1, _), (5, _), (7, _), (56, _)] (Kn.cons rfl (Kn.cons rfl (Kn.cons rfl (Kn.cons rfl (Kn.cons rfl (Kn.nil)))))) ?_
    refine awp_cond rfl (fun h => ?_) (fun h => ?_)
    · have hlt : i < OL.length := by simpa using h
      obtain ⟨x, hx⟩ : ∃ x, OL[i]? = some x := ⟨_, List.getElem?_eq_getElem hlt⟩
      have hxm := List.mem_of_getElem? hx
      have hxv := hsh x hxm
      obtain ⟨ga, o, rfl⟩ := hA (by omega)
      obtain rfl := hT (by omega)
      refine awp_skip ?_
      with_reducible refine nx_normal ?_
      refine awp_seq (awp_block ?_)
      have hxl := hS.xlen
      have hkeys : Fn Try.prog 12 [ptr B.g 0] (shH B most S) fun v H' => ∃ A c K, v = .slice A X.length c ∧ H' = K ++ shH B most S ∧ Wrs K := by
        obtain ⟨L, tx, h⟩ := hS
        refine fn_mono (shkeys_fn B most S L h.rep (by have := h.len; omega)) ?_
        rintro v H' ⟨hv, rfl⟩
        obtain ⟨Ak, ck, rfl, _⟩ := hv.form
        exact ⟨Ak, ck, _, by rw [h.xlen], rfl, fun e he => (by have := clipE_wr (.slice Ak L.length ck) 47 2 (LI.kcells L); exact List.filter_eq_self.1 this e he)⟩
      refine awp_heap (_ :: _ :: _ :: _ :: .ro ga o (ocells OL) :: T) (HLe.refl _) ?_

      refine awp_seq_region (fun Z hZ => ?_)
      refine sx_move rfl rfl ?_
      refine sx_callA (shH B most S) [] (roE (some ⟨ga, o, none⟩) (ocells OL) ++ T) (by rw [List.append_nil]; exact hkeys) rfl (HLe.refl _) (List.nil_sublist _) Ro.nil rfl ?_
      rintro v H' ⟨Ak, ck, K, rfl, rfl, hK⟩
      rw [(Wrs.append hK (shH_wrs B most S)).filter]
      refine sx_heap (shH B most S ++ (roE (some ⟨ga, o, none⟩) (ocells OL) ++ T)) (HLe.sub (List.Sublist.append_right (List.sublist_append_right K _) _)) ?_
      refine sx_assign rfl rfl ?_
      refine sx_nil (hZ _ _ ?_)
      refine awp_forget [(0, _), (1, _), (5, _), (7, _), (8, _)] (Kn.cons rfl (Kn.cons rfl (Kn.cons rfl (Kn.cons rfl (Kn.cons rfl (Kn.nil)))))) ?_
      have hkp := shkeep_fn B most S X T x.k x.v hS (by omega) (by omega) (by omega)
      have hdc := ddecode_fn x.v (by omega)
      obtain ⟨d1, _, _, _⟩ := decQ_ok x.v
      obtain ⟨D, hDl⟩ : ∃ D, decL x.v = D := ⟨_, rfl⟩
      have hDl' : (decQ x.v).1 = D := hDl
      rw [hDl'] at d1 hdc
      rw [hDl] at hkp
      have hSd2 := hSd.keep (most := most) hx
      have hsame := fun h => keepX_len (most := most) (X := X) (k := x.k) (t := x.v) h
      obtain ⟨e, he⟩ : ∃ e, (decQ x.v).2.2 = e := ⟨_, rfl⟩
      rw [he] at hkp hdc hsame
      generalize keepX most X x.k x.v = X2 at hkp hSd2 hsame
      refine awp_heap (_ :: _ :: _ :: _ :: .ro ga o (ocells OL) :: T) (HLe.refl _) ?_

      refine aww_seq_region _ [(0, true), (1, true), (2, true), (3, true), (4, true), (5, true), (6, true), (7, true), (8, true), (9, true), (10, true), (11, false), (12, true), (13, true), (14, true), (15, true), (16, true)] mixed (by kernel_rfl) (HLe.pick [4] (by simp) (by simp only [pick, List.filterMap_cons, List.filterMap_nil, List.getElem?_cons_succ, List.getElem?_cons_zero]; rfl)) (fun Z hZ => ?_)
      refine tw_p rfl ?_
      refine sv_move rfl rfl ?_
      refine sv_nil ?_
      refine tw_p rfl ?_
      refine sv_move rfl rfl ?_
      refine sv_nil ?_
      refine tw_p rfl ?_
      refine sv_move rfl rfl ?_
      refine sv_nil ?_
      refine tw_p rfl ?_
      refine sv_indexAddr (o + i * 4) Try.underlying22 tyS39 rfl rfl (by omega) (by simp) rfl ?_
      refine sv_nil ?_
      refine tw_p rfl ?_
      refine sv_fieldAddr rfl tyF39_1 (by first | (simp only [Nat.reduceAdd, Nat.add_zero, Nat.zero_add]; first | done | rfl) | rfl) rfl ?_
      refine sv_nil ?_
      refine tw_p rfl ?_
      refine sv_loadRo 0 rfl rfl (i * 4 + 1) rfl tyA37 tyS37 (ocells_k hx) rfl ?_
      refine sv_nil ?_
      refine tw_p rfl ?_
      refine sv_move rfl rfl ?_
      refine sv_nil ?_
      refine tw_p rfl ?_
      refine sv_move rfl rfl ?_
      refine sv_nil ?_
      refine tw_p rfl ?_
      refine sv_indexAddr (o + i * 4) Try.underlying22 tyS39 rfl rfl (by omega) (by simp) rfl ?_
      refine sv_nil ?_
      refine tw_p rfl ?_
      refine sv_fieldAddr rfl tyF39_2 (by first | (simp only [Nat.reduceAdd, Nat.add_zero, Nat.zero_add]; first | done | rfl) | rfl) rfl ?_
      refine sv_nil ?_
      refine tw_p rfl ?_
      refine sv_loadRo 0 rfl rfl (i * 4 + 3) rfl tyA9 tyS9 (ocells_v hx) rfl ?_
      refine sv_nil ?_
      refine tw_g rfl ?_
      refine sx_callA (shH B most S) [] (roE (some ⟨ga, o, none⟩) (ocells OL) ++ T) (by rw [List.append_nil]; exact hkp) rfl (HLe.refl _) (List.nil_sublist _) Ro.nil rfl ?_
      rintro v H' ⟨v1, S2, W1, T1, rfl, hv1, rfl, hW1, hro1, htu1, hS2, hn1, hh1, hm1⟩
      rw [(Wrs.append (rowE_wrs v1 65 4 (ecells D)) (Wrs.append hW1 (shH_wrs B most S2))).filter]
      refine sx_heap (shH B most S2 ++ (roE (some ⟨ga, o, none⟩) (ocells OL) ++ (rowE v1 65 4 (ecells D) ++ (W1 ++ T)))) (keep_le _ W1 (shH B most S2) _ T) ?_
      refine sx_nil ⟨HLe.pick [4] (by simp) rfl, ?_⟩
      refine tw_p rfl ?_
      refine sv_move rfl rfl ?_
      refine sv_nil ?_
      refine tw_p rfl ?_
      refine sv_extract rfl rfl rfl ?_
      refine sv_nil ?_
      refine tw_p rfl ?_
      refine sv_extract rfl rfl rfl ?_
      refine sv_nil ?_
      refine tw_p rfl ?_
      refine sv_assign rfl rfl ?_
      refine sv_nil ?_
      refine tw_p rfl ?_
      refine sv_assign rfl rfl ?_
      refine sv_nil ?_
      refine tw_nil (hZ _ _ ?_)
      refine awp_forget [(0, _), (1, _), (5, _), (7, _), (8, _), (9, _), (10, _)] (Kn.cons rfl (Kn.cons rfl (Kn.cons rfl (Kn.cons rfl (Kn.cons rfl (Kn.cons rfl (Kn.cons rfl (Kn.nil)))))))) ?_
      obtain ⟨A1, c1, rfl, hA1, hle1⟩ := hv1.ro
      obtain ⟨T2, hT2⟩ : ∃ T2, T1 ++ T = T2 := ⟨_, rfl⟩
      rw [hT2] at hS2
      have hTro2 : Ro T2 := hT2 ▸ hro1.append hTro
      refine awp_heap (shH B most S2 ++ (roE (some ⟨ga, o, none⟩) (ocells OL) ++ (roE A1 (ecells D) ++ T2))) (by rw [← hT2]; exact tells_le1 ⟨hro1, htu1⟩ hle1 _ _ _ _ _) ?_
      have hxl2 := hS2.xlen
      refine awp_heap (_ :: _ :: _ :: _ :: .ro ga o (ocells OL) :: (roE A1 (ecells D) ++ T2)) (HLe.refl _) ?_

      refine awp_seq_region (fun Z hZ => ?_)
      refine sx_move rfl rfl ?_
      refine sx_move rfl rfl ?_
      refine sx_indexAddr (o + i * 4) Try.underlying22 tyS39 rfl rfl (by omega) (by simp) rfl ?_
      refine sx_fieldAddr rfl tyF39_2 (by first | (simp only [Nat.reduceAdd, Nat.add_zero, Nat.zero_add]; first | done | rfl) | rfl) rfl ?_
      refine sx_loadRo 4 rfl rfl (i * 4 + 3) rfl tyA9 tyS9 (ocells_v hx) rfl ?_
      refine sx_callO [] (shH B most S2 ++ (roE (some ⟨ga, o, none⟩) (ocells OL) ++ (roE A1 (ecells D) ++ T2))) hdc rfl (HLe.refl _) rfl ?_
      rintro v H' ⟨u, rfl, hu, rfl⟩
      rw [rowE_flt]
      obtain ⟨Au, cu, rfl, hAu, hleu⟩ := hu.ro
      refine sx_heap (shH B most S2 ++ (roE (some ⟨ga, o, none⟩) (ocells OL) ++ (roE Au (ecells D) ++ (roE A1 (ecells D) ++ T2)))) ((tells_le2 _ _ _ _).trans (hleu [] _ _ _ _)) ?_
      refine sx_move rfl rfl ?_
      refine sx_extract rfl rfl rfl ?_
      refine sx_extract rfl rfl rfl ?_
      refine sx_extract rfl rfl rfl ?_
      refine sx_assign rfl rfl ?_
      refine sx_assign rfl rfl ?_
      refine sx_assign rfl rfl ?_
      refine sx_nil (hZ _ _ ?_)
      refine awp_forget [(0, _), (1, _), (5, _), (7, _), (8, _), (9, _), (10, _), (11, _), (13, _)] (Kn.cons rfl (Kn.cons rfl (Kn.cons rfl (Kn.cons rfl (Kn.cons rfl (Kn.cons rfl (Kn.cons rfl (Kn.cons rfl (Kn.cons rfl (Kn.nil)))))))))) ?_
      have hlen2 : Fn Try.prog 16 [ptr B.g 0] (shH B most S2) fun v H' => v = iq (X2.length : Nat) ∧ H' = shH B most S2 := by
        obtain ⟨L, tx, h⟩ := hS2
        have h1 := shlen_fn B most S2 L h.rep
        rw [← h.xlen] at h1
        exact h1
      have hkeys2 : Fn Try.prog 12 [ptr B.g 0] (shH B most S2) fun v H' => ∃ A c K, v = .slice A X2.length c ∧ H' = K ++ shH B most S2 ∧ Wrs K := by
        obtain ⟨L, tx, h⟩ := hS2
        refine fn_mono (shkeys_fn B most S2 L h.rep (by have := h.len; omega)) ?_
        rintro v H' ⟨hv, rfl⟩
        obtain ⟨Ak, ck, rfl, _⟩ := hv.form
        exact ⟨Ak, ck, _, by rw [h.xlen], rfl, fun e he => (by have := clipE_wr (.slice Ak L.length ck) 47 2 (LI.kcells L); exact List.filter_eq_self.1 this e he)⟩

      refine awp_seq ?_
      refine awp_seq_meet [(0, iq most), (1, .slice (some ⟨ga, o, none⟩) OL.length c), (5, ptr B.g 0), (7, iq (i : Nat)), (112, .bool false)] (shH B most S2 ++ (roE (some ⟨ga, o, none⟩) (ocells OL) ++ T2)) (fun Z hZ => ?_) ?_
      · refine sx_move rfl rfl ?_
        refine sx_move rfl rfl ?_
        refine sx_neq rfl rfl rfl ?_
        refine sx_move rfl rfl ?_
        refine sx_force 89 rfl false (by first | rfl | (simp; done) | (simp; omega)) ?_
        refine sx_on rfl rfl rfl ?_
        refine sx_move rfl rfl ?_
        refine sx_on rfl rfl rfl ?_
        refine sx_move rfl rfl ?_
        refine sx_on rfl rfl rfl ?_
        refine sx_callV (roE A1 (ecells D) ++ roE Au (ecells D)) (esame_fn A1 c1 D _ hA1.arg (fun _ => rfl) (Ro.roE _ _) (by show _ ≤ 9223372036854775807; omega) Au cu D _ hAu.arg (fun _ => rfl) (Ro.roE _ _) (by show _ ≤ 9223372036854775807; omega)) rfl ((HLe.swap (roE Au (ecells D)) (roE A1 (ecells D))).trans (HLe.sub (((List.Sublist.append_left (List.sublist_append_left _ T2) _).trans (List.sublist_append_right [_] _)).trans (List.sublist_append_right [_, _, _, _] _)))) ((Ro.roE _ _).append (Ro.roE _ _)) rfl ?_
        rw [show sameL D D = true from sameL_iff.2 rfl]
        refine sx_on rfl rfl rfl ?_
        refine sx_not rfl rfl ?_
        refine sx_pick rfl rfl rfl ?_
        refine sx_move rfl rfl ?_
        refine sx_force 95 rfl false (by first | rfl | (simp; done) | (simp; omega)) ?_
        refine sx_on rfl rfl rfl ?_
        refine sx_move rfl rfl ?_
        refine sx_on rfl rfl rfl ?_
        refine sx_callA (shH B most S2) [] (roE (some ⟨ga, o, none⟩) (ocells OL) ++ (roE Au (ecells D) ++ (roE A1 (ecells D) ++ T2))) (by rw [List.append_nil]; exact hlen2) rfl (HLe.refl _) (List.nil_sublist _) Ro.nil rfl ?_
        rintro v H' ⟨rfl, rfl⟩
        refine sx_heap (shH B most S2 ++ (roE (some ⟨ga, o, none⟩) (ocells OL) ++ (roE Au (ecells D) ++ (roE A1 (ecells D) ++ T2)))) (HLe.refl _) ?_
        refine sx_on rfl rfl rfl ?_
        refine sx_move rfl rfl ?_
        refine sx_on rfl rfl rfl ?_
        refine sx_gtr rfl rfl rfl ?_
        refine sx_pick rfl rfl rfl ?_
        refine sx_move rfl rfl ?_
        refine sx_force 101 rfl false (by first | rfl | (simp; done) | (simp; omega)) ?_
        refine sx_on rfl rfl rfl ?_
        refine sx_move rfl rfl ?_
        refine sx_on rfl rfl rfl ?_
        refine sx_neq rfl rfl rfl ?_
        refine sx_on rfl rfl rfl ?_
        refine sx_move rfl rfl ?_
        refine sx_split 104 rfl (fun hb18 => ?_) (fun hb18 => ?_)
        · refine sx_on rfl rfl rfl ?_
          refine sx_move rfl rfl ?_
          refine sx_on rfl rfl rfl ?_
          refine sx_callA (shH B most S2) [] (roE (some ⟨ga, o, none⟩) (ocells OL) ++ (roE Au (ecells D) ++ (roE A1 (ecells D) ++ T2))) (by rw [List.append_nil]; exact hkeys2) rfl (HLe.refl _) (List.nil_sublist _) Ro.nil rfl ?_
          rintro v H' ⟨Ak2, ck2, K2, rfl, rfl, hK2⟩
          rw [(Wrs.append hK2 (shH_wrs B most S2)).filter]
          refine sx_heap (shH B most S2 ++ (roE (some ⟨ga, o, none⟩) (ocells OL) ++ (roE Au (ecells D) ++ (roE A1 (ecells D) ++ T2)))) (HLe.sub (List.Sublist.append_right (List.sublist_append_right K2 _) _)) ?_
          refine sx_on rfl rfl rfl ?_
          refine sx_len Try.underlying42 rfl rfl ?_
          refine sx_on rfl rfl rfl ?_
          refine sx_move rfl rfl ?_
          refine sx_on rfl rfl rfl ?_
          refine sx_len Try.underlying42 rfl rfl ?_
          refine sx_on rfl rfl rfl ?_
          refine sx_neq rfl rfl rfl ?_
          refine sx_on rfl rfl rfl ?_
          refine sx_pick rfl rfl rfl ?_
          refine sx_pick rfl rfl rfl ?_
          refine sx_nil (hZ _ _ ?_ ?_)
          · exact Kn.cons rfl (Kn.cons rfl (Kn.cons rfl (Kn.cons rfl (Kn.cons (congrArg some (congrArg Value.bool (by first | rfl | (simp_all; done)))) Kn.nil))))
          · exact HLe.sub (List.Sublist.append_left (List.Sublist.append_left ((List.sublist_append_right _ _).trans (List.sublist_append_right _ _)) _) _)
        · refine sx_off rfl rfl rfl rfl rfl ?_
          refine sx_off rfl rfl rfl rfl rfl ?_
          refine sx_off rfl rfl rfl rfl rfl ?_
          refine sx_off rfl rfl rfl rfl rfl ?_
          refine sx_off rfl rfl rfl rfl rfl ?_
          refine sx_off rfl rfl rfl rfl rfl ?_
          refine sx_on rfl rfl rfl ?_
          refine sx_pick rfl rfl rfl ?_
          refine sx_pick rfl rfl rfl ?_
          refine sx_nil (hZ _ _ ?_ ?_)
          · exact Kn.cons rfl (Kn.cons rfl (Kn.cons rfl (Kn.cons rfl (Kn.cons (congrArg some (congrArg Value.bool (by first | rfl | (simp_all; done)))) Kn.nil))))
          · exact HLe.sub (List.Sublist.append_left (List.Sublist.append_left ((List.sublist_append_right _ _).trans (List.sublist_append_right _ _)) _) _)
      refine awp_cond rfl (fun hf => ?_) (fun hf => ?_)
      · cases hf
      refine awp_skip ?_
      with_reducible refine nx_normal ?_

      refine awp_seq_region (fun Z hZ => ?_)
      refine sx_assign rfl rfl ?_
      refine sx_nil (hZ _ _ ?_)
      refine awp_forget [(0, _), (1, _), (5, _), (7, _), (14, _)] (Kn.cons rfl (Kn.cons rfl (Kn.cons rfl (Kn.cons rfl (Kn.cons rfl (Kn.nil)))))) ?_
      refine awp_block ?_
      refine awp_loop (ι := Nat × Sh × List Item) (fun i9 => [(0, iq most), (1, .slice (some ⟨ga, o, none⟩) OL.length c), (5, ptr B.g 0), (7, iq (i : Nat)), (14, iq (i9.1 : Nat))]) (fun i9 => shH B most i9.2.1 ++ (roE (some ⟨ga, o, none⟩) (ocells OL) ++ T2))
        (fun i9 => i9.1 ≤ i + 1 ∧ ShIs most i9.2.1 i9.2.2 T2 ∧ Said OL (i + 1) i9.2.2 ∧ i9.2.1.nx ≤ i + 1 ∧ i9.2.1.hi ≤ 50 * i + i9.1 ∧ i9.2.1.mi ≤ 50 * i + i9.1) (fun i9 => i + 1 - i9.1) (0, S2, X2) ⟨Nat.zero_le _, hS2, hSd2, by show S2.nx ≤ i + 1; omega, by show S2.hi ≤ 50 * i + 0; omega, by show S2.mi ≤ 50 * i + 0; omega⟩ (Kn.cons rfl (Kn.cons rfl (Kn.cons rfl (Kn.cons rfl (Kn.cons rfl Kn.nil))))) (HLe.refl _) ?_
      rintro ⟨k, S3, X3⟩ ⟨hk, hS3, hSd3, hc1, hc2, hc3⟩
      simp only at hk hS3 hSd3 hc1 hc2 hc3

      refine awp_seq ?_
      refine awp_seq_region (fun Z hZ => ?_)
      refine sx_move rfl rfl ?_
      refine sx_move rfl rfl ?_
      refine sx_leq rfl rfl rfl ?_
      refine sx_nil (hZ _ _ ?_)
      refine awp_forget [(0, _), (1, _), (5, _), (7, _), (14, _), (115, _)] (Kn.cons rfl (Kn.cons rfl (Kn.cons rfl (Kn.cons rfl (Kn.cons rfl (Kn.cons rfl (Kn.nil))))))) ?_
      refine awp_cond rfl (fun h2 => ?_) (fun h2 => ?_)
      · have hlt2 : k < i + 1 := by simp at h2; omega
        obtain ⟨y, hy⟩ : ∃ y, OL[k]? = some y := ⟨_, List.getElem?_eq_getElem (by omega)⟩
        refine awp_skip ?_
        with_reducible refine nx_normal ?_
        refine awp_seq (awp_block ?_)
        have hlk := shlook_fn B most S3 X3 T2 y.k hTro2 hS3 (by omega)
        have hhas := fun h => hSd3.has (k := y.k) h
        have hSd4 := hSd3.get y.k
        obtain ⟨hb, hhb⟩ : ∃ hb, hasK X3 y.k = hb := ⟨_, rfl⟩
        obtain ⟨D3, hD3⟩ : ∃ D, lookL X3 y.k = D := ⟨_, rfl⟩
        rw [hhb, hD3] at hlk
        refine awp_heap (_ :: _ :: _ :: _ :: .ro ga o (ocells OL) :: T2) (HLe.refl _) ?_

        refine awp_seq_region (fun Z hZ => ?_)
        refine sx_move rfl rfl ?_
        refine sx_move rfl rfl ?_
        refine sx_move rfl rfl ?_
        refine sx_indexAddr (o + k * 4) Try.underlying22 tyS39 rfl rfl (by omega) (by simp) rfl ?_
        refine sx_fieldAddr rfl tyF39_1 (by first | (simp only [Nat.reduceAdd, Nat.add_zero, Nat.zero_add]; first | done | rfl) | rfl) rfl ?_
        refine sx_loadRo 4 rfl rfl (k * 4 + 1) rfl tyA37 tyS37 (ocells_k hy) rfl ?_
        refine sx_callA (shH B most S3) T2 (roE (some ⟨ga, o, none⟩) (ocells OL) ++ T2) hlk rfl (HLe.refl _) (List.sublist_append_right _ _) hTro2 rfl ?_
        rintro v H' ⟨v3, S4, rfl, hv3, rfl, hS4, hn4, hm4⟩
        rw [(Wrs.append (rowE_wrs v3 65 4 (ecells D3)) (shH_wrs B most S4)).filter]
        refine sx_heap (shH B most S4 ++ (roE (some ⟨ga, o, none⟩) (ocells OL) ++ (rowE v3 65 4 (ecells D3) ++ T2))) (keep_le _ [] (shH B most S4) _ T2) ?_
        refine sx_move rfl rfl ?_
        refine sx_extract rfl rfl rfl ?_
        refine sx_extract rfl rfl rfl ?_
        refine sx_assign rfl rfl ?_
        refine sx_assign rfl rfl ?_
        refine sx_nil (hZ _ _ ?_)
        refine awp_forget [(0, _), (1, _), (5, _), (7, _), (14, _), (15, _), (16, _)] (Kn.cons rfl (Kn.cons rfl (Kn.cons rfl (Kn.cons rfl (Kn.cons rfl (Kn.cons rfl (Kn.cons rfl (Kn.nil)))))))) ?_
        obtain ⟨A3, c3, rfl, hA3, hle3⟩ := hv3.ro
        refine awp_heap (_ :: _ :: _ :: _ :: .ro ga o (ocells OL) :: (roE A3 (ecells D3) ++ T2)) (hle3 [_, _, _, _, _] _ _ _ _) ?_

        refine awp_seq ?_
        refine awp_seq_region (fun Z hZ => ?_)
        refine sx_move rfl rfl ?_
        refine sx_not rfl rfl ?_
        refine sx_nil (hZ _ _ ?_)
        refine awp_forget [(0, _), (1, _), (5, _), (7, _), (14, _), (15, _), (129, _)] (Kn.cons rfl (Kn.cons rfl (Kn.cons rfl (Kn.cons rfl (Kn.cons rfl (Kn.cons rfl (Kn.cons rfl (Kn.nil)))))))) ?_
        have hc4 : S4.hi ≤ 50 * i + (k + 1) ∧ S4.mi ≤ 50 * i + (k + 1) := by
          have e1 : S4.hi = (lookS S3 X3 y.k).1 := congrArg Prod.fst hm4
          have e2 : S4.mi = (lookS S3 X3 y.k).2 := congrArg Prod.snd hm4
          unfold lookS at e1 e2
          split at e1 <;> split at e2 <;> simp only at e1 e2 <;> omega
        refine awp_cond rfl (fun hf => ?_) (fun hf => ?_)
        · refine awp_exit ?_
          repeat (with_reducible refine nx_then_exit ?_)
          with_reducible refine nx_block_exit ?_
          with_reducible refine nx_normal ?_
          refine awp_region (fun Z hZ => ?_)
          refine sx_move rfl rfl ?_
          refine sx_add rfl rfl ((k + 1 : Nat) : Int) (by rw [IntWalk.i64_in _ (by omega)]; omega) rfl ?_
          refine sx_assign rfl rfl ?_
          refine sx_nil (hZ _ _ ?_)
          refine nx_forget [(0, _), (1, _), (5, _), (7, _), (14, _)] (Kn.cons rfl (Kn.cons rfl (Kn.cons rfl (Kn.cons rfl (Kn.cons rfl (Kn.nil)))))) ?_
          exact nx_round (k + 1, S4, rGetL X3 y.k) ⟨by show k + 1 ≤ i + 1; omega, hS4, hSd4, by show S4.nx ≤ i + 1; omega, hc4.1, hc4.2⟩ (by simp; omega) (Kn.cons rfl (Kn.cons rfl (Kn.cons rfl (Kn.cons rfl (Kn.cons rfl Kn.nil))))) (HLe.sub (List.Sublist.append_left (List.Sublist.append_left (List.sublist_append_right (roE A3 (ecells D3)) T2) _) (shH B most S4)))
        · have hb1' : hb = true := by simpa using hf
          subst hb1'
          obtain ⟨n9, y9, hlast, hy9, hyv⟩ := hhas hhb
          have hD9 : decL y9.v = D3 := by
            rw [hyv, ← hD3]
            unfold lookL
            rw [if_pos hhb]
          have hd3 : D3.length ≤ 4096 := by
            rw [← hD9]
            exact (decQ_ok _).1
          refine awp_skip ?_
          with_reducible refine nx_normal ?_
          refine awp_heap (shH B most S4 ++ (roE (some ⟨ga, o, none⟩) (ocells OL) ++ (roE A3 (ecells D3) ++ T2))) (HLe.refl _) ?_

          refine awp_seq_region (fun Z hZ => ?_)
          refine sx_assign rfl rfl ?_
          refine sx_nil (hZ _ _ ?_)
          refine awp_forget [(0, _), (1, _), (5, _), (7, _), (14, _), (15, _), (17, _)] (Kn.cons rfl (Kn.cons rfl (Kn.cons rfl (Kn.cons rfl (Kn.cons rfl (Kn.cons rfl (Kn.cons rfl (Kn.nil)))))))) ?_
          refine awp_seq ?_
          refine awp_seq_region (fun Z hZ => ?_)
          refine sx_assign rfl rfl ?_
          refine sx_nil (hZ _ _ ?_)
          refine awp_forget [(0, _), (1, _), (5, _), (7, _), (14, _), (15, _), (17, _), (18, _)] (Kn.cons rfl (Kn.cons rfl (Kn.cons rfl (Kn.cons rfl (Kn.cons rfl (Kn.cons rfl (Kn.cons rfl (Kn.cons rfl (Kn.nil))))))))) ?_
          refine awp_block ?_
          refine awp_loop (ι := Nat × Int) (fun i8 => [(0, iq most), (1, .slice (some ⟨ga, o, none⟩) OL.length c), (5, ptr B.g 0), (7, iq (i : Nat)), (14, iq (k : Nat)), (15, .slice A3 D3.length c3), (17, .int .i64 i8.2), (18, iq (i8.1 : Nat))]) (fun i8 => (shH B most S4 ++ (roE (some ⟨ga, o, none⟩) (ocells OL) ++ (roE A3 (ecells D3) ++ T2))))
            (fun i8 => i8.1 ≤ i + 1 ∧ Found OL y.k i8.1 i8.2) (fun i8 => i + 1 - i8.1) (0, -1) ⟨Nat.zero_le _, Found.zero _ _⟩ (Kn.cons rfl (Kn.cons rfl (Kn.cons rfl (Kn.cons rfl (Kn.cons rfl (Kn.cons rfl (Kn.cons rfl (Kn.cons rfl Kn.nil)))))))) (HLe.refl _) ?_
          rintro ⟨j, la⟩ ⟨hj, hfd⟩
          simp only at hj hfd

          refine awp_seq ?_
          refine awp_seq_region (fun Z hZ => ?_)
          refine sx_move rfl rfl ?_
          refine sx_move rfl rfl ?_
          refine sx_leq rfl rfl rfl ?_
          refine sx_nil (hZ _ _ ?_)
          refine awp_forget [(0, _), (1, _), (5, _), (7, _), (14, _), (15, _), (17, _), (18, _), (132, _)] (Kn.cons rfl (Kn.cons rfl (Kn.cons rfl (Kn.cons rfl (Kn.cons rfl (Kn.cons rfl (Kn.cons rfl (Kn.cons rfl (Kn.cons rfl (Kn.nil)))))))))) ?_
          refine awp_cond rfl (fun h3 => ?_) (fun h3 => ?_)
          · have hlt3 : j < i + 1 := by simp at h3; omega
            obtain ⟨z, hz⟩ : ∃ z, OL[j]? = some z := ⟨_, List.getElem?_eq_getElem (by omega)⟩
            have hzv := hsh z (List.mem_of_getElem? hz)
            refine awp_skip ?_
            with_reducible refine nx_normal ?_
            refine awp_seq (awp_block ?_)
            refine awp_heap (_ :: _ :: _ :: _ :: .ro ga o (ocells OL) :: (roE A3 (ecells D3) ++ T2)) (HLe.refl _) ?_

            refine awp_seq_region (fun Z hZ => ?_)
            refine sx_move rfl rfl ?_
            refine sx_move rfl rfl ?_
            refine sx_indexAddr (o + j * 4) Try.underlying22 tyS39 rfl rfl (by omega) (by simp) rfl ?_
            refine sx_fieldAddr rfl tyF39_2 (by first | (simp only [Nat.reduceAdd, Nat.add_zero, Nat.zero_add]; first | done | rfl) | rfl) rfl ?_
            refine sx_loadRo 4 rfl rfl (j * 4 + 3) rfl tyA9 tyS9 (ocells_v hz) rfl ?_
            refine sx_callO [] (shH B most S4 ++ (roE (some ⟨ga, o, none⟩) (ocells OL) ++ (roE A3 (ecells D3) ++ T2))) (ddecode_fn z.v (by omega)) rfl (HLe.refl _) rfl ?_
            rintro v H' ⟨u, rfl, hu, rfl⟩
            rw [rowE_flt]
            refine sx_heap (shH B most S4 ++ (roE (some ⟨ga, o, none⟩) (ocells OL) ++ (roE A3 (ecells D3) ++ T2))) (HLe.sub (List.sublist_append_right _ _)) ?_
            refine sx_move rfl rfl ?_
            refine sx_extract rfl rfl rfl ?_
            refine sx_extract rfl rfl rfl ?_
            refine sx_extract rfl rfl rfl ?_
            refine sx_assign rfl rfl ?_
            refine sx_assign rfl rfl ?_
            refine sx_assign rfl rfl ?_
            refine sx_nil (hZ _ _ ?_)
            refine awp_forget [(0, _), (1, _), (5, _), (7, _), (14, _), (15, _), (17, _), (18, _), (21, _)] (Kn.cons rfl (Kn.cons rfl (Kn.cons rfl (Kn.cons rfl (Kn.cons rfl (Kn.cons rfl (Kn.cons rfl (Kn.cons rfl (Kn.cons rfl (Kn.nil)))))))))) ?_
            refine awp_heap (_ :: _ :: _ :: _ :: .ro ga o (ocells OL) :: (roE A3 (ecells D3) ++ T2)) (HLe.refl _) ?_
            obtain ⟨ez, hez⟩ : ∃ ez, (decQ z.v).2.2 = ez := ⟨_, rfl⟩
            rw [hez]

            refine awq_seq_meet [(0, iq most), (1, .slice (some ⟨ga, o, none⟩) OL.length c), (5, ptr B.g 0), (7, iq (i : Nat)), (14, iq (k : Nat)), (15, .slice A3 D3.length c3), (17, .int .i64 la), (18, iq (j : Nat)), (159, .bool (HitB y.k z))] (shH B most S4 ++ (roE (some ⟨ga, o, none⟩) (ocells OL) ++ (roE A3 (ecells D3) ++ T2))) mixed (by kernel_rfl) (fun Z hZ => ?_) ?_
            · refine sq_move rfl rfl ?_
              refine sq_eql rfl rfl rfl ?_
              refine sq_move rfl rfl ?_
              refine sq_split 147 rfl (fun hb2 => ?_) (fun hb2 => ?_)
              · refine sq_on rfl rfl rfl ?_
                refine sq_move rfl rfl ?_
                refine sq_on rfl rfl rfl ?_
                refine sq_move rfl rfl ?_
                refine sq_on rfl rfl rfl ?_
                refine sq_indexAddr (o + j * 4) Try.underlying22 tyS39 rfl rfl (by omega) (by simp) rfl ?_
                refine sq_on rfl rfl rfl ?_
                refine sq_fieldAddr rfl tyF39_1 (by first | (simp only [Nat.reduceAdd, Nat.add_zero, Nat.zero_add]; first | done | rfl) | rfl) rfl ?_
                refine sq_on rfl rfl rfl ?_
                refine sq_loadRo 4 rfl rfl (j * 4 + 1) rfl tyA37 tyS37 (ocells_k hz) rfl ?_
                refine sq_on rfl rfl rfl ?_
                refine sq_move rfl rfl ?_
                refine sq_on rfl rfl rfl ?_
                refine sq_move rfl rfl ?_
                refine sq_on rfl rfl rfl ?_
                refine sq_indexAddr (o + k * 4) Try.underlying22 tyS39 rfl rfl (by omega) (by simp) rfl ?_
                refine sq_on rfl rfl rfl ?_
                refine sq_fieldAddr rfl tyF39_1 (by first | (simp only [Nat.reduceAdd, Nat.add_zero, Nat.zero_add]; first | done | rfl) | rfl) rfl ?_
                refine sq_on rfl rfl rfl ?_
                refine sq_loadRo 4 rfl rfl (k * 4 + 1) rfl tyA37 tyS37 (ocells_k hy) rfl ?_
                refine sq_on rfl rfl rfl ?_
                refine sq_aeql (key_eqR z.k y.k) guard_keyR rfl rfl rfl ?_
                refine sq_pick rfl rfl rfl ?_
                refine sq_nil (hZ _ _ ?_ ?_)
                · exact Kn.cons rfl (Kn.cons rfl (Kn.cons rfl (Kn.cons rfl (Kn.cons rfl (Kn.cons rfl (Kn.cons rfl (Kn.cons rfl (Kn.cons (congrArg some (congrArg Value.bool (by rw [hitB_of hez]; simp at hb2; simp [hb2]))) Kn.nil))))))))
                · exact HLe.refl _
              · refine sq_off rfl rfl rfl rfl rfl ?_
                refine sq_off rfl rfl rfl rfl rfl ?_
                refine sq_off rfl rfl rfl rfl rfl ?_
                refine sq_off rfl rfl rfl rfl rfl ?_
                refine sq_off rfl rfl rfl rfl rfl ?_
                refine sq_off rfl rfl rfl rfl rfl ?_
                refine sq_off rfl rfl rfl rfl rfl ?_
                refine sq_off rfl rfl rfl rfl rfl ?_
                refine sq_off rfl rfl rfl rfl rfl ?_
                refine sq_off rfl rfl rfl rfl rfl ?_
                refine sq_off rfl rfl rfl rfl rfl ?_
                refine sq_pick rfl rfl rfl ?_
                refine sq_nil (hZ _ _ ?_ ?_)
                · exact Kn.cons rfl (Kn.cons rfl (Kn.cons rfl (Kn.cons rfl (Kn.cons rfl (Kn.cons rfl (Kn.cons rfl (Kn.cons rfl (Kn.cons (congrArg some (congrArg Value.bool (by rw [hitB_of hez]; simp at hb2; simp [hb2]))) Kn.nil))))))))
                · exact HLe.refl _
            refine awp_cond rfl (fun h4 => ?_) (fun h4 => ?_)
            · refine awp_region (fun Z hZ => ?_)
              refine sx_move rfl rfl ?_
              refine sx_assign rfl rfl ?_
              refine sx_nil (hZ _ _ ?_)
              refine nx_forget [(0, _), (1, _), (5, _), (7, _), (14, _), (15, _), (17, _), (18, _)] (Kn.cons rfl (Kn.cons rfl (Kn.cons rfl (Kn.cons rfl (Kn.cons rfl (Kn.cons rfl (Kn.cons rfl (Kn.cons rfl (Kn.nil))))))))) ?_
              repeat (with_reducible refine nx_block_normal ?_)
              with_reducible refine nx_normal ?_
              refine awp_region (fun Z hZ => ?_)
              refine sx_move rfl rfl ?_
              refine sx_add rfl rfl ((j + 1 : Nat) : Int) (by rw [IntWalk.i64_in _ (by omega)]; omega) rfl ?_
              refine sx_assign rfl rfl ?_
              refine sx_nil (hZ _ _ ?_)
              refine nx_forget [(0, _), (1, _), (5, _), (7, _), (14, _), (15, _), (17, _), (18, _)] (Kn.cons rfl (Kn.cons rfl (Kn.cons rfl (Kn.cons rfl (Kn.cons rfl (Kn.cons rfl (Kn.cons rfl (Kn.cons rfl (Kn.nil))))))))) ?_
              exact nx_round (j + 1, (j : Int)) ⟨by show j + 1 ≤ i + 1; omega, Found.hit hz (hitB_iff.1 h4)⟩ (by simp; omega) (Kn.cons rfl (Kn.cons rfl (Kn.cons rfl (Kn.cons rfl (Kn.cons rfl (Kn.cons rfl (Kn.cons rfl (Kn.cons rfl Kn.nil)))))))) (HLe.refl _)
            · refine awp_skip ?_
              repeat (with_reducible refine nx_block_normal ?_)
              with_reducible refine nx_normal ?_
              refine awp_region (fun Z hZ => ?_)
              refine sx_move rfl rfl ?_
              refine sx_add rfl rfl ((j + 1 : Nat) : Int) (by rw [IntWalk.i64_in _ (by omega)]; omega) rfl ?_
              refine sx_assign rfl rfl ?_
              refine sx_nil (hZ _ _ ?_)
              refine nx_forget [(0, _), (1, _), (5, _), (7, _), (14, _), (15, _), (17, _), (18, _)] (Kn.cons rfl (Kn.cons rfl (Kn.cons rfl (Kn.cons rfl (Kn.cons rfl (Kn.cons rfl (Kn.cons rfl (Kn.cons rfl (Kn.nil))))))))) ?_
              exact nx_round (j + 1, la) ⟨by show j + 1 ≤ i + 1; omega, hfd.miss hz (fun hh => by rw [hitB_iff.2 hh] at h4; cases h4)⟩ (by simp; omega) (Kn.cons rfl (Kn.cons rfl (Kn.cons rfl (Kn.cons rfl (Kn.cons rfl (Kn.cons rfl (Kn.cons rfl (Kn.cons rfl Kn.nil)))))))) (HLe.refl _)
          · refine awp_exit ?_
            repeat (with_reducible refine nx_then_exit ?_)
            with_reducible refine nx_block_exit ?_
            with_reducible refine nx_normal ?_
            have hje : j = i + 1 := by simp at h3; omega
            subst hje
            obtain rfl := hfd.last hlast
            have hn9 := hlast.1
            have hy9v := hsh y9 (List.mem_of_getElem? hy9)
            have hdc9 := ddecode_fn y9.v (by omega)
            have hD9' : (decQ y9.v).1 = D3 := hD9
            rw [hD9'] at hdc9

            refine awp_seq ?_
            refine awp_seq_region (fun Z hZ => ?_)
            refine sx_move rfl rfl ?_
            refine sx_lss rfl rfl rfl ?_
            refine sx_nil (hZ _ _ ?_)
            refine awp_forget [(0, _), (1, _), (5, _), (7, _), (14, _), (15, _), (17, _), (162, _)] (Kn.cons rfl (Kn.cons rfl (Kn.cons rfl (Kn.cons rfl (Kn.cons rfl (Kn.cons rfl (Kn.cons rfl (Kn.cons rfl (Kn.nil))))))))) ?_
            refine awp_cond rfl (fun h4 => ?_) (fun h4 => ?_)
            · simp at h4; omega
            refine awp_skip ?_
            with_reducible refine nx_normal ?_
            refine awp_heap (_ :: _ :: _ :: _ :: .ro ga o (ocells OL) :: (roE A3 (ecells D3) ++ T2)) (HLe.refl _) ?_

            refine awp_seq_region (fun Z hZ => ?_)
            refine sx_move rfl rfl ?_
            refine sx_move rfl rfl ?_
            refine sx_indexAddr (o + n9 * 4) Try.underlying22 tyS39 rfl rfl (by omega) (by simp) rfl ?_
            refine sx_fieldAddr rfl tyF39_2 (by first | (simp only [Nat.reduceAdd, Nat.add_zero, Nat.zero_add]; first | done | rfl) | rfl) rfl ?_
            refine sx_loadRo 4 rfl rfl (n9 * 4 + 3) rfl tyA9 tyS9 (ocells_v hy9) rfl ?_
            refine sx_callO [] (shH B most S4 ++ (roE (some ⟨ga, o, none⟩) (ocells OL) ++ (roE A3 (ecells D3) ++ T2))) hdc9 rfl (HLe.refl _) rfl ?_
            rintro v H' ⟨u, rfl, hu9, rfl⟩
            rw [rowE_flt]
            obtain ⟨A9, c9, rfl, hA9, hle9⟩ := hu9.ro
            refine sx_heap (roE A9 (ecells D3) ++ (shH B most S4 ++ (roE (some ⟨ga, o, none⟩) (ocells OL) ++ (roE A3 (ecells D3) ++ T2)))) (hle9 [] _ _ _ _) ?_
            refine sx_move rfl rfl ?_
            refine sx_extract rfl rfl rfl ?_
            refine sx_extract rfl rfl rfl ?_
            refine sx_extract rfl rfl rfl ?_
            refine sx_assign rfl rfl ?_
            refine sx_assign rfl rfl ?_
            refine sx_assign rfl rfl ?_
            refine sx_nil (hZ _ _ ?_)
            refine awp_forget [(0, _), (1, _), (5, _), (7, _), (14, _), (15, _), (22, _)] (Kn.cons rfl (Kn.cons rfl (Kn.cons rfl (Kn.cons rfl (Kn.cons rfl (Kn.cons rfl (Kn.cons rfl (Kn.nil)))))))) ?_
            refine awp_seq_region (fun Z hZ => ?_)
            refine sx_move rfl rfl ?_
            refine sx_move rfl rfl ?_
            refine sx_callV (roE A3 (ecells D3) ++ roE A9 (ecells D3)) (esame_fn A3 c3 D3 _ hA3.arg (fun _ => rfl) (Ro.roE _ _) (by show _ ≤ 9223372036854775807; omega) A9 c9 D3 _ hA9.arg (fun _ => rfl) (Ro.roE _ _) (by show _ ≤ 9223372036854775807; omega)) rfl ((HLe.swap (roE A9 (ecells D3)) (roE A3 (ecells D3))).trans (HLe.sub (List.Sublist.append_left (((List.sublist_append_left _ T2).trans (List.sublist_append_right [_] _)).trans (List.sublist_append_right [_, _, _, _] _)) _))) ((Ro.roE _ _).append (Ro.roE _ _)) rfl ?_
            rw [show sameL D3 D3 = true from sameL_iff.2 rfl]
            refine sx_not rfl rfl ?_
            refine sx_nil (hZ _ _ ?_)
            refine awp_forget [(0, _), (1, _), (5, _), (7, _), (14, _), (176, _)] (Kn.cons rfl (Kn.cons rfl (Kn.cons rfl (Kn.cons rfl (Kn.cons rfl (Kn.cons rfl (Kn.nil))))))) ?_
            refine awp_cond rfl (fun h5 => ?_) (fun h5 => ?_)
            · cases h5
            refine awp_skip ?_
            repeat (with_reducible refine nx_block_normal ?_)
            with_reducible refine nx_normal ?_
            refine awp_region (fun Z hZ => ?_)
            refine sx_move rfl rfl ?_
            refine sx_add rfl rfl ((k + 1 : Nat) : Int) (by rw [IntWalk.i64_in _ (by omega)]; omega) rfl ?_
            refine sx_assign rfl rfl ?_
            refine sx_nil (hZ _ _ ?_)
            refine nx_forget [(0, _), (1, _), (5, _), (7, _), (14, _)] (Kn.cons rfl (Kn.cons rfl (Kn.cons rfl (Kn.cons rfl (Kn.cons rfl (Kn.nil)))))) ?_
            exact nx_round (k + 1, S4, rGetL X3 y.k) ⟨by show k + 1 ≤ i + 1; omega, hS4, hSd4, by show S4.nx ≤ i + 1; omega, hc4.1, hc4.2⟩ (by simp; omega) (Kn.cons rfl (Kn.cons rfl (Kn.cons rfl (Kn.cons rfl (Kn.cons rfl Kn.nil))))) (HLe.sub ((List.Sublist.append_left (List.Sublist.append_left (List.sublist_append_right (roE A3 (ecells D3)) T2) _) (shH B most S4)).trans (List.sublist_append_right (roE A9 (ecells D3)) _)))
      · refine awp_exit ?_
        repeat (with_reducible refine nx_then_exit ?_)
        with_reducible refine nx_block_exit ?_
        repeat (with_reducible refine nx_block_normal ?_)
        with_reducible refine nx_normal ?_
        have hke : k = i + 1 := by simp at h2; omega
        subst hke
        refine awp_region (fun Z hZ => ?_)
        refine sx_move rfl rfl ?_
        refine sx_add rfl rfl ((i + 1 : Nat) : Int) (by rw [IntWalk.i64_in _ (by omega)]; omega) rfl ?_
        refine sx_assign rfl rfl ?_
        refine sx_nil (hZ _ _ ?_)
        refine nx_forget [(0, _), (1, _), (5, _), (7, _)] (Kn.cons rfl (Kn.cons rfl (Kn.cons rfl (Kn.cons rfl (Kn.nil))))) ?_
        exact nx_round (i + 1, S3, X3, T2) ⟨by show i + 1 ≤ _; omega, hS3, hTro2, hSd3, by show S3.nx ≤ i + 1; omega, by show S3.hi ≤ 50 * (i + 1); omega, by show S3.mi ≤ 50 * (i + 1); omega⟩ (by simp; omega) (Kn.cons rfl (Kn.cons rfl (Kn.cons rfl (Kn.cons rfl Kn.nil)))) (HLe.refl _)
    · refine awp_exit ?_
      repeat (with_reducible refine nx_then_exit ?_)
      with_reducible refine nx_block_exit ?_
      with_reducible refine nx_normal ?_
      refine awp_seq_region (fun Z hZ => ?_)
      refine sx_callP awake_fn rfl rfl ?_
      refine sx_assign rfl rfl ?_
      refine sx_nil (hZ _ _ ?_)
      refine awp_forget [(4, _)] (Kn.cons rfl (Kn.nil)) ?_
      refine awp_ret ?_
      exact nx_ret1 rfl rfl rfl
  · refine awp_seq_region (fun Z hZ => ?_)
    refine sx_move rfl rfl ?_
    refine sx_callP (shnewE_fn n hn) rfl rfl ?_
    refine sx_move rfl rfl ?_
    refine sx_extract rfl rfl rfl ?_
    refine sx_extract rfl rfl rfl ?_
    refine sx_assign rfl rfl ?_
    refine sx_assign rfl rfl ?_
    refine sx_nil (hZ _ _ ?_)
    refine awp_forget [(0, _), (1, _), (5, _), (6, _)] (Kn.cons rfl (Kn.cons rfl (Kn.cons rfl (Kn.cons rfl (Kn.nil))))) ?_
    refine awp_seq ?_
    refine awp_seq_meet [(0, iq n), (1, .slice A OL.length c), (5, .pointer none), (39, .bool true)] T0 (fun Z hZ => ?_) ?_
    · refine sx_move rfl rfl ?_
      refine sx_neq rfl rfl rfl ?_
      refine sx_move rfl rfl ?_
      refine sx_split 32 rfl (fun hb2 => ?_) (fun hb2 => ?_)
      · refine sx_off rfl rfl rfl rfl rfl ?_
        refine sx_off rfl rfl rfl rfl rfl ?_
        refine sx_pick rfl rfl rfl ?_
        refine sx_move rfl rfl ?_
        refine sx_off rfl rfl rfl rfl rfl ?_
        refine sx_off rfl rfl rfl rfl rfl ?_
        refine sx_pick rfl rfl rfl ?_
        refine sx_nil (hZ _ _ ?_ ?_)
        · exact Kn.cons rfl (Kn.cons rfl (Kn.cons rfl (Kn.cons (congrArg some (congrArg Value.bool (by first | rfl | (exfalso; simp at hb2; done) | (exfalso; cases hb2)))) Kn.nil)))
        · exact HLe.refl _
      · refine sx_on rfl rfl rfl ?_
        refine sx_move rfl rfl ?_
        refine sx_on rfl rfl rfl ?_
        refine sx_nilNil Try.underlying23 rfl rfl ?_
        refine sx_pick rfl rfl rfl ?_
        refine sx_move rfl rfl ?_
        refine sx_split 36 rfl (fun hb6 => ?_) (fun hb6 => ?_)
        · refine sx_off rfl rfl rfl rfl rfl ?_
          refine sx_off rfl rfl rfl rfl rfl ?_
          refine sx_pick rfl rfl rfl ?_
          refine sx_nil (hZ _ _ ?_ ?_)
          · exact Kn.cons rfl (Kn.cons rfl (Kn.cons rfl (Kn.cons (congrArg some (congrArg Value.bool (by first | rfl | (exfalso; simp at hb2; done) | (exfalso; cases hb2)))) Kn.nil)))
          · exact HLe.refl _
        · refine sx_on rfl rfl rfl ?_
          refine sx_move rfl rfl ?_
          refine sx_on rfl rfl rfl ?_
          refine sx_callPT T0 (over_fn A c OL 40 hA hL T0 hT) rfl (List.Sublist.refl _) hro rfl ?_
          refine sx_pick rfl rfl rfl ?_
          refine sx_nil (hZ _ _ ?_ ?_)
          · exact Kn.cons rfl (Kn.cons rfl (Kn.cons rfl (Kn.cons (congrArg some (congrArg Value.bool (by first | rfl | (exfalso; simp at hb2; done) | (exfalso; cases hb2)))) Kn.nil)))
          · exact HLe.refl _
    refine awp_cond rfl (fun h => ?_) (fun h => ?_)
    · refine awp_seq_meet [(4, .bool true)] [] (fun Z hZ => ?_) ?_
      · refine sx_move rfl rfl ?_
        refine sx_nilNeNil Try.underlying23 rfl rfl ?_
        refine sx_move rfl rfl ?_
        refine sx_split 42 rfl (fun hb2 => ?_) (fun hb2 => ?_)
        · refine sx_off rfl rfl rfl rfl rfl ?_
          refine sx_off rfl rfl rfl rfl rfl ?_
          refine sx_pick rfl rfl rfl ?_
          refine sx_move rfl rfl ?_
          refine sx_off rfl rfl rfl rfl rfl ?_
          refine sx_off rfl rfl rfl rfl rfl ?_
          refine sx_pick rfl rfl rfl ?_
          refine sx_move rfl rfl ?_
          refine sx_on rfl rfl rfl ?_
          refine sx_callP awake_fn rfl rfl ?_
          refine sx_pick rfl rfl rfl ?_
          refine sx_assign rfl rfl ?_
          refine sx_nil (hZ _ _ ?_ ?_)
          · exact Kn.cons (congrArg some (congrArg Value.bool (by first | rfl | (simp at *; omega)))) Kn.nil
          · exact HLe.sub (List.nil_sublist _)
        · refine sx_on rfl rfl rfl ?_
          refine sx_move rfl rfl ?_
          refine sx_on rfl rfl rfl ?_
          refine sx_lss rfl rfl rfl ?_
          refine sx_pick rfl rfl rfl ?_
          refine sx_move rfl rfl ?_
          refine sx_split 46 rfl (fun hb6 => ?_) (fun hb6 => ?_)
          · refine sx_off rfl rfl rfl rfl rfl ?_
            refine sx_off rfl rfl rfl rfl rfl ?_
            refine sx_pick rfl rfl rfl ?_
            refine sx_move rfl rfl ?_
            refine sx_on rfl rfl rfl ?_
            refine sx_callP awake_fn rfl rfl ?_
            refine sx_pick rfl rfl rfl ?_
            refine sx_assign rfl rfl ?_
            refine sx_nil (hZ _ _ ?_ ?_)
            · exact Kn.cons (congrArg some (congrArg Value.bool (by first | rfl | (simp at *; omega)))) Kn.nil
            · exact HLe.sub (List.nil_sublist _)
          · refine sx_on rfl rfl rfl ?_
            refine sx_move rfl rfl ?_
            refine sx_on rfl rfl rfl ?_
            refine sx_gtr rfl rfl rfl ?_
            refine sx_pick rfl rfl rfl ?_
            refine sx_move rfl rfl ?_
            refine sx_split 50 rfl (fun hb10 => ?_) (fun hb10 => ?_)
            · refine sx_on rfl rfl rfl ?_
              refine sx_callP awake_fn rfl rfl ?_
              refine sx_pick rfl rfl rfl ?_
              refine sx_assign rfl rfl ?_
              refine sx_nil (hZ _ _ ?_ ?_)
              · exact Kn.cons (congrArg some (congrArg Value.bool (by first | rfl | (simp at *; omega)))) Kn.nil
              · exact HLe.sub (List.nil_sublist _)
            · refine sx_off rfl rfl rfl rfl rfl ?_
              refine sx_pick rfl rfl rfl ?_
              refine sx_assign rfl rfl ?_
              refine sx_nil (hZ _ _ ?_ ?_)
              · exact Kn.cons (congrArg some (congrArg Value.bool (by first | rfl | (simp at *; omega)))) Kn.nil
              · exact HLe.sub (List.nil_sublist _)
      refine awp_ret ?_
      repeat (with_reducible refine nx_then_ret ?_)
      exact nx_ret1 rfl rfl rfl
    · cases h
theorem ShelfTells_read {H : Type} {enc : TypeId × Value → H} (w : World) {base : Nat} {v0 v1 : Value} {d0 d1 : DataW H} {p0 p1 : List MemPlace}
    (k0 : Value.okWide Try.prog w .any base 3 v0) (h0 : DataW.Trod enc Try.prog w 0 (fun _ => true) true 3 v0 d0 p0)
    (k1 : Value.okWide Try.prog w .any base 22 v1) (h1 : DataW.Trod enc Try.prog w 0 (fun _ => true) true 22 v1 d1 p1) :
    Calls Try.prog 4 #[v0, v1] w fun e w' => e = .returned (.bool true) ∧ Bel w w' := by
  obtain ⟨n, rfl, _, _, hn⟩ := ChangeShapes.open_int Try.underlying3 k0 h0
  obtain ⟨A, c, OL, T, rfl, hA, hL, hO, hT, hro, hS⟩ := open_ops k1 h1
  exact tail_bel hro hS (tells_fn n A c OL hA hL hO T hT hro)
namespace shelfTells
open Go.ChangeShapes Go.WideShapes Go.ChangeAt Go.RowKit
theorem own : ownKnob Try.prog.godebug = none := by kernel_rfl
theorem laidOut : laidOutB Try.prog = true := by kernel_rfl
set_option maxRecDepth 100000 in
theorem lifted (os : Os) (started : os.Started) (H : Type) (enc : TypeId × Value → H) :
    ReturnsInHanded {} Try.checked os 4 .any (Rows.shelfTellsSpec.pre6 enc Try.prog Try.f4 Rows.shelfTellsRow.domain false) (Rows.shelfTellsSpec.post enc Try.prog Try.f4 false true false false) := by
  refine returnsInHanded_of_change (C := Try.checked) own started (by kernel_rfl) Try.func4
    (ChangeSpec.witness6 (enc := enc) (C := Try.checked) false ⟨#[], #[.int .i64 0, .slice none 0 0], []⟩ 8 (by kernel_rfl) (by kernel_rfl) (by kernel_rfl) (by kernel_rfl)) ?_
  intro W base args ds gs before hval0 hW hcnd _
  have hval : ∀ (j : Nat) t v, Try.f4.params[j]? = some t → args[j]? = some v → Value.okWide Try.prog W .any base t v := hval0
  have hW' := hW
  obtain ⟨p, q, hA0, hV, rfl, hfz, hnd⟩ := hW
  have hA : DataW.TrodAll enc Try.prog W 0 (fun _ => true) true Try.f4.params.toList args.toList ds p := hA0
  rw [Try.params4] at hA hval
  obtain ⟨v0, vs0, d0, ds0, p0, q0, hargs, rfl, rfl, h0, r0⟩ := trodAll_cons hA
  obtain ⟨v1, vs1, d1, ds1, p1, q1, rfl, rfl, rfl, h1, r1⟩ := trodAll_cons r0
  obtain ⟨rfl, rfl, rfl⟩ := trodAll_nil r1
  obtain rfl : args = #[v0, v1] := by cases args; simp_all
  obtain ⟨rfl, rfl⟩ := trodVars_none hV
  have lt0 : ∀ x ∈ p0, x.block < W.heap.size := by obtain ⟨m, hm⟩ := h0; exact DataW.trod_lt m _ _ _ hm
  have lt1 : ∀ x ∈ p1, x.block < W.heap.size := by obtain ⟨m, hm⟩ := h1; exact DataW.trod_lt m _ _ _ hm
  refine (ShelfTells_read W (hval 0 3 v0 rfl rfl) h0 (hval 1 22 v1 rfl rfl) h1).mono fun e W' ⟨he, bel0⟩ => ?_
  have bel : Below W.heap.size W W' := bel0
  subst he
  exact ⟨_, rfl, _, _, _, [], _, [], hW', trodAll_mk1 (shut_bool Try.underlying4 _), (trodAll_cons_mk (Below.trod laidOut (by kernel_rfl) (of_decide_eq_true (by kernel_rfl)) h0 bel lt0) (trodAll_cons_mk (Below.trod laidOut (by kernel_rfl) (of_decide_eq_true (by kernel_rfl)) h1 bel lt1) trodAll_mk0)), rfl, bel.frame _, fun h => by cases h⟩
theorem over : Rows.shelfTellsRow.holds Try.pinned (OpenSpec.ofChange Rows.shelfTellsSpec) :=
  OpenClaim.holds_of_wide 4 Try.f4 rfl rfl rfl rfl rfl rfl rfl ⟨rfl, rfl, rfl, rfl, rfl⟩ rfl rfl rfl rfl rfl (by kernel_rfl) Try.func4 (by kernel_rfl)
    (of_decide_eq_true (by kernel_rfl)) (by unfold Func.isWrapper; first | (rw [if_pos (by decide +kernel)]; kernel_rfl) | (rw [if_neg (by decide +kernel)]; exact ⟨rfl, rfl⟩))
    (fun os started H enc _ => lifted os started H enc)
theorem proved : Rows.ShelfTellsSaid := over
#print axioms proved
end shelfTells
end Go.Proofs.Ytjelakmndcecoaa
