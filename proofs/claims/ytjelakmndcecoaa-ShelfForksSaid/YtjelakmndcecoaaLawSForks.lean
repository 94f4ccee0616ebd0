/- ShelfForks. No conditions. -/
import Derived.Test.YtjelakmndcecoaaSh12
namespace Go.Proofs.Ytjelakmndcecoaa
open Go.RowKit
set_option linter.unusedVariables false
set_option linter.unusedSimpArgs false
set_option maxRecDepth 100000
abbrev docE (g most : Nat) (A : Option Addr) (n c hi mi : Nat) : Ent := .own g 32 (rsV most A n c hi mi)
theorem forks_fn (n : Int) (A : Option Addr) (c : Nat) (OL : List Opn) (hA : ArgOk A OL.length) (hL : OL.length ≤ maxLen) (hO : ∀ x ∈ OL, x.d < 256) (T0 : Heap) (hT : 0 < OL.length → T0 = roE A (ocells OL)) (hro : Ro T0)
    (A' : Option Addr) (c' : Nat) (PL : List Opn) (hA' : ArgOk A' PL.length) (hPL : PL.length ≤ maxLen) (hP : ∀ x ∈ PL, x.d < 256) (U0 : Heap) (hU : 0 < PL.length → U0 = roE A' (ocells PL)) (hroU : Ro U0) :
    Fn Try.prog 5 [iq n, .slice A OL.length c, .slice A' PL.length c'] (T0 ++ U0) fun v _ => v = .bool true := by
  refine Fn.enter (N := 144) Try.func5 rfl (by kernel_rfl) rfl (fun w0 => ?_)

  refine awp_seq_region (fun Z hZ => ?_)
  refine sx_assign rfl rfl ?_
  refine sx_nil (hZ _ _ ?_)
  refine awp_forget [(0, _), (1, _), (2, _)] (Kn.cons rfl (Kn.cons rfl (Kn.cons rfl (Kn.nil)))) ?_
  refine awp_seq_region (fun Z hZ => ?_)
  refine sx_assign rfl rfl ?_
  refine sx_nil (hZ _ _ ?_)
  refine awp_forget [(0, _), (1, _), (2, _), (7, _)] (Kn.cons rfl (Kn.cons rfl (Kn.cons rfl (Kn.cons rfl (Kn.nil))))) ?_
  refine awp_seq_region (fun Z hZ => ?_)
  refine sx_move rfl rfl ?_
  refine sx_build tyZ47 tyP47 rfl rfl (by first | (simp only [List.take_succ_cons, List.take_zero, List.drop_succ_cons, List.drop_zero, List.cons_append, List.nil_append, List.append_nil, List.length_cons, List.length_nil, Nat.reduceAdd, Nat.zero_add, Nat.add_zero, Value.cells, wrV, zrep_one, List.replicate_succ, List.replicate_zero, Nat.reduceMul, Nat.zero_mul]; first | done | rfl) | rfl) rfl ?_
  refine sx_callPT [] (nlook_fn (0, 0)) rfl (List.nil_sublist _) Ro.nil rfl ?_
  refine sx_move rfl rfl ?_
  refine sx_extract rfl rfl rfl ?_
  refine sx_extract rfl rfl rfl ?_
  refine sx_assign rfl rfl ?_
  refine sx_assign rfl rfl ?_
  refine sx_nil (hZ _ _ ?_)
  refine awp_forget [(0, _), (1, _), (2, _), (7, _), (9, _)] (Kn.cons rfl (Kn.cons rfl (Kn.cons rfl (Kn.cons rfl (Kn.cons rfl (Kn.nil)))))) ?_
  refine awp_seq_region (fun Z hZ => ?_)
  refine sx_move rfl rfl ?_
  refine sx_build tyZ47 tyP47 rfl rfl (by first | (simp only [List.take_succ_cons, List.take_zero, List.drop_succ_cons, List.drop_zero, List.cons_append, List.nil_append, List.append_nil, List.length_cons, List.length_nil, Nat.reduceAdd, Nat.zero_add, Nat.add_zero, Value.cells, wrV, zrep_one, List.replicate_succ, List.replicate_zero, Nat.reduceMul, Nat.zero_mul]; first | done | rfl) | rfl) rfl ?_
  refine sx_callPT [] (nkeep_fn (0, 0) []) rfl (List.nil_sublist _) Ro.nil rfl ?_
  refine sx_move rfl rfl ?_
  refine sx_extract rfl rfl rfl ?_
  refine sx_extract rfl rfl rfl ?_
  refine sx_assign rfl rfl ?_
  refine sx_assign rfl rfl ?_
  refine sx_nil (hZ _ _ ?_)
  refine awp_forget [(0, _), (1, _), (2, _), (7, _), (9, _), (11, _)] (Kn.cons rfl (Kn.cons rfl (Kn.cons rfl (Kn.cons rfl (Kn.cons rfl (Kn.cons rfl (Kn.nil))))))) ?_
  refine awp_seq_region (fun Z hZ => ?_)
  refine sx_move rfl rfl ?_
  refine sx_callPT [] nclear_fn rfl (List.nil_sublist _) Ro.nil rfl ?_
  refine sx_nil (hZ _ _ ?_)
  refine awp_forget [(0, _), (1, _), (2, _), (7, _), (9, _), (11, _)] (Kn.cons rfl (Kn.cons rfl (Kn.cons rfl (Kn.cons rfl (Kn.cons rfl (Kn.cons rfl (Kn.nil))))))) ?_
  refine awp_seq ?_
  refine awp_seq_meet [(0, iq n), (1, .slice A OL.length c), (2, .slice A' PL.length c'), (58, .bool false)] (T0 ++ U0) (fun Z hZ => ?_) ?_
  · refine sx_move rfl rfl ?_
    refine sx_move rfl rfl ?_
    refine sx_force 36 rfl false (by first | rfl | (simp; done)) ?_
    refine sx_on rfl rfl rfl ?_
    refine sx_move rfl rfl ?_
    refine sx_on rfl rfl rfl ?_
    refine sx_neq rfl rfl rfl ?_
    refine sx_pick rfl rfl rfl ?_
    refine sx_move rfl rfl ?_
    refine sx_force 40 rfl false (by first | rfl | (simp; done)) ?_
    refine sx_on rfl rfl rfl ?_
    refine sx_move rfl rfl ?_
    refine sx_on rfl rfl rfl ?_
    refine sx_callPT [] nlen_fn rfl (List.nil_sublist _) Ro.nil rfl ?_
    refine sx_on rfl rfl rfl ?_
    refine sx_move rfl rfl ?_
    refine sx_on rfl rfl rfl ?_
    refine sx_callPT [] nmost_fn rfl (List.nil_sublist _) Ro.nil rfl ?_
    refine sx_on rfl rfl rfl ?_
    refine sx_add rfl rfl _ rfl rfl ?_
    refine sx_on rfl rfl rfl ?_
    refine sx_neq rfl rfl rfl ?_
    refine sx_pick rfl rfl rfl ?_
    refine sx_move rfl rfl ?_
    refine sx_force 48 rfl false (by first | rfl | (simp; done)) ?_
    refine sx_on rfl rfl rfl ?_
    refine sx_move rfl rfl ?_
    refine sx_on rfl rfl rfl ?_
    refine sx_callPT [] nfork_fn rfl (List.nil_sublist _) Ro.nil rfl ?_
    refine sx_on rfl rfl rfl ?_
    refine sx_nilNeNil Try.underlying23 rfl rfl ?_
    refine sx_pick rfl rfl rfl ?_
    refine sx_move rfl rfl ?_
    refine sx_force 53 rfl false (by first | rfl | (simp; done)) ?_
    refine sx_on rfl rfl rfl ?_
    refine sx_move rfl rfl ?_
    refine sx_on rfl rfl rfl ?_
    refine sx_callPT [] nkeys_fn rfl (List.nil_sublist _) Ro.nil rfl ?_
    refine sx_on rfl rfl rfl ?_
    refine sx_len Try.underlying42 rfl rfl ?_
    refine sx_on rfl rfl rfl ?_
    refine sx_neq rfl rfl rfl ?_
    refine sx_pick rfl rfl rfl ?_
    refine sx_nil (hZ _ _ ?_ ?_)
    · exact Kn.cons rfl (Kn.cons rfl (Kn.cons rfl (Kn.cons rfl Kn.nil)))
    · exact HLe.refl _
  refine awp_cond rfl (fun h => ?_) (fun h => ?_)
  · cases h
  refine awp_skip ?_
  with_reducible refine nx_normal ?_
  by_cases hn : 0 ≤ n ∧ n ≤ 64
  · obtain ⟨most, rfl⟩ : ∃ m : Nat, n = m := ⟨n.toNat, by omega⟩
    refine awp_seq_region (fun Z hZ => ?_)
    refine sx_move rfl rfl ?_
    refine sx_callA [] [] (T0 ++ U0) (shnew_fn most (by omega)) rfl (HLe.refl _) (List.nil_sublist _) Ro.nil rfl ?_
    rintro v H' ⟨B, rfl, rfl⟩
    refine sx_move rfl rfl ?_
    refine sx_extract rfl rfl rfl ?_
    refine sx_extract rfl rfl rfl ?_
    refine sx_assign rfl rfl ?_
    refine sx_assign rfl rfl ?_
    refine sx_nil (hZ _ _ ?_)
    refine awp_forget [(0, _), (1, _), (2, _), (12, _), (13, _)] (Kn.cons rfl (Kn.cons rfl (Kn.cons rfl (Kn.cons rfl (Kn.cons rfl (Kn.nil)))))) ?_
    refine awp_heap (shH B most sh0 ++ (T0 ++ U0)) (HLe.refl _) ?_

    refine awp_seq ?_
    refine awp_seq_meet [(0, iq most), (1, .slice A OL.length c), (2, .slice A' PL.length c'), (12, ptr B.g 0), (77, .bool (overV OL 30 || overV PL 30))] (shH B most sh0 ++ (T0 ++ U0)) (fun Z hZ => ?_) ?_
    · refine sx_move rfl rfl ?_
      refine sx_neq rfl rfl rfl ?_
      refine sx_move rfl rfl ?_
      refine sx_split 66 rfl (fun hb2 => ?_) (fun hb2 => ?_)
      · refine sx_off rfl rfl rfl rfl rfl ?_
        refine sx_off rfl rfl rfl rfl rfl ?_
        refine sx_pick rfl rfl rfl ?_
        refine sx_move rfl rfl ?_
        refine sx_off rfl rfl rfl rfl rfl ?_
        refine sx_off rfl rfl rfl rfl rfl ?_
        refine sx_pick rfl rfl rfl ?_
        refine sx_move rfl rfl ?_
        refine sx_off rfl rfl rfl rfl rfl ?_
        refine sx_off rfl rfl rfl rfl rfl ?_
        refine sx_pick rfl rfl rfl ?_
        refine sx_nil (hZ _ _ ?_ ?_)
        · exact Kn.cons rfl (Kn.cons rfl (Kn.cons rfl (Kn.cons rfl (Kn.cons (congrArg some (congrArg Value.bool (by first | (exfalso; simp at hb2; done) | simp_all))) Kn.nil))))
        · exact HLe.refl _
      · refine sx_on rfl rfl rfl ?_
        refine sx_move rfl rfl ?_
        refine sx_on rfl rfl rfl ?_
        refine sx_ptrNil Try.underlying23 rfl rfl ?_
        refine sx_pick rfl rfl rfl ?_
        refine sx_move rfl rfl ?_
        refine sx_split 70 rfl (fun hb6 => ?_) (fun hb6 => ?_)
        · refine sx_off rfl rfl rfl rfl rfl ?_
          refine sx_off rfl rfl rfl rfl rfl ?_
          refine sx_pick rfl rfl rfl ?_
          refine sx_move rfl rfl ?_
          refine sx_off rfl rfl rfl rfl rfl ?_
          refine sx_off rfl rfl rfl rfl rfl ?_
          refine sx_pick rfl rfl rfl ?_
          refine sx_nil (hZ _ _ ?_ ?_)
          · exact Kn.cons rfl (Kn.cons rfl (Kn.cons rfl (Kn.cons rfl (Kn.cons (congrArg some (congrArg Value.bool (by first | (exfalso; simp at hb2; done) | simp_all))) Kn.nil))))
          · exact HLe.refl _
        · refine sx_on rfl rfl rfl ?_
          refine sx_move rfl rfl ?_
          refine sx_on rfl rfl rfl ?_
          refine sx_callPT T0 (over_fn A c OL 30 hA hL T0 hT) rfl ((List.sublist_append_left T0 U0).trans (List.sublist_append_right [_, _, _, _] _)) hro rfl ?_
          refine sx_pick rfl rfl rfl ?_
          refine sx_move rfl rfl ?_
          refine sx_split 74 rfl (fun hb10 => ?_) (fun hb10 => ?_)
          · refine sx_off rfl rfl rfl rfl rfl ?_
            refine sx_off rfl rfl rfl rfl rfl ?_
            refine sx_pick rfl rfl rfl ?_
            refine sx_nil (hZ _ _ ?_ ?_)
            · exact Kn.cons rfl (Kn.cons rfl (Kn.cons rfl (Kn.cons rfl (Kn.cons (congrArg some (congrArg Value.bool (by first | (exfalso; simp at hb2; done) | simp_all))) Kn.nil))))
            · exact HLe.refl _
          · refine sx_on rfl rfl rfl ?_
            refine sx_move rfl rfl ?_
            refine sx_on rfl rfl rfl ?_
            refine sx_callPT U0 (over_fn A' c' PL 30 hA' hPL U0 hU) rfl ((List.sublist_append_right T0 U0).trans (List.sublist_append_right [_, _, _, _] _)) hroU rfl ?_
            refine sx_pick rfl rfl rfl ?_
            refine sx_nil (hZ _ _ ?_ ?_)
            · exact Kn.cons rfl (Kn.cons rfl (Kn.cons rfl (Kn.cons rfl (Kn.cons (congrArg some (congrArg Value.bool (by first | (exfalso; simp at hb2; done) | simp_all))) Kn.nil))))
            · exact HLe.refl _
    refine awp_cond rfl (fun h => ?_) (fun h => ?_)
    · refine awp_seq_meet [(6, .bool true)] [] (fun Z hZ => ?_) ?_
      · refine sx_move rfl rfl ?_
        refine sx_ptrNeNil Try.underlying23 rfl rfl ?_
        refine sx_move rfl rfl ?_
        refine sx_split 80 rfl (fun hb2 => ?_) (fun hb2 => ?_)
        · refine sx_off rfl rfl rfl rfl rfl ?_
          refine sx_off rfl rfl rfl rfl rfl ?_
          refine sx_pick rfl rfl rfl ?_
          refine sx_move rfl rfl ?_
          refine sx_off rfl rfl rfl rfl rfl ?_
          refine sx_off rfl rfl rfl rfl rfl ?_
          refine sx_pick rfl rfl rfl ?_
          refine sx_move rfl rfl ?_
          refine sx_on rfl rfl rfl ?_
          refine sx_callP awake_fn rfl rfl ?_
          refine sx_pick rfl rfl rfl ?_
          refine sx_assign rfl rfl ?_
          refine sx_nil (hZ _ _ ?_ ?_)
          · exact Kn.cons (congrArg some (congrArg Value.bool (by first | rfl | (exfalso; simp at hb2; done) | (exfalso; cases hb2)))) Kn.nil
          · exact HLe.sub (List.nil_sublist _)
        · refine sx_on rfl rfl rfl ?_
          refine sx_move rfl rfl ?_
          refine sx_on rfl rfl rfl ?_
          refine sx_lss rfl rfl rfl ?_
          refine sx_pick rfl rfl rfl ?_
          refine sx_move rfl rfl ?_
          refine sx_split 84 rfl (fun hb6 => ?_) (fun hb6 => ?_)
          · refine sx_off rfl rfl rfl rfl rfl ?_
            refine sx_off rfl rfl rfl rfl rfl ?_
            refine sx_pick rfl rfl rfl ?_
            refine sx_move rfl rfl ?_
            refine sx_on rfl rfl rfl ?_
            refine sx_callP awake_fn rfl rfl ?_
            refine sx_pick rfl rfl rfl ?_
            refine sx_assign rfl rfl ?_
            refine sx_nil (hZ _ _ ?_ ?_)
            · exact Kn.cons (congrArg some (congrArg Value.bool (by first | rfl | (exfalso; simp at hb2; done) | (exfalso; cases hb2)))) Kn.nil
            · exact HLe.sub (List.nil_sublist _)
          · refine sx_on rfl rfl rfl ?_
            refine sx_move rfl rfl ?_
            refine sx_on rfl rfl rfl ?_
            refine sx_gtr rfl rfl rfl ?_
            refine sx_pick rfl rfl rfl ?_
            refine sx_move rfl rfl ?_
            refine sx_split 88 rfl (fun hb10 => ?_) (fun hb10 => ?_)
            · refine sx_on rfl rfl rfl ?_
              refine sx_callP awake_fn rfl rfl ?_
              refine sx_pick rfl rfl rfl ?_
              refine sx_assign rfl rfl ?_
              refine sx_nil (hZ _ _ ?_ ?_)
              · exact Kn.cons (congrArg some (congrArg Value.bool (by first | rfl | (exfalso; simp at hb2; done) | (exfalso; cases hb2)))) Kn.nil
              · exact HLe.sub (List.nil_sublist _)
            · refine sx_off rfl rfl rfl rfl rfl ?_
              refine sx_pick rfl rfl rfl ?_
              refine sx_assign rfl rfl ?_
              refine sx_nil (hZ _ _ ?_ ?_)
              · exact Kn.cons (congrArg some (congrArg Value.bool (by first | rfl | (exfalso; simp at hb2; done) | (exfalso; cases hb2)))) Kn.nil
              · exact HLe.sub (List.nil_sublist _)
      refine awp_ret ?_
      repeat (with_reducible refine nx_then_ret ?_)
      exact nx_ret1 rfl rfl rfl
    refine awp_skip ?_
    with_reducible refine nx_normal ?_
    simp only [Bool.or_eq_false_iff] at h
    obtain ⟨hov, hsh⟩ := over_short h.1
    obtain ⟨hov2, hsh2⟩ := over_short h.2
    refine awp_seq_region (fun Z hZ => ?_)
    refine sx_move rfl rfl ?_
    refine sx_build tyZ32 tyP32 rfl rfl (by first | (simp only [List.take_succ_cons, List.take_zero, List.drop_succ_cons, List.drop_zero, List.cons_append, List.nil_append, List.append_nil, List.length_cons, List.length_nil, Nat.reduceAdd, Nat.zero_add, Nat.add_zero, Value.cells, wrV, zrep_one, List.replicate_succ, List.replicate_zero, Nat.reduceMul, Nat.zero_mul]; first | done | rfl) | rfl) rfl ?_
    refine sx_alloc tyZ32 rfl (fun g1 => ?_)
    refine sx_store 0 rfl rfl rfl tyS32 (by first | (simp only [Value.cells]; first | done | rfl) | rfl) rfl rfl (by first | (simp only [List.length_cons, List.length_nil, Nat.reduceAdd, Nat.zero_add, Nat.add_zero]; first | done | rfl) | rfl) (by first | (simp only [List.take_succ_cons, List.take_zero, List.drop_succ_cons, List.drop_zero, List.cons_append, List.nil_append, List.append_nil, List.length_cons, List.length_nil, Nat.reduceAdd, Nat.zero_add, Nat.add_zero, Value.cells, wrV]; first | done | rfl) | rfl) (by first | (simp only [List.set_cons_succ, List.set_cons_zero]; first | done | rfl) | rfl) ?_
    refine sx_nil (hZ _ _ ?_)
    refine awp_forget [(1, _), (2, _), (12, _), (14, _)] (Kn.cons rfl (Kn.cons rfl (Kn.cons rfl (Kn.cons rfl (Kn.nil))))) ?_
    refine awp_heap (shH B most sh0 ++ ([docE g1 most none 0 0 0 0] ++ (T0 ++ (U0 ++ [])))) (by rw [List.append_nil]; exact HLe.mv (shH B most sh0) [docE g1 most none 0 0 0 0] _) ?_

    refine awp_seq ?_
    refine awp_seq_region (fun Z hZ => ?_)
    refine sx_assign rfl rfl ?_
    refine sx_nil (hZ _ _ ?_)
    refine awp_forget [(1, _), (2, _), (12, _), (14, _), (15, _)] (Kn.cons rfl (Kn.cons rfl (Kn.cons rfl (Kn.cons rfl (Kn.cons rfl (Kn.nil)))))) ?_
    refine awp_block ?_
    refine awp_loop (ι := Nat × Option Addr × Nat × Sh × List Item × Heap) (fun i => [(1, .slice A OL.length c), (2, .slice A' PL.length c'), (12, ptr B.g 0), (14, ptr g1 0), (15, iq (i.1 : Nat))]) (fun i => shH B most i.2.2.2.1 ++ ([docE g1 most i.2.1 i.2.2.2.2.1.length i.2.2.1 i.2.2.2.1.hi i.2.2.2.1.mi] ++ (T0 ++ (U0 ++ i.2.2.2.2.2))))
      (fun i => i.1 ≤ OL.length ∧ SlOk i.2.1 i.2.2.2.2.1.length ∧ ShIs most i.2.2.2.1 i.2.2.2.2.1 i.2.2.2.2.2 ∧ Ro i.2.2.2.2.2 ∧ (roE i.2.1 (tcells i.2.2.2.2.1)).Sublist i.2.2.2.2.2 ∧ ShortX i.2.2.2.2.1 ∧ i.2.2.2.1.nx ≤ i.1 ∧ i.2.2.2.1.hi ≤ i.1 ∧ i.2.2.2.1.mi ≤ i.1) (fun i => OL.length - i.1) (0, none, 0, sh0, [], []) ⟨by simp, .inl ⟨rfl, rfl⟩, sh0_ok most, Ro.nil, List.Sublist.refl _, ShortX.nil, Nat.le_refl _, Nat.le_refl _, Nat.le_refl _⟩ (Kn.cons rfl (Kn.cons rfl (Kn.cons rfl (Kn.cons rfl (Kn.cons rfl Kn.nil))))) (HLe.refl _) ?_
    rintro ⟨i, A1, c1, S, X, T⟩ ⟨hi, hA1, hS, hTro, hAT, hSX, hb1, hb2, hb3⟩
    simp only at hi hA1 hS hTro hAT hSX hb1 hb2 hb3

    refine awp_seq ?_
    refine awp_seq_region (fun Z hZ => ?_)
    refine sx_move rfl rfl ?_
    refine sx_move rfl rfl ?_
    refine sx_len Try.underlying22 rfl rfl ?_
    refine sx_lss rfl rfl rfl ?_
    refine sx_nil (hZ _ _ ?_)
    refine awp_forget [(1, _), (2, _), (12, _), (14, _), (15, _), (96, _)] (Kn.cons rfl (Kn.cons rfl (Kn.cons rfl (Kn.cons rfl (Kn.cons rfl (Kn.cons rfl (Kn.nil))))))) ?_
    refine awp_cond rfl (fun h => ?_) (fun h => ?_)
    · have hlt : i < OL.length := by simpa using h
      obtain ⟨x, hx⟩ : ∃ x, OL[i]? = some x := ⟨_, List.getElem?_eq_getElem hlt⟩
      have hxm := List.mem_of_getElem? hx
      have hxd := hO x hxm
      have hxv := hsh x hxm
      obtain ⟨ga, o, rfl⟩ := hA (by omega)
      obtain rfl := hT (by omega)
      have hstep := step_fn B most S X T A1 c1 x.d x.k x.v hTro hS hA1 hAT (by omega) hxd hxv (by omega) hSX.val
      have hSX2 := hSX.step most x.d x.k hxv
      generalize stepX most x.d X x.k x.v = X2 at hstep hSX2
      refine awp_skip ?_
      with_reducible refine nx_normal ?_
      refine awp_seq (awp_block ?_)

      refine awp_heap (_ :: _ :: _ :: _ :: docE g1 most A1 X.length c1 S.hi S.mi :: .ro ga o (ocells OL) :: (U0 ++ T)) (HLe.refl _) ?_
      refine awr_region (fun j : Sh × Option Addr × Nat × Heap × Heap => [(1, .slice (some ⟨ga, o, none⟩) OL.length c), (2, .slice A' PL.length c'), (12, ptr B.g 0), (14, ptr g1 0), (15, iq (i : Nat))]) (fun j => shH B most j.1 ++ ([docE g1 most j.2.1 X2.length j.2.2.1 j.1.hi j.1.mi] ++ (roE (some ⟨ga, o, none⟩) (ocells OL) ++ (U0 ++ (j.2.2.2.2 ++ T))))) (fun j => StepT most S j.1 j.2.1 X2 j.2.2.2.1 j.2.2.2.2 T) _ [1, 6, 10] (Tr.step (0, true) (Tr.step (2, true) (Tr.step (3, true) (Tr.step (4, true) (Tr.step (5, true) (Tr.step (1, false) (Tr.step (6, false) (Tr.step (7, true) (Tr.step (8, true) (Tr.step (9, true) (Tr.step (10, false) Tr.nil))))))))))) mixed (by kernel_rfl) (HLe.pick [5] (by simp) (by simp only [pick, List.filterMap_cons, List.filterMap_nil, List.getElem?_cons_succ, List.getElem?_cons_zero]; rfl)) ?_ ?_
      · refine tt_p rfl ?_
        refine sv_move rfl rfl ?_
        refine sv_nil ?_
        refine tt_p rfl ?_
        refine sv_move rfl rfl ?_
        refine sv_nil ?_
        refine tt_p rfl ?_
        refine sv_move rfl rfl ?_
        refine sv_nil ?_
        refine tt_p rfl ?_
        refine sv_indexAddr (o + i * 4) Try.underlying22 tyS39 rfl rfl (by omega) (by simp) rfl ?_
        refine sv_nil ?_
        refine tt_p rfl ?_
        refine sv_loadRo 0 rfl rfl (i * 4) rfl tyA39 tyS39 (ocells_all hx) rfl ?_
        refine sv_nil ?_
        refine tt_g rfl ?_
        refine sx_loadA 4 rfl rfl tyA32 tyS32 (by first | (simp only [List.length_cons, List.length_nil, Nat.reduceAdd, Nat.zero_add, Nat.add_zero]; first | done | rfl) | rfl) (by first | (simp only [List.take_succ_cons, List.take_zero, List.drop_succ_cons, List.drop_zero, List.cons_append, List.nil_append, List.append_nil, List.length_cons, List.length_nil, Nat.reduceAdd, Nat.zero_add, Nat.add_zero, Value.cells, wrV]; first | done | rfl) | rfl) rfl ?_
        refine sx_nil ⟨HLe.pick [5] (by simp) rfl, ?_⟩
        refine tt_g rfl ?_
        refine sx_callA (shH B most S) T ([docE g1 most A1 X.length c1 S.hi S.mi] ++ (roE (some ⟨ga, o, none⟩) (ocells OL) ++ (U0 ++ T))) hstep rfl (HLe.refl _) (((List.sublist_append_right _ T).trans (List.sublist_append_right _ _)).trans (List.sublist_append_right [_] _)) hTro rfl ?_
        rintro v H' ⟨S2, A2, c2, W, T1, rfl, rfl, hST⟩
        refine sx_heap (shH B most S2 ++ ([docE g1 most A1 X.length c1 S.hi S.mi] ++ (roE (some ⟨ga, o, none⟩) (ocells OL) ++ (U0 ++ (T1 ++ T))))) (after_step3 hST _ _ U0) ?_
        refine sx_nil ⟨HLe.pick [5] (by simp) rfl, ?_⟩
        refine tt_p rfl ?_
        refine sv_move rfl rfl ?_
        refine sv_nil ?_
        refine tt_p rfl ?_
        refine sv_extract rfl rfl rfl ?_
        refine sv_nil ?_
        refine tt_p rfl ?_
        refine sv_extract rfl rfl rfl ?_
        refine sv_nil ?_
        refine tt_g rfl ?_
        refine sx_store 4 rfl rfl rfl tyS32 (by first | (simp only [Value.cells]; first | done | rfl) | rfl) rfl rfl (by first | (simp only [List.length_cons, List.length_nil, Nat.reduceAdd, Nat.zero_add, Nat.add_zero]; first | done | rfl) | rfl) (by first | (simp only [List.take_succ_cons, List.take_zero, List.drop_succ_cons, List.drop_zero, List.cons_append, List.nil_append, List.append_nil, List.length_cons, List.length_nil, Nat.reduceAdd, Nat.zero_add, Nat.add_zero, Value.cells, wrV]; first | done | rfl) | rfl) (by first | (simp only [List.set_cons_succ, List.set_cons_zero]; first | done | rfl) | rfl) ?_
        refine sx_nil ⟨HLe.pick [5] (by simp) rfl, ?_⟩
        refine tt_nil ?_
        exact ⟨(S2, A2, c2, W, T1), hST, Kn.cons rfl (Kn.cons rfl (Kn.cons rfl (Kn.cons rfl (Kn.cons rfl Kn.nil)))), HLe.refl _⟩
      rintro ⟨S2, A2, c2, W, T1⟩ hST
      simp only at hST
      repeat (with_reducible refine nx_block_normal ?_)
      with_reducible refine nx_normal ?_

      refine awp_region (fun Z hZ => ?_)
      refine sx_move rfl rfl ?_
      refine sx_add rfl rfl ((i + 1 : Nat) : Int) (by rw [IntWalk.i64_in _ (by omega)]; omega) rfl ?_
      refine sx_assign rfl rfl ?_
      refine sx_nil (hZ _ _ ?_)
      refine nx_forget [(1, _), (2, _), (12, _), (14, _), (15, _)] (Kn.cons rfl (Kn.cons rfl (Kn.cons rfl (Kn.cons rfl (Kn.cons rfl (Kn.nil)))))) ?_
      exact nx_round (i + 1, A2, c2, S2, X2, T1 ++ T) ⟨by omega, hST.ok, hST.is, hST.turn.1.append hTro, hST.sub, hSX2, by have := hST.nx; show S2.nx ≤ i + 1; omega, by have := hST.hi; show S2.hi ≤ i + 1; omega, by have := hST.mi; show S2.mi ≤ i + 1; omega⟩ (by simp; omega) (Kn.cons rfl (Kn.cons rfl (Kn.cons rfl (Kn.cons rfl (Kn.cons rfl Kn.nil))))) (HLe.refl _)
    · refine awp_exit ?_
      repeat (with_reducible refine nx_then_exit ?_)
      with_reducible refine nx_block_exit ?_
      with_reducible refine nx_normal ?_

      refine awp_seq_region (fun Z hZ => ?_)
      refine sx_move rfl rfl ?_
      refine sx_callA (shH B most S) T ([docE g1 most A1 X.length c1 S.hi S.mi] ++ (T0 ++ (U0 ++ T))) (shfork_fn B most S X T hTro hS) rfl (HLe.refl _) (((List.sublist_append_right _ T).trans (List.sublist_append_right _ _)).trans (List.sublist_append_right [_] _)) hTro rfl ?_
      rintro v H' ⟨B2, S2, W, T1, rfl, rfl, hW, hTu, hS2, hn2, hh2, hm2⟩
      rw [(Wrs.append (shH_wrs B2 most S2) (Wrs.append hW (shH_wrs B most S))).filter]
      refine sx_heap (shH B2 most S2 ++ (U0 ++ ((shH B most S ++ [docE g1 most A1 X.length c1 S.hi S.mi]) ++ (T1 ++ T)))) (fork_le hTu _ _ _ _ _ _) ?_
      refine sx_assign rfl rfl ?_
      refine sx_nil (hZ _ _ ?_)
      refine awp_forget [(2, _), (12, _), (14, _), (16, _)] (Kn.cons rfl (Kn.cons rfl (Kn.cons rfl (Kn.cons rfl (Kn.nil))))) ?_

      refine awp_seq ?_
      refine awp_seq_region (fun Z hZ => ?_)
      refine sx_move rfl rfl ?_
      refine sx_ptrNil Try.underlying23 rfl rfl ?_
      refine sx_nil (hZ _ _ ?_)
      refine awp_forget [(2, _), (12, _), (14, _), (16, _), (112, _)] (Kn.cons rfl (Kn.cons rfl (Kn.cons rfl (Kn.cons rfl (Kn.cons rfl (Kn.nil)))))) ?_
      refine awp_cond rfl (fun hf => ?_) (fun hf => ?_)
      · cases hf
      refine awp_skip ?_
      with_reducible refine nx_normal ?_
      refine awp_heap ([docE g1 most A1 X.length c1 S.hi S.mi] ++ ((shH B2 most S2 ++ (U0 ++ (shH B most S ++ (T1 ++ T)))))) (fork_le2 _ _ _ _ _) ?_

      refine awp_seq_region (fun Z hZ => ?_)
      first | refine sx_loadA 0 rfl rfl tyA32 tyS32 (by first | (simp only [List.length_cons, List.length_nil, Nat.reduceAdd, Nat.zero_add, Nat.add_zero]; first | done | rfl) | rfl) (by first | (simp only [List.take_succ_cons, List.take_zero, List.drop_succ_cons, List.drop_zero, List.cons_append, List.nil_append, List.append_nil, List.length_cons, List.length_nil, Nat.reduceAdd, Nat.zero_add, Nat.add_zero, Value.cells, wrV]; first | done | rfl) | rfl) rfl ?_
      refine sx_alloc tyZ32 rfl (fun g2 => ?_)
      refine sx_store 0 rfl rfl rfl tyS32 (by first | (simp only [Value.cells]; first | done | rfl) | rfl) rfl rfl (by first | (simp only [List.length_cons, List.length_nil, Nat.reduceAdd, Nat.zero_add, Nat.add_zero]; first | done | rfl) | rfl) (by first | (simp only [List.take_succ_cons, List.take_zero, List.drop_succ_cons, List.drop_zero, List.cons_append, List.nil_append, List.append_nil, List.length_cons, List.length_nil, Nat.reduceAdd, Nat.zero_add, Nat.add_zero, Value.cells, wrV]; first | done | rfl) | rfl) (by first | (simp only [List.set_cons_succ, List.set_cons_zero]; first | done | rfl) | rfl) ?_
      refine sx_nil (hZ _ _ ?_)
      refine awp_forget [(2, _), (12, _), (14, _), (16, _), (17, _)] (Kn.cons rfl (Kn.cons rfl (Kn.cons rfl (Kn.cons rfl (Kn.cons rfl (Kn.nil)))))) ?_
      refine awp_heap (shH B2 most S2 ++ ([docE g2 most A1 X.length c1 S.hi S.mi] ++ (U0 ++ ((shH B most S ++ [docE g1 most A1 X.length c1 S.hi S.mi]) ++ (T1 ++ T))))) (fork_le3 [_] [docE g1 most A1 X.length c1 S.hi S.mi] _ _ _ _) ?_

      refine awp_seq ?_
      refine awp_seq_region (fun Z hZ => ?_)
      refine sx_assign rfl rfl ?_
      refine sx_nil (hZ _ _ ?_)
      refine awp_forget [(2, _), (12, _), (14, _), (16, _), (17, _), (18, _)] (Kn.cons rfl (Kn.cons rfl (Kn.cons rfl (Kn.cons rfl (Kn.cons rfl (Kn.cons rfl (Kn.nil))))))) ?_
      refine awp_block ?_
      refine awp_loop (ι := Nat × Option Addr × Nat × Sh × List Item × Heap) (fun i => [(2, .slice A' PL.length c'), (12, ptr B.g 0), (14, ptr g1 0), (16, ptr B2.g 0), (17, ptr g2 0), (18, iq (i.1 : Nat))]) (fun i => shH B2 most i.2.2.2.1 ++ ([docE g2 most i.2.1 i.2.2.2.2.1.length i.2.2.1 i.2.2.2.1.hi i.2.2.2.1.mi] ++ (U0 ++ ((shH B most S ++ [docE g1 most A1 X.length c1 S.hi S.mi]) ++ i.2.2.2.2.2))))
        (fun i => i.1 ≤ PL.length ∧ SlOk i.2.1 i.2.2.2.2.1.length ∧ ShIs most i.2.2.2.1 i.2.2.2.2.1 i.2.2.2.2.2 ∧ Ro i.2.2.2.2.2 ∧ (roE i.2.1 (tcells i.2.2.2.2.1)).Sublist i.2.2.2.2.2 ∧ ShortX i.2.2.2.2.1 ∧ (i.2.2.2.1.nx ≤ 30 + i.1 ∧ i.2.2.2.1.hi ≤ 30 + i.1 ∧ i.2.2.2.1.mi ≤ 30 + i.1) ∧ (roE A1 (tcells X)).Sublist i.2.2.2.2.2) (fun i => PL.length - i.1) (0, A1, c1, S2, X, T1 ++ T)
        ⟨Nat.zero_le _, hA1, hS2.more (fun r hr => ⟨hr.1, hr.2.trans (List.sublist_append_left T1 T)⟩), hTu.1.append hTro, hAT.trans (List.sublist_append_right T1 T), hSX, by show S2.nx ≤ 30 + 0 ∧ S2.hi ≤ 30 + 0 ∧ S2.mi ≤ 30 + 0; omega, hAT.trans (List.sublist_append_right T1 T)⟩ (Kn.cons rfl (Kn.cons rfl (Kn.cons rfl (Kn.cons rfl (Kn.cons rfl (Kn.cons rfl Kn.nil)))))) (by simp only [hh2, hm2]; exact HLe.refl _) ?_
      rintro ⟨j, A3, c3, V, Y, T3⟩ ⟨hj, hA3, hV, hTro3, hAT3, hSY, ⟨hb4, hb5, hb6⟩, hAX⟩
      simp only at hj hA3 hV hTro3 hAT3 hSY hb4 hb5 hb6 hAX

      refine awp_seq ?_
      refine awp_seq_region (fun Z hZ => ?_)
      refine sx_move rfl rfl ?_
      refine sx_move rfl rfl ?_
      refine sx_len Try.underlying22 rfl rfl ?_
      refine sx_lss rfl rfl rfl ?_
      refine sx_nil (hZ _ _ ?_)
      refine awp_forget [(2, _), (12, _), (14, _), (16, _), (17, _), (18, _), (117, _)] (Kn.cons rfl (Kn.cons rfl (Kn.cons rfl (Kn.cons rfl (Kn.cons rfl (Kn.cons rfl (Kn.cons rfl (Kn.nil)))))))) ?_
      refine awp_cond rfl (fun h => ?_) (fun h => ?_)
      · have hlt : j < PL.length := by simpa using h
        obtain ⟨x, hx⟩ : ∃ x, PL[j]? = some x := ⟨_, List.getElem?_eq_getElem hlt⟩
        have hxm := List.mem_of_getElem? hx
        have hxd := hP x hxm
        have hxv := hsh2 x hxm
        obtain ⟨gb, o, rfl⟩ := hA' (by omega)
        obtain rfl := hU (by omega)
        have hstep := step_fn B2 most V Y T3 A3 c3 x.d x.k x.v hTro3 hV hA3 hAT3 (by omega) hxd hxv (by omega) hSY.val
        have hSX4 := hSY.step most x.d x.k hxv
        generalize stepX most x.d Y x.k x.v = X4 at hstep hSX4
        refine awp_skip ?_
        with_reducible refine nx_normal ?_
        refine awp_seq (awp_block ?_)
        refine awp_heap (_ :: _ :: _ :: _ :: docE g2 most A3 Y.length c3 V.hi V.mi :: .ro gb o (ocells PL) :: ((shH B most S ++ [docE g1 most A1 X.length c1 S.hi S.mi]) ++ T3)) (HLe.refl _) ?_

        refine awr_seq_region (fun j9 : Sh × Option Addr × Nat × Heap × Heap × Nat => [(2, .slice (some ⟨gb, o, none⟩) PL.length c'), (12, ptr B.g 0), (14, ptr g1 0), (16, ptr B2.g 0), (17, ptr g2 0), (18, iq (j : Nat)), (19, ptr j9.2.2.2.2.2 0), (20, .bool true)]) (fun j9 => .own j9.2.2.2.2.2 32 (rsV most j9.2.1 X4.length j9.2.2.1 j9.1.hi j9.1.mi) :: (shH B2 most j9.1 ++ ([docE g2 most A3 Y.length c3 V.hi V.mi] ++ (roE (some ⟨gb, o, none⟩) (ocells PL) ++ ((shH B most S ++ [docE g1 most A1 X.length c1 S.hi S.mi]) ++ (j9.2.2.2.2.1 ++ T3)))))) (fun j9 => StepT most V j9.1 j9.2.1 X4 j9.2.2.2.1 j9.2.2.2.2.1 T3) _ [6, 10, 11] (Tr.step (0, true) (Tr.step (1, true) (Tr.step (2, true) (Tr.step (3, true) (Tr.step (4, true) (Tr.step (5, true) (Tr.fork (Tr.step (6, false) (Tr.step (7, true) (Tr.step (8, true) (Tr.step (9, true) (Tr.step (10, false) (Tr.step (11, false) (Tr.step (12, true) Tr.nil))))))) (Tr.step (10, false) (Tr.step (6, false) (Tr.step (7, true) (Tr.step (8, true) (Tr.step (9, true) (Tr.step (11, false) (Tr.step (12, true) Tr.nil)))))))))))))) mixed (by kernel_rfl) (HLe.pick [4, 5] (by simp) (by simp only [pick, List.filterMap_cons, List.filterMap_nil, List.getElem?_cons_succ, List.getElem?_cons_zero]; rfl)) ?_ ?_
        · refine tt_p rfl ?_
          refine sv_move rfl rfl ?_
          refine sv_nil ?_
          refine tt_p rfl ?_
          refine sv_loadA 0 rfl rfl tyA32 tyS32 (by first | (simp only [List.length_cons, List.length_nil, Nat.reduceAdd, Nat.zero_add, Nat.add_zero]; first | done | rfl) | rfl) (by first | (simp only [List.take_succ_cons, List.take_zero, List.drop_succ_cons, List.drop_zero, List.cons_append, List.nil_append, List.append_nil, List.length_cons, List.length_nil, Nat.reduceAdd, Nat.zero_add, Nat.add_zero, Value.cells, wrV]; first | done | rfl) | rfl) rfl ?_
          refine sv_nil ?_
          refine tt_p rfl ?_
          refine sv_move rfl rfl ?_
          refine sv_nil ?_
          refine tt_p rfl ?_
          refine sv_move rfl rfl ?_
          refine sv_nil ?_
          refine tt_p rfl ?_
          refine sv_indexAddr (o + j * 4) Try.underlying22 tyS39 rfl rfl (by omega) (by simp) rfl ?_
          refine sv_nil ?_
          refine tt_p rfl ?_
          refine sv_loadRo 1 rfl rfl (j * 4) rfl tyA39 tyS39 (ocells_all hx) rfl ?_
          refine sv_nil ?_
          refine tt_fork ?_ ?_
          · refine tt_g rfl ?_
            refine sx_callA (shH B2 most V) T3 ([docE g2 most A3 Y.length c3 V.hi V.mi] ++ (roE (some ⟨gb, o, none⟩) (ocells PL) ++ ((shH B most S ++ [docE g1 most A1 X.length c1 S.hi S.mi]) ++ T3))) hstep rfl (HLe.refl _) ((((List.sublist_append_right _ T3).trans (List.sublist_append_right _ _))).trans (List.sublist_append_right [_] _)) hTro3 rfl ?_
            rintro v H' ⟨S4, A4, c4, W4, T4, rfl, rfl, hST⟩
            refine sx_heap (shH B2 most S4 ++ ([docE g2 most A3 Y.length c3 V.hi V.mi] ++ (roE (some ⟨gb, o, none⟩) (ocells PL) ++ ((shH B most S ++ [docE g1 most A1 X.length c1 S.hi S.mi]) ++ (T4 ++ T3))))) (after_step3 hST _ _ _) ?_
            refine sx_nil ⟨HLe.pick [4, 5] (by simp) rfl, ?_⟩
            refine tt_p rfl ?_
            refine sv_move rfl rfl ?_
            refine sv_nil ?_
            refine tt_p rfl ?_
            refine sv_extract rfl rfl rfl ?_
            refine sv_nil ?_
            refine tt_p rfl ?_
            refine sv_extract rfl rfl rfl ?_
            refine sv_nil ?_
            refine tt_g rfl ?_
            refine sx_alloc tyZ32 rfl (fun g3 => ?_)
            refine sx_nil ⟨HLe.pick [5, 6] (by simp) rfl, ?_⟩
            refine tt_g rfl ?_
            refine sx_store 0 rfl rfl rfl tyS32 (by first | (simp only [Value.cells]; first | done | rfl) | rfl) rfl rfl (by first | (simp only [List.length_cons, List.length_nil, Nat.reduceAdd, Nat.zero_add, Nat.add_zero]; first | done | rfl) | rfl) (by first | (simp only [List.take_succ_cons, List.take_zero, List.drop_succ_cons, List.drop_zero, List.cons_append, List.nil_append, List.append_nil, List.length_cons, List.length_nil, Nat.reduceAdd, Nat.zero_add, Nat.add_zero, Value.cells, wrV]; first | done | rfl) | rfl) (by first | (simp only [List.set_cons_succ, List.set_cons_zero]; first | done | rfl) | rfl) ?_
            refine sx_nil ⟨HLe.pick [5, 6] (by simp) rfl, ?_⟩
            refine tt_p rfl ?_
            refine sv_assign rfl rfl ?_
            refine sv_nil ?_
            refine tt_nil ?_
            exact ⟨(S4, A4, c4, W4, T4, g3), hST, Kn.cons rfl (Kn.cons rfl (Kn.cons rfl (Kn.cons rfl (Kn.cons rfl (Kn.cons rfl (Kn.cons rfl (Kn.cons rfl Kn.nil))))))), HLe.refl _⟩
          · refine tt_g rfl ?_
            refine sx_alloc tyZ32 rfl (fun g3 => ?_)
            refine sx_nil ⟨HLe.pick [5, 6] (by simp) rfl, ?_⟩
            refine tt_g rfl ?_
            refine sx_callA (shH B2 most V) T3 ([.own g3 32 (rsV 0 none 0 0 0 0)] ++ ([docE g2 most A3 Y.length c3 V.hi V.mi] ++ (roE (some ⟨gb, o, none⟩) (ocells PL) ++ ((shH B most S ++ [docE g1 most A1 X.length c1 S.hi S.mi]) ++ T3)))) hstep rfl (HLe.mv (shH B2 most V) _ _) (((((List.sublist_append_right _ T3).trans (List.sublist_append_right _ _))).trans (List.sublist_append_right [_] _)).trans (List.sublist_append_right [_] _)) hTro3 rfl ?_
            rintro v H' ⟨S4, A4, c4, W4, T4, rfl, rfl, hST⟩
            refine sx_heap ([.own g3 32 (rsV 0 none 0 0 0 0)] ++ (shH B2 most S4 ++ ([docE g2 most A3 Y.length c3 V.hi V.mi] ++ (roE (some ⟨gb, o, none⟩) (ocells PL) ++ ((shH B most S ++ [docE g1 most A1 X.length c1 S.hi S.mi]) ++ (T4 ++ T3)))))) ((HLe.mv' _ _ _).trans (after_step4 hST _ _ _ _)) ?_
            refine sx_nil ⟨HLe.pick [5, 6] (by simp) rfl, ?_⟩
            refine tt_p rfl ?_
            refine sv_move rfl rfl ?_
            refine sv_nil ?_
            refine tt_p rfl ?_
            refine sv_extract rfl rfl rfl ?_
            refine sv_nil ?_
            refine tt_p rfl ?_
            refine sv_extract rfl rfl rfl ?_
            refine sv_nil ?_
            refine tt_g rfl ?_
            refine sx_store 0 rfl rfl rfl tyS32 (by first | (simp only [Value.cells]; first | done | rfl) | rfl) rfl rfl (by first | (simp only [List.length_cons, List.length_nil, Nat.reduceAdd, Nat.zero_add, Nat.add_zero]; first | done | rfl) | rfl) (by first | (simp only [List.take_succ_cons, List.take_zero, List.drop_succ_cons, List.drop_zero, List.cons_append, List.nil_append, List.append_nil, List.length_cons, List.length_nil, Nat.reduceAdd, Nat.zero_add, Nat.add_zero, Value.cells, wrV]; first | done | rfl) | rfl) (by first | (simp only [List.set_cons_succ, List.set_cons_zero]; first | done | rfl) | rfl) ?_
            refine sx_nil ⟨HLe.pick [5, 6] (by simp) rfl, ?_⟩
            refine tt_p rfl ?_
            refine sv_assign rfl rfl ?_
            refine sv_nil ?_
            refine tt_nil ?_
            exact ⟨(S4, A4, c4, W4, T4, g3), hST, Kn.cons rfl (Kn.cons rfl (Kn.cons rfl (Kn.cons rfl (Kn.cons rfl (Kn.cons rfl (Kn.cons rfl (Kn.cons rfl Kn.nil))))))), HLe.refl _⟩
        rintro ⟨S4, A4, c4, W4, T4, g3⟩ hST
        simp only at hST

        refine awp_seq_region (fun Z hZ => ?_)
        refine sx_loadA 0 rfl rfl tyA32 tyS32 (by first | (simp only [List.length_cons, List.length_nil, Nat.reduceAdd, Nat.zero_add, Nat.add_zero]; first | done | rfl) | rfl) (by first | (simp only [List.take_succ_cons, List.take_zero, List.drop_succ_cons, List.drop_zero, List.cons_append, List.nil_append, List.append_nil, List.length_cons, List.length_nil, Nat.reduceAdd, Nat.zero_add, Nat.add_zero, Value.cells, wrV]; first | done | rfl) | rfl) rfl ?_
        refine sx_store 5 rfl rfl rfl tyS32 (by first | (simp only [Value.cells]; first | done | rfl) | rfl) rfl rfl (by first | (simp only [List.length_cons, List.length_nil, Nat.reduceAdd, Nat.zero_add, Nat.add_zero]; first | done | rfl) | rfl) (by first | (simp only [List.take_succ_cons, List.take_zero, List.drop_succ_cons, List.drop_zero, List.cons_append, List.nil_append, List.append_nil, List.length_cons, List.length_nil, Nat.reduceAdd, Nat.zero_add, Nat.add_zero, Value.cells, wrV]; first | done | rfl) | rfl) (by first | (simp only [List.set_cons_succ, List.set_cons_zero]; first | done | rfl) | rfl) ?_
        refine sx_nil (hZ _ _ ?_)
        refine awp_forget [(2, _), (12, _), (14, _), (16, _), (17, _), (18, _), (20, _)] (Kn.cons rfl (Kn.cons rfl (Kn.cons rfl (Kn.cons rfl (Kn.cons rfl (Kn.cons rfl (Kn.cons rfl (Kn.nil)))))))) ?_
        refine awp_heap (shH B2 most S4 ++ ([docE g2 most A4 X4.length c4 S4.hi S4.mi] ++ (roE (some ⟨gb, o, none⟩) (ocells PL) ++ ((shH B most S ++ [docE g1 most A1 X.length c1 S.hi S.mi]) ++ (T4 ++ T3))))) (HLe.drop 1 rfl) ?_

        refine awp_seq_region (fun Z hZ => ?_)
        refine sx_move rfl rfl ?_
        refine sx_not rfl rfl ?_
        refine sx_nil (hZ _ _ ?_)
        refine awp_forget [(2, _), (12, _), (14, _), (16, _), (17, _), (18, _), (132, _)] (Kn.cons rfl (Kn.cons rfl (Kn.cons rfl (Kn.cons rfl (Kn.cons rfl (Kn.cons rfl (Kn.cons rfl (Kn.nil)))))))) ?_
        refine awp_cond rfl (fun hf => ?_) (fun hf => ?_)
        · cases hf
        refine awp_skip ?_
        repeat (with_reducible refine nx_block_normal ?_)
        with_reducible refine nx_normal ?_
        refine awp_region (fun Z hZ => ?_)
        refine sx_move rfl rfl ?_
        refine sx_add rfl rfl ((j + 1 : Nat) : Int) (by rw [IntWalk.i64_in _ (by omega)]; omega) rfl ?_
        refine sx_assign rfl rfl ?_
        refine sx_nil (hZ _ _ ?_)
        refine nx_forget [(2, _), (12, _), (14, _), (16, _), (17, _), (18, _)] (Kn.cons rfl (Kn.cons rfl (Kn.cons rfl (Kn.cons rfl (Kn.cons rfl (Kn.cons rfl (Kn.nil))))))) ?_
        exact nx_round (j + 1, A4, c4, S4, X4, T4 ++ T3) ⟨by omega, hST.ok, hST.is, hST.turn.1.append hTro3, hST.sub, hSX4, by have e1 := hST.nx; have e2 := hST.hi; have e3 := hST.mi; show S4.nx ≤ 30 + (j + 1) ∧ S4.hi ≤ 30 + (j + 1) ∧ S4.mi ≤ 30 + (j + 1); omega, hAX.trans (List.sublist_append_right _ _)⟩ (by simp; omega) (Kn.cons rfl (Kn.cons rfl (Kn.cons rfl (Kn.cons rfl (Kn.cons rfl (Kn.cons rfl Kn.nil)))))) (HLe.refl _)
      · refine awp_exit ?_
        repeat (with_reducible refine nx_then_exit ?_)
        with_reducible refine nx_block_exit ?_
        with_reducible refine nx_normal ?_
        refine awp_heap ((shH B most S ++ (shH B2 most V ++ ([docE g2 most A3 Y.length c3 V.hi V.mi, docE g1 most A1 X.length c1 S.hi S.mi] ++ T3)))) (fork_le4 _ _ _ _ _ _) ?_

        refine awp_seq_meet [(6, .bool true)] [] (fun Z hZ => ?_) ?_
        · refine sx_move rfl rfl ?_
          refine sx_loadA 9 rfl rfl tyA32 tyS32 (by first | (simp only [List.length_cons, List.length_nil, Nat.reduceAdd, Nat.zero_add, Nat.add_zero]; first | done | rfl) | rfl) (by first | (simp only [List.take_succ_cons, List.take_zero, List.drop_succ_cons, List.drop_zero, List.cons_append, List.nil_append, List.append_nil, List.length_cons, List.length_nil, Nat.reduceAdd, Nat.zero_add, Nat.add_zero, Value.cells, wrV]; first | done | rfl) | rfl) rfl ?_
          refine sx_callA (shH B most S) (roE A1 (tcells X)) (shH B2 most V ++ ([docE g2 most A3 Y.length c3 V.hi V.mi, docE g1 most A1 X.length c1 S.hi S.mi] ++ T3)) (alike_fn B most S X T A1 c1 hS (by omega) hA1) rfl (HLe.refl _) ((hAX.trans (List.sublist_append_right [_, _] _)).trans (List.sublist_append_right _ _)) (Ro.roE _ _) rfl ?_
          rintro v H' ⟨rfl, rfl⟩
          refine sx_heap (shH B most S ++ (shH B2 most V ++ ([docE g2 most A3 Y.length c3 V.hi V.mi, docE g1 most A1 X.length c1 S.hi S.mi] ++ T3))) (HLe.refl _) ?_
          refine sx_move rfl rfl ?_
          refine sx_force 136 rfl true (by first | rfl | (simp; done)) ?_
          refine sx_on rfl rfl rfl ?_
          refine sx_move rfl rfl ?_
          refine sx_on rfl rfl rfl ?_
          refine sx_loadA 8 rfl rfl tyA32 tyS32 (by first | (simp only [List.length_cons, List.length_nil, Nat.reduceAdd, Nat.zero_add, Nat.add_zero]; first | done | rfl) | rfl) (by first | (simp only [List.take_succ_cons, List.take_zero, List.drop_succ_cons, List.drop_zero, List.cons_append, List.nil_append, List.append_nil, List.length_cons, List.length_nil, Nat.reduceAdd, Nat.zero_add, Nat.add_zero, Value.cells, wrV]; first | done | rfl) | rfl) rfl ?_
          refine sx_on rfl rfl rfl ?_
          refine sx_callA (shH B2 most V) (roE A3 (tcells Y)) (shH B most S ++ ([docE g2 most A3 Y.length c3 V.hi V.mi, docE g1 most A1 X.length c1 S.hi S.mi] ++ T3)) (alike_fn B2 most V Y T3 A3 c3 hV (by omega) hA3) rfl (HLe.mv _ _ _) ((hAT3.trans (List.sublist_append_right [_, _] _)).trans (List.sublist_append_right _ _)) (Ro.roE _ _) rfl ?_
          rintro v H' ⟨rfl, rfl⟩
          refine sx_pick rfl rfl rfl ?_
          refine sx_move rfl rfl ?_
          refine sx_force 141 rfl true (by first | rfl | (simp; done)) ?_
          refine sx_on rfl rfl rfl ?_
          refine sx_callP awake_fn rfl rfl ?_
          refine sx_pick rfl rfl rfl ?_
          refine sx_assign rfl rfl ?_
          refine sx_nil (hZ _ _ ?_ ?_)
          · exact Kn.cons rfl Kn.nil
          · exact HLe.sub (List.nil_sublist _)
        refine awp_ret ?_
        exact nx_ret1 rfl rfl rfl
  · refine awp_seq_region (fun Z hZ => ?_)
    refine sx_move rfl rfl ?_
    refine sx_callP (shnewE_fn n hn) rfl rfl ?_
    refine sx_move rfl rfl ?_
    refine sx_extract rfl rfl rfl ?_
    refine sx_extract rfl rfl rfl ?_
    refine sx_assign rfl rfl ?_
    refine sx_assign rfl rfl ?_
    refine sx_nil (hZ _ _ ?_)
    refine awp_forget [(0, _), (1, _), (2, _), (12, _), (13, _)] (Kn.cons rfl (Kn.cons rfl (Kn.cons rfl (Kn.cons rfl (Kn.cons rfl (Kn.nil)))))) ?_
    refine awp_seq ?_
    refine awp_seq_meet [(0, iq n), (1, .slice A OL.length c), (2, .slice A' PL.length c'), (12, .pointer none), (77, .bool true)] (T0 ++ U0) (fun Z hZ => ?_) ?_
    · refine sx_move rfl rfl ?_
      refine sx_neq rfl rfl rfl ?_
      refine sx_move rfl rfl ?_
      refine sx_split 66 rfl (fun hb2 => ?_) (fun hb2 => ?_)
      · refine sx_off rfl rfl rfl rfl rfl ?_
        refine sx_off rfl rfl rfl rfl rfl ?_
        refine sx_pick rfl rfl rfl ?_
        refine sx_move rfl rfl ?_
        refine sx_off rfl rfl rfl rfl rfl ?_
        refine sx_off rfl rfl rfl rfl rfl ?_
        refine sx_pick rfl rfl rfl ?_
        refine sx_move rfl rfl ?_
        refine sx_off rfl rfl rfl rfl rfl ?_
        refine sx_off rfl rfl rfl rfl rfl ?_
        refine sx_pick rfl rfl rfl ?_
        refine sx_nil (hZ _ _ ?_ ?_)
        · exact Kn.cons rfl (Kn.cons rfl (Kn.cons rfl (Kn.cons rfl (Kn.cons (congrArg some (congrArg Value.bool (by first | rfl | (exfalso; simp at hb2; done) | (exfalso; cases hb2)))) Kn.nil))))
        · exact HLe.refl _
      · refine sx_on rfl rfl rfl ?_
        refine sx_move rfl rfl ?_
        refine sx_on rfl rfl rfl ?_
        refine sx_nilNil Try.underlying23 rfl rfl ?_
        refine sx_pick rfl rfl rfl ?_
        refine sx_move rfl rfl ?_
        refine sx_split 70 rfl (fun hb6 => ?_) (fun hb6 => ?_)
        · refine sx_off rfl rfl rfl rfl rfl ?_
          refine sx_off rfl rfl rfl rfl rfl ?_
          refine sx_pick rfl rfl rfl ?_
          refine sx_move rfl rfl ?_
          refine sx_off rfl rfl rfl rfl rfl ?_
          refine sx_off rfl rfl rfl rfl rfl ?_
          refine sx_pick rfl rfl rfl ?_
          refine sx_nil (hZ _ _ ?_ ?_)
          · exact Kn.cons rfl (Kn.cons rfl (Kn.cons rfl (Kn.cons rfl (Kn.cons (congrArg some (congrArg Value.bool (by first | rfl | (exfalso; simp at hb2; done) | (exfalso; cases hb2)))) Kn.nil))))
          · exact HLe.refl _
        · refine sx_on rfl rfl rfl ?_
          refine sx_move rfl rfl ?_
          refine sx_on rfl rfl rfl ?_
          refine sx_callPT T0 (over_fn A c OL 30 hA hL T0 hT) rfl (List.sublist_append_left T0 U0) hro rfl ?_
          refine sx_pick rfl rfl rfl ?_
          refine sx_move rfl rfl ?_
          refine sx_split 74 rfl (fun hb10 => ?_) (fun hb10 => ?_)
          · refine sx_off rfl rfl rfl rfl rfl ?_
            refine sx_off rfl rfl rfl rfl rfl ?_
            refine sx_pick rfl rfl rfl ?_
            refine sx_nil (hZ _ _ ?_ ?_)
            · exact Kn.cons rfl (Kn.cons rfl (Kn.cons rfl (Kn.cons rfl (Kn.cons (congrArg some (congrArg Value.bool (by first | rfl | (exfalso; simp at hb2; done) | (exfalso; cases hb2)))) Kn.nil))))
            · exact HLe.refl _
          · refine sx_on rfl rfl rfl ?_
            refine sx_move rfl rfl ?_
            refine sx_on rfl rfl rfl ?_
            refine sx_callPT U0 (over_fn A' c' PL 30 hA' hPL U0 hU) rfl (List.sublist_append_right T0 U0) hroU rfl ?_
            refine sx_pick rfl rfl rfl ?_
            refine sx_nil (hZ _ _ ?_ ?_)
            · exact Kn.cons rfl (Kn.cons rfl (Kn.cons rfl (Kn.cons rfl (Kn.cons (congrArg some (congrArg Value.bool (by first | rfl | (exfalso; simp at hb2; done) | (exfalso; cases hb2)))) Kn.nil))))
            · exact HLe.refl _
    refine awp_cond rfl (fun h => ?_) (fun h => ?_)
    · refine awp_seq_meet [(6, .bool true)] [] (fun Z hZ => ?_) ?_
      · refine sx_move rfl rfl ?_
        refine sx_nilNeNil Try.underlying23 rfl rfl ?_
        refine sx_move rfl rfl ?_
        refine sx_split 80 rfl (fun hb2 => ?_) (fun hb2 => ?_)
        · refine sx_off rfl rfl rfl rfl rfl ?_
          refine sx_off rfl rfl rfl rfl rfl ?_
          refine sx_pick rfl rfl rfl ?_
          refine sx_move rfl rfl ?_
          refine sx_off rfl rfl rfl rfl rfl ?_
          refine sx_off rfl rfl rfl rfl rfl ?_
          refine sx_pick rfl rfl rfl ?_
          refine sx_move rfl rfl ?_
          refine sx_on rfl rfl rfl ?_
          refine sx_callP awake_fn rfl rfl ?_
          refine sx_pick rfl rfl rfl ?_
          refine sx_assign rfl rfl ?_
          refine sx_nil (hZ _ _ ?_ ?_)
          · exact Kn.cons (congrArg some (congrArg Value.bool (by first | rfl | (simp at *; omega)))) Kn.nil
          · exact HLe.sub (List.nil_sublist _)
        · refine sx_on rfl rfl rfl ?_
          refine sx_move rfl rfl ?_
          refine sx_on rfl rfl rfl ?_
          refine sx_lss rfl rfl rfl ?_
          refine sx_pick rfl rfl rfl ?_
          refine sx_move rfl rfl ?_
          refine sx_split 84 rfl (fun hb6 => ?_) (fun hb6 => ?_)
          · refine sx_off rfl rfl rfl rfl rfl ?_
            refine sx_off rfl rfl rfl rfl rfl ?_
            refine sx_pick rfl rfl rfl ?_
            refine sx_move rfl rfl ?_
            refine sx_on rfl rfl rfl ?_
            refine sx_callP awake_fn rfl rfl ?_
            refine sx_pick rfl rfl rfl ?_
            refine sx_assign rfl rfl ?_
            refine sx_nil (hZ _ _ ?_ ?_)
            · exact Kn.cons (congrArg some (congrArg Value.bool (by first | rfl | (simp at *; omega)))) Kn.nil
            · exact HLe.sub (List.nil_sublist _)
          · refine sx_on rfl rfl rfl ?_
            refine sx_move rfl rfl ?_
            refine sx_on rfl rfl rfl ?_
            refine sx_gtr rfl rfl rfl ?_
            refine sx_pick rfl rfl rfl ?_
            refine sx_move rfl rfl ?_
            refine sx_split 88 rfl (fun hb10 => ?_) (fun hb10 => ?_)
            · refine sx_on rfl rfl rfl ?_
              refine sx_callP awake_fn rfl rfl ?_
              refine sx_pick rfl rfl rfl ?_
              refine sx_assign rfl rfl ?_
              refine sx_nil (hZ _ _ ?_ ?_)
              · exact Kn.cons (congrArg some (congrArg Value.bool (by first | rfl | (simp at *; omega)))) Kn.nil
              · exact HLe.sub (List.nil_sublist _)
            · refine sx_off rfl rfl rfl rfl rfl ?_
              refine sx_pick rfl rfl rfl ?_
              refine sx_assign rfl rfl ?_
              refine sx_nil (hZ _ _ ?_ ?_)
              · exact Kn.cons (congrArg some (congrArg Value.bool (by first | rfl | (simp at *; omega)))) Kn.nil
              · exact HLe.sub (List.nil_sublist _)
      refine awp_ret ?_
      repeat (with_reducible refine nx_then_ret ?_)
      exact nx_ret1 rfl rfl rfl
    · cases h
theorem ShelfForks_read {H : Type} {enc : TypeId × Value → H} (w : World) {base : Nat} {v0 v1 v2 : Value} {d0 d1 d2 : DataW H} {p0 p1 p2 : List MemPlace}
    (k0 : Value.okWide Try.prog w .any base 3 v0) (h0 : DataW.Trod enc Try.prog w 0 (fun _ => true) true 3 v0 d0 p0)
    (k1 : Value.okWide Try.prog w .any base 22 v1) (h1 : DataW.Trod enc Try.prog w 0 (fun _ => true) true 22 v1 d1 p1)
    (k2 : Value.okWide Try.prog w .any base 22 v2) (h2 : DataW.Trod enc Try.prog w 0 (fun _ => true) true 22 v2 d2 p2) :
    Calls Try.prog 5 #[v0, v1, v2] w fun e w' => e = .returned (.bool true) ∧ Bel w w' := by
  obtain ⟨n, rfl, _, _, hn⟩ := ChangeShapes.open_int Try.underlying3 k0 h0
  obtain ⟨A, c, OL, T, rfl, hA, hL, hO, hT, hro, hS⟩ := open_ops k1 h1
  obtain ⟨B, e, PL, S, rfl, hB, hPL, hP, hS', hroS, hSS⟩ := open_ops k2 h2
  refine tail_bel (hro.append hroS) ?_ (forks_fn n A c OL hA hL hO T hT hro B e PL hB hPL hP S hS' hroS)
  exact ⟨Only.refl _ _, fun x hx => (List.mem_append.1 hx).elim (hS.ents x) (hSS.ents x), List.pairwise_append.2 ⟨hS.sep, hSS.sep, fun a ha b hb hw => by rw [hro a ha, hroS b hb] at hw; cases hw⟩⟩
namespace shelfForks
open Go.ChangeShapes Go.WideShapes Go.ChangeAt Go.RowKit
theorem own : ownKnob Try.prog.godebug = none := by kernel_rfl
theorem laidOut : laidOutB Try.prog = true := by kernel_rfl
set_option maxRecDepth 100000 in
theorem lifted (os : Os) (started : os.Started) (H : Type) (enc : TypeId × Value → H) :
    ReturnsInHanded {} Try.checked os 5 .any (Rows.shelfForksSpec.pre6 enc Try.prog Try.f5 Rows.shelfForksRow.domain false) (Rows.shelfForksSpec.post enc Try.prog Try.f5 false true false false) := by
  refine returnsInHanded_of_change (C := Try.checked) own started (by kernel_rfl) Try.func5
    (ChangeSpec.witness6 (enc := enc) (C := Try.checked) false ⟨#[], #[.int .i64 0, .slice none 0 0, .slice none 0 0], []⟩ 8 (by kernel_rfl) (by kernel_rfl) (by kernel_rfl) (by kernel_rfl)) ?_
  intro W base args ds gs before hval0 hW hcnd _
  have hval : ∀ (j : Nat) t v, Try.f5.params[j]? = some t → args[j]? = some v → Value.okWide Try.prog W .any base t v := hval0
  have hW' := hW
  obtain ⟨p, q, hA0, hV, rfl, hfz, hnd⟩ := hW
  have hA : DataW.TrodAll enc Try.prog W 0 (fun _ => true) true Try.f5.params.toList args.toList ds p := hA0
  rw [Try.params5] at hA hval
  obtain ⟨v0, vs0, d0, ds0, p0, q0, hargs, rfl, rfl, h0, r0⟩ := trodAll_cons hA
  obtain ⟨v1, vs1, d1, ds1, p1, q1, rfl, rfl, rfl, h1, r1⟩ := trodAll_cons r0
  obtain ⟨v2, vs2, d2, ds2, p2, q2, rfl, rfl, rfl, h2, r2⟩ := trodAll_cons r1
  obtain ⟨rfl, rfl, rfl⟩ := trodAll_nil r2
  obtain rfl : args = #[v0, v1, v2] := by cases args; simp_all
  obtain ⟨rfl, rfl⟩ := trodVars_none hV
  have lt0 : ∀ x ∈ p0, x.block < W.heap.size := by obtain ⟨m, hm⟩ := h0; exact DataW.trod_lt m _ _ _ hm
  have lt1 : ∀ x ∈ p1, x.block < W.heap.size := by obtain ⟨m, hm⟩ := h1; exact DataW.trod_lt m _ _ _ hm
  have lt2 : ∀ x ∈ p2, x.block < W.heap.size := by obtain ⟨m, hm⟩ := h2; exact DataW.trod_lt m _ _ _ hm
  refine (ShelfForks_read W (hval 0 3 v0 rfl rfl) h0 (hval 1 22 v1 rfl rfl) h1 (hval 2 22 v2 rfl rfl) h2).mono fun e W' ⟨he, bel0⟩ => ?_
  have bel : Below W.heap.size W W' := bel0
  subst he
  exact ⟨_, rfl, _, _, _, [], _, [], hW', trodAll_mk1 (shut_bool Try.underlying4 _), (trodAll_cons_mk (Below.trod laidOut (by kernel_rfl) (of_decide_eq_true (by kernel_rfl)) h0 bel lt0) (trodAll_cons_mk (Below.trod laidOut (by kernel_rfl) (of_decide_eq_true (by kernel_rfl)) h1 bel lt1) (trodAll_cons_mk (Below.trod laidOut (by kernel_rfl) (of_decide_eq_true (by kernel_rfl)) h2 bel lt2) trodAll_mk0))), rfl, bel.frame _, fun h => by cases h⟩
theorem over : Rows.shelfForksRow.holds Try.pinned (OpenSpec.ofChange Rows.shelfForksSpec) :=
  OpenClaim.holds_of_wide 5 Try.f5 rfl rfl rfl rfl rfl rfl rfl ⟨rfl, rfl, rfl, rfl, rfl⟩ rfl rfl rfl rfl rfl (by kernel_rfl) Try.func5 (by kernel_rfl)
    (of_decide_eq_true (by kernel_rfl)) (by unfold Func.isWrapper; first | (rw [if_pos (by decide +kernel)]; kernel_rfl) | (rw [if_neg (by decide +kernel)]; exact ⟨rfl, rfl⟩))
    (fun os started H enc _ => lifted os started H enc)
theorem proved : Rows.ShelfForksSaid := over
#print axioms proved
end shelfForks
end Go.Proofs.Ytjelakmndcecoaa
