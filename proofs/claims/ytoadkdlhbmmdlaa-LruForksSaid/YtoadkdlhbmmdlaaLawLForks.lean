/- LruForks. No conditions. -/
import Derived.Test.YtoadkdlhbmmdlaaLr15
namespace Go.Proofs.Ytoadkdlhbmmdlaa
open Go.RowKit
set_option linter.unusedVariables false
set_option linter.unusedSimpArgs false
theorem forks_le {g b g' b' : Nat} {most : Int} {s : CS} (T S : Heap) (A : Option Addr) (xs : List Value) :
    HLe (cacheH g' b' most s ++ (cacheH g b most s ++ ((S ++ roE A xs) ++ roE A xs))) ((cacheH g' b' most s ++ cacheH g b most s).filter Ent.wr ++ ((T ++ S) ++ roE A xs)) := by
  have h1 : HLe ((cacheH g' b' most s ++ (cacheH g b most s ++ (S ++ roE A xs))) ++ roE A xs) (cacheH g' b' most s ++ (cacheH g b most s ++ (S ++ roE A xs))) :=
    HLe.dup (((List.sublist_append_right S _).trans (List.sublist_append_right (cacheH g b most s) _)).trans (List.sublist_append_right (cacheH g' b' most s) _)) (Ro.roE _ _)
  refine HLe.trans (b := cacheH g' b' most s ++ (cacheH g b most s ++ (S ++ roE A xs))) h1 (HLe.sub ?_)
  exact List.Sublist.append_left (List.Sublist.append_left (List.Sublist.append_right (List.sublist_append_right T S) _) (cacheH g b most s)) (cacheH g' b' most s)
theorem forks_fn (n : Int) (A : Option Addr) (c : Nat) (OL : List Opn) (hA : ArgOk A OL.length) (hL : OL.length ≤ maxLen) (hO : ∀ x ∈ OL, x.d < 256) (T : Heap) (hT : 0 < OL.length → T = roE A (ocells OL)) (hro : Ro T)
    (B : Option Addr) (e : Nat) (PL : List Opn) (hB : ArgOk B PL.length) (hPL : PL.length ≤ maxLen) (hP : ∀ x ∈ PL, x.d < 256) (S : Heap) (hS : 0 < PL.length → S = roE B (ocells PL)) (hroS : Ro S) :
    Fn Try.prog 5 [iq n, .slice A OL.length c, .slice B PL.length e] (T ++ S) fun v _ => v = .bool true := by
  by_cases hn : 0 ≤ n ∧ n ≤ 64
  · obtain ⟨most, rfl⟩ : ∃ m : Nat, n = m := ⟨n.toNat, by omega⟩
    refine Fn.enter (N := 107) Try.func5 rfl (by kernel_rfl) rfl (fun w0 => ?_)

    refine awp_seq_region (fun Z hZ => ?_)
    refine sx_assign rfl rfl ?_
    refine sx_nil (hZ _ _ ?_)
    refine awp_forget [(0, _), (1, _), (2, _)] (Kn.cons rfl (Kn.cons rfl (Kn.cons rfl (Kn.nil)))) ?_
    refine awp_seq_region (fun Z hZ => ?_)
    refine sx_move rfl rfl ?_
    refine sx_callA [] [] (T ++ S) (new_fn most hn) rfl (HLe.refl _) (List.nil_sublist _) Ro.nil rfl ?_
    rintro v H' ⟨g, b, rfl, rfl⟩
    refine sx_move rfl rfl ?_
    refine sx_extract rfl rfl rfl ?_
    refine sx_extract rfl rfl rfl ?_
    refine sx_assign rfl rfl ?_
    refine sx_assign rfl rfl ?_
    refine sx_nil (hZ _ _ ?_)
    refine awp_forget [(0, _), (1, _), (2, _), (7, _), (8, _)] (Kn.cons rfl (Kn.cons rfl (Kn.cons rfl (Kn.cons rfl (Kn.cons rfl (Kn.nil)))))) ?_
    refine awp_heap (cacheH g b most ⟨[], (0, 0), (0, 0)⟩ ++ (T ++ S)) (HLe.refl _) ?_

    refine awp_seq ?_
    refine awp_seq_meet [(0, iq most), (1, .slice A OL.length c), (2, .slice B PL.length e), (7, ptr g 0), (34, .bool (overV OL 60 || overV PL 60))] (cacheH g b most ⟨[], (0, 0), (0, 0)⟩ ++ (T ++ S)) (fun Z hZ => ?_) ?_
    · refine sx_move rfl rfl ?_
      first | refine sx_neq rfl rfl rfl ?_ | refine sx_sneq rfl rfl rfl ?_
      refine sx_move rfl rfl ?_
      refine sx_split 23 rfl (fun hb2 => ?_) (fun hb2 => ?_)
      · refine sx_off rfl rfl rfl rfl rfl ?_
        refine sx_off rfl rfl rfl rfl rfl ?_
        refine sx_pick rfl rfl rfl ?_
        refine sx_move rfl rfl ?_
        refine sx_off rfl rfl rfl rfl rfl ?_
        refine sx_off rfl rfl rfl rfl rfl ?_
        refine sx_pick rfl rfl rfl ?_
        refine sx_move rfl rfl ?_
        refine sx_off rfl rfl rfl rfl rfl ?_
        refine sx_off rfl rfl rfl rfl rfl ?_
        refine sx_pick rfl rfl rfl ?_
        refine sx_nil (hZ _ _ ?_ ?_)
        · exact Kn.cons rfl (Kn.cons rfl (Kn.cons rfl (Kn.cons rfl (Kn.cons (congrArg some (congrArg Value.bool (by first | (exfalso; simp at hb2; done) | simp_all))) Kn.nil))))
        · exact HLe.refl _
      · refine sx_on rfl rfl rfl ?_
        refine sx_move rfl rfl ?_
        refine sx_on rfl rfl rfl ?_
        refine sx_ptrNil Try.underlying23 rfl rfl ?_
        refine sx_pick rfl rfl rfl ?_
        refine sx_move rfl rfl ?_
        refine sx_split 27 rfl (fun hb6 => ?_) (fun hb6 => ?_)
        · refine sx_off rfl rfl rfl rfl rfl ?_
          refine sx_off rfl rfl rfl rfl rfl ?_
          refine sx_pick rfl rfl rfl ?_
          refine sx_move rfl rfl ?_
          refine sx_off rfl rfl rfl rfl rfl ?_
          refine sx_off rfl rfl rfl rfl rfl ?_
          refine sx_pick rfl rfl rfl ?_
          refine sx_nil (hZ _ _ ?_ ?_)
          · exact Kn.cons rfl (Kn.cons rfl (Kn.cons rfl (Kn.cons rfl (Kn.cons (congrArg some (congrArg Value.bool (by first | (exfalso; simp at hb2; done) | simp_all))) Kn.nil))))
          · exact HLe.refl _
        · refine sx_on rfl rfl rfl ?_
          refine sx_move rfl rfl ?_
          refine sx_on rfl rfl rfl ?_
          refine sx_callPT T (over_fn A c OL 60 hA hL T hT) rfl ((List.sublist_append_left T S).trans (List.sublist_append_right [_, _] _)) hro rfl ?_
          refine sx_pick rfl rfl rfl ?_
          refine sx_move rfl rfl ?_
          refine sx_split 31 rfl (fun hb10 => ?_) (fun hb10 => ?_)
          · refine sx_off rfl rfl rfl rfl rfl ?_
            refine sx_off rfl rfl rfl rfl rfl ?_
            refine sx_pick rfl rfl rfl ?_
            refine sx_nil (hZ _ _ ?_ ?_)
            · exact Kn.cons rfl (Kn.cons rfl (Kn.cons rfl (Kn.cons rfl (Kn.cons (congrArg some (congrArg Value.bool (by first | (exfalso; simp at hb2; done) | simp_all))) Kn.nil))))
            · exact HLe.refl _
          · refine sx_on rfl rfl rfl ?_
            refine sx_move rfl rfl ?_
            refine sx_on rfl rfl rfl ?_
            refine sx_callPT S (over_fn B e PL 60 hB hPL S hS) rfl ((List.sublist_append_right T S).trans (List.sublist_append_right [_, _] _)) hroS rfl ?_
            refine sx_pick rfl rfl rfl ?_
            refine sx_nil (hZ _ _ ?_ ?_)
            · exact Kn.cons rfl (Kn.cons rfl (Kn.cons rfl (Kn.cons rfl (Kn.cons (congrArg some (congrArg Value.bool (by first | (exfalso; simp at hb2; done) | simp_all))) Kn.nil))))
            · exact HLe.refl _
    first | refine awp_cond rfl (fun h => ?_) (fun h => ?_) | refine awp_seq (awp_cond rfl (fun h => ?_) (fun h => ?_))
    · refine awp_seq_meet [(6, .bool true)] [] (fun Z hZ => ?_) ?_
      · refine sx_move rfl rfl ?_
        refine sx_ptrNeNil Try.underlying23 rfl rfl ?_
        refine sx_move rfl rfl ?_
        refine sx_split 37 rfl (fun hb2 => ?_) (fun hb2 => ?_)
        · refine sx_off rfl rfl rfl rfl rfl ?_
          refine sx_off rfl rfl rfl rfl rfl ?_
          refine sx_pick rfl rfl rfl ?_
          refine sx_move rfl rfl ?_
          refine sx_off rfl rfl rfl rfl rfl ?_
          refine sx_off rfl rfl rfl rfl rfl ?_
          refine sx_pick rfl rfl rfl ?_
          refine sx_move rfl rfl ?_
          refine sx_on rfl rfl rfl ?_
          refine sx_callP awake_fn rfl rfl ?_
          refine sx_pick rfl rfl rfl ?_
          refine sx_assign rfl rfl ?_
          refine sx_nil (hZ _ _ ?_ ?_)
          · exact Kn.cons (congrArg some (congrArg Value.bool (by first | rfl | (exfalso; simp at hb2; done) | (exfalso; cases hb2)))) Kn.nil
          · exact HLe.sub (List.nil_sublist _)
        · refine sx_on rfl rfl rfl ?_
          refine sx_move rfl rfl ?_
          refine sx_on rfl rfl rfl ?_
          first | refine sx_lss rfl rfl rfl ?_ | refine sx_slss rfl rfl rfl ?_
          refine sx_pick rfl rfl rfl ?_
          refine sx_move rfl rfl ?_
          refine sx_split 41 rfl (fun hb6 => ?_) (fun hb6 => ?_)
          · refine sx_off rfl rfl rfl rfl rfl ?_
            refine sx_off rfl rfl rfl rfl rfl ?_
            refine sx_pick rfl rfl rfl ?_
            refine sx_move rfl rfl ?_
            refine sx_on rfl rfl rfl ?_
            refine sx_callP awake_fn rfl rfl ?_
            refine sx_pick rfl rfl rfl ?_
            refine sx_assign rfl rfl ?_
            refine sx_nil (hZ _ _ ?_ ?_)
            · exact Kn.cons (congrArg some (congrArg Value.bool (by first | rfl | (exfalso; simp at hb2; done) | (exfalso; cases hb2)))) Kn.nil
            · exact HLe.sub (List.nil_sublist _)
          · refine sx_on rfl rfl rfl ?_
            refine sx_move rfl rfl ?_
            refine sx_on rfl rfl rfl ?_
            first | refine sx_gtr rfl rfl rfl ?_ | refine sx_sgtr rfl rfl rfl ?_
            refine sx_pick rfl rfl rfl ?_
            refine sx_move rfl rfl ?_
            refine sx_split 45 rfl (fun hb10 => ?_) (fun hb10 => ?_)
            · refine sx_on rfl rfl rfl ?_
              refine sx_callP awake_fn rfl rfl ?_
              refine sx_pick rfl rfl rfl ?_
              refine sx_assign rfl rfl ?_
              refine sx_nil (hZ _ _ ?_ ?_)
              · exact Kn.cons (congrArg some (congrArg Value.bool (by first | rfl | (exfalso; simp at hb2; done) | (exfalso; cases hb2)))) Kn.nil
              · exact HLe.sub (List.nil_sublist _)
            · refine sx_off rfl rfl rfl rfl rfl ?_
              refine sx_pick rfl rfl rfl ?_
              refine sx_assign rfl rfl ?_
              refine sx_nil (hZ _ _ ?_ ?_)
              · exact Kn.cons (congrArg some (congrArg Value.bool (by first | rfl | (exfalso; simp at hb2; done) | (exfalso; cases hb2)))) Kn.nil
              · exact HLe.sub (List.nil_sublist _)
      refine awp_ret ?_
      repeat (with_reducible (first | refine nx_then_ret ?_ | refine nx_block_ret ?_))
      exact nx_ret1 rfl rfl rfl
    refine awp_skip ?_
    repeat (with_reducible refine nx_block_normal ?_)
    with_reducible refine nx_normal ?_
    simp only [Bool.or_eq_false_iff] at h
    have hov : OL.length ≤ 60 := by
      have := h.1
      simp only [overV, Bool.or_eq_false_iff, decide_eq_false_iff_not] at this
      omega
    have hov2 : PL.length ≤ 60 := by
      have := h.2
      simp only [overV, Bool.or_eq_false_iff, decide_eq_false_iff_not] at this
      omega
    refine awp_seq_region (fun Z hZ => ?_)
    refine sx_assign rfl rfl ?_
    refine sx_nil (hZ _ _ ?_)
    refine awp_forget [(0, _), (1, _), (2, _), (7, _), (9, _)] (Kn.cons rfl (Kn.cons rfl (Kn.cons rfl (Kn.cons rfl (Kn.cons rfl (Kn.nil)))))) ?_
    refine awp_seq ?_
    refine awp_seq_region (fun Z hZ => ?_)
    refine sx_assign rfl rfl ?_
    refine sx_nil (hZ _ _ ?_)
    refine awp_forget [(0, _), (1, _), (2, _), (7, _), (9, _), (10, _)] (Kn.cons rfl (Kn.cons rfl (Kn.cons rfl (Kn.cons rfl (Kn.cons rfl (Kn.cons rfl (Kn.nil))))))) ?_
    refine awp_block ?_
    refine awp_loop (ι := Nat × Option Addr × Nat × CS × List Item) (fun i => [(0, iq most), (1, .slice A OL.length c), (2, .slice B PL.length e), (7, ptr g 0), (9, .slice i.2.1 i.2.2.2.2.length i.2.2.1), (10, iq (i.1 : Nat))]) (fun i => cacheH g b most i.2.2.2.1 ++ ((T ++ S) ++ roE i.2.1 (icells i.2.2.2.2)))
      (fun i => i.1 ≤ OL.length ∧ SlOk i.2.1 i.2.2.2.2.length ∧ Rep i.2.2.2.1 i.2.2.2.2 ∧ i.2.2.2.2.length ≤ most) (fun i => OL.length - i.1) (0, none, 0, ⟨[], (0, 0), (0, 0)⟩, []) ⟨by simp, .inl ⟨rfl, rfl⟩, Rep.empty, by simp⟩ (Kn.cons rfl (Kn.cons rfl (Kn.cons rfl (Kn.cons rfl (Kn.cons rfl (Kn.cons rfl Kn.nil)))))) (by simp only [roE, List.append_nil]; exact HLe.refl _) ?_
    rintro ⟨i, A1, c1, s, L⟩ ⟨hi, hA1, hR, hLm⟩
    simp only at hi hA1 hR hLm

    refine awp_seq ?_
    refine awp_seq_region (fun Z hZ => ?_)
    refine sx_move rfl rfl ?_
    refine sx_move rfl rfl ?_
    first | refine sx_len Try.underlying22 rfl rfl ?_ | refine sx_lenS Try.underlying22 rfl rfl ?_
    first | refine sx_lss rfl rfl rfl ?_ | refine sx_slss rfl rfl rfl ?_
    refine sx_nil (hZ _ _ ?_)
    refine awp_forget [(0, _), (1, _), (2, _), (7, _), (9, _), (10, _), (51, _)] (Kn.cons rfl (Kn.cons rfl (Kn.cons rfl (Kn.cons rfl (Kn.cons rfl (Kn.cons rfl (Kn.cons rfl (Kn.nil)))))))) ?_
    first | refine awp_cond rfl (fun h => ?_) (fun h => ?_) | refine awp_seq (awp_cond rfl (fun h => ?_) (fun h => ?_))
    · have hlt : i < OL.length := by simpa using h
      obtain ⟨x, hx⟩ : ∃ x, OL[i]? = some x := ⟨_, List.getElem?_eq_getElem hlt⟩
      have hxd := hO x (List.mem_of_getElem? hx)
      obtain ⟨ga, o, rfl⟩ := hA (by omega)
      obtain rfl := hT (by omega)
      have hstep := step_fn g b most s A1 c1 L x.d x.k x.v hA1 hR hLm (by omega) hxd
      have hlen2 := stepL_len (d := x.d) (k := x.k) (v := x.v) hR hLm
      generalize stepL most x.d L x.k x.v = L2 at hstep hlen2
      refine awp_skip ?_
      repeat (with_reducible refine nx_block_normal ?_)
      with_reducible refine nx_normal ?_
      refine awp_seq (awp_block ?_)

      refine awp_region (fun Z hZ => ?_)
      refine sx_move rfl rfl ?_
      refine sx_move rfl rfl ?_
      refine sx_move rfl rfl ?_
      refine sx_move rfl rfl ?_
      refine sx_move rfl rfl ?_
      refine sx_indexAddr (o + i * 4) Try.underlying22 tyS34 rfl rfl (by omega) (by simp) rfl ?_
      refine sx_loadRo 2 rfl rfl (i * 4) rfl tyA34 tyS34 (ocells_all hx) rfl ?_
      refine sx_callA (cacheH g b most s) (roE A1 (icells L)) ((roE (some ⟨ga, o, none⟩) (ocells OL) ++ S) ++ roE A1 (icells L)) hstep rfl (HLe.refl _) (List.sublist_append_right _ _) (Ro.roE _ _) rfl ?_
      rintro v H' ⟨A2, c2, s2, T2, rfl, hA2, hR2, rfl, hF⟩
      refine sx_heap _ (fresh_le hF) ?_
      refine sx_move rfl rfl ?_
      refine sx_extract rfl rfl rfl ?_
      refine sx_extract rfl rfl rfl ?_
      refine sx_assign rfl rfl ?_
      refine sx_nil (hZ _ _ ?_)
      refine nx_forget [(0, _), (1, _), (2, _), (7, _), (9, _), (10, _)] (Kn.cons rfl (Kn.cons rfl (Kn.cons rfl (Kn.cons rfl (Kn.cons rfl (Kn.cons rfl (Kn.nil))))))) ?_
      repeat (with_reducible refine nx_block_normal ?_)
      with_reducible refine nx_normal ?_
      refine awp_region (fun Z hZ => ?_)
      refine sx_move rfl rfl ?_
      refine sx_add rfl rfl ((i + 1 : Nat) : Int) (by rw [IntWalk.i64_in _ (by omega)]; omega) rfl ?_
      refine sx_assign rfl rfl ?_
      refine sx_nil (hZ _ _ ?_)
      refine nx_forget [(0, _), (1, _), (2, _), (7, _), (9, _), (10, _)] (Kn.cons rfl (Kn.cons rfl (Kn.cons rfl (Kn.cons rfl (Kn.cons rfl (Kn.cons rfl (Kn.nil))))))) ?_
      exact nx_round (i + 1, A2, c2, s2, L2) ⟨by omega, hA2, hR2, hlen2⟩ (by simp; omega) (Kn.cons rfl (Kn.cons rfl (Kn.cons rfl (Kn.cons rfl (Kn.cons rfl (Kn.cons rfl Kn.nil)))))) (HLe.refl _)
    · refine awp_exit ?_
      repeat (with_reducible (first | refine nx_then_exit ?_ | refine nx_block_other (by decide) ?_))
      with_reducible refine nx_block_exit ?_
      repeat (with_reducible refine nx_block_normal ?_)
      with_reducible refine nx_normal ?_

      refine awp_seq_region (fun Z hZ => ?_)
      refine sx_move rfl rfl ?_
      refine sx_callA (cacheH g b most s) [] ((T ++ S) ++ roE A1 (icells L)) (by rw [List.append_nil]; exact fork_fn g b most s) rfl (HLe.refl _) (List.nil_sublist _) Ro.nil rfl ?_
      rintro v H' ⟨g', b', rfl, rfl⟩
      refine sx_assign rfl rfl ?_
      refine sx_nil (hZ _ _ ?_)
      refine awp_forget [(0, _), (2, _), (7, _), (9, _), (11, _)] (Kn.cons rfl (Kn.cons rfl (Kn.cons rfl (Kn.cons rfl (Kn.cons rfl (Kn.nil)))))) ?_
      refine awp_heap (cacheH g' b' most s ++ (cacheH g b most s ++ ((S ++ roE A1 (icells L)) ++ roE A1 (icells L)))) (forks_le T S A1 (icells L)) ?_

      refine awp_seq ?_
      refine awp_seq_region (fun Z hZ => ?_)
      refine sx_move rfl rfl ?_
      refine sx_ptrNil Try.underlying23 rfl rfl ?_
      refine sx_nil (hZ _ _ ?_)
      refine awp_forget [(0, _), (2, _), (7, _), (9, _), (11, _), (68, _)] (Kn.cons rfl (Kn.cons rfl (Kn.cons rfl (Kn.cons rfl (Kn.cons rfl (Kn.cons rfl (Kn.nil))))))) ?_
      first | refine awp_cond rfl (fun hf => ?_) (fun hf => ?_) | refine awp_seq (awp_cond rfl (fun hf => ?_) (fun hf => ?_))
      · cases hf
      refine awp_skip ?_
      repeat (with_reducible refine nx_block_normal ?_)
      with_reducible refine nx_normal ?_
      refine awp_seq_region (fun Z hZ => ?_)
      refine sx_move rfl rfl ?_
      refine sx_assign rfl rfl ?_
      refine sx_nil (hZ _ _ ?_)
      refine awp_forget [(0, _), (2, _), (7, _), (9, _), (11, _), (12, _)] (Kn.cons rfl (Kn.cons rfl (Kn.cons rfl (Kn.cons rfl (Kn.cons rfl (Kn.cons rfl (Kn.nil))))))) ?_
      refine awp_seq ?_
      refine awp_seq_region (fun Z hZ => ?_)
      refine sx_assign rfl rfl ?_
      refine sx_nil (hZ _ _ ?_)
      refine awp_forget [(0, _), (2, _), (7, _), (9, _), (11, _), (12, _), (13, _)] (Kn.cons rfl (Kn.cons rfl (Kn.cons rfl (Kn.cons rfl (Kn.cons rfl (Kn.cons rfl (Kn.cons rfl (Kn.nil)))))))) ?_
      refine awp_block ?_
      refine awp_loop (ι := Nat × Option Addr × Nat × CS × List Item) (fun i => [(0, iq most), (2, .slice B PL.length e), (7, ptr g 0), (9, .slice A1 L.length c1), (11, ptr g' 0), (12, .slice i.2.1 i.2.2.2.2.length i.2.2.1), (13, iq (i.1 : Nat))]) (fun i => cacheH g' b' most i.2.2.2.1 ++ (cacheH g b most s ++ ((S ++ roE A1 (icells L)) ++ roE i.2.1 (icells i.2.2.2.2))))
        (fun i => i.1 ≤ PL.length ∧ SlOk i.2.1 i.2.2.2.2.length ∧ Rep i.2.2.2.1 i.2.2.2.2 ∧ i.2.2.2.2.length ≤ most) (fun i => PL.length - i.1) (0, A1, c1, s, L) ⟨by simp, hA1, hR, hLm⟩ (Kn.cons rfl (Kn.cons rfl (Kn.cons rfl (Kn.cons rfl (Kn.cons rfl (Kn.cons rfl (Kn.cons rfl Kn.nil))))))) (HLe.refl _) ?_
      rintro ⟨j, A2, c2, s2, L2⟩ ⟨hj, hA2, hR2, hLm2⟩
      simp only at hj hA2 hR2 hLm2

      refine awp_seq ?_
      refine awp_seq_region (fun Z hZ => ?_)
      refine sx_move rfl rfl ?_
      refine sx_move rfl rfl ?_
      first | refine sx_len Try.underlying22 rfl rfl ?_ | refine sx_lenS Try.underlying22 rfl rfl ?_
      first | refine sx_lss rfl rfl rfl ?_ | refine sx_slss rfl rfl rfl ?_
      refine sx_nil (hZ _ _ ?_)
      refine awp_forget [(0, _), (2, _), (7, _), (9, _), (11, _), (12, _), (13, _), (73, _)] (Kn.cons rfl (Kn.cons rfl (Kn.cons rfl (Kn.cons rfl (Kn.cons rfl (Kn.cons rfl (Kn.cons rfl (Kn.cons rfl (Kn.nil))))))))) ?_
      first | refine awp_cond rfl (fun h => ?_) (fun h => ?_) | refine awp_seq (awp_cond rfl (fun h => ?_) (fun h => ?_))
      · have hlt : j < PL.length := by simpa using h
        obtain ⟨x, hx⟩ : ∃ x, PL[j]? = some x := ⟨_, List.getElem?_eq_getElem hlt⟩
        have hxd := hP x (List.mem_of_getElem? hx)
        obtain ⟨gb, o, rfl⟩ := hB (by omega)
        obtain rfl := hS (by omega)
        have hstep := step_fn g' b' most s2 A2 c2 L2 x.d x.k x.v hA2 hR2 hLm2 (by omega) hxd
        have hlen3 := stepL_len (d := x.d) (k := x.k) (v := x.v) hR2 hLm2
        generalize stepL most x.d L2 x.k x.v = L3 at hstep hlen3
        refine awp_skip ?_
        repeat (with_reducible refine nx_block_normal ?_)
        with_reducible refine nx_normal ?_
        refine awp_seq (awp_block ?_)

        refine awp_seq_region (fun Z hZ => ?_)
        refine sx_move rfl rfl ?_
        refine sx_move rfl rfl ?_
        refine sx_move rfl rfl ?_
        refine sx_move rfl rfl ?_
        refine sx_move rfl rfl ?_
        refine sx_indexAddr (o + j * 4) Try.underlying22 tyS34 rfl rfl (by omega) (by simp) rfl ?_
        refine sx_loadRo 4 rfl rfl (j * 4) rfl tyA34 tyS34 (ocells_all hx) rfl ?_
        refine sx_callA (cacheH g' b' most s2) (roE A2 (icells L2)) (cacheH g b most s ++ ((roE (some ⟨gb, o, none⟩) (ocells PL) ++ roE A1 (icells L)) ++ roE A2 (icells L2))) hstep rfl (HLe.refl _) ((List.sublist_append_right _ _).trans (List.sublist_append_right _ _)) (Ro.roE _ _) rfl ?_
        rintro v H' ⟨A3, c3, s3, T3, rfl, hA3, hR3, rfl, hF⟩
        refine sx_heap _ (fresh_le (Y := cacheH g b most s ++ (roE (some ⟨gb, o, none⟩) (ocells PL) ++ roE A1 (icells L))) hF) ?_
        refine sx_move rfl rfl ?_
        refine sx_extract rfl rfl rfl ?_
        refine sx_extract rfl rfl rfl ?_
        refine sx_assign rfl rfl ?_
        refine sx_assign rfl rfl ?_
        refine sx_nil (hZ _ _ ?_)
        refine awp_forget [(0, _), (2, _), (7, _), (9, _), (11, _), (13, _), (14, _), (15, _)] (Kn.cons rfl (Kn.cons rfl (Kn.cons rfl (Kn.cons rfl (Kn.cons rfl (Kn.cons rfl (Kn.cons rfl (Kn.cons rfl (Kn.nil))))))))) ?_
        refine awp_seq_region (fun Z hZ => ?_)
        refine sx_move rfl rfl ?_
        refine sx_assign rfl rfl ?_
        refine sx_nil (hZ _ _ ?_)
        refine awp_forget [(0, _), (2, _), (7, _), (9, _), (11, _), (12, _), (13, _), (15, _)] (Kn.cons rfl (Kn.cons rfl (Kn.cons rfl (Kn.cons rfl (Kn.cons rfl (Kn.cons rfl (Kn.cons rfl (Kn.cons rfl (Kn.nil))))))))) ?_
        refine awp_seq_region (fun Z hZ => ?_)
        refine sx_move rfl rfl ?_
        refine sx_not rfl rfl ?_
        refine sx_nil (hZ _ _ ?_)
        refine awp_forget [(0, _), (2, _), (7, _), (9, _), (11, _), (12, _), (13, _), (89, _)] (Kn.cons rfl (Kn.cons rfl (Kn.cons rfl (Kn.cons rfl (Kn.cons rfl (Kn.cons rfl (Kn.cons rfl (Kn.cons rfl (Kn.nil))))))))) ?_
        first | refine awp_cond rfl (fun hf => ?_) (fun hf => ?_) | refine awp_seq (awp_cond rfl (fun hf => ?_) (fun hf => ?_))
        · cases hf
        refine awp_skip ?_
        repeat (with_reducible refine nx_block_normal ?_)
        with_reducible refine nx_normal ?_
        refine awp_region (fun Z hZ => ?_)
        refine sx_move rfl rfl ?_
        refine sx_add rfl rfl ((j + 1 : Nat) : Int) (by rw [IntWalk.i64_in _ (by omega)]; omega) rfl ?_
        refine sx_assign rfl rfl ?_
        refine sx_nil (hZ _ _ ?_)
        refine nx_forget [(0, _), (2, _), (7, _), (9, _), (11, _), (12, _), (13, _)] (Kn.cons rfl (Kn.cons rfl (Kn.cons rfl (Kn.cons rfl (Kn.cons rfl (Kn.cons rfl (Kn.cons rfl (Kn.nil)))))))) ?_
        exact nx_round (j + 1, A3, c3, s3, L3) ⟨by omega, hA3, hR3, hlen3⟩ (by simp; omega) (Kn.cons rfl (Kn.cons rfl (Kn.cons rfl (Kn.cons rfl (Kn.cons rfl (Kn.cons rfl (Kn.cons rfl Kn.nil))))))) (HLe.refl _)
      · refine awp_exit ?_
        repeat (with_reducible (first | refine nx_then_exit ?_ | refine nx_block_other (by decide) ?_))
        with_reducible refine nx_block_exit ?_
        repeat (with_reducible refine nx_block_normal ?_)
        with_reducible refine nx_normal ?_
        refine awp_seq_meet [(6, .bool true)] [] (fun Z hZ => ?_) ?_
        · refine sx_move rfl rfl ?_
          refine sx_move rfl rfl ?_
          refine sx_callA (cacheH g b most s) (roE A1 (icells L)) (cacheH g' b' most s2 ++ ((S ++ roE A1 (icells L)) ++ roE A2 (icells L2))) (lkeys_fn g b most s A1 c1 L hA1 hR (by omega)) rfl (HLe.comm3 _ _ _) (((List.sublist_append_right _ _).trans (List.sublist_append_left _ _)).trans (List.sublist_append_right _ _)) (Ro.roE _ _) rfl ?_
          rintro v H' ⟨rfl, rfl⟩
          refine sx_move rfl rfl ?_
          refine sx_force 93 rfl true (by simp) ?_
          refine sx_on rfl rfl rfl ?_
          refine sx_move rfl rfl ?_
          refine sx_on rfl rfl rfl ?_
          refine sx_move rfl rfl ?_
          refine sx_on rfl rfl rfl ?_
          refine sx_callA (cacheH g' b' most s2) (roE A2 (icells L2)) (cacheH g b most s ++ ((S ++ roE A1 (icells L)) ++ roE A2 (icells L2))) (lkeys_fn g' b' most s2 A2 c2 L2 hA2 hR2 (by omega)) rfl (HLe.comm3 (cacheH g b most s) (cacheH g' b' most s2) _) ((List.sublist_append_right _ _).trans (List.sublist_append_right _ _)) (Ro.roE _ _) rfl ?_
          rintro v H' ⟨rfl, rfl⟩
          refine sx_pick rfl rfl rfl ?_
          refine sx_move rfl rfl ?_
          refine sx_force 98 rfl true (by simp) ?_
          refine sx_on rfl rfl rfl ?_
          refine sx_move rfl rfl ?_
          refine sx_on rfl rfl rfl ?_
          refine sx_callA (cacheH g' b' most s2) [] (cacheH g b most s ++ ((S ++ roE A1 (icells L)) ++ roE A2 (icells L2))) (by rw [List.append_nil]; exact most_fn g' b' most s2) rfl (HLe.refl _) (List.nil_sublist _) Ro.nil rfl ?_
          rintro v H' ⟨rfl, rfl⟩
          refine sx_on rfl rfl rfl ?_
          refine sx_move rfl rfl ?_
          refine sx_on rfl rfl rfl ?_
          first | refine sx_eql rfl rfl rfl ?_ | refine sx_seql rfl rfl rfl ?_
          refine sx_pick rfl rfl rfl ?_
          refine sx_move rfl rfl ?_
          refine sx_force 104 rfl true (by simp) ?_
          refine sx_on rfl rfl rfl ?_
          refine sx_callP awake_fn rfl rfl ?_
          refine sx_pick rfl rfl rfl ?_
          refine sx_assign rfl rfl ?_
          refine sx_nil (hZ _ _ ?_ ?_)
          · exact Kn.cons rfl Kn.nil
          · exact HLe.sub (List.nil_sublist _)
        refine awp_ret ?_
        repeat (with_reducible (first | refine nx_then_ret ?_ | refine nx_block_ret ?_))
        exact nx_ret1 rfl rfl rfl
  · refine Fn.enter (N := 107) Try.func5 rfl (by kernel_rfl) rfl (fun w0 => ?_)

    refine awp_seq_region (fun Z hZ => ?_)
    refine sx_assign rfl rfl ?_
    refine sx_nil (hZ _ _ ?_)
    refine awp_forget [(0, _), (1, _), (2, _)] (Kn.cons rfl (Kn.cons rfl (Kn.cons rfl (Kn.nil)))) ?_
    refine awp_seq_region (fun Z hZ => ?_)
    refine sx_move rfl rfl ?_
    refine sx_callP (newE_fn n hn) rfl rfl ?_
    refine sx_move rfl rfl ?_
    refine sx_extract rfl rfl rfl ?_
    refine sx_extract rfl rfl rfl ?_
    refine sx_assign rfl rfl ?_
    refine sx_assign rfl rfl ?_
    refine sx_nil (hZ _ _ ?_)
    refine awp_forget [(0, _), (1, _), (2, _), (7, _), (8, _)] (Kn.cons rfl (Kn.cons rfl (Kn.cons rfl (Kn.cons rfl (Kn.cons rfl (Kn.nil)))))) ?_
    refine awp_seq ?_
    refine awp_seq_meet [(0, iq n), (1, .slice A OL.length c), (2, .slice B PL.length e), (7, .pointer none), (34, .bool true)] (T ++ S) (fun Z hZ => ?_) ?_
    · refine sx_move rfl rfl ?_
      first | refine sx_neq rfl rfl rfl ?_ | refine sx_sneq rfl rfl rfl ?_
      refine sx_move rfl rfl ?_
      refine sx_split 23 rfl (fun hb2 => ?_) (fun hb2 => ?_)
      · refine sx_off rfl rfl rfl rfl rfl ?_
        refine sx_off rfl rfl rfl rfl rfl ?_
        refine sx_pick rfl rfl rfl ?_
        refine sx_move rfl rfl ?_
        refine sx_off rfl rfl rfl rfl rfl ?_
        refine sx_off rfl rfl rfl rfl rfl ?_
        refine sx_pick rfl rfl rfl ?_
        refine sx_move rfl rfl ?_
        refine sx_off rfl rfl rfl rfl rfl ?_
        refine sx_off rfl rfl rfl rfl rfl ?_
        refine sx_pick rfl rfl rfl ?_
        refine sx_nil (hZ _ _ ?_ ?_)
        · exact Kn.cons rfl (Kn.cons rfl (Kn.cons rfl (Kn.cons rfl (Kn.cons (congrArg some (congrArg Value.bool (by first | rfl | (exfalso; simp at hb2; done) | (exfalso; cases hb2)))) Kn.nil))))
        · exact HLe.refl _
      · refine sx_on rfl rfl rfl ?_
        refine sx_move rfl rfl ?_
        refine sx_on rfl rfl rfl ?_
        refine sx_nilNil Try.underlying23 rfl rfl ?_
        refine sx_pick rfl rfl rfl ?_
        refine sx_move rfl rfl ?_
        refine sx_split 27 rfl (fun hb6 => ?_) (fun hb6 => ?_)
        · refine sx_off rfl rfl rfl rfl rfl ?_
          refine sx_off rfl rfl rfl rfl rfl ?_
          refine sx_pick rfl rfl rfl ?_
          refine sx_move rfl rfl ?_
          refine sx_off rfl rfl rfl rfl rfl ?_
          refine sx_off rfl rfl rfl rfl rfl ?_
          refine sx_pick rfl rfl rfl ?_
          refine sx_nil (hZ _ _ ?_ ?_)
          · exact Kn.cons rfl (Kn.cons rfl (Kn.cons rfl (Kn.cons rfl (Kn.cons (congrArg some (congrArg Value.bool (by first | rfl | (exfalso; simp at hb2; done) | (exfalso; cases hb2)))) Kn.nil))))
          · exact HLe.refl _
        · refine sx_on rfl rfl rfl ?_
          refine sx_move rfl rfl ?_
          refine sx_on rfl rfl rfl ?_
          refine sx_callPT T (over_fn A c OL 60 hA hL T hT) rfl (List.sublist_append_left T S) hro rfl ?_
          refine sx_pick rfl rfl rfl ?_
          refine sx_move rfl rfl ?_
          refine sx_split 31 rfl (fun hb10 => ?_) (fun hb10 => ?_)
          · refine sx_off rfl rfl rfl rfl rfl ?_
            refine sx_off rfl rfl rfl rfl rfl ?_
            refine sx_pick rfl rfl rfl ?_
            refine sx_nil (hZ _ _ ?_ ?_)
            · exact Kn.cons rfl (Kn.cons rfl (Kn.cons rfl (Kn.cons rfl (Kn.cons (congrArg some (congrArg Value.bool (by first | rfl | (exfalso; simp at hb2; done) | (exfalso; cases hb2)))) Kn.nil))))
            · exact HLe.refl _
          · refine sx_on rfl rfl rfl ?_
            refine sx_move rfl rfl ?_
            refine sx_on rfl rfl rfl ?_
            refine sx_callPT S (over_fn B e PL 60 hB hPL S hS) rfl (List.sublist_append_right T S) hroS rfl ?_
            refine sx_pick rfl rfl rfl ?_
            refine sx_nil (hZ _ _ ?_ ?_)
            · exact Kn.cons rfl (Kn.cons rfl (Kn.cons rfl (Kn.cons rfl (Kn.cons (congrArg some (congrArg Value.bool (by first | rfl | (exfalso; simp at hb2; done) | (exfalso; cases hb2)))) Kn.nil))))
            · exact HLe.refl _
    first | refine awp_cond rfl (fun h => ?_) (fun h => ?_) | refine awp_seq (awp_cond rfl (fun h => ?_) (fun h => ?_))
    · refine awp_seq_meet [(6, .bool true)] [] (fun Z hZ => ?_) ?_
      · refine sx_move rfl rfl ?_
        refine sx_nilNeNil Try.underlying23 rfl rfl ?_
        refine sx_move rfl rfl ?_
        refine sx_split 37 rfl (fun hb2 => ?_) (fun hb2 => ?_)
        · refine sx_off rfl rfl rfl rfl rfl ?_
          refine sx_off rfl rfl rfl rfl rfl ?_
          refine sx_pick rfl rfl rfl ?_
          refine sx_move rfl rfl ?_
          refine sx_off rfl rfl rfl rfl rfl ?_
          refine sx_off rfl rfl rfl rfl rfl ?_
          refine sx_pick rfl rfl rfl ?_
          refine sx_move rfl rfl ?_
          refine sx_on rfl rfl rfl ?_
          refine sx_callP awake_fn rfl rfl ?_
          refine sx_pick rfl rfl rfl ?_
          refine sx_assign rfl rfl ?_
          refine sx_nil (hZ _ _ ?_ ?_)
          · exact Kn.cons (congrArg some (congrArg Value.bool (by first | rfl | (simp at *; omega)))) Kn.nil
          · exact HLe.sub (List.nil_sublist _)
        · refine sx_on rfl rfl rfl ?_
          refine sx_move rfl rfl ?_
          refine sx_on rfl rfl rfl ?_
          first | refine sx_lss rfl rfl rfl ?_ | refine sx_slss rfl rfl rfl ?_
          refine sx_pick rfl rfl rfl ?_
          refine sx_move rfl rfl ?_
          refine sx_split 41 rfl (fun hb6 => ?_) (fun hb6 => ?_)
          · refine sx_off rfl rfl rfl rfl rfl ?_
            refine sx_off rfl rfl rfl rfl rfl ?_
            refine sx_pick rfl rfl rfl ?_
            refine sx_move rfl rfl ?_
            refine sx_on rfl rfl rfl ?_
            refine sx_callP awake_fn rfl rfl ?_
            refine sx_pick rfl rfl rfl ?_
            refine sx_assign rfl rfl ?_
            refine sx_nil (hZ _ _ ?_ ?_)
            · exact Kn.cons (congrArg some (congrArg Value.bool (by first | rfl | (simp at *; omega)))) Kn.nil
            · exact HLe.sub (List.nil_sublist _)
          · refine sx_on rfl rfl rfl ?_
            refine sx_move rfl rfl ?_
            refine sx_on rfl rfl rfl ?_
            first | refine sx_gtr rfl rfl rfl ?_ | refine sx_sgtr rfl rfl rfl ?_
            refine sx_pick rfl rfl rfl ?_
            refine sx_move rfl rfl ?_
            refine sx_split 45 rfl (fun hb10 => ?_) (fun hb10 => ?_)
            · refine sx_on rfl rfl rfl ?_
              refine sx_callP awake_fn rfl rfl ?_
              refine sx_pick rfl rfl rfl ?_
              refine sx_assign rfl rfl ?_
              refine sx_nil (hZ _ _ ?_ ?_)
              · exact Kn.cons (congrArg some (congrArg Value.bool (by first | rfl | (simp at *; omega)))) Kn.nil
              · exact HLe.sub (List.nil_sublist _)
            · refine sx_off rfl rfl rfl rfl rfl ?_
              refine sx_pick rfl rfl rfl ?_
              refine sx_assign rfl rfl ?_
              refine sx_nil (hZ _ _ ?_ ?_)
              · exact Kn.cons (congrArg some (congrArg Value.bool (by first | rfl | (simp at *; omega)))) Kn.nil
              · exact HLe.sub (List.nil_sublist _)
      refine awp_ret ?_
      repeat (with_reducible (first | refine nx_then_ret ?_ | refine nx_block_ret ?_))
      exact nx_ret1 rfl rfl rfl
    · cases h
theorem LruForks_read {H : Type} {enc : TypeId × Value → H} (w : World) {base : Nat} {v0 v1 v2 : Value} {d0 d1 d2 : DataW H} {p0 p1 p2 : List MemPlace}
    (k0 : Value.okWide Try.prog w .any base 3 v0) (h0 : DataW.Trod enc Try.prog w 0 (fun _ => true) true 3 v0 d0 p0)
    (k1 : Value.okWide Try.prog w .any base 22 v1) (h1 : DataW.Trod enc Try.prog w 0 (fun _ => true) true 22 v1 d1 p1)
    (k2 : Value.okWide Try.prog w .any base 22 v2) (h2 : DataW.Trod enc Try.prog w 0 (fun _ => true) true 22 v2 d2 p2) :
    Calls Try.prog 5 #[v0, v1, v2] w fun e w' => e = .returned (.bool true) ∧ Bel w w' := by
  obtain ⟨n, rfl, _, _, hn⟩ := ChangeShapes.open_int Try.underlying3 k0 h0
  obtain ⟨A, c, OL, T, rfl, hA, hL, hO, hT, hro, hS⟩ := open_ops k1 h1
  obtain ⟨B, e, PL, S, rfl, hB, hPL, hP, hS', hroS, hSS⟩ := open_ops k2 h2
  refine tail_bel (hro.append hroS) ?_ (forks_fn n A c OL hA hL hO T hT hro B e PL hB hPL hP S hS' hroS)
  exact ⟨Only.refl _ _, fun x hx => (List.mem_append.1 hx).elim (hS.ents x) (hSS.ents x), List.pairwise_append.2 ⟨hS.sep, hSS.sep, fun a ha b hb hw => by rw [hro a ha, hroS b hb] at hw; cases hw⟩⟩
namespace lruForks
open Go.ChangeShapes Go.WideShapes Go.ChangeAt Go.RowKit
theorem own : ownKnob Try.prog.godebug = none := by kernel_rfl
theorem laidOut : laidOutB Try.prog = true := by kernel_rfl
set_option maxRecDepth 100000 in
theorem lifted (os : Os) (started : os.Started) (H : Type) (enc : TypeId × Value → H) :
    ReturnsInHanded {} Try.checked os 5 .any (Rows.lruForksSpec.pre6 enc Try.prog Try.f5 Rows.lruForksRow.domain false) (Rows.lruForksSpec.post enc Try.prog Try.f5 false true false false) := by
  refine returnsInHanded_of_change (C := Try.checked) own started (by kernel_rfl) Try.func5
    (ChangeSpec.witness6 (enc := enc) (C := Try.checked) false ⟨#[], #[.int .i64 0, .slice none 0 0, .slice none 0 0], []⟩ 8 (by kernel_rfl) (by kernel_rfl) (by kernel_rfl) (by kernel_rfl)) ?_
  intro W base args ds gs before hval0 hW hcnd _
  have hval : ∀ (j : Nat) t v, Try.f5.params[j]? = some t → args[j]? = some v → Value.okWide Try.prog W .any base t v := hval0
  have hW' := hW
  obtain ⟨p, q, hA0, hV, rfl, hfz, hnd⟩ := hW
  have hA : DataW.TrodAll enc Try.prog W 0 (fun _ => true) true Try.f5.params.toList args.toList ds p := hA0
  rw [Try.params5] at hA hval
  obtain ⟨v0, vs0, d0, ds0, p0, q0, hargs, rfl, rfl, h0, r0⟩ := trodAll_cons hA
  obtain ⟨v1, vs1, d1, ds1, p1, q1, rfl, rfl, rfl, h1, r1⟩ := trodAll_cons r0
  obtain ⟨v2, vs2, d2, ds2, p2, q2, rfl, rfl, rfl, h2, r2⟩ := trodAll_cons r1
  obtain ⟨rfl, rfl, rfl⟩ := trodAll_nil r2
  obtain rfl : args = #[v0, v1, v2] := by cases args; simp_all
  obtain ⟨rfl, rfl⟩ := trodVars_none hV
  have lt0 : ∀ x ∈ p0, x.block < W.heap.size := by obtain ⟨m, hm⟩ := h0; exact DataW.trod_lt m _ _ _ hm
  have lt1 : ∀ x ∈ p1, x.block < W.heap.size := by obtain ⟨m, hm⟩ := h1; exact DataW.trod_lt m _ _ _ hm
  have lt2 : ∀ x ∈ p2, x.block < W.heap.size := by obtain ⟨m, hm⟩ := h2; exact DataW.trod_lt m _ _ _ hm
  refine (LruForks_read W (hval 0 3 v0 rfl rfl) h0 (hval 1 22 v1 rfl rfl) h1 (hval 2 22 v2 rfl rfl) h2).mono fun e W' ⟨he, bel0⟩ => ?_
  have bel : Below W.heap.size W W' := bel0
  subst he
  exact ⟨_, rfl, _, _, _, [], _, [], hW', trodAll_mk1 (shut_bool Try.underlying4 _), (trodAll_cons_mk (Below.trod laidOut (by kernel_rfl) (of_decide_eq_true (by kernel_rfl)) h0 bel lt0) (trodAll_cons_mk (Below.trod laidOut (by kernel_rfl) (of_decide_eq_true (by kernel_rfl)) h1 bel lt1) (trodAll_cons_mk (Below.trod laidOut (by kernel_rfl) (of_decide_eq_true (by kernel_rfl)) h2 bel lt2) trodAll_mk0))), rfl, bel.frame _, fun h => by cases h⟩
theorem over : Rows.lruForksRow.holds Try.pinned (OpenSpec.ofChange Rows.lruForksSpec) :=
  OpenClaim.holds_of_wide 5 Try.f5 rfl rfl rfl rfl rfl rfl rfl ⟨rfl, rfl, rfl, rfl, rfl⟩ rfl rfl rfl rfl rfl (by kernel_rfl) Try.func5 (by kernel_rfl)
    (of_decide_eq_true (by kernel_rfl)) (by unfold Func.isWrapper; first | (rw [if_pos (by decide +kernel)]; kernel_rfl) | (rw [if_neg (by decide +kernel)]; exact ⟨rfl, rfl⟩))
    (fun os started H enc _ => lifted os started H enc)
theorem proved : Rows.LruForksSaid := over
#print axioms proved
end lruForks
end Go.Proofs.Ytoadkdlhbmmdlaa
