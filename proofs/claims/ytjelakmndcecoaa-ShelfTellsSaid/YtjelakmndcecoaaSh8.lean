/- The walks of the laws' helpers of shelf: SameKeys, alike, over. No conditions but of lengths. -/
import Derived.Test.YtjelakmndcecoaaSh7
namespace Go.Proofs.Ytjelakmndcecoaa
open Go.RowKit
set_option linter.unusedVariables false
set_option linter.unusedSimpArgs false
set_option maxRecDepth 100000
/-- The keys of the document's items, as cells. -/
abbrev xkeys (X : List Item) : List Value := X.flatMap fun x => [uq x.1.1, uq x.1.2]
theorem xkeys_eq {L : List LI.Item} {tx : Nat → List UInt8} {X : List Item} (h : X = L.map fun x => (x.1, tx x.2)) : xkeys X = LI.kcells L := by
  subst h
  unfold xkeys LI.kcells
  rw [List.flatMap_map]
  rfl
theorem samekeys_fn (A : Option Addr) (c : Nat) (E : Option Addr) (d : Nat) (X : List Item) (hA : SlOk A X.length) (hE : SlOk E X.length) (hX : X.length ≤ 100000) :
    Fn Try.prog 27 [.slice A X.length c, .slice E X.length d] (roE A (xkeys X) ++ roE E (xkeys X)) fun v _ => v = .bool true := by
  have hkl : ∀ x : Item, [uq x.1.1, uq x.1.2].length = 2 := fun _ => rfl
  refine Fn.enter (N := 26) Try.func27 rfl (by kernel_rfl) rfl (fun w0 => ?_)

  refine awp_seq_region (fun Z hZ => ?_)
  refine sx_assign rfl rfl ?_
  refine sx_nil (hZ _ _ ?_)
  refine awp_forget [(0, _), (1, _)] (Kn.cons rfl (Kn.cons rfl (Kn.nil))) ?_
  refine awp_seq ?_
  refine awp_seq_region (fun Z hZ => ?_)
  refine sx_move rfl rfl ?_
  first | refine sx_len Try.underlying42 rfl rfl ?_ | refine sx_lenS Try.underlying42 rfl rfl ?_
  refine sx_move rfl rfl ?_
  first | refine sx_len Try.underlying74 rfl rfl ?_ | refine sx_lenS Try.underlying74 rfl rfl ?_
  first | refine sx_neq rfl rfl rfl ?_ | refine sx_sneq rfl rfl rfl ?_
  refine sx_nil (hZ _ _ ?_)
  refine awp_forget [(0, _), (1, _), (10, _)] (Kn.cons rfl (Kn.cons rfl (Kn.cons rfl (Kn.nil)))) ?_
  first | refine awp_cond rfl (fun h => ?_) (fun h => ?_) | refine awp_seq (awp_cond rfl (fun h => ?_) (fun h => ?_))
  · simp at h
  refine awp_skip ?_
  repeat (with_reducible (first | refine nx_block_normal ?_ | refine nx_scope_normal ?_))
  with_reducible first | refine nx_normal ?_ | refine nx_normalM ?_
  refine awp_seq ?_
  refine awp_seq_region (fun Z hZ => ?_)
  refine sx_assign rfl rfl ?_
  refine sx_nil (hZ _ _ ?_)
  refine awp_forget [(0, _), (1, _), (5, _)] (Kn.cons rfl (Kn.cons rfl (Kn.cons rfl (Kn.nil)))) ?_
  refine awp_block ?_
  refine awp_loop (ι := Nat) (fun i => [(0, .slice A X.length c), (1, .slice E X.length d), (5, iq (i : Nat))]) (fun i => roE A (xkeys X) ++ roE E (xkeys X))
    (fun i => i ≤ X.length) (fun i => X.length - i) 0 (by omega) (Kn.cons rfl (Kn.cons rfl (Kn.cons rfl Kn.nil))) (HLe.refl _) ?_
  intro i hi
  refine awp_seq ?_
  refine awp_seq_region (fun Z hZ => ?_)
  refine sx_move rfl rfl ?_
  refine sx_move rfl rfl ?_
  first | refine sx_len Try.underlying42 rfl rfl ?_ | refine sx_lenS Try.underlying42 rfl rfl ?_
  first | refine sx_lss rfl rfl rfl ?_ | refine sx_slss rfl rfl rfl ?_
  refine sx_nil (hZ _ _ ?_)
  refine awp_forget [(0, _), (1, _), (5, _), (14, _)] (Kn.cons rfl (Kn.cons rfl (Kn.cons rfl (Kn.cons rfl (Kn.nil))))) ?_
  first | refine awp_cond rfl (fun h => ?_) (fun h => ?_) | refine awp_seq (awp_cond rfl (fun h => ?_) (fun h => ?_))
  · have hlt : i < X.length := by simpa using h
    obtain ⟨x, hx⟩ : ∃ x, X[i]? = some x := ⟨_, List.getElem?_eq_getElem hlt⟩
    obtain ⟨g, o, rfl⟩ := hA.some (by omega)
    obtain ⟨g', o', rfl⟩ := hE.some (by omega)
    have hrd : rdV true 2 (xkeys X) (i * 2) = some (.agg #[uq x.1.1, uq x.1.2]) := fm_rd hkl hx
    refine awp_skip ?_
    repeat (with_reducible (first | refine nx_block_normal ?_ | refine nx_scope_normal ?_))
    with_reducible first | refine nx_normal ?_ | refine nx_normalM ?_
    refine awp_seq (awp_block ?_)

    refine awq_seq_region mixed (by kernel_rfl) (fun Z hZ => ?_)
    refine sq_move rfl rfl ?_
    refine sq_move rfl rfl ?_
    refine sq_indexAddr (o + i * 2) Try.underlying42 tyS47 rfl rfl (by omega) (by simp) rfl ?_
    refine sq_loadRo 0 rfl rfl (i * 2) rfl tyA47 tyS47 hrd rfl ?_
    refine sq_move rfl rfl ?_
    refine sq_move rfl rfl ?_
    refine sq_indexAddr (o' + i * 2) Try.underlying74 tyS37 rfl rfl (by omega) (by simp) rfl ?_
    refine sq_loadRo 1 rfl rfl (i * 2) rfl tyA37 tyS37 hrd rfl ?_
    refine sq_aneq (key_eqR x.1 x.1) guard_keyR rfl rfl rfl ?_
    refine sq_nil (hZ _ _ ?_)
    refine awp_forget [(0, _), (1, _), (5, _), (25, _)] (Kn.cons rfl (Kn.cons rfl (Kn.cons rfl (Kn.cons rfl (Kn.nil))))) ?_
    first | refine awp_cond rfl (fun hf => ?_) (fun hf => ?_) | refine awp_seq (awp_cond rfl (fun hf => ?_) (fun hf => ?_))
    · simp [keq] at hf
    refine awp_skip ?_
    repeat (with_reducible (first | refine nx_block_normal ?_ | refine nx_scope_normal ?_))
    with_reducible first | refine nx_normal ?_ | refine nx_normalM ?_
    refine awp_region (fun Z hZ => ?_)
    refine sx_move rfl rfl ?_
    refine sx_add rfl rfl ((i + 1 : Nat) : Int) (by rw [IntWalk.i64_in _ (by omega)]; omega) rfl ?_
    refine sx_assign rfl rfl ?_
    refine sx_nil (hZ _ _ ?_)
    refine nx_forget [(0, _), (1, _), (5, _)] (Kn.cons rfl (Kn.cons rfl (Kn.cons rfl (Kn.nil)))) ?_
    exact nx_round (i + 1) (by omega) (by omega) (Kn.cons rfl (Kn.cons rfl (Kn.cons rfl Kn.nil))) (HLe.refl _)
  · refine awp_exit ?_
    repeat (with_reducible (first | refine nx_then_exit ?_ | refine nx_block_other (by decide) ?_ | refine nx_scope_exit ?_))
    with_reducible refine nx_block_exit ?_
    repeat (with_reducible (first | refine nx_block_normal ?_ | refine nx_scope_normal ?_))
    with_reducible first | refine nx_normal ?_ | refine nx_normalM ?_
    refine awp_seq_region (fun Z hZ => ?_)
    refine sx_assign rfl rfl ?_
    refine sx_nil (hZ _ _ ?_)
    refine awp_forget [(4, _)] (Kn.cons rfl (Kn.nil)) ?_
    refine awp_ret ?_
    repeat (with_reducible (first | refine nx_then_ret ?_ | refine nx_block_ret ?_ | refine nx_scope_ret ?_))
    exact nx_ret1 rfl rfl rfl
theorem alike_fn (B : Bk) (most : Nat) (S : Sh) (X : List Item) (T : Heap) (A : Option Addr) (c : Nat) (hS : ShIs most S X T) (hm : most ≤ 64) (hA : SlOk A X.length) :
    Fn Try.prog 11 [ptr B.g 0, .agg (rsV most A X.length c S.hi S.mi).toArray] (shH B most S ++ roE A (tcells X)) fun v H' => v = .bool true ∧ H' = shH B most S := by
  obtain ⟨L, tx, hS⟩ := hS
  have hll := hS.len
  have hxl := hS.xlen
  have hkx := xkeys_eq hS.val
  have hkeys := shkeys_fn B most S L hS.rep (by omega)
  have hlen := shlen_fn B most S L hS.rep
  rw [← hxl] at hkeys hlen
  rw [← hkx] at hkeys
  refine Fn.enter (N := 37) Try.func11 rfl (by kernel_rfl) rfl (fun w0 => ?_)

  refine awp_seq_region (fun Z hZ => ?_)
  refine sx_box rfl rfl rfl (fun g1 => ?_)
  refine sx_assign rfl rfl ?_
  refine sx_nil (hZ _ _ ?_)
  refine awp_forget [(0, _), (3, _)] (Kn.cons rfl (Kn.cons rfl (Kn.nil))) ?_
  refine awp_heap (shH B most S ++ (.own g1 32 (rsV most A X.length c S.hi S.mi) :: roE A (tcells X))) (fun _ _ _ hw => hw.perm (List.Perm.append_right _ (List.perm_append_comm (l₁ := [_]) (l₂ := [_, _, _, _])))) ?_
  refine awp_seq_region (fun Z hZ => ?_)
  refine sx_move rfl rfl ?_
  refine sx_callA (shH B most S) [] (_ :: roE A (tcells X)) (by rw [List.append_nil]; exact shhits_fn B most S) rfl (HLe.refl _) (List.nil_sublist _) Ro.nil rfl ?_
  rintro v H' ⟨rfl, rfl⟩
  refine sx_heap (shH B most S ++ (_ :: roE A (tcells X))) (HLe.refl _) ?_
  refine sx_move rfl rfl ?_
  refine sx_extract rfl rfl rfl ?_
  refine sx_extract rfl rfl rfl ?_
  refine sx_assign rfl rfl ?_
  refine sx_assign rfl rfl ?_
  refine sx_nil (hZ _ _ ?_)
  refine awp_forget [(0, _), (3, _), (5, _), (6, _)] (Kn.cons rfl (Kn.cons rfl (Kn.cons rfl (Kn.cons rfl (Kn.nil))))) ?_

  refine awr_seq_region (fun _ : Unit => [(4, .bool true)]) (fun _ => shH B most S) (fun _ => True) _ [1, 3, 4, 7] (Tr.step (0, true) (Tr.step (2, true) (Tr.step (1, false) (Tr.step (3, false) (Tr.step (4, false) (Tr.step (5, true) (Tr.step (6, true) (Tr.step (8, true) (Tr.step (9, true) (Tr.step (10, true) (Tr.step (7, false) (Tr.step (11, true) (Tr.step (12, true) (Tr.step (13, true) (Tr.step (14, true) (Tr.step (15, true) (Tr.step (16, true) (Tr.step (17, true) (Tr.step (18, true) (Tr.step (19, true) (Tr.step (20, true) (Tr.step (21, true) (Tr.step (22, true) (Tr.step (23, true) (Tr.step (24, true) (Tr.step (25, true) Tr.nil)))))))))))))))))))))))))) mixed (by kernel_rfl) (HLe.pick [4] (by simp) (by simp only [pick, List.filterMap_cons, List.filterMap_nil, List.getElem?_cons_succ, List.getElem?_cons_zero]; rfl)) ?_ ?_
  · refine tt_p rfl ?_
    refine sv_move rfl rfl ?_
    refine sv_nil ?_
    refine tt_p rfl ?_
    first | refine sv_loadA 0 rfl rfl tyA32 tyS32 (by first | (simp only [List.length_cons, List.length_nil, Nat.reduceAdd, Nat.zero_add, Nat.add_zero]; first | done | rfl) | rfl) (by first | (simp only [List.take_succ_cons, List.take_zero, List.drop_succ_cons, List.drop_zero, List.cons_append, List.nil_append, List.append_nil, List.length_cons, List.length_nil, Nat.reduceAdd, Nat.zero_add, Nat.add_zero, Value.cells, wrV]; first | done | rfl) | rfl) rfl ?_
    refine sv_nil ?_
    refine tt_g rfl ?_
    refine sx_callA (shH B most S) [] (_ :: roE A (tcells X)) (by rw [List.append_nil]; exact hkeys) rfl (HLe.refl _) (List.nil_sublist _) Ro.nil rfl ?_
    rintro v H' ⟨hv, rfl⟩
    rw [List.filter_append, clipE_wr, List.append_assoc]
    obtain ⟨Ak, ck, rfl, hAk⟩ := hv.form
    refine sx_heap (shH B most S ++ (.own g1 32 (rsV most A X.length c S.hi S.mi) :: (roE A (tcells X) ++ roE Ak (xkeys X)))) ((HLe.swap (roE Ak (xkeys X)) (shH B most S ++ (_ :: roE A (tcells X)))).trans (clip_roE (shH B most S ++ (_ :: roE A (tcells X))) hv)) ?_
    refine sx_nil ⟨HLe.pick [4] (by simp) rfl, ?_⟩
    refine tt_g rfl ?_
    refine sx_callVU (roE A (tcells X)) (rskeys_fn A c most S.hi S.mi X hA (by omega)) rfl (HLe.sub ((List.sublist_append_left (roE A (tcells X)) _).trans (List.sublist_append_right [_, _, _, _, _] _))) (Ro.roE _ _) rfl ?_
    rintro v H' ⟨hv2, rfl⟩
    rw [rowE_flt]
    obtain ⟨A2, c2, rfl, hA2, hle2⟩ := hv2.ro
    refine sx_heap (shH B most S ++ (.own g1 32 (rsV most A X.length c S.hi S.mi) :: ((roE A (tcells X) ++ roE Ak (xkeys X)) ++ roE A2 (xkeys X)))) ((HLe.swap (roE A2 (xkeys X)) (shH B most S ++ (_ :: (roE A (tcells X) ++ roE Ak (xkeys X))))).trans (hle2 [] (shH B most S ++ (_ :: (roE A (tcells X) ++ roE Ak (xkeys X)))) _ _ _)) ?_
    refine sx_nil ⟨HLe.pick [4] (by simp) rfl, ?_⟩
    refine tt_g rfl ?_
    refine sx_callPT (roE Ak (xkeys X) ++ roE A2 (xkeys X)) (samekeys_fn Ak ck A2 c2 X hAk hA2 (by omega)) rfl ((List.Sublist.append_right (List.sublist_append_right (roE A (tcells X)) _) _).trans (List.sublist_append_right [_, _, _, _, _] _)) ((Ro.roE _ _).append (Ro.roE _ _)) rfl ?_
    refine sx_nil ⟨HLe.pick [4] (by simp) rfl, ?_⟩
    refine tt_p rfl ?_
    refine sv_move rfl rfl ?_
    refine sv_nil ?_
    refine tt_force 17 rfl true (by first | rfl | (simp; done) | (simp; omega) | (simp [hF]; done)) ?_
    refine tt_p rfl ?_
    refine sv_on rfl rfl rfl ?_
    refine sv_move rfl rfl ?_
    refine sv_nil ?_
    refine tt_p rfl ?_
    refine sv_on rfl rfl rfl ?_
    refine sv_fieldAddr rfl tyF32_1 (by first | (simp only [Nat.reduceAdd, Nat.add_zero, Nat.zero_add]; first | done | rfl) | rfl) rfl ?_
    refine sv_nil ?_
    refine tt_p rfl ?_
    refine sv_on rfl rfl rfl ?_
    first | refine sv_load 0 rfl rfl tyA30 tyS30 rfl rfl ?_
    refine sv_nil ?_
    refine tt_p rfl ?_
    refine sv_on rfl rfl rfl ?_
    first | refine sv_len Try.underlying30 rfl rfl ?_ | refine sv_lenS Try.underlying30 rfl rfl ?_
    refine sv_nil ?_
    refine tt_g rfl ?_
    refine sx_on rfl rfl rfl ?_
    refine sx_callA (shH B most S) [] (_ :: ((roE A (tcells X) ++ roE Ak (xkeys X)) ++ roE A2 (xkeys X))) (by rw [List.append_nil]; exact hlen) rfl (HLe.refl _) (List.nil_sublist _) Ro.nil rfl ?_
    rintro v H' ⟨rfl, rfl⟩
    refine sx_heap (shH B most S ++ (_ :: ((roE A (tcells X) ++ roE Ak (xkeys X)) ++ roE A2 (xkeys X)))) (HLe.refl _) ?_
    refine sx_nil ⟨HLe.pick [4] (by simp) rfl, ?_⟩
    refine tt_p rfl ?_
    refine sv_on rfl rfl rfl ?_
    first | refine sv_eql rfl rfl rfl ?_ | refine sv_seql rfl rfl rfl ?_
    refine sv_nil ?_
    refine tt_p rfl ?_
    refine sv_pick rfl rfl rfl ?_
    refine sv_nil ?_
    refine tt_p rfl ?_
    refine sv_move rfl rfl ?_
    refine sv_nil ?_
    refine tt_force 25 rfl true (by first | rfl | (simp; done) | (simp; omega) | (simp [hF]; done)) ?_
    refine tt_p rfl ?_
    refine sv_on rfl rfl rfl ?_
    refine sv_move rfl rfl ?_
    refine sv_nil ?_
    refine tt_p rfl ?_
    refine sv_on rfl rfl rfl ?_
    refine sv_fieldAddr rfl tyF32_2 (by first | (simp only [Nat.reduceAdd, Nat.add_zero, Nat.zero_add]; first | done | rfl) | rfl) rfl ?_
    refine sv_nil ?_
    refine tt_p rfl ?_
    refine sv_on rfl rfl rfl ?_
    first | refine sv_load 0 rfl rfl tyA3 tyS3 rfl rfl ?_
    refine sv_nil ?_
    refine tt_p rfl ?_
    refine sv_on rfl rfl rfl ?_
    first | refine sv_eql rfl rfl rfl ?_ | refine sv_seql rfl rfl rfl ?_
    refine sv_nil ?_
    refine tt_p rfl ?_
    refine sv_pick rfl rfl rfl ?_
    refine sv_nil ?_
    refine tt_p rfl ?_
    refine sv_move rfl rfl ?_
    refine sv_nil ?_
    refine tt_force 31 rfl true (by first | rfl | (simp; done) | (simp; omega) | (simp [hF]; done)) ?_
    refine tt_p rfl ?_
    refine sv_on rfl rfl rfl ?_
    refine sv_move rfl rfl ?_
    refine sv_nil ?_
    refine tt_p rfl ?_
    refine sv_on rfl rfl rfl ?_
    refine sv_fieldAddr rfl tyF32_3 (by first | (simp only [Nat.reduceAdd, Nat.add_zero, Nat.zero_add]; first | done | rfl) | rfl) rfl ?_
    refine sv_nil ?_
    refine tt_p rfl ?_
    refine sv_on rfl rfl rfl ?_
    first | refine sv_load 0 rfl rfl tyA3 tyS3 rfl rfl ?_
    refine sv_nil ?_
    refine tt_p rfl ?_
    refine sv_on rfl rfl rfl ?_
    first | refine sv_eql rfl rfl rfl ?_ | refine sv_seql rfl rfl rfl ?_
    refine sv_nil ?_
    refine tt_p rfl ?_
    refine sv_pick rfl rfl rfl ?_
    refine sv_nil ?_
    refine tt_p rfl ?_
    refine sv_assign rfl rfl ?_
    refine sv_nil ?_
    refine tt_nil ?_
    exact ⟨(), trivial, Kn.cons (congrArg some (congrArg Value.bool (by simp))) Kn.nil, HLe.sub (List.sublist_append_left [_, _, _, _] _)⟩
  rintro - -
  refine awp_ret ?_
  repeat (with_reducible (first | refine nx_then_ret ?_ | refine nx_block_ret ?_ | refine nx_scope_ret ?_))
  exact nx_ret1 rfl rfl ⟨rfl, rfl⟩
end Go.Proofs.Ytjelakmndcecoaa
