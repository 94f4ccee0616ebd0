/- The walks of the laws' helpers of lru: keys. Conditions: the lists are not too long. -/
import Derived.Test.YtoadkdlhbmmdlaaLr7
namespace Go.Proofs.Ytoadkdlhbmmdlaa
open Go.RowKit
set_option linter.unusedVariables false
set_option linter.unusedSimpArgs false
theorem clip_roE {e : TypeId} {size n c : Nat} {xs : List Value} {A : Option Addr} (H : Heap) (hv : RowOk (.slice A n c) n) : HLe (roE A xs ++ H) (clipE (.slice A n c) e size xs ++ H) := by
  rcases hv with ⟨h, rfl⟩ | ⟨g, c', h⟩
  · injection h with h1; subst h1
    exact HLe.refl _
  · injection h with h1; subst h1
    exact clip_ro H
theorem HLe.comm3 (A B C : Heap) : HLe (B ++ (A ++ C)) (A ++ (B ++ C)) := fun _ _ _ hw => hw.perm (List.perm_append_comm_assoc A B C)
theorem Rep.item {s : CS} {L : List Item} (h : Rep s L) {i : Nat} {x : Item} (hx : L[i]? = some x) : valK L x.1 = x.2 ∧ hasK L x.1 = true := by
  have hk : hasK L x.1 = true := hasK_iff.2 ⟨i, x.2, hx⟩
  exact ⟨(h.val hk).1.symm.trans (h.nd_v hx), hk⟩
theorem lkeys_fn (g b most : Nat) (s : CS) (A : Option Addr) (c : Nat) (L : List Item) (hA : SlOk A L.length) (hR : Rep s L) (hL : L.length ≤ 1000) :
    Fn Try.prog 16 [ptr g 0, .slice A L.length c] (cacheH g b most s ++ roE A (icells L)) fun v H' => v = .bool true ∧ H' = cacheH g b most s := by
  have hlen := hR.len
  refine Fn.enter (N := 68) Try.func16 rfl (by kernel_rfl) rfl (fun w0 => ?_)

  refine awp_seq_region (fun Z hZ => ?_)
  refine sx_assign rfl rfl ?_
  refine sx_nil (hZ _ _ ?_)
  refine awp_forget [(0, _), (1, _)] (Kn.cons rfl (Kn.cons rfl (Kn.nil))) ?_
  refine awp_seq_region (fun Z hZ => ?_)
  refine sx_move rfl rfl ?_
  refine sx_callT [0, 1] [] (roE A (icells L)) [] (by rw [List.append_nil]; exact keys_fn g b most s L hR hL) rfl rfl (by simp) (List.sublist_append_right [_, _] _) (Ro.roE _ _) (List.nil_sublist _) Ro.nil rfl ?_
  rintro v H' ⟨hv, rfl⟩
  rw [List.filter_append, clipE_wr, List.append_assoc]
  obtain ⟨Ak, ck, rfl, hAk⟩ := hv.form
  refine sx_heap (cacheH g b most s ++ (roE Ak (kcells L) ++ roE A (icells L))) (HLe.trans (HLe.comm3 _ _ _) (clip_roE (cacheH g b most s ++ roE A (icells L)) hv)) ?_
  refine sx_assign rfl rfl ?_
  refine sx_nil (hZ _ _ ?_)
  refine awp_forget [(0, _), (1, _), (5, _)] (Kn.cons rfl (Kn.cons rfl (Kn.cons rfl (Kn.nil)))) ?_
  refine awp_seq ?_
  refine awp_seq_region (fun Z hZ => ?_)
  refine sx_assign rfl rfl ?_
  refine sx_nil (hZ _ _ ?_)
  refine awp_forget [(0, _), (1, _), (5, _), (6, _)] (Kn.cons rfl (Kn.cons rfl (Kn.cons rfl (Kn.cons rfl (Kn.nil))))) ?_
  refine awp_block ?_
  refine awp_loop (ι := Nat) (fun i => [(0, ptr g 0), (1, .slice A L.length c), (5, .slice Ak L.length ck), (6, iq (i : Nat))]) (fun i => cacheH g b most s ++ (roE Ak (kcells L) ++ roE A (icells L)))
    (fun i => i ≤ L.length) (fun i => L.length - i) 0 (by omega) (Kn.cons rfl (Kn.cons rfl (Kn.cons rfl (Kn.cons rfl Kn.nil)))) (HLe.refl _) ?_
  intro i hi

  refine awp_seq ?_
  refine awp_seq_meet [(0, ptr g 0), (1, .slice A L.length c), (5, .slice Ak L.length ck), (6, iq (i : Nat)), (21, .bool (decide (i < L.length)))] (cacheH g b most s ++ (roE Ak (kcells L) ++ roE A (icells L))) (fun Z hZ => ?_) ?_
  · refine sx_move rfl rfl ?_
    refine sx_move rfl rfl ?_
    first | refine sx_len Try.underlying43 rfl rfl ?_ | refine sx_lenS Try.underlying43 rfl rfl ?_
    first | refine sx_lss rfl rfl rfl ?_ | refine sx_slss rfl rfl rfl ?_
    refine sx_move rfl rfl ?_
    refine sx_split 15 rfl (fun hb4 => ?_) (fun hb4 => ?_)
    · refine sx_on rfl rfl rfl ?_
      refine sx_move rfl rfl ?_
      refine sx_on rfl rfl rfl ?_
      first | refine sx_len Try.underlying40 rfl rfl ?_ | refine sx_lenS Try.underlying40 rfl rfl ?_
      refine sx_on rfl rfl rfl ?_
      refine sx_move rfl rfl ?_
      refine sx_on rfl rfl rfl ?_
      first | refine sx_len Try.underlying43 rfl rfl ?_ | refine sx_lenS Try.underlying43 rfl rfl ?_
      refine sx_on rfl rfl rfl ?_
      first | refine sx_eql rfl rfl rfl ?_ | refine sx_seql rfl rfl rfl ?_
      refine sx_pick rfl rfl rfl ?_
      refine sx_nil (hZ _ _ ?_ ?_)
      · exact Kn.cons rfl (Kn.cons rfl (Kn.cons rfl (Kn.cons rfl (Kn.cons (congrArg some (congrArg Value.bool (by simp at hb4 ⊢; omega))) Kn.nil))))
      · exact HLe.refl _
    · refine sx_off rfl rfl rfl rfl rfl ?_
      refine sx_off rfl rfl rfl rfl rfl ?_
      refine sx_off rfl rfl rfl rfl rfl ?_
      refine sx_off rfl rfl rfl rfl rfl ?_
      refine sx_off rfl rfl rfl rfl rfl ?_
      refine sx_pick rfl rfl rfl ?_
      refine sx_nil (hZ _ _ ?_ ?_)
      · exact Kn.cons rfl (Kn.cons rfl (Kn.cons rfl (Kn.cons rfl (Kn.cons (congrArg some (congrArg Value.bool (by simp at hb4 ⊢; omega))) Kn.nil))))
      · exact HLe.refl _
  first | refine awp_cond rfl (fun h => ?_) (fun h => ?_) | refine awp_seq (awp_cond rfl (fun h => ?_) (fun h => ?_))
  · have hlt : i < L.length := by simpa using h
    obtain ⟨x, hx⟩ : ∃ x, L[i]? = some x := ⟨_, List.getElem?_eq_getElem hlt⟩
    obtain ⟨hval, hk⟩ := hR.item hx
    obtain ⟨ga, o, rfl⟩ := hA.some (by omega)
    obtain ⟨gk, ok, rfl⟩ := hAk.some (by omega)
    have hrk : rdV true 2 (kcells L) (i * 2) = some (.agg #[uq x.1.1, uq x.1.2]) := fm_rd kcell_len hx
    refine awp_skip ?_
    repeat (with_reducible refine nx_block_normal ?_)
    with_reducible refine nx_normal ?_
    refine awp_seq (awp_block ?_)

    refine awp_seq_region (fun Z hZ => ?_)
    refine sx_move rfl rfl ?_
    refine sx_move rfl rfl ?_
    refine sx_move rfl rfl ?_
    refine sx_indexAddr (ok + i * 2) Try.underlying40 tyS31 rfl rfl (by omega) (by simp) rfl ?_
    refine sx_loadRo 2 rfl rfl (i * 2) rfl tyA31 tyS31 hrk rfl ?_
    refine sx_callK [0, 1] [2, 3] (peekL_fn g b most s L x.1 hR) rfl rfl (by simp) rfl ?_
    rintro v H' ⟨rfl, rfl⟩
    rw [hval, hk]
    refine sx_move rfl rfl ?_
    refine sx_extract rfl rfl rfl ?_
    refine sx_extract rfl rfl rfl ?_
    refine sx_assign rfl rfl ?_
    refine sx_assign rfl rfl ?_
    refine sx_nil (hZ _ _ ?_)
    refine awp_forget [(0, _), (1, _), (5, _), (6, _), (7, _), (8, _)] (Kn.cons rfl (Kn.cons rfl (Kn.cons rfl (Kn.cons rfl (Kn.cons rfl (Kn.cons rfl (Kn.nil))))))) ?_
    refine awq_seq_meet [(0, ptr g 0), (1, .slice (some ⟨ga, o, none⟩) L.length c), (5, .slice (some ⟨gk, ok, none⟩) L.length ck), (6, iq (i : Nat)), (55, .bool false)] (cacheH g b most s ++ (roE (some ⟨gk, ok, none⟩) (kcells L) ++ roE (some ⟨ga, o, none⟩) (icells L))) mixed (by kernel_rfl) (fun Z hZ => ?_) ?_
    · refine sq_move rfl rfl ?_
      refine sq_move rfl rfl ?_
      refine sq_indexAddr (ok + i * 2) Try.underlying40 tyS31 rfl rfl (by omega) (by simp) rfl ?_
      refine sq_loadRo 2 rfl rfl (i * 2) rfl tyA31 tyS31 hrk rfl ?_
      refine sq_move rfl rfl ?_
      refine sq_move rfl rfl ?_
      refine sq_indexAddr (o + i * 3) Try.underlying43 tyS69 rfl rfl (by omega) (by simp) rfl ?_
      refine sq_fieldAddr rfl tyF69_0 (by first | (simp only [Nat.reduceAdd, Nat.add_zero, Nat.zero_add]; first | done | rfl) | rfl) rfl ?_
      refine sq_loadRo 3 rfl rfl (i * 3) rfl tyA32 tyS32 (icells_key hx) rfl ?_
      refine sq_aneq (key_eqR x.1 x.1) guard_keyR rfl rfl rfl ?_
      refine sq_move rfl rfl ?_
      refine sq_force 43 rfl false (by simp [keq]) ?_
      refine sq_on rfl rfl rfl ?_
      refine sq_move rfl rfl ?_
      refine sq_on rfl rfl rfl ?_
      refine sq_not rfl rfl ?_
      refine sq_pick rfl rfl rfl ?_
      refine sq_move rfl rfl ?_
      refine sq_force 47 rfl false (by simp [keq]) ?_
      refine sq_on rfl rfl rfl ?_
      refine sq_move rfl rfl ?_
      refine sq_on rfl rfl rfl ?_
      refine sq_move rfl rfl ?_
      refine sq_on rfl rfl rfl ?_
      refine sq_move rfl rfl ?_
      refine sq_on rfl rfl rfl ?_
      refine sq_indexAddr (o + i * 3) Try.underlying43 tyS69 rfl rfl (by omega) (by simp) rfl ?_
      refine sq_on rfl rfl rfl ?_
      refine sq_fieldAddr rfl tyF69_1 (by first | (simp only [Nat.reduceAdd, Nat.add_zero, Nat.zero_add]; first | done | rfl) | rfl) rfl ?_
      refine sq_on rfl rfl rfl ?_
      refine sq_loadRo 3 rfl rfl (i * 3 + 2) rfl tyA9 tyS9 (icells_v hx) rfl ?_
      refine sq_on rfl rfl rfl ?_
      first | refine sq_neq rfl rfl rfl ?_ | refine sq_sneq rfl rfl rfl ?_
      refine sq_pick rfl rfl rfl ?_
      refine sq_nil (hZ _ _ ?_ ?_)
      · exact Kn.cons rfl (Kn.cons rfl (Kn.cons rfl (Kn.cons rfl (Kn.cons (congrArg some (congrArg Value.bool (by simp))) Kn.nil))))
      · exact HLe.refl _
    first | refine awp_cond rfl (fun hf => ?_) (fun hf => ?_) | refine awp_seq (awp_cond rfl (fun hf => ?_) (fun hf => ?_))
    · cases hf
    refine awp_skip ?_
    repeat (with_reducible refine nx_block_normal ?_)
    with_reducible refine nx_normal ?_
    refine awp_region (fun Z hZ => ?_)
    refine sx_move rfl rfl ?_
    refine sx_add rfl rfl ((i + 1 : Nat) : Int) (by rw [IntWalk.i64_in _ (by omega)]; omega) rfl ?_
    refine sx_assign rfl rfl ?_
    refine sx_nil (hZ _ _ ?_)
    refine nx_forget [(0, _), (1, _), (5, _), (6, _)] (Kn.cons rfl (Kn.cons rfl (Kn.cons rfl (Kn.cons rfl (Kn.nil))))) ?_
    exact nx_round (i + 1) (by omega) (by omega) (Kn.cons rfl (Kn.cons rfl (Kn.cons rfl (Kn.cons rfl Kn.nil)))) (HLe.refl _)
  · refine awp_exit ?_
    repeat (with_reducible (first | refine nx_then_exit ?_ | refine nx_block_other (by decide) ?_))
    with_reducible refine nx_block_exit ?_
    repeat (with_reducible refine nx_block_normal ?_)
    with_reducible refine nx_normal ?_
    refine awp_seq_meet [(4, .bool true)] (cacheH g b most s) (fun Z hZ => ?_) ?_
    · refine sx_move rfl rfl ?_
      first | refine sx_len Try.underlying40 rfl rfl ?_ | refine sx_lenS Try.underlying40 rfl rfl ?_
      refine sx_move rfl rfl ?_
      first | refine sx_len Try.underlying43 rfl rfl ?_ | refine sx_lenS Try.underlying43 rfl rfl ?_
      first | refine sx_eql rfl rfl rfl ?_ | refine sx_seql rfl rfl rfl ?_
      refine sx_move rfl rfl ?_
      refine sx_force 61 rfl true (by simp) ?_
      refine sx_on rfl rfl rfl ?_
      refine sx_move rfl rfl ?_
      refine sx_on rfl rfl rfl ?_
      refine sx_callK [0, 1] [2, 3] (len_fn g b most s) rfl rfl (by simp) rfl ?_
      rintro v H' ⟨rfl, rfl⟩
      refine sx_norm (by simp only [List.filter_cons, List.filter_nil, Ent.wr, if_true, List.cons_append, List.nil_append, pick, List.filterMap_cons, List.filterMap_nil, List.getElem?_cons_succ, List.getElem?_cons_zero]; first | done | rfl) ?_
      rw [hlen]
      refine sx_on rfl rfl rfl ?_
      refine sx_move rfl rfl ?_
      refine sx_on rfl rfl rfl ?_
      first | refine sx_len Try.underlying43 rfl rfl ?_ | refine sx_lenS Try.underlying43 rfl rfl ?_
      refine sx_on rfl rfl rfl ?_
      first | refine sx_eql rfl rfl rfl ?_ | refine sx_seql rfl rfl rfl ?_
      refine sx_pick rfl rfl rfl ?_
      refine sx_assign rfl rfl ?_
      refine sx_nil (hZ _ _ ?_ ?_)
      · exact Kn.cons (congrArg some (congrArg Value.bool (by simp))) Kn.nil
      · exact HLe.pick [0, 1] (by simp) rfl
    refine awp_ret ?_
    repeat (with_reducible (first | refine nx_then_ret ?_ | refine nx_block_ret ?_))
    exact nx_ret1 rfl rfl ⟨rfl, rfl⟩
end Go.Proofs.Ytoadkdlhbmmdlaa
