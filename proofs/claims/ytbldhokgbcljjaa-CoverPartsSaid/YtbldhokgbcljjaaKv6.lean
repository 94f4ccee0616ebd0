/- The walks of the document's Union, In and Total at intervals. Conditions: the lists are not too long. -/
import Derived.Test.YtbldhokgbcljjaaKv5
namespace Go.Proofs.Ytbldhokgbcljjaa
open Go.RowKit
set_option linter.unusedVariables false
set_option linter.unusedSimpArgs false
set_option maxRecDepth 100000
theorem merge_sps : ∀ (L : List Sp) (s : Sp), SpsOk (s :: L) → ((mergeQ s L).1.a < 18446744073709551616 ∧ (mergeQ s L).1.b < 18446744073709551616) ∧ SpsOk (mergeQ s L).2
  | [], s, h => ⟨h s List.mem_cons_self, fun x hx => by cases hx⟩
  | t :: r, s, h => by
    have hs := h s List.mem_cons_self
    have ht := h t (by simp)
    have hr : ∀ y ∈ r, y.a < 18446744073709551616 ∧ y.b < 18446744073709551616 := fun y hy => h y (by simp [hy])
    rw [mergeQ]
    split
    · exact merge_sps r _ fun y hy => by
        rcases List.mem_cons.1 hy with rfl | hy
        · exact ⟨by show min t.a s.a < _; omega, by show max t.b s.b < _; omega⟩
        · exact hr y hy
    · obtain ⟨h1, h2⟩ := merge_sps r s fun y hy => by
        rcases List.mem_cons.1 hy with rfl | hy
        · exact hs
        · exact hr y hy
      exact ⟨h1, fun y hy => by
        rcases List.mem_cons.1 hy with rfl | hy
        · exact ht
        · exact h2 y hy⟩
theorem putQs_sps {L : List Sp} {s : Sp} (h : SpsOk (s :: L)) : SpsOk (putQs L s) := by
  unfold putQs
  split
  · exact fun y hy => h y (List.mem_cons_of_mem _ hy)
  · obtain ⟨h1, h2⟩ := merge_sps L s h
    intro y hy
    unfold insQ at hy
    rcases List.mem_append.1 hy with hy | hy
    · exact h2 y ((List.takeWhile_sublist _).subset hy)
    · rcases List.mem_cons.1 hy with rfl | hy
      · exact h1
      · exact h2 y ((List.dropWhile_sublist _).subset hy)
section
variable {N : Frm} {w0 w : World} {Wr : List Nat} {ops : Array Oper} {rest : List Oper} {fr : Fr} {H : Heap} {Z : Fr → Heap → Prop} {d ty : Nat} {pos : String} {after : Array Edge} {xs : List Operand} {ts : Array TypeId}
theorem sx_rput (T : Heap) (X : List Sp) (s : Sp) (v : Value) (hv : RowOk v X.length) (hX : X.length ≤ 100000) (ho : SpsOk (s :: X)) (hH : HLe (T ++ rowE v 75 2 (scells X)) H) (hx : evs fr xs = some [v, s.val]) (hN : Nat.ble (d + 1) N.n = true)
    (h : ∀ u, RowOk u (putQs X s).length → sx Try.prog N w0 Wr ops rest ((d, u) :: fr) (T ++ rowE u 75 2 (scells (putQs X s))) Z) : sx Try.prog N w0 Wr ops ((⟨some d, .call { callee := .value (.func 82), args := xs.toArray, argTypes := ts }, ty, pos, after, none⟩ : Oper) :: rest) fr H Z := by
  obtain ⟨A, c, rfl, hA, hle⟩ := hv.ro
  have hsub : HLe (roE A (scells X)) (T ++ rowE (.slice A X.length c) 75 2 (scells X)) := by
    have h1 := hle T [] 75 2 (scells X)
    rw [List.append_nil, List.append_nil] at h1
    exact (HLe.sub (List.sublist_append_right _ _)).trans h1
  refine sx_heap _ hH (sx_callVU (roE A (scells X)) (rput_fn A c X s hA hX ho) hx hsub (Ro.roE _ _) hN ?_)
  rintro u H' (⟨rfl, e, rfl⟩ | ⟨hu, rfl⟩)
  · have := h (.slice A X.length c) (by rw [e]; exact hv)
    rw [e] at this
    exact this
  · rw [rowE_flt]
    exact sx_heap _ ((HLe.swap _ _).trans (HLe.sub (List.Sublist.append_left (List.sublist_append_left _ _) _))) (h u hu)
end
theorem putF_snoc {M : List Sp} {X : List Sp} {k : Nat} {x : Sp} (h : M[k]? = some x) : (M.take (k + 1)).foldl putQs X = putQs ((M.take k).foldl putQs X) x := by
  obtain ⟨hlt, rfl⟩ := List.getElem?_eq_some_iff.1 h
  rw [List.take_succ_eq_append_getElem hlt, List.foldl_append, List.foldl_cons, List.foldl_nil]
theorem putF_ok {X : List Sp} (hX : SpsOk X) {M : List Sp} (h : SpsOk M) : ∀ k, k ≤ M.length → ((M.take k).foldl putQs X).length ≤ X.length + k ∧ SpsOk ((M.take k).foldl putQs X)
  | 0, _ => ⟨Nat.le_refl _, hX⟩
  | k + 1, hk => by
    have hx : M[k]? = some M[k] := List.getElem?_eq_getElem (by omega)
    obtain ⟨h1, h2⟩ := putF_ok hX h k (by omega)
    rw [putF_snoc hx]
    have h3 := putQs_len ((M.take k).foldl putQs X) M[k]
    refine ⟨by omega, putQs_sps fun x hx => ?_⟩
    rcases List.mem_cons.1 hx with rfl | hx
    · exact h _ (List.getElem_mem _)
    · exact h2 x hx
theorem un_sps {L M : List Sp} (hL : SpsOk L) (hM : SpsOk M) : SpsOk (unQ L M) := by
  have := (putF_ok (X := []) (fun x hx => by cases hx) (hL.app hM) (L ++ M).length (Nat.le_refl _)).2
  rw [List.take_length] at this
  exact this
theorem runion_fn (A B : Option Addr) (c c2 : Nat) (L M : List Sp) (T U : Heap) (hA : ArgOk A L.length) (hT : 0 < L.length → T = roE A (scells L)) (hroT : Ro T) (hL : L.length ≤ 40000) (hoL : SpsOk L) (hB : ArgOk B M.length) (hU : 0 < M.length → U = roE B (scells M)) (hroU : Ro U) (hM : M.length ≤ 40000) (hoM : SpsOk M) :
    Fn Try.prog 44 [.slice A L.length c, .slice B M.length c2] (T ++ U) fun v H' => RowOk v (unQ L M).length ∧ H' = rowE v 75 2 (scells (unQ L M)) := by
  refine Fn.enter (N := 33) Try.func44 rfl (by kernel_rfl) rfl (fun w0 => ?_)

  refine awp_seq_region (fun Z hZ => ?_)
  refine sx_assign rfl rfl ?_
  refine sx_nil (hZ _ _ ?_)
  refine awp_forget [(0, _), (1, _)] (Kn.cons rfl (Kn.cons rfl (Kn.nil))) ?_
  refine awp_seq_region (fun Z hZ => ?_)
  refine sx_assign rfl rfl ?_
  refine sx_nil (hZ _ _ ?_)
  refine awp_forget [(0, _), (1, _), (5, _)] (Kn.cons rfl (Kn.cons rfl (Kn.cons rfl (Kn.nil)))) ?_
  refine awp_cut (ι := Value) (fun v => [(1, .slice B M.length c2), (5, v)]) (fun v => U ++ rowE v 75 2 (scells (L.foldl putQs []))) (fun v => RowOk v (L.foldl putQs []).length) ?_ ?_
  · refine awp_seq_region (fun Z hZ => ?_)
    refine sx_assign rfl rfl ?_
    refine sx_nil (hZ _ _ ?_)
    refine awp_forget [(0, _), (1, _), (5, _), (6, _)] (Kn.cons rfl (Kn.cons rfl (Kn.cons rfl (Kn.cons rfl (Kn.nil))))) ?_
    refine awp_block ?_
    refine awp_loop (ι := Nat × Value) (fun i => [(0, .slice A L.length c), (1, .slice B M.length c2), (5, i.2), (6, iq (i.1 : Nat))]) (fun i => (T ++ U) ++ rowE i.2 75 2 (scells ((L.take i.1).foldl putQs [])))
      (fun i => i.1 ≤ L.length ∧ RowOk i.2 ((L.take i.1).foldl putQs []).length) (fun i => L.length - i.1) (0, .slice none 0 0) ⟨by simp, RowOk.nil⟩ (Kn.cons rfl (Kn.cons rfl (Kn.cons rfl (Kn.cons rfl Kn.nil)))) (by simp [rowE]; exact HLe.refl _) ?_
    rintro ⟨i, v⟩ ⟨hi, hv⟩
    simp only at hi hv
    refine awp_seq ?_
    refine awp_seq_region (fun Z hZ => ?_)
    refine sx_move rfl rfl ?_
    refine sx_move rfl rfl ?_
    refine sx_len Try.underlying22 rfl rfl ?_
    refine sx_lss rfl rfl rfl ?_
    refine sx_nil (hZ _ _ ?_)
    refine awp_forget [(0, _), (1, _), (5, _), (6, _), (11, _)] (Kn.cons rfl (Kn.cons rfl (Kn.cons rfl (Kn.cons rfl (Kn.cons rfl (Kn.nil)))))) ?_
    refine awp_cond rfl (fun h => ?_) (fun h => ?_)
    · have hlt : i < L.length := by simpa using h
      obtain ⟨x, hx⟩ : ∃ x, L[i]? = some x := ⟨_, List.getElem?_eq_getElem hlt⟩
      have hsn := putF_snoc (X := []) hx
      obtain ⟨hq1, hq2⟩ := putF_ok (X := []) (fun x hx => by cases hx) hoL i hi
      have hxo : SpsOk (x :: (L.take i).foldl putQs []) := fun y hy => by
        rcases List.mem_cons.1 hy with rfl | hy
        · exact hoL _ (List.mem_of_getElem? hx)
        · exact hq2 y hy
      simp only [List.length_nil, Nat.zero_add] at hq1
      obtain ⟨X, hX⟩ : ∃ X, (L.take i).foldl putQs [] = X := ⟨_, rfl⟩
      rw [hX] at hsn hq1 hv hxo ⊢
      obtain ⟨g, o, rfl⟩ := hA (by omega)
      obtain rfl := hT (by omega)
      refine awp_heap (.ro g o (scells L) :: (U ++ rowE v 75 2 (scells X))) (HLe.refl _) ?_
      refine awp_skip ?_
      with_reducible refine nx_normal ?_
      refine awp_seq (awp_block ?_)

      refine awp_region (fun Z hZ => ?_)
      refine sx_move rfl rfl ?_
      refine sx_move rfl rfl ?_
      refine sx_move rfl rfl ?_
      refine sx_indexAddr (o + i * 2) Try.underlying22 tyS75 rfl rfl (by omega) (by simp) rfl ?_
      refine sx_loadRo 0 rfl rfl (i * 2) rfl tyA75 tyS75 (scells_all hx) rfl ?_
      refine sx_rput (.ro g o (scells L) :: U) X x v hv (by omega) hxo (HLe.refl _) rfl rfl (fun u hu => ?_)
      refine sx_assign rfl rfl ?_
      refine sx_nil (hZ _ _ ?_)
      refine nx_forget [(0, _), (1, _), (5, _), (6, _)] (Kn.cons rfl (Kn.cons rfl (Kn.cons rfl (Kn.cons rfl (Kn.nil))))) ?_
      repeat (with_reducible refine nx_block_normal ?_)
      with_reducible refine nx_normal ?_
      refine awp_region (fun Z hZ => ?_)
      refine sx_move rfl rfl ?_
      refine sx_add rfl rfl ((i + 1 : Nat) : Int) (by rw [IntWalk.i64_in _ (by omega)]; omega) rfl ?_
      refine sx_assign rfl rfl ?_
      refine sx_nil (hZ _ _ ?_)
      refine nx_forget [(0, _), (1, _), (5, _), (6, _)] (Kn.cons rfl (Kn.cons rfl (Kn.cons rfl (Kn.cons rfl (Kn.nil))))) ?_
      refine nx_round (i + 1, u) ⟨hlt, by rw [hsn]; exact hu⟩ (by simp; omega) (Kn.cons rfl (Kn.cons rfl (Kn.cons rfl (Kn.cons rfl Kn.nil)))) ?_
      simp only
      rw [hsn]
      exact HLe.refl _
    · refine awp_exit ?_
      repeat (with_reducible refine nx_then_exit ?_)
      with_reducible refine nx_block_exit ?_
      have hke : i = L.length := by simp at h; omega
      subst hke
      rw [List.take_length] at hv ⊢
      exact nx_cut v hv (Kn.cons rfl (Kn.cons rfl Kn.nil)) (HLe.sub (List.Sublist.append_right (List.sublist_append_right _ _) _))
  rintro v hv
  obtain ⟨hX1, hX2⟩ := putF_ok (X := []) (fun x hx => by cases hx) hoL L.length (Nat.le_refl _)
  simp only [List.length_nil, Nat.zero_add, List.take_length] at hX1 hX2
  have hun : unQ L M = M.foldl putQs (L.foldl putQs []) := by unfold unQ; rw [List.foldl_append]
  rw [hun]
  obtain ⟨X0, hX0⟩ : ∃ X, L.foldl putQs [] = X := ⟨_, rfl⟩
  rw [hX0] at hv hX1 hX2 ⊢

  refine awp_seq ?_
  refine awp_seq_region (fun Z hZ => ?_)
  refine sx_assign rfl rfl ?_
  refine sx_nil (hZ _ _ ?_)
  refine awp_forget [(1, _), (5, _), (7, _)] (Kn.cons rfl (Kn.cons rfl (Kn.cons rfl (Kn.nil)))) ?_
  refine awp_block ?_
  refine awp_loop (ι := Nat × Value) (fun i => [(1, .slice B M.length c2), (5, i.2), (7, iq (i.1 : Nat))]) (fun i => U ++ rowE i.2 75 2 (scells ((M.take i.1).foldl putQs X0)))
    (fun i => i.1 ≤ M.length ∧ RowOk i.2 ((M.take i.1).foldl putQs X0).length) (fun i => M.length - i.1) (0, v) ⟨by simp, hv⟩ (Kn.cons rfl (Kn.cons rfl (Kn.cons rfl Kn.nil))) (HLe.refl _) ?_
  rintro ⟨i, v⟩ ⟨hi, hv⟩
  simp only at hi hv
  refine awp_seq ?_
  refine awp_seq_region (fun Z hZ => ?_)
  refine sx_move rfl rfl ?_
  refine sx_move rfl rfl ?_
  refine sx_len Try.underlying22 rfl rfl ?_
  refine sx_lss rfl rfl rfl ?_
  refine sx_nil (hZ _ _ ?_)
  refine awp_forget [(1, _), (5, _), (7, _), (23, _)] (Kn.cons rfl (Kn.cons rfl (Kn.cons rfl (Kn.cons rfl (Kn.nil))))) ?_
  refine awp_cond rfl (fun h => ?_) (fun h => ?_)
  · have hlt : i < M.length := by simpa using h
    obtain ⟨x, hx⟩ : ∃ x, M[i]? = some x := ⟨_, List.getElem?_eq_getElem hlt⟩
    have hsn := putF_snoc (X := X0) hx
    obtain ⟨hq1, hq2⟩ := putF_ok (X := X0) hX2 hoM i hi
    have hxo : SpsOk (x :: (M.take i).foldl putQs X0) := fun y hy => by
      rcases List.mem_cons.1 hy with rfl | hy
      · exact hoM _ (List.mem_of_getElem? hx)
      · exact hq2 y hy
    obtain ⟨X, hX⟩ : ∃ X, (M.take i).foldl putQs X0 = X := ⟨_, rfl⟩
    rw [hX] at hsn hq1 hv hxo ⊢
    obtain ⟨g, o, rfl⟩ := hB (by omega)
    obtain rfl := hU (by omega)
    refine awp_heap (.ro g o (scells M) :: rowE v 75 2 (scells X)) (HLe.refl _) ?_
    refine awp_skip ?_
    with_reducible refine nx_normal ?_
    refine awp_seq (awp_block ?_)

    refine awp_region (fun Z hZ => ?_)
    refine sx_move rfl rfl ?_
    refine sx_move rfl rfl ?_
    refine sx_move rfl rfl ?_
    refine sx_indexAddr (o + i * 2) Try.underlying22 tyS75 rfl rfl (by omega) (by simp) rfl ?_
    refine sx_loadRo 0 rfl rfl (i * 2) rfl tyA75 tyS75 (scells_all hx) rfl ?_
    refine sx_rput [.ro g o (scells M)] X x v hv (by omega) hxo (HLe.refl _) rfl rfl (fun u hu => ?_)
    refine sx_assign rfl rfl ?_
    refine sx_nil (hZ _ _ ?_)
    refine nx_forget [(1, _), (5, _), (7, _)] (Kn.cons rfl (Kn.cons rfl (Kn.cons rfl (Kn.nil)))) ?_
    repeat (with_reducible refine nx_block_normal ?_)
    with_reducible refine nx_normal ?_
    refine awp_region (fun Z hZ => ?_)
    refine sx_move rfl rfl ?_
    refine sx_add rfl rfl ((i + 1 : Nat) : Int) (by rw [IntWalk.i64_in _ (by omega)]; omega) rfl ?_
    refine sx_assign rfl rfl ?_
    refine sx_nil (hZ _ _ ?_)
    refine nx_forget [(1, _), (5, _), (7, _)] (Kn.cons rfl (Kn.cons rfl (Kn.cons rfl (Kn.nil)))) ?_
    refine nx_round (i + 1, u) ⟨hlt, by rw [hsn]; exact hu⟩ (by simp; omega) (Kn.cons rfl (Kn.cons rfl (Kn.cons rfl Kn.nil))) ?_
    simp only
    rw [hsn]
    exact HLe.refl _
  · refine awp_exit ?_
    repeat (with_reducible refine nx_then_exit ?_)
    with_reducible refine nx_block_exit ?_
    with_reducible refine nx_normal ?_
    have hke : i = M.length := by simp at h; omega
    subst hke
    rw [List.take_length] at hv ⊢
    refine awp_seq_region (fun Z hZ => ?_)
    refine sx_move rfl rfl ?_
    refine sx_assign rfl rfl ?_
    refine sx_nil (hZ _ _ ?_)
    refine awp_forget [(4, _)] (Kn.cons rfl (Kn.nil)) ?_
    refine awp_ret ?_
    exact nx_ret1h _ rfl rfl (HLe.sub (List.sublist_append_right _ _)) ⟨hv, rfl⟩
theorem rsin_fn (A : Option Addr) (c : Nat) (L : List Sp) (T : Heap) (hA : ArgOk A L.length) (hT : 0 < L.length → T = roE A (scells L)) (hL : L.length ≤ 1000000) (k : Nat) :
    Fn Try.prog 45 [.slice A L.length c, uq k] T fun v _ => v = .bool (decide (inS L k)) := by
  refine Fn.enter (N := 28) Try.func45 rfl (by kernel_rfl) rfl (fun w0 => ?_)

  refine awp_seq_region (fun Z hZ => ?_)
  refine sx_assign rfl rfl ?_
  refine sx_nil (hZ _ _ ?_)
  refine awp_forget [(0, _), (1, _)] (Kn.cons rfl (Kn.cons rfl (Kn.nil))) ?_
  refine awp_seq ?_
  refine awp_seq_region (fun Z hZ => ?_)
  refine sx_assign rfl rfl ?_
  refine sx_nil (hZ _ _ ?_)
  refine awp_forget [(0, _), (1, _), (5, _)] (Kn.cons rfl (Kn.cons rfl (Kn.cons rfl (Kn.nil)))) ?_
  refine awp_block ?_
  refine awp_loop (ι := Nat) (fun i => [(0, .slice A L.length c), (1, uq k), (5, iq (i : Nat))]) (fun _ => T) (fun i => i ≤ L.length ∧ (inS L k ↔ inS (L.drop i) k)) (fun i => L.length - i) 0 ⟨by simp, Iff.rfl⟩ (Kn.cons rfl (Kn.cons rfl (Kn.cons rfl Kn.nil))) (HLe.refl _) ?_
  rintro i ⟨hi, hq⟩
  refine awp_seq ?_
  refine awp_seq_region (fun Z hZ => ?_)
  refine sx_move rfl rfl ?_
  refine sx_move rfl rfl ?_
  refine sx_len Try.underlying22 rfl rfl ?_
  refine sx_lss rfl rfl rfl ?_
  refine sx_nil (hZ _ _ ?_)
  refine awp_forget [(0, _), (1, _), (5, _), (9, _)] (Kn.cons rfl (Kn.cons rfl (Kn.cons rfl (Kn.cons rfl (Kn.nil))))) ?_
  refine awp_cond rfl (fun h => ?_) (fun h => ?_)
  · have hlt : i < L.length := by simpa using h
    obtain ⟨x, hx⟩ : ∃ x, L[i]? = some x := ⟨_, List.getElem?_eq_getElem hlt⟩
    rw [fm_split hx, inS_cons] at hq
    obtain ⟨g, o, rfl⟩ := hA (by omega)
    obtain rfl := hT (by omega)
    refine awp_heap [.ro g o (scells L)] (HLe.refl _) ?_
    refine awp_skip ?_
    with_reducible refine nx_normal ?_
    refine awp_seq (awp_block ?_)

    refine awp_seq_meet [(0, .slice (some ⟨g, o, none⟩) L.length c), (1, uq k), (5, iq (i : Nat)), (27, .bool (decide (x.a ≤ k ∧ k ≤ x.b)))] [.ro g o (scells L)] (fun Z hZ => ?_) ?_
    · refine sx_move rfl rfl ?_
      refine sx_move rfl rfl ?_
      refine sx_move rfl rfl ?_
      refine sx_indexAddr (o + i * 2) Try.underlying22 tyS75 rfl rfl (by omega) (by simp) rfl ?_
      refine sx_fieldAddr rfl tyF75_0 (by first | (simp only [Nat.reduceAdd, Nat.add_zero, Nat.zero_add]; first | done | rfl) | rfl) rfl ?_
      refine sx_loadRo 0 rfl rfl (i * 2) (by omega) tyA36 tyS36 (scells_a hx) rfl ?_
      refine sx_geq rfl rfl rfl ?_
      refine sx_move rfl rfl ?_
      refine sx_split 19 rfl (fun hb7 => ?_) (fun hb7 => ?_)
      · refine sx_on rfl rfl rfl ?_
        refine sx_move rfl rfl ?_
        refine sx_on rfl rfl rfl ?_
        refine sx_move rfl rfl ?_
        refine sx_on rfl rfl rfl ?_
        refine sx_move rfl rfl ?_
        refine sx_on rfl rfl rfl ?_
        refine sx_indexAddr (o + i * 2) Try.underlying22 tyS75 rfl rfl (by omega) (by simp) rfl ?_
        refine sx_on rfl rfl rfl ?_
        refine sx_fieldAddr rfl tyF75_1 (by first | (simp only [Nat.reduceAdd, Nat.add_zero, Nat.zero_add]; first | done | rfl) | rfl) rfl ?_
        refine sx_on rfl rfl rfl ?_
        refine sx_loadRo 0 rfl rfl (i * 2 + 1) (by omega) tyA36 tyS36 (scells_b hx) rfl ?_
        refine sx_on rfl rfl rfl ?_
        refine sx_leq rfl rfl rfl ?_
        refine sx_pick rfl rfl rfl ?_
        refine sx_nil (hZ _ _ ?_ ?_)
        · exact Kn.cons rfl (Kn.cons rfl (Kn.cons rfl (Kn.cons (congrArg some (congrArg Value.bool (by first | (simp at *; done) | (simp at *; omega) | (rw [Bool.eq_iff_iff]; simp at *; omega)))) Kn.nil)))
        · exact HLe.refl _
      · refine sx_off rfl rfl rfl rfl rfl ?_
        refine sx_off rfl rfl rfl rfl rfl ?_
        refine sx_off rfl rfl rfl rfl rfl ?_
        refine sx_off rfl rfl rfl rfl rfl ?_
        refine sx_off rfl rfl rfl rfl rfl ?_
        refine sx_off rfl rfl rfl rfl rfl ?_
        refine sx_off rfl rfl rfl rfl rfl ?_
        refine sx_pick rfl rfl rfl ?_
        refine sx_nil (hZ _ _ ?_ ?_)
        · exact Kn.cons rfl (Kn.cons rfl (Kn.cons rfl (Kn.cons (congrArg some (congrArg Value.bool (by first | (simp at *; done) | (simp at *; omega) | (rw [Bool.eq_iff_iff]; simp at *; omega)))) Kn.nil)))
        · exact HLe.refl _
    refine awp_cond rfl (fun h2 => ?_) (fun h2 => ?_)
    · have h2' : x.has k := by simpa using h2
      rw [show decide (inS L k) = true from decide_eq_true (hq.2 (.inl h2'))]
      refine awp_seq_region (fun Z hZ => ?_)
      refine sx_assign rfl rfl ?_
      refine sx_nil (hZ _ _ ?_)
      refine awp_forget [(4, _)] (Kn.cons rfl (Kn.nil)) ?_
      refine awp_ret ?_
      repeat (with_reducible (first | refine nx_then_ret ?_ | refine nx_block_ret ?_))
      exact nx_ret1 rfl rfl rfl
    · have h2' : ¬ x.has k := by simpa using h2
      refine awp_skip ?_
      repeat (with_reducible refine nx_block_normal ?_)
      with_reducible refine nx_normal ?_
      refine awp_region (fun Z hZ => ?_)
      refine sx_move rfl rfl ?_
      refine sx_add rfl rfl ((i + 1 : Nat) : Int) (by rw [IntWalk.i64_in _ (by omega)]; omega) rfl ?_
      refine sx_assign rfl rfl ?_
      refine sx_nil (hZ _ _ ?_)
      refine nx_forget [(0, _), (1, _), (5, _)] (Kn.cons rfl (Kn.cons rfl (Kn.cons rfl (Kn.nil)))) ?_
      exact nx_round (i + 1) ⟨hlt, hq.trans ⟨fun hh => hh.resolve_left h2', .inr⟩⟩ (by omega) (Kn.cons rfl (Kn.cons rfl (Kn.cons rfl Kn.nil))) (HLe.refl _)
  · refine awp_exit ?_
    repeat (with_reducible refine nx_then_exit ?_)
    with_reducible refine nx_block_exit ?_
    with_reducible refine nx_normal ?_
    have hke : i = L.length := by simp at h; omega
    subst hke
    rw [List.drop_length] at hq
    rw [show decide (inS L k) = false from decide_eq_false fun hh => inS_nil k (hq.1 hh)]
    refine awp_seq_region (fun Z hZ => ?_)
    refine sx_assign rfl rfl ?_
    refine sx_nil (hZ _ _ ?_)
    refine awp_forget [(4, _)] (Kn.cons rfl (Kn.nil)) ?_
    refine awp_ret ?_
    exact nx_ret1 rfl rfl rfl
theorem rstotal_fn (A : Option Addr) (c : Nat) (L : List Sp) (T : Heap) (hA : ArgOk A L.length) (hT : 0 < L.length → T = roE A (scells L)) (hL : L.length ≤ 1000000) (ho : SpsOk L) :
    Fn Try.prog 46 [.slice A L.length c] T fun v _ => v = uq (totM L) := by
  refine Fn.enter (N := 37) Try.func46 rfl (by kernel_rfl) rfl (fun w0 => ?_)

  refine awp_seq_region (fun Z hZ => ?_)
  refine sx_assign rfl rfl ?_
  refine sx_nil (hZ _ _ ?_)
  refine awp_forget [(0, _)] (Kn.cons rfl (Kn.nil)) ?_
  refine awp_seq_region (fun Z hZ => ?_)
  refine sx_assign rfl rfl ?_
  refine sx_nil (hZ _ _ ?_)
  refine awp_forget [(0, _), (3, _)] (Kn.cons rfl (Kn.cons rfl (Kn.nil))) ?_
  refine awp_seq ?_
  refine awp_seq_region (fun Z hZ => ?_)
  refine sx_assign rfl rfl ?_
  refine sx_nil (hZ _ _ ?_)
  refine awp_forget [(0, _), (3, _), (4, _)] (Kn.cons rfl (Kn.cons rfl (Kn.cons rfl (Kn.nil)))) ?_
  refine awp_block ?_
  refine awp_loop (ι := Nat) (fun k => [(0, .slice A L.length c), (3, uq (totM (L.take k))), (4, iq (k : Nat))]) (fun _ => T)
    (fun k => k ≤ L.length) (fun k => L.length - k) 0 (by simp) (Kn.cons rfl (Kn.cons rfl (Kn.cons rfl Kn.nil))) (HLe.refl _) ?_
  rintro k hk
  refine awp_seq ?_
  refine awp_seq_region (fun Z hZ => ?_)
  refine sx_move rfl rfl ?_
  refine sx_move rfl rfl ?_
  refine sx_len Try.underlying22 rfl rfl ?_
  refine sx_lss rfl rfl rfl ?_
  refine sx_nil (hZ _ _ ?_)
  refine awp_forget [(0, _), (3, _), (4, _), (8, _)] (Kn.cons rfl (Kn.cons rfl (Kn.cons rfl (Kn.cons rfl (Kn.nil))))) ?_
  refine awp_cond rfl (fun h => ?_) (fun h => ?_)
  · have hlt : k < L.length := by simpa using h
    obtain ⟨x, hx⟩ : ∃ x, L[k]? = some x := ⟨_, List.getElem?_eq_getElem hlt⟩
    obtain ⟨x1, x2⟩ := ho x (List.mem_of_getElem? hx)
    have hs := total_take hx
    obtain ⟨n, hn⟩ : ∃ n, totM (L.take k) = n := ⟨_, rfl⟩
    have hsn : totM (L.take (k + 1)) = (n + (x.b + 1 - x.a)) % 18446744073709551616 := by rw [← hn]; unfold totM; rw [hs]; omega
    have hnl : n < 18446744073709551616 := by rw [← hn]; exact Nat.mod_lt _ (by decide)
    rw [hn]
    obtain ⟨g, o, rfl⟩ := hA (by omega)
    obtain rfl := hT (by omega)
    refine awp_heap [.ro g o (scells L)] (HLe.refl _) ?_
    refine awp_skip ?_
    with_reducible refine nx_normal ?_
    refine awp_seq (awp_block ?_)

    refine awq_seq_region mixed (by kernel_rfl) (fun Z hZ => ?_)
    refine sq_move rfl rfl ?_
    refine sq_move rfl rfl ?_
    refine sq_indexAddr (o + k * 2) Try.underlying22 tyS75 rfl rfl (by omega) (by simp) rfl ?_
    refine sq_fieldAddr rfl tyF75_0 (by first | (simp only [Nat.reduceAdd, Nat.add_zero, Nat.zero_add]; first | done | rfl) | rfl) rfl ?_
    refine sq_loadRo 0 rfl rfl (k * 2) (by omega) tyA36 tyS36 (scells_a hx) rfl ?_
    refine sq_move rfl rfl ?_
    refine sq_move rfl rfl ?_
    refine sq_indexAddr (o + k * 2) Try.underlying22 tyS75 rfl rfl (by omega) (by simp) rfl ?_
    refine sq_fieldAddr rfl tyF75_1 (by first | (simp only [Nat.reduceAdd, Nat.add_zero, Nat.zero_add]; first | done | rfl) | rfl) rfl ?_
    refine sq_loadRo 0 rfl rfl (k * 2 + 1) (by omega) tyA36 tyS36 (scells_b hx) rfl ?_
    refine sq_leq rfl rfl rfl ?_
    refine sq_nil (hZ _ _ ?_)
    refine awp_forget [(0, _), (3, _), (4, _), (21, _)] (Kn.cons rfl (Kn.cons rfl (Kn.cons rfl (Kn.cons rfl (Kn.nil))))) ?_
    refine awp_cond rfl (fun h2 => ?_) (fun h2 => ?_)
    · have h2' : x.a ≤ x.b := by simp at h2; omega
      refine awq_region mixed (by kernel_rfl) (fun Z hZ => ?_)
      refine sq_move rfl rfl ?_
      refine sq_move rfl rfl ?_
      refine sq_move rfl rfl ?_
      refine sq_indexAddr (o + k * 2) Try.underlying22 tyS75 rfl rfl (by omega) (by simp) rfl ?_
      refine sq_fieldAddr rfl tyF75_1 (by first | (simp only [Nat.reduceAdd, Nat.add_zero, Nat.zero_add]; first | done | rfl) | rfl) rfl ?_
      refine sq_loadRo 0 rfl rfl (k * 2 + 1) (by omega) tyA36 tyS36 (scells_b hx) rfl ?_
      refine sq_add rfl rfl (((n + x.b) % 18446744073709551616 : Nat) : Int) (by rw [IntKind.wrap_u64]; omega) rfl ?_
      refine sq_move rfl rfl ?_
      refine sq_move rfl rfl ?_
      refine sq_indexAddr (o + k * 2) Try.underlying22 tyS75 rfl rfl (by omega) (by simp) rfl ?_
      refine sq_fieldAddr rfl tyF75_0 (by first | (simp only [Nat.reduceAdd, Nat.add_zero, Nat.zero_add]; first | done | rfl) | rfl) rfl ?_
      refine sq_loadRo 0 rfl rfl (k * 2) (by omega) tyA36 tyS36 (scells_a hx) rfl ?_
      refine sq_sub rfl rfl (((n + x.b - x.a) % 18446744073709551616 : Nat) : Int) (by rw [IntKind.wrap_u64]; omega) rfl ?_
      refine sq_add rfl rfl ((totM (L.take (k + 1)) : Nat) : Int) (by rw [IntKind.wrap_u64, hsn]; omega) rfl ?_
      refine sq_assign rfl rfl ?_
      refine sq_nil (hZ _ _ ?_)
      refine nx_forget [(0, _), (3, _), (4, _)] (Kn.cons rfl (Kn.cons rfl (Kn.cons rfl (Kn.nil)))) ?_
      repeat (with_reducible refine nx_block_normal ?_)
      with_reducible refine nx_normal ?_
      refine awp_region (fun Z hZ => ?_)
      refine sx_move rfl rfl ?_
      refine sx_add rfl rfl ((k + 1 : Nat) : Int) (by rw [IntWalk.i64_in _ (by omega)]; omega) rfl ?_
      refine sx_assign rfl rfl ?_
      refine sx_nil (hZ _ _ ?_)
      refine nx_forget [(0, _), (3, _), (4, _)] (Kn.cons rfl (Kn.cons rfl (Kn.cons rfl (Kn.nil)))) ?_
      exact nx_round (k + 1) (by omega) (by omega) (Kn.cons rfl (Kn.cons rfl (Kn.cons rfl Kn.nil))) (HLe.refl _)
    · have h2' : ¬ x.a ≤ x.b := by simp at h2; omega
      have e : totM (L.take (k + 1)) = n := by rw [hsn]; omega
      refine awp_skip ?_
      repeat (with_reducible refine nx_block_normal ?_)
      with_reducible refine nx_normal ?_
      refine awp_region (fun Z hZ => ?_)
      refine sx_move rfl rfl ?_
      refine sx_add rfl rfl ((k + 1 : Nat) : Int) (by rw [IntWalk.i64_in _ (by omega)]; omega) rfl ?_
      refine sx_assign rfl rfl ?_
      refine sx_nil (hZ _ _ ?_)
      refine nx_forget [(0, _), (3, _), (4, _)] (Kn.cons rfl (Kn.cons rfl (Kn.cons rfl (Kn.nil)))) ?_
      exact nx_round (k + 1) (by omega) (by omega) (Kn.cons rfl (Kn.cons (by rw [e]; rfl) (Kn.cons rfl Kn.nil))) (HLe.refl _)
  · refine awp_exit ?_
    repeat (with_reducible refine nx_then_exit ?_)
    with_reducible refine nx_block_exit ?_
    with_reducible refine nx_normal ?_
    have hke : k = L.length := by simp at h; omega
    subst hke
    rw [List.take_length]
    refine awp_seq_region (fun Z hZ => ?_)
    refine sx_move rfl rfl ?_
    refine sx_assign rfl rfl ?_
    refine sx_nil (hZ _ _ ?_)
    refine awp_forget [(2, _)] (Kn.cons rfl (Kn.nil)) ?_
    refine awp_ret ?_
    exact nx_ret1 rfl rfl rfl
end Go.Proofs.Ytbldhokgbcljjaa
