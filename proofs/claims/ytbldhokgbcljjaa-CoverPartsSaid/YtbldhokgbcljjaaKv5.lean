/- The walks of the document's put, Union, In and Total at intervals. Conditions: the lists are not too long. -/
import Derived.Test.YtbldhokgbcljjaaKv4
namespace Go.Proofs.Ytbldhokgbcljjaa
open Go.RowKit
set_option linter.unusedVariables false
set_option linter.unusedSimpArgs false
set_option maxRecDepth 100000
theorem touch_fn (x y : Sp) (hx : x.a < 18446744073709551616 ∧ x.b < 18446744073709551616) (hy : y.a < 18446744073709551616 ∧ y.b < 18446744073709551616) :
    Fn Try.prog 104 [x.val, y.val] [] fun v _ => v = .bool (touchQ x y) := by
  refine Fn.enter (N := 33) Try.func104 rfl (by kernel_rfl) rfl (fun w0 => ?_)

  refine awp_seq_region (fun Z hZ => ?_)
  refine sx_box rfl rfl rfl (fun g1 => ?_)
  refine sx_box rfl rfl rfl (fun g2 => ?_)
  refine sx_assign rfl rfl ?_
  refine sx_nil (hZ _ _ ?_)
  refine awp_forget [(2, _), (3, _)] (Kn.cons rfl (Kn.cons rfl (Kn.nil))) ?_

  refine awp_seq_meet [(4, .bool (touchQ x y))] [] (fun Z hZ => ?_) ?_
  · refine sx_fieldAddr rfl tyF75_1 (by first | (simp only [Nat.reduceAdd, Nat.add_zero, Nat.zero_add]; first | done | rfl) | rfl) rfl ?_
    refine sx_load 1 rfl rfl tyA36 tyS36 rfl rfl ?_
    refine sx_fieldAddr rfl tyF75_0 (by first | (simp only [Nat.reduceAdd, Nat.add_zero, Nat.zero_add]; first | done | rfl) | rfl) rfl ?_
    refine sx_load 0 rfl rfl tyA36 tyS36 rfl rfl ?_
    refine sx_geq rfl rfl rfl ?_
    refine sx_move rfl rfl ?_
    refine sx_split 10 rfl (fun hb5 => ?_) (fun hb5 => ?_)
    · refine sx_off rfl rfl rfl rfl rfl ?_
      refine sx_off rfl rfl rfl rfl rfl ?_
      refine sx_off rfl rfl rfl rfl rfl ?_
      refine sx_off rfl rfl rfl rfl rfl ?_
      refine sx_off rfl rfl rfl rfl rfl ?_
      refine sx_off rfl rfl rfl rfl rfl ?_
      refine sx_pick rfl rfl rfl ?_
      refine sx_move rfl rfl ?_
      refine sx_on rfl rfl rfl ?_
      refine sx_fieldAddr rfl tyF75_1 (by first | (simp only [Nat.reduceAdd, Nat.add_zero, Nat.zero_add]; first | done | rfl) | rfl) rfl ?_
      refine sx_on rfl rfl rfl ?_
      refine sx_load 0 rfl rfl tyA36 tyS36 rfl rfl ?_
      refine sx_on rfl rfl rfl ?_
      refine sx_fieldAddr rfl tyF75_0 (by first | (simp only [Nat.reduceAdd, Nat.add_zero, Nat.zero_add]; first | done | rfl) | rfl) rfl ?_
      refine sx_on rfl rfl rfl ?_
      refine sx_load 1 rfl rfl tyA36 tyS36 rfl rfl ?_
      refine sx_on rfl rfl rfl ?_
      refine sx_geq rfl rfl rfl ?_
      refine sx_on rfl rfl rfl ?_
      refine sx_move rfl rfl ?_
      refine sx_split 24 rfl (fun hb19 => ?_) (fun hb19 => ?_)
      · refine sx_off rfl rfl rfl rfl rfl ?_
        refine sx_off rfl rfl rfl rfl rfl ?_
        refine sx_off rfl rfl rfl rfl rfl ?_
        refine sx_off rfl rfl rfl rfl rfl ?_
        refine sx_off rfl rfl rfl rfl rfl ?_
        refine sx_off rfl rfl rfl rfl rfl ?_
        refine sx_on rfl rfl rfl ?_
        refine sx_pick rfl rfl rfl ?_
        refine sx_pick rfl rfl rfl ?_
        refine sx_assign rfl rfl ?_
        refine sx_nil (hZ _ _ ?_ ?_)
        · exact Kn.cons (congrArg some (congrArg Value.bool (by unfold touchQ; first | (rw [Bool.eq_iff_iff]; simp at *; omega) | (simp at *; omega)))) Kn.nil
        · exact HLe.sub (List.nil_sublist _)
      · refine sx_on rfl rfl rfl ?_
        refine sx_fieldAddr rfl tyF75_1 (by first | (simp only [Nat.reduceAdd, Nat.add_zero, Nat.zero_add]; first | done | rfl) | rfl) rfl ?_
        refine sx_on rfl rfl rfl ?_
        refine sx_load 0 rfl rfl tyA36 tyS36 rfl rfl ?_
        refine sx_on rfl rfl rfl ?_
        refine sx_add rfl rfl (((y.b + 1) % 18446744073709551616 : Nat) : Int) (by rw [IntKind.wrap_u64]; omega) rfl ?_
        refine sx_on rfl rfl rfl ?_
        refine sx_fieldAddr rfl tyF75_0 (by first | (simp only [Nat.reduceAdd, Nat.add_zero, Nat.zero_add]; first | done | rfl) | rfl) rfl ?_
        refine sx_on rfl rfl rfl ?_
        refine sx_load 1 rfl rfl tyA36 tyS36 rfl rfl ?_
        refine sx_on rfl rfl rfl ?_
        refine sx_eql rfl rfl rfl ?_
        refine sx_on rfl rfl rfl ?_
        refine sx_pick rfl rfl rfl ?_
        refine sx_pick rfl rfl rfl ?_
        refine sx_assign rfl rfl ?_
        refine sx_nil (hZ _ _ ?_ ?_)
        · exact Kn.cons (congrArg some (congrArg Value.bool (by unfold touchQ; first | (rw [Bool.eq_iff_iff]; simp at *; omega) | (simp at *; omega)))) Kn.nil
        · exact HLe.sub (List.nil_sublist _)
    · refine sx_on rfl rfl rfl ?_
      refine sx_fieldAddr rfl tyF75_1 (by first | (simp only [Nat.reduceAdd, Nat.add_zero, Nat.zero_add]; first | done | rfl) | rfl) rfl ?_
      refine sx_on rfl rfl rfl ?_
      refine sx_load 1 rfl rfl tyA36 tyS36 rfl rfl ?_
      refine sx_on rfl rfl rfl ?_
      refine sx_add rfl rfl (((x.b + 1) % 18446744073709551616 : Nat) : Int) (by rw [IntKind.wrap_u64]; omega) rfl ?_
      refine sx_on rfl rfl rfl ?_
      refine sx_fieldAddr rfl tyF75_0 (by first | (simp only [Nat.reduceAdd, Nat.add_zero, Nat.zero_add]; first | done | rfl) | rfl) rfl ?_
      refine sx_on rfl rfl rfl ?_
      refine sx_load 0 rfl rfl tyA36 tyS36 rfl rfl ?_
      refine sx_on rfl rfl rfl ?_
      refine sx_eql rfl rfl rfl ?_
      refine sx_pick rfl rfl rfl ?_
      refine sx_move rfl rfl ?_
      refine sx_split 18 rfl (fun hb13 => ?_) (fun hb13 => ?_)
      · refine sx_on rfl rfl rfl ?_
        refine sx_fieldAddr rfl tyF75_1 (by first | (simp only [Nat.reduceAdd, Nat.add_zero, Nat.zero_add]; first | done | rfl) | rfl) rfl ?_
        refine sx_on rfl rfl rfl ?_
        refine sx_load 0 rfl rfl tyA36 tyS36 rfl rfl ?_
        refine sx_on rfl rfl rfl ?_
        refine sx_fieldAddr rfl tyF75_0 (by first | (simp only [Nat.reduceAdd, Nat.add_zero, Nat.zero_add]; first | done | rfl) | rfl) rfl ?_
        refine sx_on rfl rfl rfl ?_
        refine sx_load 1 rfl rfl tyA36 tyS36 rfl rfl ?_
        refine sx_on rfl rfl rfl ?_
        refine sx_geq rfl rfl rfl ?_
        refine sx_on rfl rfl rfl ?_
        refine sx_move rfl rfl ?_
        refine sx_split 24 rfl (fun hb19 => ?_) (fun hb19 => ?_)
        · refine sx_off rfl rfl rfl rfl rfl ?_
          refine sx_off rfl rfl rfl rfl rfl ?_
          refine sx_off rfl rfl rfl rfl rfl ?_
          refine sx_off rfl rfl rfl rfl rfl ?_
          refine sx_off rfl rfl rfl rfl rfl ?_
          refine sx_off rfl rfl rfl rfl rfl ?_
          refine sx_on rfl rfl rfl ?_
          refine sx_pick rfl rfl rfl ?_
          refine sx_pick rfl rfl rfl ?_
          refine sx_assign rfl rfl ?_
          refine sx_nil (hZ _ _ ?_ ?_)
          · exact Kn.cons (congrArg some (congrArg Value.bool (by unfold touchQ; first | (rw [Bool.eq_iff_iff]; simp at *; omega) | (simp at *; omega)))) Kn.nil
          · exact HLe.sub (List.nil_sublist _)
        · refine sx_on rfl rfl rfl ?_
          refine sx_fieldAddr rfl tyF75_1 (by first | (simp only [Nat.reduceAdd, Nat.add_zero, Nat.zero_add]; first | done | rfl) | rfl) rfl ?_
          refine sx_on rfl rfl rfl ?_
          refine sx_load 0 rfl rfl tyA36 tyS36 rfl rfl ?_
          refine sx_on rfl rfl rfl ?_
          refine sx_add rfl rfl (((y.b + 1) % 18446744073709551616 : Nat) : Int) (by rw [IntKind.wrap_u64]; omega) rfl ?_
          refine sx_on rfl rfl rfl ?_
          refine sx_fieldAddr rfl tyF75_0 (by first | (simp only [Nat.reduceAdd, Nat.add_zero, Nat.zero_add]; first | done | rfl) | rfl) rfl ?_
          refine sx_on rfl rfl rfl ?_
          refine sx_load 1 rfl rfl tyA36 tyS36 rfl rfl ?_
          refine sx_on rfl rfl rfl ?_
          refine sx_eql rfl rfl rfl ?_
          refine sx_on rfl rfl rfl ?_
          refine sx_pick rfl rfl rfl ?_
          refine sx_pick rfl rfl rfl ?_
          refine sx_assign rfl rfl ?_
          refine sx_nil (hZ _ _ ?_ ?_)
          · exact Kn.cons (congrArg some (congrArg Value.bool (by unfold touchQ; first | (rw [Bool.eq_iff_iff]; simp at *; omega) | (simp at *; omega)))) Kn.nil
          · exact HLe.sub (List.nil_sublist _)
      · refine sx_off rfl rfl rfl rfl rfl ?_
        refine sx_off rfl rfl rfl rfl rfl ?_
        refine sx_off rfl rfl rfl rfl rfl ?_
        refine sx_off rfl rfl rfl rfl rfl ?_
        refine sx_off rfl rfl rfl rfl rfl ?_
        refine sx_off rfl rfl rfl rfl rfl ?_
        refine sx_offU rfl rfl rfl rfl ?_
        refine sx_offU rfl rfl rfl rfl ?_
        refine sx_offU rfl rfl rfl rfl ?_
        refine sx_offU rfl rfl rfl rfl ?_
        refine sx_offU rfl rfl rfl rfl ?_
        refine sx_offU rfl rfl rfl rfl ?_
        refine sx_off rfl rfl rfl rfl rfl ?_
        refine sx_pick rfl rfl rfl ?_
        refine sx_assign rfl rfl ?_
        refine sx_nil (hZ _ _ ?_ ?_)
        · exact Kn.cons (congrArg some (congrArg Value.bool (by unfold touchQ; first | (rw [Bool.eq_iff_iff]; simp at *; omega) | (simp at *; omega)))) Kn.nil
        · exact HLe.sub (List.nil_sublist _)
  refine awp_ret ?_
  exact nx_ret1 rfl rfl rfl
theorem srow_none {A : Option Addr} {n c : Nat} (hv : RowOk (.slice A n c) n) : A = none → c = 0 := fun ha => by
  rcases hv with ⟨h, _⟩ | ⟨g, c', h⟩
  · simp only [Value.slice.injEq] at h; exact h.2.2
  · simp only [Value.slice.injEq] at h; rw [ha] at h; cases h.1
theorem rd_partS {A A' : Option Addr} {n c : Nat} {L : List Sp} {i j : Nat} {w : World} (h : Rd w 2 A L.length (scells L)) (hA : SlIn A L.length c) (h1 : i ≤ j) (h2 : j ≤ L.length) (ht : TailA A i 2 A' (j - i)) (hA' : SlIn A' (j - i) n) : Rd w 2 A' (j - i) (scells ((L.drop i).take (j - i))) := by
  have e1 : ((L.drop i).take (j - i)).length = j - i := by rw [List.length_take, List.length_drop]; omega
  refine ⟨by rw [scells_len, e1], fun ha => hA'.nil ha, fun hn => ?_⟩
  obtain ⟨g, o, h4, h5, h6⟩ := h.2.2 (by omega)
  obtain ⟨o', h7, h8⟩ := ht.2 g o h4
  obtain rfl := h8 hn
  refine ⟨g, _, h7, h5, fun p u hu => ?_⟩
  rw [← scells_tk, ← scells_drop, List.getElem?_take] at hu
  split at hu
  · rw [List.getElem?_drop] at hu
    rw [Nat.add_assoc]
    exact h6 _ u hu
  · cases hu
theorem merge_at {L : List Sp} {i : Nat} {x s : Sp} (h : L[i]? = some x) : mergeQ s (L.drop i) = if touchQ x s then mergeQ ⟨min x.a s.a, max x.b s.b⟩ (L.drop (i + 1)) else ((mergeQ s (L.drop (i + 1))).1, x :: (mergeQ s (L.drop (i + 1))).2) := by
  rw [fm_split h]
  rfl
/-- How many stand ahead of an interval. -/
def aheadQ (s : Sp) (L : List Sp) : Nat := (L.takeWhile fun t => decide (t.a < s.a)).length
theorem ahead_le (s : Sp) (L : List Sp) : aheadQ s L ≤ L.length := (List.takeWhile_sublist _).length_le
theorem ahead_at {s : Sp} {L : List Sp} {i : Nat} {x : Sp} (h : L[i]? = some x) : aheadQ s (L.drop i) = if x.a < s.a then aheadQ s (L.drop (i + 1)) + 1 else 0 := by
  unfold aheadQ
  rw [fm_split h, List.takeWhile_cons]
  by_cases hx : x.a < s.a
  · rw [if_pos hx, if_pos (by simpa using hx)]; rfl
  · rw [if_neg hx, if_neg (by simpa using hx)]; rfl
theorem ins_is (s : Sp) (L : List Sp) : insQ s L = L.take (aheadQ s L) ++ s :: L.drop (aheadQ s L) := by
  unfold insQ aheadQ
  have h := List.takeWhile_append_dropWhile (p := fun t : Sp => decide (t.a < s.a)) (l := L)
  have e1 : L.take (L.takeWhile fun t => decide (t.a < s.a)).length = L.takeWhile fun t => decide (t.a < s.a) := by
    conv => lhs; arg 2; rw [← h]
    exact List.take_left' rfl
  have e2 : L.drop (L.takeWhile fun t => decide (t.a < s.a)).length = L.dropWhile fun t => decide (t.a < s.a) := by
    conv => lhs; arg 2; rw [← h]
    exact List.drop_left' rfl
  rw [e1, e2]
theorem rput_fn (A : Option Addr) (c : Nat) (L : List Sp) (s : Sp) (hA : SlOk A L.length) (hL : L.length ≤ 100000) (ho : SpsOk (s :: L)) :
    Fn Try.prog 82 [.slice A L.length c, s.val] (roE A (scells L)) fun u H' => (u = .slice A L.length c ∧ putQs L s = L ∧ H' = []) ∨ (RowOk u (putQs L s).length ∧ H' = rowE u 75 2 (scells (putQs L s))) := by
  have hso := ho s List.mem_cons_self
  have hlo : ∀ y ∈ L, y.a < 18446744073709551616 ∧ y.b < 18446744073709551616 := fun y hy => ho y (List.mem_cons_of_mem _ hy)
  refine Fn.enter (N := 81) Try.func82 rfl (by kernel_rfl) rfl (fun w0 => ?_)

  refine awp_seq_region (fun Z hZ => ?_)
  refine sx_box rfl rfl rfl (fun g1 => ?_)
  refine sx_assign rfl rfl ?_
  refine sx_nil (hZ _ _ ?_)
  refine awp_forget [(0, _), (3, _)] (Kn.cons rfl (Kn.cons rfl (Kn.nil))) ?_

  refine awp_seq ?_
  refine awp_seq_region (fun Z hZ => ?_)
  refine sx_fieldAddr rfl tyF75_0 (by first | (simp only [Nat.reduceAdd, Nat.add_zero, Nat.zero_add]; first | done | rfl) | rfl) rfl ?_
  first | refine sx_load 0 rfl rfl tyA36 tyS36 rfl rfl ?_
  refine sx_fieldAddr rfl tyF75_1 (by first | (simp only [Nat.reduceAdd, Nat.add_zero, Nat.zero_add]; first | done | rfl) | rfl) rfl ?_
  first | refine sx_load 0 rfl rfl tyA36 tyS36 rfl rfl ?_
  refine sx_gtr rfl rfl rfl ?_
  refine sx_nil (hZ _ _ ?_)
  refine awp_forget [(0, _), (3, _), (13, _)] (Kn.cons rfl (Kn.cons rfl (Kn.cons rfl (Kn.nil)))) ?_
  refine awp_cond rfl (fun h1 => ?_) (fun h1 => ?_)
  · have h1' : s.b < s.a := by simp at h1; omega
    refine awp_seq_region (fun Z hZ => ?_)
    refine sx_move rfl rfl ?_
    refine sx_assign rfl rfl ?_
    refine sx_nil (hZ _ _ ?_)
    refine awp_forget [(4, _)] (Kn.cons rfl (Kn.nil)) ?_
    refine awp_ret ?_
    repeat (with_reducible refine nx_then_ret ?_)
    exact nx_ret1h [] rfl rfl (HLe.sub (List.nil_sublist _)) (.inl ⟨rfl, by unfold putQs; rw [if_pos h1'], rfl⟩)
  have h1' : ¬ s.b < s.a := by simp at h1; omega
  have hput : putQs L s = insQ (mergeQ s L).1 (mergeQ s L).2 := by unfold putQs; rw [if_neg h1']
  refine awp_skip ?_
  with_reducible refine nx_normal ?_
  refine awp_seq_region (fun Z hZ => ?_)
  refine sx_assign rfl rfl ?_
  refine sx_nil (hZ _ _ ?_)
  refine awp_forget [(0, _), (3, _), (5, _)] (Kn.cons rfl (Kn.cons rfl (Kn.cons rfl (Kn.nil)))) ?_
  refine awp_seq_region (fun Z hZ => ?_)
  refine sx_assign rfl rfl ?_
  refine sx_nil (hZ _ _ ?_)
  refine awp_forget [(0, _), (3, _), (5, _), (6, _)] (Kn.cons rfl (Kn.cons rfl (Kn.cons rfl (Kn.cons rfl (Kn.nil))))) ?_
  refine awp_cut (ι := Value) (fun v => [(3, ptr g1 0), (5, v), (6, iq (0 : Nat))]) (fun v => .own g1 75 (mergeQ s L).1.cells :: rowE v 75 2 (scells (mergeQ s L).2)) (fun v => RowOk v (mergeQ s L).2.length ∧ (mergeQ s L).2.length ≤ L.length) ?_ ?_
  · refine awp_seq_region (fun Z hZ => ?_)
    refine sx_assign rfl rfl ?_
    refine sx_nil (hZ _ _ ?_)
    refine awp_forget [(0, _), (3, _), (5, _), (6, _), (7, _)] (Kn.cons rfl (Kn.cons rfl (Kn.cons rfl (Kn.cons rfl (Kn.cons rfl (Kn.nil)))))) ?_
    refine awp_block ?_
    refine awp_loop (ι := Nat × Sp × Value × List Sp) (fun i => [(0, .slice A L.length c), (3, ptr g1 0), (5, i.2.2.1), (6, iq (0 : Nat)), (7, iq (i.1 : Nat))]) (fun i => .own g1 75 i.2.1.cells :: (roE A (scells L) ++ rowE i.2.2.1 75 2 (scells i.2.2.2)))
      (fun i => i.1 ≤ L.length ∧ (i.2.1.a < 18446744073709551616 ∧ i.2.1.b < 18446744073709551616) ∧ RowOk i.2.2.1 i.2.2.2.length ∧ i.2.2.2.length ≤ i.1 ∧ mergeQ s L = ((mergeQ i.2.1 (L.drop i.1)).1, i.2.2.2 ++ (mergeQ i.2.1 (L.drop i.1)).2)) (fun i => L.length - i.1) (0, s, .slice none 0 0, []) ⟨by simp, hso, RowOk.nil, by simp, by simp⟩ (Kn.cons rfl (Kn.cons rfl (Kn.cons rfl (Kn.cons rfl (Kn.cons rfl Kn.nil))))) (by simp [rowE]; exact HLe.refl _) ?_
    rintro ⟨i, x, v, M⟩ ⟨hi, hx, hv, hM, hq⟩
    simp only at hi hx hv hM hq
    refine awp_seq ?_
    refine awp_seq_region (fun Z hZ => ?_)
    refine sx_move rfl rfl ?_
    refine sx_move rfl rfl ?_
    refine sx_len Try.underlying22 rfl rfl ?_
    refine sx_lss rfl rfl rfl ?_
    refine sx_nil (hZ _ _ ?_)
    refine awp_forget [(0, _), (3, _), (5, _), (6, _), (7, _), (18, _)] (Kn.cons rfl (Kn.cons rfl (Kn.cons rfl (Kn.cons rfl (Kn.cons rfl (Kn.cons rfl (Kn.nil))))))) ?_
    refine awp_cond rfl (fun h2 => ?_) (fun h2 => ?_)
    · have hlt : i < L.length := by simpa using h2
      obtain ⟨y, hy⟩ : ∃ y, L[i]? = some y := ⟨_, List.getElem?_eq_getElem hlt⟩
      have hyo := hlo y (List.mem_of_getElem? hy)
      rw [merge_at hy] at hq
      obtain ⟨g, o, rfl⟩ := hA.some (by omega)
      refine awp_heap (.own g1 75 x.cells :: .ro g o (scells L) :: rowE v 75 2 (scells M)) (HLe.refl _) ?_
      refine awp_skip ?_
      with_reducible refine nx_normal ?_
      refine awp_seq (awp_block ?_)

      refine awq_seq_region mixed (by kernel_rfl) (fun Z hZ => ?_)
      refine sq_move rfl rfl ?_
      refine sq_move rfl rfl ?_
      refine sq_indexAddr (o + i * 2) Try.underlying22 tyS75 rfl rfl (by omega) (by simp) rfl ?_
      refine sq_loadRo 1 rfl rfl (i * 2) rfl tyA75 tyS75 (scells_all hy) rfl ?_
      refine sq_loadA 0 rfl rfl tyA75 tyS75 (by first | (simp only [List.length_cons, List.length_nil, Nat.reduceAdd, Nat.zero_add, Nat.add_zero]; first | done | rfl) | rfl) (by first | (simp only [List.take_succ_cons, List.take_zero, List.drop_succ_cons, List.drop_zero, List.cons_append, List.nil_append, List.append_nil, List.length_cons, List.length_nil, Nat.reduceAdd, Nat.zero_add, Nat.add_zero, Value.cells, wrV]; first | done | rfl) | rfl) rfl ?_
      refine sq_callP (touch_fn y x hyo hx) rfl rfl ?_
      refine sq_nil (hZ _ _ ?_)
      refine awp_forget [(0, _), (3, _), (5, _), (6, _), (7, _), (26, _)] (Kn.cons rfl (Kn.cons rfl (Kn.cons rfl (Kn.cons rfl (Kn.cons rfl (Kn.cons rfl (Kn.nil))))))) ?_
      refine awp_cond rfl (fun h3 => ?_) (fun h3 => ?_)
      · rw [if_pos h3] at hq
        refine awf_region _ [(0, true), (1, true), (2, true), (3, true), (4, true), (5, true), (6, true), (7, true), (8, true), (9, true), (10, true), (11, true), (12, true), (13, true), (14, true), (15, true), (16, true)] 17 rfl mixed (by kernel_rfl) (HLe.pick [0, 1] (by simp) (by simp only [pick, List.filterMap_cons, List.filterMap_nil, List.getElem?_cons_succ, List.getElem?_cons_zero]; rfl)) (fun Z hZ => ?_)
        refine tw_p rfl ?_
        refine sv_move rfl rfl ?_
        refine sv_nil ?_
        refine tw_p rfl ?_
        refine sv_move rfl rfl ?_
        refine sv_nil ?_
        refine tw_p rfl ?_
        refine sv_indexAddr (o + i * 2) Try.underlying22 tyS75 rfl rfl (by omega) (by simp) rfl ?_
        refine sv_nil ?_
        refine tw_p rfl ?_
        refine sv_fieldAddr rfl tyF75_0 (by first | (simp only [Nat.reduceAdd, Nat.add_zero, Nat.zero_add]; first | done | rfl) | rfl) rfl ?_
        refine sv_nil ?_
        refine tw_p rfl ?_
        refine sv_loadRo 1 rfl rfl (i * 2) (by omega) tyA36 tyS36 (scells_a hy) rfl ?_
        refine sv_nil ?_
        refine tw_p rfl ?_
        refine sv_fieldAddr rfl tyF75_0 (by first | (simp only [Nat.reduceAdd, Nat.add_zero, Nat.zero_add]; first | done | rfl) | rfl) rfl ?_
        refine sv_nil ?_
        refine tw_p rfl ?_
        refine sv_load 0 rfl rfl tyA36 tyS36 rfl rfl ?_
        refine sv_nil ?_
        refine tw_p rfl ?_
        refine sv_min rfl rfl ((min y.a x.a : Nat) : Int) (by omega) rfl ?_
        refine sv_nil ?_
        refine tw_p rfl ?_
        refine sv_move rfl rfl ?_
        refine sv_nil ?_
        refine tw_p rfl ?_
        refine sv_move rfl rfl ?_
        refine sv_nil ?_
        refine tw_p rfl ?_
        refine sv_indexAddr (o + i * 2) Try.underlying22 tyS75 rfl rfl (by omega) (by simp) rfl ?_
        refine sv_nil ?_
        refine tw_p rfl ?_
        refine sv_fieldAddr rfl tyF75_1 (by first | (simp only [Nat.reduceAdd, Nat.add_zero, Nat.zero_add]; first | done | rfl) | rfl) rfl ?_
        refine sv_nil ?_
        refine tw_p rfl ?_
        refine sv_loadRo 1 rfl rfl (i * 2 + 1) (by omega) tyA36 tyS36 (scells_b hy) rfl ?_
        refine sv_nil ?_
        refine tw_p rfl ?_
        refine sv_fieldAddr rfl tyF75_1 (by first | (simp only [Nat.reduceAdd, Nat.add_zero, Nat.zero_add]; first | done | rfl) | rfl) rfl ?_
        refine sv_nil ?_
        refine tw_p rfl ?_
        refine sv_load 0 rfl rfl tyA36 tyS36 rfl rfl ?_
        refine sv_nil ?_
        refine tw_p rfl ?_
        refine sv_max rfl rfl ((max y.b x.b : Nat) : Int) (by omega) rfl ?_
        refine sv_nil ?_
        refine tw_p rfl ?_
        refine sv_build tyZ75 tyP75 rfl rfl (by first | (simp only [List.take_succ_cons, List.take_zero, List.drop_succ_cons, List.drop_zero, List.cons_append, List.nil_append, List.append_nil, List.length_cons, List.length_nil, Nat.reduceAdd, Nat.zero_add, Nat.add_zero, Value.cells, wrV, zrep_one, List.replicate_succ, List.replicate_zero, Nat.reduceMul, Nat.zero_mul]; first | done | rfl) | rfl) rfl ?_
        refine sv_nil ?_
        refine tw_nil ?_
        refine sx_store 0 rfl rfl rfl tyS75 (by first | (simp only [Value.cells]; first | done | rfl) | rfl) rfl rfl (by first | (simp only [List.length_cons, List.length_nil, Nat.reduceAdd, Nat.zero_add, Nat.add_zero]; first | done | rfl) | rfl) (by first | (simp only [List.take_succ_cons, List.take_zero, List.drop_succ_cons, List.drop_zero, List.cons_append, List.nil_append, List.append_nil, List.length_cons, List.length_nil, Nat.reduceAdd, Nat.zero_add, Nat.add_zero, Value.cells, wrV]; first | done | rfl) | rfl) (by first | (simp only [List.set_cons_succ, List.set_cons_zero]; first | done | rfl) | rfl) ?_
        refine sx_nil (hZ _ _ ?_)
        refine nx_forget [(0, _), (3, _), (5, _), (6, _), (7, _)] (Kn.cons rfl (Kn.cons rfl (Kn.cons rfl (Kn.cons rfl (Kn.cons rfl (Kn.nil)))))) ?_
        repeat (with_reducible refine nx_block_normal ?_)
        with_reducible refine nx_normal ?_
        refine awp_region (fun Z hZ => ?_)
        refine sx_move rfl rfl ?_
        refine sx_add rfl rfl ((i + 1 : Nat) : Int) (by rw [IntWalk.i64_in _ (by omega)]; omega) rfl ?_
        refine sx_assign rfl rfl ?_
        refine sx_nil (hZ _ _ ?_)
        refine nx_forget [(0, _), (3, _), (5, _), (6, _), (7, _)] (Kn.cons rfl (Kn.cons rfl (Kn.cons rfl (Kn.cons rfl (Kn.cons rfl (Kn.nil)))))) ?_
        exact nx_round (i + 1, ⟨min y.a x.a, max y.b x.b⟩, v, M) ⟨hlt, ⟨by show min y.a x.a < _; omega, by show max y.b x.b < _; omega⟩, hv, by show M.length ≤ i + 1; omega, hq⟩ (by simp; omega) (Kn.cons rfl (Kn.cons rfl (Kn.cons rfl (Kn.cons rfl (Kn.cons rfl Kn.nil))))) (HLe.refl _)
      · rw [if_neg (by rw [h3]; simp)] at hq

        refine awp_region (fun Z hZ => ?_)
        refine sx_move rfl rfl ?_
        refine sx_move rfl rfl ?_
        refine sx_move rfl rfl ?_
        refine sx_indexAddr (o + i * 2) Try.underlying22 tyS75 rfl rfl (by omega) (by simp) rfl ?_
        refine sx_loadRo 1 rfl rfl (i * 2) rfl tyA75 tyS75 (scells_all hy) rfl ?_
        refine sx_buildSlice Try.underlying22 tyS75 tyZ75 rfl rfl rfl rfl (by first | (simp only [List.take_succ_cons, List.take_zero, List.drop_succ_cons, List.drop_zero, List.cons_append, List.nil_append, List.append_nil, List.length_cons, List.length_nil, Nat.reduceAdd, Nat.zero_add, Nat.add_zero, Value.cells, wrV, zrep_one, List.replicate_succ, List.replicate_zero, Nat.reduceMul, Nat.zero_mul]; first | done | rfl) | rfl) rfl (fun g2 => ?_)
        refine sx_appendE [_, _, _] elemSpR rfl hv (by rw [scells_len]) rfl (fun w hw => rd_own (i := 0) (xs := y.cells) rfl rfl hw) rfl (by show _ ≤ 9223372036854775807; omega) (by omega) (HLe.refl _) rfl (fun v2 hv2 => ?_)
        refine sx_assign rfl rfl ?_
        refine sx_nil (hZ _ _ ?_)
        refine nx_forget [(0, _), (3, _), (5, _), (6, _), (7, _)] (Kn.cons rfl (Kn.cons rfl (Kn.cons rfl (Kn.cons rfl (Kn.cons rfl (Kn.nil)))))) ?_
        repeat (with_reducible refine nx_block_normal ?_)
        with_reducible refine nx_normal ?_
        refine awp_region (fun Z hZ => ?_)
        refine sx_move rfl rfl ?_
        refine sx_add rfl rfl ((i + 1 : Nat) : Int) (by rw [IntWalk.i64_in _ (by omega)]; omega) rfl ?_
        refine sx_assign rfl rfl ?_
        refine sx_nil (hZ _ _ ?_)
        refine nx_forget [(0, _), (3, _), (5, _), (6, _), (7, _)] (Kn.cons rfl (Kn.cons rfl (Kn.cons rfl (Kn.cons rfl (Kn.cons rfl (Kn.nil)))))) ?_
        refine nx_round (i + 1, x, v2, M ++ [y]) ⟨hlt, hx, by rw [List.length_append]; exact hv2, by rw [List.length_append]; show M.length + 1 ≤ i + 1; omega, by rw [hq]; simp⟩ (by simp; omega) (Kn.cons rfl (Kn.cons rfl (Kn.cons rfl (Kn.cons rfl (Kn.cons rfl Kn.nil))))) ?_
        simp only
        rw [scells_app]
        exact HLe.drop 1 rfl
    · refine awp_exit ?_
      repeat (with_reducible refine nx_then_exit ?_)
      with_reducible refine nx_block_exit ?_
      have hke : i = L.length := by simp at h2; omega
      subst hke
      rw [List.drop_length, mergeQ, List.append_nil] at hq
      rw [hq]
      exact nx_cut v ⟨hv, hM⟩ (Kn.cons rfl (Kn.cons rfl (Kn.cons rfl Kn.nil))) (HLe.sub (.cons_cons _ (List.sublist_append_right _ _)))
  rintro v ⟨hv, hMl⟩
  obtain ⟨q, hq⟩ : ∃ q, mergeQ s L = q := ⟨_, rfl⟩
  rw [hq] at hput hv hMl ⊢
  obtain ⟨x, M⟩ := q
  simp only at hput hv hMl
  obtain ⟨Am, cm, rfl, hAm, hlem⟩ := hv.ro
  refine awp_pure (fun w hw => Go.Proofs.Ytbldhokgbcljjaa.row_cap hv (fun y hy => List.mem_cons_of_mem _ hy) hw) fun hcap => ?_
  have hSl : SlIn Am M.length cm := ⟨hAm, hcap.1, srow_none hv⟩
  refine awp_heap (.own g1 75 x.cells :: roE Am (scells M)) (by have := hlem [.own g1 75 x.cells] [] 75 2 (scells M); simpa using this) ?_
  have hal := ahead_le x M
  refine awp_cut (ι := Unit) (fun _ => [(3, ptr g1 0), (5, .slice Am M.length cm), (6, iq (aheadQ x M : Nat))]) (fun _ => .own g1 75 x.cells :: roE Am (scells M)) (fun _ => True) ?_ ?_
  · refine awp_block ?_
    refine awp_loop (ι := Nat) (fun i => [(3, ptr g1 0), (5, .slice Am M.length cm), (6, iq (i : Nat))]) (fun _ => .own g1 75 x.cells :: roE Am (scells M)) (fun i => i ≤ M.length ∧ aheadQ x M = i + aheadQ x (M.drop i)) (fun i => M.length - i) 0 (by simp) (Kn.cons rfl (Kn.cons rfl (Kn.cons rfl Kn.nil))) (HLe.refl _) ?_
    rintro i ⟨hi, hq⟩
    rcases Nat.lt_or_ge i M.length with hlt | hge
    · obtain ⟨y, hy⟩ : ∃ y, M[i]? = some y := ⟨_, List.getElem?_eq_getElem hlt⟩
      obtain ⟨g, o, rfl⟩ := hAm.some (by omega)
      rw [ahead_at hy] at hq
      refine awp_heap [.own g1 75 x.cells, .ro g o (scells M)] (HLe.refl _) ?_

      refine awp_seq ?_
      refine awq_seq_meet [(3, ptr g1 0), (5, .slice (some ⟨g, o, none⟩) M.length cm), (6, iq (i : Nat)), (64, .bool (decide (y.a < x.a)))] [.own g1 75 x.cells, .ro g o (scells M)] mixed (by kernel_rfl) (fun Z hZ => ?_) ?_
      · refine sq_move rfl rfl ?_
        refine sq_move rfl rfl ?_
        refine sq_len Try.underlying22 rfl rfl ?_
        refine sq_lss rfl rfl rfl ?_
        refine sq_move rfl rfl ?_
        refine sq_force 55 rfl true (by simp; omega) ?_
        refine sq_on rfl rfl rfl ?_
        refine sq_move rfl rfl ?_
        refine sq_on rfl rfl rfl ?_
        refine sq_move rfl rfl ?_
        refine sq_on rfl rfl rfl ?_
        refine sq_indexAddr (o + i * 2) Try.underlying22 tyS75 rfl rfl (by omega) (by simp) rfl ?_
        refine sq_on rfl rfl rfl ?_
        refine sq_fieldAddr rfl tyF75_0 (by first | (simp only [Nat.reduceAdd, Nat.add_zero, Nat.zero_add]; first | done | rfl) | rfl) rfl ?_
        refine sq_on rfl rfl rfl ?_
        refine sq_loadRo 1 rfl rfl (i * 2) (by omega) tyA36 tyS36 (scells_a hy) rfl ?_
        refine sq_on rfl rfl rfl ?_
        refine sq_fieldAddr rfl tyF75_0 (by first | (simp only [Nat.reduceAdd, Nat.add_zero, Nat.zero_add]; first | done | rfl) | rfl) rfl ?_
        refine sq_on rfl rfl rfl ?_
        refine sq_load 0 rfl rfl tyA36 tyS36 rfl rfl ?_
        refine sq_on rfl rfl rfl ?_
        refine sq_lss rfl rfl rfl ?_
        refine sq_pick rfl rfl rfl ?_
        refine sq_nil (hZ _ _ ?_ ?_)
        · exact Kn.cons rfl (Kn.cons rfl (Kn.cons rfl (Kn.cons (congrArg some (congrArg Value.bool (by first | rfl | (rw [Bool.eq_iff_iff]; simp; done) | (simp; done)))) Kn.nil)))
        · exact HLe.refl _
      refine awp_cond rfl (fun h5 => ?_) (fun h5 => ?_)
      · have h5' : y.a < x.a := by simpa using h5
        rw [if_pos h5'] at hq
        refine awp_skip ?_
        with_reducible refine nx_normal ?_
        refine awp_block ?_
        refine awp_region (fun Z hZ => ?_)
        refine sx_move rfl rfl ?_
        refine sx_add rfl rfl ((i + 1 : Nat) : Int) (by rw [IntWalk.i64_in _ (by omega)]; omega) rfl ?_
        refine sx_assign rfl rfl ?_
        refine sx_nil (hZ _ _ ?_)
        refine nx_forget [(3, _), (5, _), (6, _)] (Kn.cons rfl (Kn.cons rfl (Kn.cons rfl (Kn.nil)))) ?_
        refine nx_block_normal ?_
        exact nx_round (i + 1) ⟨hlt, by omega⟩ (by omega) (Kn.cons rfl (Kn.cons rfl (Kn.cons rfl Kn.nil))) (HLe.refl _)
      · have h5' : ¬ y.a < x.a := by simpa using h5
        rw [if_neg h5', Nat.add_zero] at hq
        refine awp_exit ?_
        repeat (with_reducible refine nx_then_exit ?_)
        with_reducible refine nx_block_exit ?_
        rw [hq]
        exact nx_cut () trivial (Kn.cons rfl (Kn.cons rfl (Kn.cons rfl Kn.nil))) (HLe.refl _)
    · have hke : i = M.length := by omega
      subst hke
      have hz : aheadQ x (M.drop M.length) = 0 := by rw [List.drop_length]; rfl
      rw [hz, Nat.add_zero] at hq

      refine awp_seq ?_
      refine awq_seq_meet [(3, ptr g1 0), (5, .slice Am M.length cm), (6, iq (M.length : Nat)), (64, .bool false)] (.own g1 75 x.cells :: roE Am (scells M)) mixed (by kernel_rfl) (fun Z hZ => ?_) ?_
      · refine sq_move rfl rfl ?_
        refine sq_move rfl rfl ?_
        refine sq_len Try.underlying22 rfl rfl ?_
        refine sq_lss rfl rfl rfl ?_
        refine sq_move rfl rfl ?_
        refine sq_force 55 rfl false (by simp) ?_
        refine sq_off rfl rfl rfl rfl rfl ?_
        refine sq_off rfl rfl rfl rfl rfl ?_
        refine sq_off rfl rfl rfl rfl rfl ?_
        refine sq_off rfl rfl rfl rfl rfl ?_
        refine sq_off rfl rfl rfl rfl rfl ?_
        refine sq_off rfl rfl rfl rfl rfl ?_
        refine sq_off rfl rfl rfl rfl rfl ?_
        refine sq_off rfl rfl rfl rfl rfl ?_
        refine sq_pick rfl rfl rfl ?_
        refine sq_nil (hZ _ _ ?_ ?_)
        · exact Kn.cons rfl (Kn.cons rfl (Kn.cons rfl (Kn.cons rfl Kn.nil)))
        · exact HLe.refl _
      refine awp_cond rfl (fun h5 => ?_) (fun h5 => ?_)
      · cases h5
      refine awp_exit ?_
      repeat (with_reducible refine nx_then_exit ?_)
      with_reducible refine nx_block_exit ?_
      rw [hq]
      exact nx_cut () trivial (Kn.cons rfl (Kn.cons rfl (Kn.cons rfl Kn.nil))) (HLe.refl _)
  rintro ⟨⟩ -
  have hins := ins_is x M
  obtain ⟨a, ha⟩ : ∃ a, aheadQ x M = a := ⟨_, rfl⟩
  rw [ha] at hins hal ⊢
  have hrd : ∀ {Wr : List Nat} {H : Heap} (w : World), Sat w0 Wr H w → (∀ y ∈ roE Am (scells M), y ∈ H) → Rd w 2 Am M.length (scells M) := fun w hw hy => rd_roE hAm hy (by rw [scells_len]) hw

  refine awp_seq_region (fun Z hZ => ?_)
  refine sx_assign rfl rfl ?_
  refine sx_nil (hZ _ _ ?_)
  refine awp_forget [(3, _), (5, _), (6, _), (8, _)] (Kn.cons rfl (Kn.cons rfl (Kn.cons rfl (Kn.cons rfl (Kn.nil))))) ?_
  refine awp_seq_region (fun Z hZ => ?_)
  refine sx_move rfl rfl ?_
  refine sx_move rfl rfl ?_
  refine sx_move rfl rfl ?_
  refine sx_part (i := 0) (j := a) Try.underlying22 tyS75 hSl rfl rfl rfl (by omega) (by omega) rfl (fun A1 hA1 ht1 => ?_)
  refine sx_appendE (xs := scells []) (_ :: roE Am (scells M)) elemSpR rfl RowOk.nil rfl rfl (fun w hw => rd_partS (hrd w hw (fun y hy => List.mem_cons_of_mem _ hy)) hSl (by omega) hal ht1 hA1) (scells_one _) (by show _ ≤ 9223372036854775807; omega) (by omega) (by show HLe ((_ :: roE Am (scells M)) ++ []) _; rw [List.append_nil]; exact HLe.refl _) rfl (fun v1 hv1 => ?_)
  refine sx_assign rfl rfl ?_
  refine sx_nil (hZ _ _ ?_)
  refine awp_forget [(3, _), (5, _), (6, _), (8, _)] (Kn.cons rfl (Kn.cons rfl (Kn.cons rfl (Kn.cons rfl (Kn.nil))))) ?_
  have e1 : scells [] ++ scells (((M.drop 0).take (a - 0))) = scells (M.take a) := rfl
  rw [e1]
  have hv1' : RowOk v1 (M.take a).length := by rw [List.length_take]; rw [show min a M.length = 0 + (a - 0) by omega]; exact hv1
  refine awp_seq_region (fun Z hZ => ?_)
  refine sx_move rfl rfl ?_
  first | refine sx_loadA 0 rfl rfl tyA75 tyS75 (by first | (simp only [List.length_cons, List.length_nil, Nat.reduceAdd, Nat.zero_add, Nat.add_zero]; first | done | rfl) | rfl) (by first | (simp only [List.take_succ_cons, List.take_zero, List.drop_succ_cons, List.drop_zero, List.cons_append, List.nil_append, List.append_nil, List.length_cons, List.length_nil, Nat.reduceAdd, Nat.zero_add, Nat.add_zero, Value.cells, wrV]; first | done | rfl) | rfl) rfl ?_
  refine sx_buildSlice Try.underlying22 tyS75 tyZ75 rfl rfl rfl rfl (by first | (simp only [List.take_succ_cons, List.take_zero, List.drop_succ_cons, List.drop_zero, List.cons_append, List.nil_append, List.append_nil, List.length_cons, List.length_nil, Nat.reduceAdd, Nat.zero_add, Nat.add_zero, Value.cells, wrV, zrep_one, List.replicate_succ, List.replicate_zero, Nat.reduceMul, Nat.zero_mul]; first | done | rfl) | rfl) rfl (fun g3 => ?_)
  refine sx_appendE (xs := scells (M.take a)) (_ :: _ :: roE Am (scells M)) elemSpR rfl hv1' (by rw [scells_len]) rfl (fun w hw => rd_own (i := 0) (xs := x.cells) rfl rfl hw) rfl (by rw [List.length_take]; show _ ≤ 9223372036854775807; omega) (by rw [List.length_take]; omega) (HLe.refl _) rfl (fun v2 hv2 => ?_)
  refine sx_assign rfl rfl ?_
  refine sx_nil (hZ _ _ ?_)
  refine awp_forget [(5, _), (6, _), (8, _)] (Kn.cons rfl (Kn.cons rfl (Kn.cons rfl (Kn.nil)))) ?_

  refine awp_seq_region (fun Z hZ => ?_)
  refine sx_move rfl rfl ?_
  refine sx_move rfl rfl ?_
  refine sx_move rfl rfl ?_
  refine sx_part (i := a) (j := M.length) Try.underlying22 tyS75 hSl rfl rfl rfl (by omega) (by omega) rfl (fun A3 hA3 ht3 => ?_)
  refine sx_appendE (xs := scells (M.take a) ++ x.cells) (_ :: _ :: roE Am (scells M)) elemSpR rfl hv2 (by rw [List.length_append, scells_len]; show _ + 2 = _; omega) rfl (fun w hw => rd_partS (hrd w hw (fun y hy => List.mem_cons_of_mem _ (List.mem_cons_of_mem _ (List.mem_append_left _ hy)))) hSl (by omega) (Nat.le_refl _) ht3 hA3) (scells_one _) (by rw [List.length_take]; show _ ≤ 9223372036854775807; omega) (by rw [List.length_take]; omega) (HLe.refl _) rfl (fun v3 hv3 => ?_)
  refine sx_assign rfl rfl ?_
  refine sx_nil (hZ _ _ ?_)
  refine awp_forget [(4, _)] (Kn.cons rfl (Kn.nil)) ?_
  refine awp_ret ?_
  have e2 : scells (M.take a) ++ x.cells ++ scells ((M.drop a).take (M.length - a)) = scells (putQs L s) := by
    have e : (M.drop a).take (M.length - a) = M.drop a := List.take_of_length_le (by rw [List.length_drop]; exact Nat.le_refl _)
    rw [hput, hins, scells_app, List.append_assoc, e]
    rfl
  have e3 : (M.take a).length + 1 + (M.length - a) = (putQs L s).length := by rw [hput, hins, List.length_append, List.length_cons, List.length_drop, List.length_take]; omega
  rw [e2]
  rw [e3] at hv3
  exact nx_ret1h _ rfl rfl (HLe.sub (List.sublist_append_right (_ :: _ :: roE Am (scells M)) _)) (.inr ⟨hv3, rfl⟩)
end Go.Proofs.Ytbldhokgbcljjaa
