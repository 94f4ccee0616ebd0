/- The walk of the document's Between. Conditions: the lists are not too long. -/
import Derived.Test.YtahmhcmfeloclaaDf8
namespace Go.Proofs.Ytahmhcmfeloclaa
open Go.RowKit
set_option linter.unusedVariables false
set_option linter.unusedSimpArgs false
theorem row_endD {A : Option Addr} {n c : Nat} (hle : ∀ (X Y : Heap) (t : TypeId) (size : Nat) (xs : List Value), HLe (X ++ (roE A xs ++ Y)) (X ++ (rowE (.slice A n c) t size xs ++ Y))) (X : Heap) (t : TypeId) (size : Nat) (xs : List Value) : HLe (X ++ roE A xs) (X ++ rowE (.slice A n c) t size xs) := by
  have := hle X [] t size xs
  rwa [List.append_nil, List.append_nil] at this
theorem grbet_fn (A : Option Addr) (c : Nat) (L : List It) (T : Heap) (hA : ArgOk A L.length) (hT : 0 < L.length → T = roE A (icells L)) (hro : Ro T) (hL : ChOk L)
    (B : Option Addr) (d : Nat) (M : List It) (U : Heap) (hB : ArgOk B M.length) (hU : 0 < M.length → U = roE B (icells M)) (hroU : Ro U) (hM : ChOk M) :
    Fn Try.prog 16 [.slice A L.length c, .slice B M.length d] (T ++ U) fun v H' => RowOk v (betQ L M).length ∧ H' = rowE v 55 3 (gcells (betQ L M)) := by
  have hl1 := hL.len
  have hl2 := hM.len
  have hg1 := fun k => rget_fn A c L T hA hT (by omega) k
  have hg2 := fun k => rget_fn B d M U hB hU (by omega) k
  refine Fn.enter (N := 126) Try.func16 rfl (by kernel_rfl) rfl (fun w0 => ?_)

  refine awp_seq_region (fun Z hZ => ?_)
  refine sx_assign rfl rfl ?_
  refine sx_nil (hZ _ _ ?_)
  refine awp_forget [(0, _), (1, _)] (Kn.cons rfl (Kn.cons rfl (Kn.nil))) ?_
  refine awp_seq_region (fun Z hZ => ?_)
  refine sx_assign rfl rfl ?_
  refine sx_nil (hZ _ _ ?_)
  refine awp_forget [(0, _), (1, _), (5, _)] (Kn.cons rfl (Kn.cons rfl (Kn.cons rfl (Kn.nil)))) ?_
  refine awp_cut (ι := Option Addr × Nat) (fun s => [(0, .slice A L.length c), (1, .slice B M.length d), (5, .slice s.1 (allQ (L ++ M)).length s.2)]) (fun s => (T ++ U) ++ roE s.1 (icells (allQ (L ++ M)))) (fun s => SlIn s.1 (allQ (L ++ M)).length s.2) ?_ ?_
  · refine awp_seq_region (fun Z hZ => ?_)
    refine sx_assign rfl rfl ?_
    refine sx_nil (hZ _ _ ?_)
    refine awp_forget [(0, _), (1, _), (5, _), (6, _)] (Kn.cons rfl (Kn.cons rfl (Kn.cons rfl (Kn.cons rfl (Kn.nil))))) ?_
    refine awp_block ?_
    refine awp_loop (ι := Nat × Option Addr × Nat) (fun s => [(0, .slice A L.length c), (1, .slice B M.length d), (5, .slice s.2.1 (allQ ((L ++ M).take s.1)).length s.2.2), (6, iq (s.1 : Nat))]) (fun s => (T ++ U) ++ roE s.2.1 (icells (allQ ((L ++ M).take s.1))))
      (fun s => s.1 ≤ (L ++ M).length ∧ SlIn s.2.1 (allQ ((L ++ M).take s.1)).length s.2.2) (fun s => (L ++ M).length - s.1) (0, none, 0) ⟨by simp, ⟨.inl ⟨rfl, rfl⟩, Nat.le_refl _, fun _ => rfl⟩⟩ (Kn.cons rfl (Kn.cons rfl (Kn.cons rfl (Kn.cons rfl Kn.nil)))) (by simp [roE]; exact HLe.refl _) ?_
    rintro ⟨i, A1, c1⟩ ⟨hi, hA1⟩
    simp only at hi hA1
    have hlm : (L ++ M).length = L.length + M.length := List.length_append
    refine awp_seq ?_
    refine awp_seq_region (fun Z hZ => ?_)
    refine sx_move rfl rfl ?_
    refine sx_move rfl rfl ?_
    first | refine sx_len Try.underlying22 rfl rfl ?_ | refine sx_lenS Try.underlying22 rfl rfl ?_
    refine sx_move rfl rfl ?_
    first | refine sx_len Try.underlying22 rfl rfl ?_ | refine sx_lenS Try.underlying22 rfl rfl ?_
    refine sx_add rfl rfl ((L.length + M.length : Nat) : Int) (by rw [IntWalk.i64_in _ (by omega)]; omega) rfl ?_
    first | refine sx_lss rfl rfl rfl ?_ | refine sx_slss rfl rfl rfl ?_
    refine sx_nil (hZ _ _ ?_)
    refine awp_forget [(0, _), (1, _), (5, _), (6, _), (22, _)] (Kn.cons rfl (Kn.cons rfl (Kn.cons rfl (Kn.cons rfl (Kn.cons rfl (Kn.nil)))))) ?_
    first | refine awp_cond rfl (fun h => ?_) (fun h => ?_) | refine awp_seq (awp_cond rfl (fun h => ?_) (fun h => ?_))
    · have hlt : i < (L ++ M).length := by simp at h; omega
      have hx := itAt_at hlt
      obtain ⟨x, hxe⟩ : ∃ x, itAt (L ++ M) i = x := ⟨_, rfl⟩
      rw [hxe] at hx
      have htk : (L ++ M).take (i + 1) = (L ++ M).take i ++ [x] := by rw [List.take_add_one, hx]; rfl
      have hins : allQ ((L ++ M).take (i + 1)) = insQ (allQ ((L ++ M).take i)) x := by rw [htk, allQ_snoc]
      obtain ⟨hrD, _, hlD⟩ := allQ_ok ((L ++ M).take i)
      rw [List.length_take] at hlD
      obtain ⟨D, hD⟩ : ∃ D, allQ ((L ++ M).take i) = D := ⟨_, rfl⟩
      rw [hD] at hA1 hins hrD hlD ⊢
      refine awp_skip ?_
      repeat (with_reducible (first | refine nx_block_normal ?_ | refine nx_scope_normal ?_))
      with_reducible first | refine nx_normal ?_ | refine nx_normalM ?_
      refine awp_seq (awp_block ?_)
      refine awp_seq_region (fun Z hZ => ?_)
      refine sx_build tyZ58 tyP58 rfl rfl (by first | (simp only [List.take_succ_cons, List.take_zero, List.drop_succ_cons, List.drop_zero, List.cons_append, List.nil_append, List.append_nil, List.length_cons, List.length_nil, Nat.reduceAdd, Nat.zero_add, Nat.add_zero, Value.cells, wrV, zrep_one, List.replicate_succ, List.replicate_zero, Nat.reduceMul, Nat.zero_mul]; first | done | rfl) | rfl) rfl ?_
      refine sx_alloc tyZ58 rfl (fun g1 => ?_)
      first | refine sx_store 0 rfl rfl rfl tyS58 (by first | (simp only [Value.cells]; first | done | rfl) | rfl) rfl rfl (by first | (simp only [List.length_cons, List.length_nil, Nat.reduceAdd, Nat.zero_add, Nat.add_zero]; first | done | rfl) | rfl) (by first | (simp only [List.take_succ_cons, List.take_zero, List.drop_succ_cons, List.drop_zero, List.cons_append, List.nil_append, List.append_nil, List.length_cons, List.length_nil, Nat.reduceAdd, Nat.zero_add, Nat.add_zero, Value.cells, wrV]; first | done | rfl) | rfl) (by first | (simp only [List.set_cons_succ, List.set_cons_zero]; first | done | rfl) | rfl) ?_
      refine sx_nil (hZ _ _ ?_)
      refine awp_forget [(0, _), (1, _), (5, _), (6, _), (7, _)] (Kn.cons rfl (Kn.cons rfl (Kn.cons rfl (Kn.cons rfl (Kn.cons rfl (Kn.nil)))))) ?_
      refine awp_cut (ι := Unit) (fun _ => [(0, .slice A L.length c), (1, .slice B M.length d), (5, .slice A1 D.length c1), (6, iq (i : Nat)), (7, ptr g1 0)]) (fun _ => .own g1 58 x.cells :: ((T ++ U) ++ roE A1 (icells D))) (fun _ => True) ?_ ?_
      · skip
        refine awp_seq_region (fun Z hZ => ?_)
        refine sx_move rfl rfl ?_
        refine sx_move rfl rfl ?_
        first | refine sx_len Try.underlying22 rfl rfl ?_ | refine sx_lenS Try.underlying22 rfl rfl ?_
        first | refine sx_lss rfl rfl rfl ?_ | refine sx_slss rfl rfl rfl ?_
        refine sx_nil (hZ _ _ ?_)
        refine awp_forget [(0, _), (1, _), (5, _), (6, _), (7, _), (29, _)] (Kn.cons rfl (Kn.cons rfl (Kn.cons rfl (Kn.cons rfl (Kn.cons rfl (Kn.cons rfl (Kn.nil))))))) ?_
        first | refine awp_cond rfl (fun h1 => ?_) (fun h1 => ?_) | refine awp_seq (awp_cond rfl (fun h1 => ?_) (fun h1 => ?_))
        · have hlt1 : i < L.length := by simpa using h1
          have hx1 : L[i]? = some x := by rw [List.getElem?_append_left hlt1] at hx; exact hx
          obtain ⟨g, o, rfl⟩ := hA (by omega)
          obtain rfl := hT (by omega)

          refine awp_region (fun Z hZ => ?_)
          refine sx_move rfl rfl ?_
          refine sx_move rfl rfl ?_
          refine sx_indexAddr (o + i * 2) Try.underlying22 tyS58 rfl rfl (by first | omega | (simp; omega)) (by simp) rfl ?_
          refine sx_loadRo 1 rfl rfl (i * 2) rfl tyA58 tyS58 (icells_all hx1) rfl ?_
          first | refine sx_store 0 rfl rfl rfl tyS58 (by first | (simp only [Value.cells]; first | done | rfl) | rfl) rfl rfl (by first | (simp only [List.length_cons, List.length_nil, Nat.reduceAdd, Nat.zero_add, Nat.add_zero]; first | done | rfl) | rfl) (by first | (simp only [List.take_succ_cons, List.take_zero, List.drop_succ_cons, List.drop_zero, List.cons_append, List.nil_append, List.append_nil, List.length_cons, List.length_nil, Nat.reduceAdd, Nat.zero_add, Nat.add_zero, Value.cells, wrV]; first | done | rfl) | rfl) (by first | (simp only [List.set_cons_succ, List.set_cons_zero]; first | done | rfl) | rfl) ?_ | refine sx_store 1 rfl rfl rfl tyS58 (by first | (simp only [Value.cells]; first | done | rfl) | rfl) rfl rfl (by first | (simp only [List.length_cons, List.length_nil, Nat.reduceAdd, Nat.zero_add, Nat.add_zero]; first | done | rfl) | rfl) (by first | (simp only [List.take_succ_cons, List.take_zero, List.drop_succ_cons, List.drop_zero, List.cons_append, List.nil_append, List.append_nil, List.length_cons, List.length_nil, Nat.reduceAdd, Nat.zero_add, Nat.add_zero, Value.cells, wrV]; first | done | rfl) | rfl) (by first | (simp only [List.set_cons_succ, List.set_cons_zero]; first | done | rfl) | rfl) ?_
          refine sx_nil (hZ _ _ ?_)
          refine nx_forget [(0, _), (1, _), (5, _), (6, _), (7, _)] (Kn.cons rfl (Kn.cons rfl (Kn.cons rfl (Kn.cons rfl (Kn.cons rfl (Kn.nil)))))) ?_
          exact nx_cut () trivial (Kn.cons rfl (Kn.cons rfl (Kn.cons rfl (Kn.cons rfl (Kn.cons rfl Kn.nil))))) (HLe.refl _)
        · have hge : L.length ≤ i := by simp at h1; omega
          have hx1 : M[i - L.length]? = some x := by rw [List.getElem?_append_right hge] at hx; exact hx
          obtain ⟨j, hj⟩ : ∃ j, i - L.length = j := ⟨_, rfl⟩
          rw [hj] at hx1
          have hjm := (List.getElem?_eq_some_iff.1 hx1).1
          obtain ⟨g, o, rfl⟩ := hB (by omega)
          obtain rfl := hU (by omega)
          refine awp_heap (.own g1 58 [uq 0, .string (str [])] :: .ro g o (icells M) :: (T ++ roE A1 (icells D))) (fun _ _ _ hw => hw.perm (List.Perm.cons _ (by rw [List.append_assoc]; exact List.perm_middle))) ?_

          refine awp_region (fun Z hZ => ?_)
          refine sx_move rfl rfl ?_
          refine sx_move rfl rfl ?_
          refine sx_move rfl rfl ?_
          first | refine sx_len Try.underlying22 rfl rfl ?_ | refine sx_lenS Try.underlying22 rfl rfl ?_
          refine sx_sub rfl rfl ((j : Nat) : Int) (by rw [IntWalk.i64_in _ (by omega)]; omega) rfl ?_
          refine sx_indexAddr (o + j * 2) Try.underlying22 tyS58 rfl rfl (by first | omega | (simp; omega)) (by simp) rfl ?_
          refine sx_loadRo 1 rfl rfl (j * 2) rfl tyA58 tyS58 (icells_all hx1) rfl ?_
          first | refine sx_store 0 rfl rfl rfl tyS58 (by first | (simp only [Value.cells]; first | done | rfl) | rfl) rfl rfl (by first | (simp only [List.length_cons, List.length_nil, Nat.reduceAdd, Nat.zero_add, Nat.add_zero]; first | done | rfl) | rfl) (by first | (simp only [List.take_succ_cons, List.take_zero, List.drop_succ_cons, List.drop_zero, List.cons_append, List.nil_append, List.append_nil, List.length_cons, List.length_nil, Nat.reduceAdd, Nat.zero_add, Nat.add_zero, Value.cells, wrV]; first | done | rfl) | rfl) (by first | (simp only [List.set_cons_succ, List.set_cons_zero]; first | done | rfl) | rfl) ?_ | refine sx_store 1 rfl rfl rfl tyS58 (by first | (simp only [Value.cells]; first | done | rfl) | rfl) rfl rfl (by first | (simp only [List.length_cons, List.length_nil, Nat.reduceAdd, Nat.zero_add, Nat.add_zero]; first | done | rfl) | rfl) (by first | (simp only [List.take_succ_cons, List.take_zero, List.drop_succ_cons, List.drop_zero, List.cons_append, List.nil_append, List.append_nil, List.length_cons, List.length_nil, Nat.reduceAdd, Nat.zero_add, Nat.add_zero, Value.cells, wrV]; first | done | rfl) | rfl) (by first | (simp only [List.set_cons_succ, List.set_cons_zero]; first | done | rfl) | rfl) ?_
          refine sx_nil (hZ _ _ ?_)
          refine nx_forget [(0, _), (1, _), (5, _), (6, _), (7, _)] (Kn.cons rfl (Kn.cons rfl (Kn.cons rfl (Kn.cons rfl (Kn.cons rfl (Kn.nil)))))) ?_
          exact nx_cut () trivial (Kn.cons rfl (Kn.cons rfl (Kn.cons rfl (Kn.cons rfl (Kn.cons rfl Kn.nil))))) (fun _ _ _ hw => hw.perm (List.Perm.cons _ (by
            show (Ent.ro g o (icells M) :: (T ++ roE A1 (icells D))).Perm ((T ++ [Ent.ro g o (icells M)]) ++ roE A1 (icells D))
            rw [List.append_assoc]; exact List.perm_middle.symm)))
      rintro ⟨⟩ -
      obtain ⟨f1, f2, f3⟩ := cLo_facts x.id D
      have hdlen : D.length ≤ 5000 := by omega

      refine awp_seq_region (fun Z hZ => ?_)
      refine sx_assign rfl rfl ?_
      refine sx_nil (hZ _ _ ?_)
      refine awp_forget [(0, _), (1, _), (5, _), (6, _), (7, _), (8, _)] (Kn.cons rfl (Kn.cons rfl (Kn.cons rfl (Kn.cons rfl (Kn.cons rfl (Kn.cons rfl (Kn.nil))))))) ?_
      refine awp_cut (ι := Unit) (fun _ => [(0, .slice A L.length c), (1, .slice B M.length d), (5, .slice A1 D.length c1), (6, iq (i : Nat)), (7, ptr g1 0), (8, iq (cLo x.id D : Nat))]) (fun _ => .own g1 58 x.cells :: ((T ++ U) ++ roE A1 (icells D))) (fun _ => True) ?_ ?_
      · refine awp_block ?_
        refine awp_loop (ι := Nat) (fun q => [(0, .slice A L.length c), (1, .slice B M.length d), (5, .slice A1 D.length c1), (6, iq (i : Nat)), (7, ptr g1 0), (8, iq (q : Nat))]) (fun _ => .own g1 58 x.cells :: ((T ++ U) ++ roE A1 (icells D)))
          (fun q => q ≤ D.length ∧ ∀ j, j < q → (itAt D j).id < x.id) (fun q => D.length - q) 0 ⟨by simp, fun j hj => by omega⟩ (Kn.cons rfl (Kn.cons rfl (Kn.cons rfl (Kn.cons rfl (Kn.cons rfl (Kn.cons rfl Kn.nil)))))) (HLe.refl _) ?_
        rintro q ⟨hq, hj⟩
        rcases Nat.lt_or_ge q D.length with hlt2 | hge
        · have hy := itAt_at hlt2
          obtain ⟨g, o, rfl⟩ := hA1.arg (by omega)
          refine awp_heap (.own g1 58 x.cells :: .ro g o (icells D) :: (T ++ U)) (fun _ _ _ hw => hw.perm (List.Perm.cons _ (List.perm_append_comm (l₁ := T ++ U) (l₂ := [_])))) ?_

          refine awp_seq ?_
          refine awq_seq_meet [(0, .slice A L.length c), (1, .slice B M.length d), (5, .slice (some ⟨g, o, none⟩) D.length c1), (6, iq (i : Nat)), (7, ptr g1 0), (8, iq (q : Nat)), (54, .bool (decide ((itAt D q).id < x.id)))] (.own g1 58 x.cells :: .ro g o (icells D) :: (T ++ U)) mixed (by kernel_rfl) (fun Z hZ => ?_) ?_
          · refine sq_move rfl rfl ?_
            refine sq_move rfl rfl ?_
            first | refine sq_len Try.underlying22 rfl rfl ?_ | refine sq_lenS Try.underlying22 rfl rfl ?_
            first | refine sq_lss rfl rfl rfl ?_ | refine sq_slss rfl rfl rfl ?_
            refine sq_move rfl rfl ?_
            refine sq_force 45 rfl true (by simpa using hlt2) ?_
            refine sq_on rfl rfl rfl ?_
            refine sq_move rfl rfl ?_
            refine sq_on rfl rfl rfl ?_
            refine sq_move rfl rfl ?_
            refine sq_on rfl rfl rfl ?_
            refine sq_indexAddr (o + q * 2) Try.underlying22 tyS58 rfl rfl (by first | omega | (simp; omega)) (by simp) rfl ?_
            refine sq_on rfl rfl rfl ?_
            refine sq_fieldAddr rfl tyF58_0 (by first | (simp only [Nat.reduceAdd, Nat.add_zero, Nat.zero_add]; first | done | rfl) | rfl) rfl ?_
            refine sq_on rfl rfl rfl ?_
            refine sq_loadRo 1 rfl rfl (q * 2) rfl tyA51 tyS51 (icells_id hy) rfl ?_
            refine sq_on rfl rfl rfl ?_
            refine sq_fieldAddr rfl tyF58_0 (by first | (simp only [Nat.reduceAdd, Nat.add_zero, Nat.zero_add]; first | done | rfl) | rfl) rfl ?_
            refine sq_on rfl rfl rfl ?_
            first | refine sq_load 0 rfl rfl tyA51 tyS51 rfl rfl ?_ | refine sq_load 1 rfl rfl tyA51 tyS51 rfl rfl ?_
            refine sq_on rfl rfl rfl ?_
            first | refine sq_lss rfl rfl rfl ?_ | refine sq_slss rfl rfl rfl ?_
            refine sq_pick rfl rfl rfl ?_
            refine sq_nil (hZ _ _ ?_ ?_)
            · exact Kn.cons rfl (Kn.cons rfl (Kn.cons rfl (Kn.cons rfl (Kn.cons rfl (Kn.cons rfl (Kn.cons (congrArg some (congrArg Value.bool (by first | rfl | (simp; done) | (rw [Bool.eq_iff_iff]; simp)))) Kn.nil))))))
            · exact HLe.refl _
          first | refine awp_cond rfl (fun h4 => ?_) (fun h4 => ?_) | refine awp_seq (awp_cond rfl (fun h4 => ?_) (fun h4 => ?_))
          · have h4' : (itAt D q).id < x.id := by simpa using h4
            refine awp_skip ?_
            repeat (with_reducible (first | refine nx_block_normal ?_ | refine nx_scope_normal ?_))
            with_reducible first | refine nx_normal ?_ | refine nx_normalM ?_
            refine awp_block ?_
            refine awp_region (fun Z hZ => ?_)
            refine sx_move rfl rfl ?_
            refine sx_add rfl rfl ((q + 1 : Nat) : Int) (by rw [IntWalk.i64_in _ (by omega)]; omega) rfl ?_
            refine sx_assign rfl rfl ?_
            refine sx_nil (hZ _ _ ?_)
            refine nx_forget [(0, _), (1, _), (5, _), (6, _), (7, _), (8, _)] (Kn.cons rfl (Kn.cons rfl (Kn.cons rfl (Kn.cons rfl (Kn.cons rfl (Kn.cons rfl (Kn.nil))))))) ?_
            repeat (with_reducible refine nx_block_normal ?_)
            refine nx_round (q + 1) ⟨by omega, fun j hj2 => ?_⟩ (by omega) (Kn.cons rfl (Kn.cons rfl (Kn.cons rfl (Kn.cons rfl (Kn.cons rfl (Kn.cons rfl Kn.nil)))))) (fun _ _ _ hw => hw.perm (List.Perm.cons _ (List.perm_append_comm (l₁ := [_]) (l₂ := T ++ U))))
            rcases Nat.lt_or_ge j q with h5 | h5
            · exact hj j h5
            · obtain rfl : j = q := by omega
              exact h4'
          · have h4' : ¬ (itAt D q).id < x.id := by simpa using h4
            have he := cLo_eq x.id D q hq hj (fun _ => by omega)
            refine awp_exit ?_
            repeat (with_reducible (first | refine nx_then_exit ?_ | refine nx_block_other (by decide) ?_ | refine nx_scope_exit ?_))
            with_reducible refine nx_block_exit ?_
            repeat (with_reducible (first | refine nx_block_normal ?_ | refine nx_scope_normal ?_))
            exact nx_cut () trivial (Kn.cons rfl (Kn.cons rfl (Kn.cons rfl (Kn.cons rfl (Kn.cons rfl (Kn.cons (by rw [he]; rfl) Kn.nil)))))) (fun _ _ _ hw => hw.perm (List.Perm.cons _ (List.perm_append_comm (l₁ := [_]) (l₂ := T ++ U))))
        · have he := cLo_eq x.id D q hq hj (fun h => by omega)

          refine awp_seq ?_
          refine awq_seq_meet [(0, .slice A L.length c), (1, .slice B M.length d), (5, .slice A1 D.length c1), (6, iq (i : Nat)), (7, ptr g1 0), (8, iq (q : Nat)), (54, .bool false)] (.own g1 58 x.cells :: ((T ++ U) ++ roE A1 (icells D))) mixed (by kernel_rfl) (fun Z hZ => ?_) ?_
          · refine sq_move rfl rfl ?_
            refine sq_move rfl rfl ?_
            first | refine sq_len Try.underlying22 rfl rfl ?_ | refine sq_lenS Try.underlying22 rfl rfl ?_
            first | refine sq_lss rfl rfl rfl ?_ | refine sq_slss rfl rfl rfl ?_
            refine sq_move rfl rfl ?_
            refine sq_force 45 rfl false (by simpa using hge) ?_
            refine sq_off rfl rfl rfl rfl rfl ?_
            refine sq_off rfl rfl rfl rfl rfl ?_
            refine sq_off rfl rfl rfl rfl rfl ?_
            refine sq_off rfl rfl rfl rfl rfl ?_
            refine sq_off rfl rfl rfl rfl rfl ?_
            refine sq_off rfl rfl rfl rfl rfl ?_
            refine sq_off rfl rfl rfl rfl rfl ?_
            refine sq_off rfl rfl rfl rfl rfl ?_
            refine sq_pick rfl rfl rfl ?_
            refine sq_nil (hZ _ _ ?_ ?_)
            · exact Kn.cons rfl (Kn.cons rfl (Kn.cons rfl (Kn.cons rfl (Kn.cons rfl (Kn.cons rfl (Kn.cons rfl Kn.nil))))))
            · exact HLe.refl _
          first | refine awp_cond rfl (fun h4 => ?_) (fun h4 => ?_) | refine awp_seq (awp_cond rfl (fun h4 => ?_) (fun h4 => ?_))
          · cases h4
          · refine awp_exit ?_
            repeat (with_reducible (first | refine nx_then_exit ?_ | refine nx_block_other (by decide) ?_ | refine nx_scope_exit ?_))
            with_reducible refine nx_block_exit ?_
            repeat (with_reducible (first | refine nx_block_normal ?_ | refine nx_scope_normal ?_))
            exact nx_cut () trivial (Kn.cons rfl (Kn.cons rfl (Kn.cons rfl (Kn.cons rfl (Kn.cons rfl (Kn.cons (by rw [he]; rfl) Kn.nil)))))) (HLe.refl _)
      rintro ⟨⟩ -
      obtain ⟨p, hp⟩ : ∃ p, cLo x.id D = p := ⟨_, rfl⟩
      rw [hp] at f1 f2 f3 ⊢
      have hcap := hA1.cap
      have hrd : ∀ w0 Wr w, Sat w0 Wr (roE A1 (icells D)) w → Rd w 2 A1 D.length (icells D) := fun w0 Wr w hw => rd_arg hA1.arg (fun _ => rfl) (icells_len D) hA1.nil (HLe.refl _) hw
      refine awp_heap (.own g1 58 x.cells :: (roE A1 (icells D) ++ (T ++ U))) (fun _ _ _ hw => hw.perm (List.Perm.cons _ List.perm_append_comm)) ?_

      refine awp_seq ?_
      refine awq_seq_meet [(0, .slice A L.length c), (1, .slice B M.length d), (5, .slice A1 D.length c1), (6, iq (i : Nat)), (7, ptr g1 0), (8, iq (p : Nat)), (70, .bool (cHas x.id D))] (.own g1 58 x.cells :: (roE A1 (icells D) ++ (T ++ U))) mixed (by kernel_rfl) (fun Z hZ => ?_) ?_
      · refine sq_move rfl rfl ?_
        refine sq_move rfl rfl ?_
        first | refine sq_len Try.underlying22 rfl rfl ?_ | refine sq_lenS Try.underlying22 rfl rfl ?_
        first | refine sq_lss rfl rfl rfl ?_ | refine sq_slss rfl rfl rfl ?_
        refine sq_move rfl rfl ?_
        refine sq_split 61 rfl (fun hb4 => ?_) (fun hb4 => ?_)
        · refine sq_on rfl rfl rfl ?_
          refine sq_move rfl rfl ?_
          refine sq_on rfl rfl rfl ?_
          refine sq_move rfl rfl ?_
          refine sq_on rfl rfl rfl ?_
          obtain ⟨g, o, rfl⟩ := hA1.arg (by simp at hb4; omega)
          refine sq_indexAddr (o + p * 2) Try.underlying22 tyS58 rfl rfl (by simp at hb4; omega) (by simp) rfl ?_
          refine sq_on rfl rfl rfl ?_
          refine sq_fieldAddr rfl tyF58_0 (by first | (simp only [Nat.reduceAdd, Nat.add_zero, Nat.zero_add]; first | done | rfl) | rfl) rfl ?_
          refine sq_on rfl rfl rfl ?_
          refine sq_loadRo 1 rfl rfl (p * 2) rfl tyA51 tyS51 (icells_id (itAt_at (by simp at hb4; omega))) rfl ?_
          refine sq_on rfl rfl rfl ?_
          refine sq_fieldAddr rfl tyF58_0 (by first | (simp only [Nat.reduceAdd, Nat.add_zero, Nat.zero_add]; first | done | rfl) | rfl) rfl ?_
          refine sq_on rfl rfl rfl ?_
          first | refine sq_load 0 rfl rfl tyA51 tyS51 rfl rfl ?_
          refine sq_on rfl rfl rfl ?_
          first | refine sq_eql rfl rfl rfl ?_ | refine sq_seql rfl rfl rfl ?_
          refine sq_pick rfl rfl rfl ?_
          refine sq_nil (hZ _ _ ?_ ?_)
          · exact Kn.cons rfl (Kn.cons rfl (Kn.cons rfl (Kn.cons rfl (Kn.cons rfl (Kn.cons rfl (Kn.cons (congrArg some (congrArg Value.bool (by unfold cHas; rw [hp, Bool.eq_iff_iff]; simp at hb4; first | (simp [hb4]; done) | (simp [hb4]; omega) | (simp; omega)))) Kn.nil))))))
          · exact HLe.refl _
        · refine sq_off rfl rfl rfl rfl rfl ?_
          refine sq_off rfl rfl rfl rfl rfl ?_
          refine sq_off rfl rfl rfl rfl rfl ?_
          refine sq_off rfl rfl rfl rfl rfl ?_
          refine sq_off rfl rfl rfl rfl rfl ?_
          refine sq_off rfl rfl rfl rfl rfl ?_
          refine sq_off rfl rfl rfl rfl rfl ?_
          refine sq_off rfl rfl rfl rfl rfl ?_
          refine sq_pick rfl rfl rfl ?_
          refine sq_nil (hZ _ _ ?_ ?_)
          · exact Kn.cons rfl (Kn.cons rfl (Kn.cons rfl (Kn.cons rfl (Kn.cons rfl (Kn.cons rfl (Kn.cons (congrArg some (congrArg Value.bool (by unfold cHas; rw [hp, Bool.eq_iff_iff]; simp at hb4; first | (simp [hb4]; done) | (simp [hb4]; omega) | (simp; omega)))) Kn.nil))))))
          · exact HLe.refl _
      first | refine awp_cond rfl (fun h5 => ?_) (fun h5 => ?_) | refine awp_seq (awp_cond rfl (fun h5 => ?_) (fun h5 => ?_))
      · have hD2 : allQ ((L ++ M).take (i + 1)) = D := by rw [hins]; unfold insQ; rw [if_pos h5]
        refine awp_exit ?_
        repeat (with_reducible (first | refine nx_then_exit ?_ | refine nx_block_other (by decide) ?_ | refine nx_scope_exit ?_))
        with_reducible refine nx_block_exit ?_
        repeat (with_reducible (first | refine nx_block_normal ?_ | refine nx_scope_normal ?_))
        with_reducible first | refine nx_normal ?_ | refine nx_normalM ?_

        refine awp_region (fun Z hZ => ?_)
        refine sx_move rfl rfl ?_
        refine sx_add rfl rfl ((i + 1 : Nat) : Int) (by rw [IntWalk.i64_in _ (by omega)]; omega) rfl ?_
        refine sx_assign rfl rfl ?_
        refine sx_nil (hZ _ _ ?_)
        refine nx_forget [(0, _), (1, _), (5, _), (6, _)] (Kn.cons rfl (Kn.cons rfl (Kn.cons rfl (Kn.cons rfl (Kn.nil))))) ?_
        refine nx_round (i + 1, A1, c1) ⟨hlt, by show SlIn A1 (allQ ((L ++ M).take (i + 1))).length c1; rw [hD2]; exact hA1⟩ (by simp; omega) (Kn.cons rfl (Kn.cons rfl (Kn.cons (congrArg some (congrArg (fun n => Value.slice A1 n c1) (congrArg List.length hD2.symm))) (Kn.cons rfl Kn.nil)))) ?_
        show HLe ((T ++ U) ++ roE A1 (icells (allQ ((L ++ M).take (i + 1))))) _
        rw [hD2]
        exact fun _ _ _ hw => (hw.sub (List.sublist_cons_self _ _)).perm List.perm_append_comm
      have hE : allQ ((L ++ M).take (i + 1)) = D.take p ++ x :: D.drop p := by
        rw [hins]
        unfold insQ cPut
        rw [h5, hp]
        simp
      have hll : (D.take p ++ x :: D.drop p).length = p + 1 + (D.length - p) := by
        rw [List.length_append, List.length_take, List.length_cons, List.length_drop]
        omega
      have hcells : (icells (D.take p) ++ x.cells) ++ icells ((D.drop p).take (D.length - p)) = icells (D.take p ++ x :: D.drop p) := by
        rw [List.take_of_length_le (show (D.drop p).length ≤ D.length - p by rw [List.length_drop]; exact Nat.le_refl _)]
        simp only [icells, List.flatMap_append, List.flatMap_cons, List.append_assoc]
      refine awp_skip ?_
      repeat (with_reducible (first | refine nx_block_normal ?_ | refine nx_scope_normal ?_))
      with_reducible first | refine nx_normal ?_ | refine nx_normalM ?_
      refine awp_seq_region (fun Z hZ => ?_)
      refine sx_assign rfl rfl ?_
      refine sx_nil (hZ _ _ ?_)
      refine awp_forget [(0, _), (1, _), (5, _), (6, _), (7, _), (8, _), (9, _)] (Kn.cons rfl (Kn.cons rfl (Kn.cons rfl (Kn.cons rfl (Kn.cons rfl (Kn.cons rfl (Kn.cons rfl (Kn.nil)))))))) ?_
      refine awp_seq_region (fun Z hZ => ?_)
      refine sx_move rfl rfl ?_
      refine sx_move rfl rfl ?_
      refine sx_move rfl rfl ?_
      refine sx_part (i := 0) (j := p) Try.underlying22 tyS58 hA1 rfl rfl rfl (by omega) (by omega) rfl (fun A2 hA2 ht2 => ?_)
      refine sx_appendE (v := .slice none 0 0) (xs := []) (.own g1 58 x.cells :: (roE A1 (icells D) ++ (T ++ U))) elemItR rfl RowOk.nil rfl rfl (fun w hw => rd_part (hrd _ _ _ (hw.sub (.cons _ (List.sublist_append_left _ _)))) hA1 (Nat.zero_le p) f1 ht2 hA2) (icells_one _) (by show _ ≤ 9223372036854775807; omega) (by omega) (by rw [show rowE (.slice none 0 0) 58 2 [] = [] from rfl, List.append_nil]; exact HLe.refl _) rfl (fun v1 hv1 => ?_)
      rw [List.drop_zero, Nat.sub_zero, List.nil_append]
      rw [Nat.sub_zero, Nat.zero_add] at hv1
      refine sx_assign rfl rfl ?_
      refine sx_nil (hZ _ _ ?_)
      refine awp_forget [(0, _), (1, _), (5, _), (6, _), (7, _), (8, _), (9, _)] (Kn.cons rfl (Kn.cons rfl (Kn.cons rfl (Kn.cons rfl (Kn.cons rfl (Kn.cons rfl (Kn.cons rfl (Kn.nil)))))))) ?_
      refine awp_seq_region (fun Z hZ => ?_)
      refine sx_move rfl rfl ?_
      first | refine sx_loadA 0 rfl rfl tyA58 tyS58 (by first | (simp only [List.length_cons, List.length_nil, Nat.reduceAdd, Nat.zero_add, Nat.add_zero]; first | done | rfl) | rfl) (by first | (simp only [List.take_succ_cons, List.take_zero, List.drop_succ_cons, List.drop_zero, List.cons_append, List.nil_append, List.append_nil, List.length_cons, List.length_nil, Nat.reduceAdd, Nat.zero_add, Nat.add_zero, Value.cells, wrV]; first | done | rfl) | rfl) rfl ?_
      refine sx_buildSlice Try.underlying22 tyS58 tyZ58 rfl rfl rfl rfl (by first | (simp only [List.take_succ_cons, List.take_zero, List.drop_succ_cons, List.drop_zero, List.cons_append, List.nil_append, List.append_nil, List.length_cons, List.length_nil, Nat.reduceAdd, Nat.zero_add, Nat.add_zero, Value.cells, wrV, zrep_one, List.replicate_succ, List.replicate_zero, Nat.reduceMul, Nat.zero_mul]; first | done | rfl) | rfl) rfl (fun g2 => ?_)
      refine sx_appendE (_ :: .own g1 58 x.cells :: (roE A1 (icells D) ++ (T ++ U))) elemItR rfl hv1 (by rw [icells_len, List.length_take]; omega) rfl (fun w hw => rd_own (i := 0) (n := 1) (xs := x.cells) rfl rfl hw) rfl (by show _ ≤ 9223372036854775807; omega) (by omega) (HLe.refl _) rfl (fun v2 hv2 => ?_)
      refine sx_assign rfl rfl ?_
      refine sx_nil (hZ _ _ ?_)
      refine awp_forget [(0, _), (1, _), (5, _), (6, _), (8, _), (9, _)] (Kn.cons rfl (Kn.cons rfl (Kn.cons rfl (Kn.cons rfl (Kn.cons rfl (Kn.cons rfl (Kn.nil))))))) ?_
      refine awp_region (fun Z hZ => ?_)
      refine sx_move rfl rfl ?_
      refine sx_move rfl rfl ?_
      refine sx_move rfl rfl ?_
      refine sx_part (i := p) (j := D.length) Try.underlying22 tyS58 hA1 rfl rfl rfl (by omega) (by omega) rfl (fun A3 hA3 ht3 => ?_)
      refine sx_appendE (_ :: .own g1 58 x.cells :: (roE A1 (icells D) ++ (T ++ U))) elemItR rfl hv2 (by rw [List.length_append, icells_len, List.length_take]; simp; omega) rfl (fun w hw => rd_part (hrd _ _ _ (hw.sub ((List.Sublist.cons _ (List.Sublist.cons _ (List.sublist_append_left _ _))).trans (List.sublist_append_left (_ :: _ :: (roE A1 (icells D) ++ (T ++ U))) _)))) hA1 f1 (Nat.le_refl _) ht3 hA3) (icells_one _) (by show _ ≤ 9223372036854775807; omega) (by omega) (HLe.refl _) rfl (fun v3 hv3 => ?_)
      rw [hcells]
      replace hv3 : RowOk v3 (D.take p ++ x :: D.drop p).length := by rw [hll]; exact hv3
      obtain ⟨A4, c4, rfl, hA4, hle4⟩ := hv3.ro
      refine sx_pure (fun w hw => row_cap hv3 (fun y hy => List.mem_append_right _ hy) hw) (fun hc4 => ?_)
      refine sx_assign rfl rfl ?_
      refine sx_nil (hZ _ _ ?_)
      refine nx_forget [(0, _), (1, _), (5, _), (6, _)] (Kn.cons rfl (Kn.cons rfl (Kn.cons rfl (Kn.cons rfl (Kn.nil))))) ?_
      repeat (with_reducible (first | refine nx_block_normal ?_ | refine nx_scope_normal ?_))
      with_reducible first | refine nx_normal ?_ | refine nx_normalM ?_

      refine awp_region (fun Z hZ => ?_)
      refine sx_move rfl rfl ?_
      refine sx_add rfl rfl ((i + 1 : Nat) : Int) (by rw [IntWalk.i64_in _ (by omega)]; omega) rfl ?_
      refine sx_assign rfl rfl ?_
      refine sx_nil (hZ _ _ ?_)
      refine nx_forget [(0, _), (1, _), (5, _), (6, _)] (Kn.cons rfl (Kn.cons rfl (Kn.cons rfl (Kn.cons rfl (Kn.nil))))) ?_
      refine nx_round (i + 1, A4, c4) ⟨hlt, by show SlIn A4 (allQ ((L ++ M).take (i + 1))).length c4; rw [hE]; exact ⟨hA4, hc4.1, row_none hv3⟩⟩ (by simp; omega) (Kn.cons rfl (Kn.cons rfl (Kn.cons (congrArg some (congrArg (fun n => Value.slice A4 n c4) (congrArg List.length hE.symm))) (Kn.cons rfl Kn.nil)))) ?_
      show HLe ((T ++ U) ++ roE A4 (icells (allQ ((L ++ M).take (i + 1))))) _
      rw [hE]
      exact (row_endD hle4 (T ++ U) 58 2 (icells (D.take p ++ x :: D.drop p))).trans (HLe.sub (List.Sublist.append_right (.cons _ (.cons _ (List.sublist_append_right _ _))) _))
    · refine awp_exit ?_
      repeat (with_reducible (first | refine nx_then_exit ?_ | refine nx_block_other (by decide) ?_ | refine nx_scope_exit ?_))
      with_reducible refine nx_block_exit ?_
      repeat (with_reducible (first | refine nx_block_normal ?_ | refine nx_scope_normal ?_))
      have hke : i = (L ++ M).length := by simp at h; omega
      subst hke
      exact nx_cut (A1, c1) (by show SlIn A1 (allQ (L ++ M)).length c1; rw [List.take_length] at hA1; exact hA1) (Kn.cons rfl (Kn.cons rfl (Kn.cons (by rw [List.take_length]; rfl) Kn.nil))) (by show HLe ((T ++ U) ++ roE A1 (icells (allQ (L ++ M)))) _; rw [List.take_length]; exact HLe.refl _)
  rintro ⟨A1, c1⟩ hA1
  simp only at hA1
  obtain ⟨_, _, hlD⟩ := allQ_ok (L ++ M)
  rw [List.length_append] at hlD
  have hbet := rbet_eq hL hM
  obtain ⟨D, hD⟩ : ∃ D, allQ (L ++ M) = D := ⟨_, rfl⟩
  rw [hD] at hA1 hlD hbet ⊢

  refine awp_seq_region (fun Z hZ => ?_)
  refine sx_assign rfl rfl ?_
  refine sx_nil (hZ _ _ ?_)
  refine awp_forget [(0, _), (1, _), (5, _), (10, _)] (Kn.cons rfl (Kn.cons rfl (Kn.cons rfl (Kn.cons rfl (Kn.nil))))) ?_
  refine awp_seq ?_
  refine awp_seq_region (fun Z hZ => ?_)
  refine sx_assign rfl rfl ?_
  refine sx_nil (hZ _ _ ?_)
  refine awp_forget [(0, _), (1, _), (5, _), (10, _), (11, _)] (Kn.cons rfl (Kn.cons rfl (Kn.cons rfl (Kn.cons rfl (Kn.cons rfl (Kn.nil)))))) ?_
  refine awp_block ?_
  refine awp_loop (ι := Nat × Value) (fun s => [(0, .slice A L.length c), (1, .slice B M.length d), (5, .slice A1 D.length c1), (10, s.2), (11, iq (s.1 : Nat))]) (fun s => ((T ++ U) ++ roE A1 (icells D)) ++ rowE s.2 55 3 (gcells (rbetQ L M (D.take s.1))))
    (fun s => s.1 ≤ D.length ∧ RowOk s.2 (rbetQ L M (D.take s.1)).length) (fun s => D.length - s.1) (0, .slice none 0 0) ⟨by simp, by simp [rbetQ]; exact RowOk.nil⟩ (Kn.cons rfl (Kn.cons rfl (Kn.cons rfl (Kn.cons rfl (Kn.cons rfl Kn.nil))))) (by simp [rowE]; exact HLe.refl _) ?_
  rintro ⟨i, v⟩ ⟨hi, hv⟩
  simp only at hi hv
  refine awp_seq ?_
  refine awp_seq_region (fun Z hZ => ?_)
  refine sx_move rfl rfl ?_
  refine sx_move rfl rfl ?_
  first | refine sx_len Try.underlying22 rfl rfl ?_ | refine sx_lenS Try.underlying22 rfl rfl ?_
  first | refine sx_lss rfl rfl rfl ?_ | refine sx_slss rfl rfl rfl ?_
  refine sx_nil (hZ _ _ ?_)
  refine awp_forget [(0, _), (1, _), (5, _), (10, _), (11, _), (88, _)] (Kn.cons rfl (Kn.cons rfl (Kn.cons rfl (Kn.cons rfl (Kn.cons rfl (Kn.cons rfl (Kn.nil))))))) ?_
  first | refine awp_cond rfl (fun h => ?_) (fun h => ?_) | refine awp_seq (awp_cond rfl (fun h => ?_) (fun h => ?_))
  · have hlt : i < D.length := by simpa using h
    have hx := itAt_at hlt
    obtain ⟨x, hxe⟩ : ∃ x, itAt D i = x := ⟨_, rfl⟩
    rw [hxe] at hx
    have hsn : rbetQ L M (D.take (i + 1)) = rbetQ L M (D.take i) ++ (if difQ (chgOf L M x.id) then [chgOf L M x.id] else []) := by
      rw [← rbet_snoc, List.take_add_one, hx]
      rfl
    have hfl : (rbetQ L M (D.take i)).length ≤ 5000 := by
      unfold rbetQ
      refine Nat.le_trans (List.length_filter_le _ _) ?_
      rw [List.length_map, List.length_take]
      omega
    obtain ⟨F, hF⟩ : ∃ F, rbetQ L M (D.take i) = F := ⟨_, rfl⟩
    rw [hF] at hv hsn hfl ⊢
    obtain ⟨s1, hs1⟩ : ∃ s1, cGet x.id L = s1 := ⟨_, rfl⟩
    obtain ⟨s2, hs2⟩ : ∃ s2, cGet x.id M = s2 := ⟨_, rfl⟩
    have hgx : chgOf L M x.id = ⟨x.id, s1, s2⟩ := by unfold chgOf; rw [hs1, hs2]
    rw [hgx] at hsn
    have hc1 := hg1 x.id
    have hc2 := hg2 x.id
    rw [← (get_eq hL.rise x.id).1, ← (get_eq hL.rise x.id).2, hs1] at hc1
    rw [← (get_eq hM.rise x.id).1, ← (get_eq hM.rise x.id).2, hs2] at hc2
    obtain ⟨g, o, rfl⟩ := hA1.arg (by omega)
    refine awp_heap (.ro g o (icells D) :: ((T ++ U) ++ rowE v 55 3 (gcells F))) (fun _ _ _ hw => hw.perm (by
      show (((T ++ U) ++ [Ent.ro g o (icells D)]) ++ rowE v _ _ _).Perm _
      rw [List.append_assoc]; exact List.perm_middle)) ?_
    refine awp_skip ?_
    repeat (with_reducible (first | refine nx_block_normal ?_ | refine nx_scope_normal ?_))
    with_reducible first | refine nx_normal ?_ | refine nx_normalM ?_
    refine awp_seq (awp_block ?_)

    refine awp_seq_region (fun Z hZ => ?_)
    refine sx_move rfl rfl ?_
    refine sx_move rfl rfl ?_
    refine sx_move rfl rfl ?_
    refine sx_indexAddr (o + i * 2) Try.underlying22 tyS58 rfl rfl (by first | omega | (simp; omega)) (by simp) rfl ?_
    refine sx_fieldAddr rfl tyF58_0 (by first | (simp only [Nat.reduceAdd, Nat.add_zero, Nat.zero_add]; first | done | rfl) | rfl) rfl ?_
    refine sx_loadRo 0 rfl rfl (i * 2) rfl tyA51 tyS51 (icells_id hx) rfl ?_
    refine sx_callPT T hc1 rfl (.cons _ ((List.sublist_append_left _ _).trans (List.sublist_append_left _ _))) hro rfl ?_
    refine sx_move rfl rfl ?_
    refine sx_extract rfl rfl rfl ?_
    refine sx_extract rfl rfl rfl ?_
    refine sx_assign rfl rfl ?_
    refine sx_assign rfl rfl ?_
    refine sx_nil (hZ _ _ ?_)
    refine awp_forget [(0, _), (1, _), (5, _), (10, _), (11, _), (12, _)] (Kn.cons rfl (Kn.cons rfl (Kn.cons rfl (Kn.cons rfl (Kn.cons rfl (Kn.cons rfl (Kn.nil))))))) ?_
    refine awp_seq_region (fun Z hZ => ?_)
    refine sx_move rfl rfl ?_
    refine sx_move rfl rfl ?_
    refine sx_move rfl rfl ?_
    refine sx_indexAddr (o + i * 2) Try.underlying22 tyS58 rfl rfl (by first | omega | (simp; omega)) (by simp) rfl ?_
    refine sx_fieldAddr rfl tyF58_0 (by first | (simp only [Nat.reduceAdd, Nat.add_zero, Nat.zero_add]; first | done | rfl) | rfl) rfl ?_
    refine sx_loadRo 0 rfl rfl (i * 2) rfl tyA51 tyS51 (icells_id hx) rfl ?_
    refine sx_callPT U hc2 rfl (.cons _ ((List.sublist_append_right _ _).trans (List.sublist_append_left _ _))) hroU rfl ?_
    refine sx_move rfl rfl ?_
    refine sx_extract rfl rfl rfl ?_
    refine sx_extract rfl rfl rfl ?_
    refine sx_assign rfl rfl ?_
    refine sx_assign rfl rfl ?_
    refine sx_nil (hZ _ _ ?_)
    refine awp_forget [(0, _), (1, _), (5, _), (10, _), (11, _), (12, _), (14, _)] (Kn.cons rfl (Kn.cons rfl (Kn.cons rfl (Kn.cons rfl (Kn.cons rfl (Kn.cons rfl (Kn.cons rfl (Kn.nil)))))))) ?_
    refine awp_seq_region (fun Z hZ => ?_)
    refine sx_move rfl rfl ?_
    refine sx_move rfl rfl ?_
    first | refine sx_neq rfl rfl rfl ?_ | refine sx_sneq rfl rfl rfl ?_
    refine sx_nil (hZ _ _ ?_)
    refine awp_forget [(0, _), (1, _), (5, _), (10, _), (11, _), (12, _), (14, _), (113, _)] (Kn.cons rfl (Kn.cons rfl (Kn.cons rfl (Kn.cons rfl (Kn.cons rfl (Kn.cons rfl (Kn.cons rfl (Kn.cons rfl (Kn.nil))))))))) ?_
    first | refine awp_cond rfl (fun h1 => ?_) (fun h1 => ?_) | refine awp_seq (awp_cond rfl (fun h1 => ?_) (fun h1 => ?_))
    · have hd : difQ ⟨x.id, s1, s2⟩ = true := by unfold difQ; simpa using h1
      rw [hd, if_pos rfl] at hsn
      refine awp_region (fun Z hZ => ?_)
      refine sx_move rfl rfl ?_
      refine sx_move rfl rfl ?_
      refine sx_move rfl rfl ?_
      refine sx_indexAddr (o + i * 2) Try.underlying22 tyS58 rfl rfl (by first | omega | (simp; omega)) (by simp) rfl ?_
      refine sx_fieldAddr rfl tyF58_0 (by first | (simp only [Nat.reduceAdd, Nat.add_zero, Nat.zero_add]; first | done | rfl) | rfl) rfl ?_
      refine sx_loadRo 0 rfl rfl (i * 2) rfl tyA51 tyS51 (icells_id hx) rfl ?_
      refine sx_move rfl rfl ?_
      refine sx_move rfl rfl ?_
      refine sx_build tyZ55 tyP55 rfl rfl (by first | (simp only [List.take_succ_cons, List.take_zero, List.drop_succ_cons, List.drop_zero, List.cons_append, List.nil_append, List.append_nil, List.length_cons, List.length_nil, Nat.reduceAdd, Nat.zero_add, Nat.add_zero, Value.cells, wrV, zrep_one, List.replicate_succ, List.replicate_zero, Nat.reduceMul, Nat.zero_mul]; first | done | rfl) | rfl) rfl ?_
      refine sx_buildSlice Try.underlying23 tyS55 tyZ55 rfl rfl rfl rfl (by first | (simp only [List.take_succ_cons, List.take_zero, List.drop_succ_cons, List.drop_zero, List.cons_append, List.nil_append, List.append_nil, List.length_cons, List.length_nil, Nat.reduceAdd, Nat.zero_add, Nat.add_zero, Value.cells, wrV, zrep_one, List.replicate_succ, List.replicate_zero, Nat.reduceMul, Nat.zero_mul]; first | done | rfl) | rfl) rfl (fun g3 => ?_)
      refine sx_appendE (_ :: _ :: (T ++ U)) elemGR rfl hv (by rw [gcells_len]) rfl (fun w hw => rd_own (i := 0) (xs := (⟨x.id, s1, s2⟩ : Chg).cells) rfl rfl hw) rfl (by show _ ≤ 9223372036854775807; omega) (by omega) (HLe.refl _) rfl (fun v2 hv2 => ?_)
      refine sx_assign rfl rfl ?_
      refine sx_nil (hZ _ _ ?_)
      refine nx_forget [(0, _), (1, _), (5, _), (10, _), (11, _)] (Kn.cons rfl (Kn.cons rfl (Kn.cons rfl (Kn.cons rfl (Kn.cons rfl (Kn.nil)))))) ?_
      repeat (with_reducible (first | refine nx_block_normal ?_ | refine nx_scope_normal ?_))
      with_reducible first | refine nx_normal ?_ | refine nx_normalM ?_
      refine awp_region (fun Z hZ => ?_)
      refine sx_move rfl rfl ?_
      refine sx_add rfl rfl ((i + 1 : Nat) : Int) (by rw [IntWalk.i64_in _ (by omega)]; omega) rfl ?_
      refine sx_assign rfl rfl ?_
      refine sx_nil (hZ _ _ ?_)
      refine nx_forget [(0, _), (1, _), (5, _), (10, _), (11, _)] (Kn.cons rfl (Kn.cons rfl (Kn.cons rfl (Kn.cons rfl (Kn.cons rfl (Kn.nil)))))) ?_
      refine nx_round (i + 1, v2) ⟨hlt, by show RowOk v2 (rbetQ L M (D.take (i + 1))).length; rw [hsn, List.length_append]; exact hv2⟩ (by simp; omega) (Kn.cons rfl (Kn.cons rfl (Kn.cons rfl (Kn.cons rfl (Kn.cons rfl Kn.nil))))) ?_
      show HLe (((T ++ U) ++ [Ent.ro g o (icells D)]) ++ rowE v2 _ _ (gcells (rbetQ L M (D.take (i + 1))))) _
      rw [hsn, show gcells (F ++ [(⟨x.id, s1, s2⟩ : Chg)]) = gcells F ++ (⟨x.id, s1, s2⟩ : Chg).cells by simp [gcells]]
      exact fun _ _ _ hw => (hw.sub (List.sublist_cons_self _ _)).perm (by rw [List.append_assoc]; exact List.perm_middle.symm)
    · have hd : difQ ⟨x.id, s1, s2⟩ = false := by
        cases hdx : difQ ⟨x.id, s1, s2⟩ with
        | false => rfl
        | true => unfold difQ at hdx; simp at hdx h1; exact absurd h1 hdx
      rw [hd, if_neg (by simp), List.append_nil] at hsn
      refine awp_skip ?_
      repeat (with_reducible (first | refine nx_block_normal ?_ | refine nx_scope_normal ?_))
      with_reducible first | refine nx_normal ?_ | refine nx_normalM ?_
      refine awp_region (fun Z hZ => ?_)
      refine sx_move rfl rfl ?_
      refine sx_add rfl rfl ((i + 1 : Nat) : Int) (by rw [IntWalk.i64_in _ (by omega)]; omega) rfl ?_
      refine sx_assign rfl rfl ?_
      refine sx_nil (hZ _ _ ?_)
      refine nx_forget [(0, _), (1, _), (5, _), (10, _), (11, _)] (Kn.cons rfl (Kn.cons rfl (Kn.cons rfl (Kn.cons rfl (Kn.cons rfl (Kn.nil)))))) ?_
      refine nx_round (i + 1, v) ⟨hlt, by show RowOk v (rbetQ L M (D.take (i + 1))).length; rw [hsn]; exact hv⟩ (by simp; omega) (Kn.cons rfl (Kn.cons rfl (Kn.cons rfl (Kn.cons rfl (Kn.cons rfl Kn.nil))))) ?_
      show HLe (((T ++ U) ++ [Ent.ro g o (icells D)]) ++ rowE v _ _ (gcells (rbetQ L M (D.take (i + 1))))) _
      rw [hsn]
      exact fun _ _ _ hw => hw.perm (by rw [List.append_assoc (T ++ U) [_]]; exact List.perm_middle.symm)
  · refine awp_exit ?_
    repeat (with_reducible (first | refine nx_then_exit ?_ | refine nx_block_other (by decide) ?_ | refine nx_scope_exit ?_))
    with_reducible refine nx_block_exit ?_
    repeat (with_reducible (first | refine nx_block_normal ?_ | refine nx_scope_normal ?_))
    with_reducible first | refine nx_normal ?_ | refine nx_normalM ?_
    have hke : i = D.length := by simp at h; omega
    subst hke
    rw [List.take_length, hbet] at hv ⊢
    refine awp_seq_region (fun Z hZ => ?_)
    refine sx_move rfl rfl ?_
    refine sx_assign rfl rfl ?_
    refine sx_nil (hZ _ _ ?_)
    refine awp_forget [(4, _)] (Kn.cons rfl (Kn.nil)) ?_
    refine awp_ret ?_
    repeat (with_reducible (first | refine nx_then_ret ?_ | refine nx_block_ret ?_ | refine nx_scope_ret ?_))
    exact nx_ret1h _ rfl rfl (HLe.sub (List.sublist_append_right _ _)) ⟨hv, rfl⟩
end Go.Proofs.Ytahmhcmfeloclaa
