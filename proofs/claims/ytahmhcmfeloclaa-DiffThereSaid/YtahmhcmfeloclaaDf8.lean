/- The walk of the document's Apply. Conditions: the lists are not too long. -/
import Derived.Test.YtahmhcmfeloclaaDf7
namespace Go.Proofs.Ytahmhcmfeloclaa
open Go.RowKit
set_option linter.unusedVariables false
set_option linter.unusedSimpArgs false
def StR (A : Option Addr) (c : Nat) (O0 : List It) (u : Value) (O : List It) (Hp : Heap) : Prop := (RowOk u O.length ∧ Hp = rowE u 58 2 (icells O)) ∨ (u = .slice A O0.length c ∧ O = O0 ∧ Hp = [])
theorem stR_view {A : Option Addr} {c : Nat} {O0 O : List It} {u : Value} {Hp : Heap} (h : StR A c O0 u O Hp) (hA : ArgOk A O0.length) : ∃ A1 c1, u = .slice A1 O.length c1 ∧ ArgOk A1 O.length ∧ ∀ X : Heap, (roE A (icells O0)).Sublist X → HLe (roE A1 (icells O)) (X ++ Hp) := by
  rcases h with ⟨hu, rfl⟩ | ⟨rfl, rfl, rfl⟩
  · obtain ⟨A1, c1, rfl, h1, hle⟩ := hu.ro
    exact ⟨A1, c1, rfl, h1.arg, fun X _ => row_view hle X _ _ _⟩
  · exact ⟨A, c, rfl, hA, fun X hX => HLe.sub (hX.trans (List.sublist_append_left _ _))⟩
theorem rowE_wrs' (v : Value) (t : TypeId) (n : Nat) (xs : List Value) (X Hp : Heap) : HLe (X ++ rowE v t n xs) (rowE v t n xs ++ (X ++ Hp)) := (HLe.swap _ _).trans (HLe.sub (List.Sublist.append_left (List.sublist_append_left _ _) _))
theorem grapply_fn (A : Option Addr) (c : Nat) (O : List It) (hA : ArgOk A O.length) (hok : ChOk O) (B : Option Addr) (d : Nat) (L : List Chg) (U : Heap) (hB : ArgOk B L.length) (hU : 0 < L.length → U = roE B (gcells L)) (hro : Ro U) (hL : L.length ≤ 100000) :
    Fn Try.prog 12 [.slice A O.length c, .slice B L.length d] (roE A (icells O) ++ U) fun v H' => ∃ u, v = .tuple #[u, iq (appE O L)] ∧ StR A c O u (appO O L) H' := by
  refine Fn.enter (N := 79) Try.func12 rfl (by kernel_rfl) rfl (fun w0 => ?_)

  refine awp_seq_region (fun Z hZ => ?_)
  refine sx_assign rfl rfl ?_
  refine sx_assign rfl rfl ?_
  refine sx_nil (hZ _ _ ?_)
  refine awp_forget [(0, _), (1, _)] (Kn.cons rfl (Kn.cons rfl (Kn.nil))) ?_
  refine awp_seq_region (fun Z hZ => ?_)
  refine sx_move rfl rfl ?_
  refine sx_assign rfl rfl ?_
  refine sx_nil (hZ _ _ ?_)
  refine awp_forget [(0, _), (1, _), (6, _)] (Kn.cons rfl (Kn.cons rfl (Kn.cons rfl (Kn.nil)))) ?_
  refine awp_seq ?_
  refine awp_seq_region (fun Z hZ => ?_)
  refine sx_assign rfl rfl ?_
  refine sx_nil (hZ _ _ ?_)
  refine awp_forget [(0, _), (1, _), (6, _), (7, _)] (Kn.cons rfl (Kn.cons rfl (Kn.cons rfl (Kn.cons rfl (Kn.nil))))) ?_
  refine awp_block ?_
  refine awp_loop (ι := Nat × Value × List It × Heap) (fun s => [(0, .slice A O.length c), (1, .slice B L.length d), (6, s.2.1), (7, iq (s.1 : Nat))])
    (fun s => (roE A (icells O) ++ U) ++ s.2.2.2)
    (fun s => s.1 ≤ L.length ∧ ChOk s.2.2.1 ∧ StR A c O s.2.1 s.2.2.1 s.2.2.2 ∧ appR s.2.2.1 ((L.take s.1).map Chg.id) (L.drop s.1) = appR O [] L) (fun s => L.length - s.1) (0, .slice A O.length c, O, []) ⟨by simp, hok, .inr ⟨rfl, rfl, rfl⟩, by simp⟩ (Kn.cons rfl (Kn.cons rfl (Kn.cons rfl (Kn.cons rfl Kn.nil)))) (by rw [List.append_nil]; exact HLe.refl _) ?_
  rintro ⟨i, u, O1, Hp⟩ ⟨hi, hok1, hSt, hq⟩
  simp only at hi hok1 hSt hq
  refine awp_seq ?_
  refine awp_seq_region (fun Z hZ => ?_)
  refine sx_move rfl rfl ?_
  refine sx_move rfl rfl ?_
  first | refine sx_len Try.underlying23 rfl rfl ?_ | refine sx_lenS Try.underlying23 rfl rfl ?_
  first | refine sx_lss rfl rfl rfl ?_ | refine sx_slss rfl rfl rfl ?_
  refine sx_nil (hZ _ _ ?_)
  refine awp_forget [(0, _), (1, _), (6, _), (7, _), (18, _)] (Kn.cons rfl (Kn.cons rfl (Kn.cons rfl (Kn.cons rfl (Kn.cons rfl (Kn.nil)))))) ?_
  first | refine awp_cond rfl (fun h => ?_) (fun h => ?_) | refine awp_seq (awp_cond rfl (fun h => ?_) (fun h => ?_))
  · have hlt : i < L.length := by simpa using h
    have hx := chAt_at hlt
    obtain ⟨x, hxe⟩ : ∃ x, chAt L i = x := ⟨_, rfl⟩
    rw [hxe] at hx
    have hdr : L.drop i = x :: L.drop (i + 1) := by rw [List.drop_eq_getElem_cons hlt]; congr 1; exact (List.getElem?_eq_some_iff.1 hx).2
    have htk : (L.take (i + 1)).map Chg.id = (L.take i).map Chg.id ++ [x.id] := by rw [List.take_add_one, hx]; simp
    rw [hdr, app_step, ← htk] at hq
    obtain ⟨g, o, rfl⟩ := hB (by omega)
    obtain rfl := hU (by omega)
    have herr : ∀ e, 0 < e → (appR O [] L).1 = e → appE O L = e ∧ appO O L = O := fun e he h => ⟨h, by unfold appO appE; rw [h, if_neg (by omega)]⟩
    have hl1 := hok1.len
    obtain ⟨A1, c1, rfl, hA1, hview⟩ := stR_view hSt hA
    have hget := rget_fn A1 c1 O1 (roE A1 (icells O1)) hA1 (fun _ => rfl) (by omega) x.id
    rw [← (get_eq hok1.rise x.id).1, ← (get_eq hok1.rise x.id).2] at hget
    refine awp_heap (.ro g o (gcells L) :: (roE A (icells O) ++ Hp)) (fun _ _ _ hw => hw.perm (by
      rw [List.append_assoc]
      exact List.perm_middle)) ?_
    refine awp_skip ?_
    repeat (with_reducible (first | refine nx_block_normal ?_ | refine nx_scope_normal ?_))
    with_reducible first | refine nx_normal ?_ | refine nx_normalM ?_
    refine awp_seq (awp_block ?_)

    refine awp_seq_region (fun Z hZ => ?_)
    refine sx_move rfl rfl ?_
    refine sx_move rfl rfl ?_
    refine sx_indexAddr (o + i * 3) Try.underlying23 tyS55 rfl rfl (by omega) (by simp) rfl ?_
    refine sx_loadRo 0 rfl rfl (i * 3) rfl tyA55 tyS55 (gcells_all hx) rfl ?_
    refine sx_alloc tyZ55 rfl (fun g1 => ?_)
    first | refine sx_store 0 rfl rfl rfl tyS55 (by first | (simp only [Value.cells]; first | done | rfl) | rfl) rfl rfl (by first | (simp only [List.length_cons, List.length_nil, Nat.reduceAdd, Nat.zero_add, Nat.add_zero]; first | done | rfl) | rfl) (by first | (simp only [List.take_succ_cons, List.take_zero, List.drop_succ_cons, List.drop_zero, List.cons_append, List.nil_append, List.append_nil, List.length_cons, List.length_nil, Nat.reduceAdd, Nat.zero_add, Nat.add_zero, Value.cells, wrV]; first | done | rfl) | rfl) (by first | (simp only [List.set_cons_succ, List.set_cons_zero]; first | done | rfl) | rfl) ?_ | refine sx_store 1 rfl rfl rfl tyS55 (by first | (simp only [Value.cells]; first | done | rfl) | rfl) rfl rfl (by first | (simp only [List.length_cons, List.length_nil, Nat.reduceAdd, Nat.zero_add, Nat.add_zero]; first | done | rfl) | rfl) (by first | (simp only [List.take_succ_cons, List.take_zero, List.drop_succ_cons, List.drop_zero, List.cons_append, List.nil_append, List.append_nil, List.length_cons, List.length_nil, Nat.reduceAdd, Nat.zero_add, Nat.add_zero, Value.cells, wrV]; first | done | rfl) | rfl) (by first | (simp only [List.set_cons_succ, List.set_cons_zero]; first | done | rfl) | rfl) ?_
    refine sx_nil (hZ _ _ ?_)
    refine awp_forget [(0, _), (1, _), (6, _), (7, _), (8, _)] (Kn.cons rfl (Kn.cons rfl (Kn.cons rfl (Kn.cons rfl (Kn.cons rfl (Kn.nil)))))) ?_

    refine awp_seq ?_
    refine awp_seq_region (fun Z hZ => ?_)
    refine sx_fieldAddr rfl tyF55_1 (by first | (simp only [Nat.reduceAdd, Nat.add_zero, Nat.zero_add]; first | done | rfl) | rfl) rfl ?_
    first | refine sx_load 0 rfl rfl tyA9 tyS9 rfl rfl ?_ | refine sx_load 1 rfl rfl tyA9 tyS9 rfl rfl ?_
    refine sx_fieldAddr rfl tyF55_2 (by first | (simp only [Nat.reduceAdd, Nat.add_zero, Nat.zero_add]; first | done | rfl) | rfl) rfl ?_
    first | refine sx_load 0 rfl rfl tyA9 tyS9 rfl rfl ?_ | refine sx_load 1 rfl rfl tyA9 tyS9 rfl rfl ?_
    first | refine sx_eql rfl rfl rfl ?_ | refine sx_seql rfl rfl rfl ?_
    refine sx_nil (hZ _ _ ?_)
    refine awp_forget [(0, _), (1, _), (6, _), (7, _), (8, _), (29, _)] (Kn.cons rfl (Kn.cons rfl (Kn.cons rfl (Kn.cons rfl (Kn.cons rfl (Kn.cons rfl (Kn.nil))))))) ?_
    first | refine awp_cond rfl (fun h1 => ?_) (fun h1 => ?_) | refine awp_seq (awp_cond rfl (fun h1 => ?_) (fun h1 => ?_))
    · have h1' : x.old = x.new := by simpa using h1
      rw [if_pos h1'] at hq
      obtain ⟨e1, e2⟩ := herr 2 (by decide) (by rw [← hq])
      rw [e1, e2]
      refine awp_seq_region (fun Z hZ => ?_)
      refine sx_move rfl rfl ?_
      refine sx_assign rfl rfl ?_
      refine sx_assign rfl rfl ?_
      refine sx_nil (hZ _ _ ?_)
      refine awp_forget [(4, _), (5, _)] (Kn.cons rfl (Kn.cons rfl (Kn.nil))) ?_
      refine awp_ret ?_
      repeat (with_reducible (first | refine nx_then_ret ?_ | refine nx_block_ret ?_ | refine nx_scope_ret ?_))
      exact nx_ret2h [] rfl rfl rfl (HLe.sub (List.nil_sublist _)) ⟨_, rfl, .inr ⟨rfl, rfl, rfl⟩⟩
    have h1' : ¬ x.old = x.new := by simpa using h1
    rw [if_neg h1'] at hq
    refine awp_skip ?_
    repeat (with_reducible (first | refine nx_block_normal ?_ | refine nx_scope_normal ?_))
    with_reducible first | refine nx_normal ?_ | refine nx_normalM ?_
    refine awp_seq ?_
    refine awp_seq_region (fun Z hZ => ?_)
    refine sx_assign rfl rfl ?_
    refine sx_nil (hZ _ _ ?_)
    refine awp_forget [(0, _), (1, _), (6, _), (7, _), (8, _), (9, _)] (Kn.cons rfl (Kn.cons rfl (Kn.cons rfl (Kn.cons rfl (Kn.cons rfl (Kn.cons rfl (Kn.nil))))))) ?_
    refine awp_block ?_
    refine awp_loop (ι := Nat) (fun k => [(0, .slice A O.length c), (1, .slice (some ⟨g, o, none⟩) L.length d), (6, .slice A1 O1.length c1), (7, iq (i : Nat)), (8, ptr g1 0), (9, iq (k : Nat))]) (fun _ => .own g1 55 x.cells :: .ro g o (gcells L) :: (roE A (icells O) ++ Hp))
      (fun k => k ≤ i ∧ x.id ∉ (L.take k).map Chg.id) (fun k => i - k) 0 ⟨by simp, by simp⟩ (Kn.cons rfl (Kn.cons rfl (Kn.cons rfl (Kn.cons rfl (Kn.cons rfl (Kn.cons rfl Kn.nil)))))) (HLe.refl _) ?_
    rintro k ⟨hk, hnk⟩

    refine awp_seq ?_
    refine awp_seq_region (fun Z hZ => ?_)
    refine sx_move rfl rfl ?_
    refine sx_move rfl rfl ?_
    first | refine sx_lss rfl rfl rfl ?_ | refine sx_slss rfl rfl rfl ?_
    refine sx_nil (hZ _ _ ?_)
    refine awp_forget [(0, _), (1, _), (6, _), (7, _), (8, _), (9, _), (33, _)] (Kn.cons rfl (Kn.cons rfl (Kn.cons rfl (Kn.cons rfl (Kn.cons rfl (Kn.cons rfl (Kn.cons rfl (Kn.nil)))))))) ?_
    first | refine awp_cond rfl (fun h2 => ?_) (fun h2 => ?_) | refine awp_seq (awp_cond rfl (fun h2 => ?_) (fun h2 => ?_))
    · have hki : k < i := by simpa using h2
      have hy := chAt_at (L := L) (i := k) (by omega)
      obtain ⟨y, hye⟩ : ∃ y, chAt L k = y := ⟨_, rfl⟩
      rw [hye] at hy
      have htk2 : (L.take (k + 1)).map Chg.id = (L.take k).map Chg.id ++ [y.id] := by rw [List.take_add_one, hy]; simp
      refine awp_skip ?_
      repeat (with_reducible (first | refine nx_block_normal ?_ | refine nx_scope_normal ?_))
      with_reducible first | refine nx_normal ?_ | refine nx_normalM ?_
      refine awp_seq (awp_block ?_)
      refine awq_seq_region mixed (by kernel_rfl) (fun Z hZ => ?_)
      refine sq_move rfl rfl ?_
      refine sq_move rfl rfl ?_
      refine sq_indexAddr (o + k * 3) Try.underlying23 tyS55 rfl rfl (by omega) (by simp) rfl ?_
      refine sq_fieldAddr rfl tyF55_0 (by first | (simp only [Nat.reduceAdd, Nat.add_zero, Nat.zero_add]; first | done | rfl) | rfl) rfl ?_
      refine sq_loadRo 1 rfl rfl (k * 3) rfl tyA51 tyS51 (gcells_id hy) rfl ?_
      refine sq_fieldAddr rfl tyF55_0 (by first | (simp only [Nat.reduceAdd, Nat.add_zero, Nat.zero_add]; first | done | rfl) | rfl) rfl ?_
      first | refine sq_load 0 rfl rfl tyA51 tyS51 rfl rfl ?_ | refine sq_load 1 rfl rfl tyA51 tyS51 rfl rfl ?_
      first | refine sq_eql rfl rfl rfl ?_ | refine sq_seql rfl rfl rfl ?_
      refine sq_nil (hZ _ _ ?_)
      refine awp_forget [(0, _), (1, _), (6, _), (7, _), (8, _), (9, _), (43, _)] (Kn.cons rfl (Kn.cons rfl (Kn.cons rfl (Kn.cons rfl (Kn.cons rfl (Kn.cons rfl (Kn.cons rfl (Kn.nil)))))))) ?_
      first | refine awp_cond rfl (fun h3 => ?_) (fun h3 => ?_) | refine awp_seq (awp_cond rfl (fun h3 => ?_) (fun h3 => ?_))
      · have h3' : y.id = x.id := by simp at h3; omega
        have hin : x.id ∈ (L.take i).map Chg.id := by
          rw [← h3']
          exact List.mem_map.2 ⟨y, List.mem_of_getElem? (by rw [List.getElem?_take, if_pos hki]; exact hy), rfl⟩
        rw [if_pos hin] at hq
        obtain ⟨e1, e2⟩ := herr 22 (by decide) (by rw [← hq])
        rw [e1, e2]
        refine awp_seq_region (fun Z hZ => ?_)
        refine sx_move rfl rfl ?_
        refine sx_assign rfl rfl ?_
        refine sx_assign rfl rfl ?_
        refine sx_nil (hZ _ _ ?_)
        refine awp_forget [(4, _), (5, _)] (Kn.cons rfl (Kn.cons rfl (Kn.nil))) ?_
        refine awp_ret ?_
        repeat (with_reducible (first | refine nx_then_ret ?_ | refine nx_block_ret ?_ | refine nx_scope_ret ?_))
        exact nx_ret2h [] rfl rfl rfl (HLe.sub (List.nil_sublist _)) ⟨_, rfl, .inr ⟨rfl, rfl, rfl⟩⟩
      have h3' : ¬ y.id = x.id := by simp at h3; omega
      refine awp_skip ?_
      repeat (with_reducible (first | refine nx_block_normal ?_ | refine nx_scope_normal ?_))
      with_reducible first | refine nx_normal ?_ | refine nx_normalM ?_
      refine awp_region (fun Z hZ => ?_)
      refine sx_move rfl rfl ?_
      refine sx_add rfl rfl ((k + 1 : Nat) : Int) (by rw [IntWalk.i64_in _ (by omega)]; omega) rfl ?_
      refine sx_assign rfl rfl ?_
      refine sx_nil (hZ _ _ ?_)
      refine nx_forget [(0, _), (1, _), (6, _), (7, _), (8, _), (9, _)] (Kn.cons rfl (Kn.cons rfl (Kn.cons rfl (Kn.cons rfl (Kn.cons rfl (Kn.cons rfl (Kn.nil))))))) ?_
      exact nx_round (k + 1) ⟨by omega, by rw [htk2]; simp only [List.mem_append, List.mem_singleton, not_or]; exact ⟨hnk, fun e => h3' e.symm⟩⟩ (by omega) (Kn.cons rfl (Kn.cons rfl (Kn.cons rfl (Kn.cons rfl (Kn.cons rfl (Kn.cons rfl Kn.nil)))))) (HLe.refl _)
    have hke : k = i := by simp at h2; omega
    subst hke
    rw [if_neg hnk] at hq
    refine awp_exit ?_
    repeat (with_reducible (first | refine nx_then_exit ?_ | refine nx_block_other (by decide) ?_ | refine nx_scope_exit ?_))
    with_reducible refine nx_block_exit ?_
    repeat (with_reducible (first | refine nx_block_normal ?_ | refine nx_scope_normal ?_))
    with_reducible first | refine nx_normal ?_ | refine nx_normalM ?_
    refine awp_heap ((.own g1 55 x.cells :: .ro g o (gcells L) :: roE A (icells O)) ++ Hp) (HLe.refl _) ?_
    have hvw := hview (.own g1 55 x.cells :: .ro g o (gcells L) :: roE A (icells O)) (.cons _ (.cons _ (List.Sublist.refl _)))

    refine awp_seq_region (fun Z hZ => ?_)
    refine sx_move rfl rfl ?_
    refine sx_fieldAddr rfl tyF55_0 (by first | (simp only [Nat.reduceAdd, Nat.add_zero, Nat.zero_add]; first | done | rfl) | rfl) rfl ?_
    first | refine sx_load 0 rfl rfl tyA51 tyS51 rfl rfl ?_ | refine sx_load 1 rfl rfl tyA51 tyS51 rfl rfl ?_
    refine sx_callV (roE A1 (icells O1)) hget rfl hvw (Ro.roE _ _) rfl ?_
    refine sx_move rfl rfl ?_
    refine sx_extract rfl rfl rfl ?_
    refine sx_extract rfl rfl rfl ?_
    refine sx_assign rfl rfl ?_
    refine sx_assign rfl rfl ?_
    refine sx_nil (hZ _ _ ?_)
    refine awp_forget [(0, _), (1, _), (6, _), (7, _), (8, _), (10, _)] (Kn.cons rfl (Kn.cons rfl (Kn.cons rfl (Kn.cons rfl (Kn.cons rfl (Kn.cons rfl (Kn.nil))))))) ?_
    refine awp_seq ?_
    refine awp_seq_region (fun Z hZ => ?_)
    refine sx_move rfl rfl ?_
    refine sx_fieldAddr rfl tyF55_1 (by first | (simp only [Nat.reduceAdd, Nat.add_zero, Nat.zero_add]; first | done | rfl) | rfl) rfl ?_
    first | refine sx_load 0 rfl rfl tyA9 tyS9 rfl rfl ?_ | refine sx_load 1 rfl rfl tyA9 tyS9 rfl rfl ?_
    first | refine sx_neq rfl rfl rfl ?_ | refine sx_sneq rfl rfl rfl ?_
    refine sx_nil (hZ _ _ ?_)
    refine awp_forget [(0, _), (1, _), (6, _), (7, _), (8, _), (55, _)] (Kn.cons rfl (Kn.cons rfl (Kn.cons rfl (Kn.cons rfl (Kn.cons rfl (Kn.cons rfl (Kn.nil))))))) ?_
    first | refine awp_cond rfl (fun h3 => ?_) (fun h3 => ?_) | refine awp_seq (awp_cond rfl (fun h3 => ?_) (fun h3 => ?_))
    · have h3' : ¬ cGet x.id O1 = x.old := by simpa using h3
      have e9 : mkE x O1 = 9 := by unfold mkE; rw [if_neg h3']
      rw [if_neg (by rw [e9]; decide), e9] at hq
      obtain ⟨e1, e2⟩ := herr 9 (by decide) (by rw [← hq])
      rw [e1, e2]
      refine awp_seq_region (fun Z hZ => ?_)
      refine sx_move rfl rfl ?_
      refine sx_assign rfl rfl ?_
      refine sx_assign rfl rfl ?_
      refine sx_nil (hZ _ _ ?_)
      refine awp_forget [(4, _), (5, _)] (Kn.cons rfl (Kn.cons rfl (Kn.nil))) ?_
      refine awp_ret ?_
      repeat (with_reducible (first | refine nx_then_ret ?_ | refine nx_block_ret ?_ | refine nx_scope_ret ?_))
      exact nx_ret2h [] rfl rfl rfl (HLe.sub (List.nil_sublist _)) ⟨_, rfl, .inr ⟨rfl, rfl, rfl⟩⟩
    have h3' : cGet x.id O1 = x.old := by simpa using h3
    refine awp_skip ?_
    repeat (with_reducible (first | refine nx_block_normal ?_ | refine nx_scope_normal ?_))
    with_reducible first | refine nx_normal ?_ | refine nx_normalM ?_
    refine awp_seq ?_
    refine awp_seq_region (fun Z hZ => ?_)
    refine sx_fieldAddr rfl tyF55_2 (by first | (simp only [Nat.reduceAdd, Nat.add_zero, Nat.zero_add]; first | done | rfl) | rfl) rfl ?_
    first | refine sx_load 0 rfl rfl tyA9 tyS9 rfl rfl ?_ | refine sx_load 1 rfl rfl tyA9 tyS9 rfl rfl ?_
    first | refine sx_eql rfl rfl rfl ?_ | refine sx_seql rfl rfl rfl ?_
    refine sx_nil (hZ _ _ ?_)
    refine awp_forget [(0, _), (1, _), (6, _), (7, _), (8, _), (59, _)] (Kn.cons rfl (Kn.cons rfl (Kn.cons rfl (Kn.cons rfl (Kn.cons rfl (Kn.cons rfl (Kn.nil))))))) ?_
    first | refine awp_cond rfl (fun h4 => ?_) (fun h4 => ?_) | refine awp_seq (awp_cond rfl (fun h4 => ?_) (fun h4 => ?_))
    · have hn : x.new = [] := by simpa using h4
      have e0 : mkE x O1 = 0 := by unfold mkE; rw [if_pos h3', if_pos hn]
      have eO : mkO x O1 = cDel x.id O1 := by unfold mkO; rw [if_pos h3', if_pos hn]
      rw [if_pos e0, eO] at hq
      have hdel := rdel_fn A1 c1 O1 (roE A1 (icells O1)) hA1 (fun _ => rfl) (Ro.roE _ _) (by omega) x.id
      rw [← del_eq hok1.rise] at hdel
      refine awp_seq_region (fun Z hZ => ?_)
      refine sx_move rfl rfl ?_
      refine sx_fieldAddr rfl tyF55_0 (by first | (simp only [Nat.reduceAdd, Nat.add_zero, Nat.zero_add]; first | done | rfl) | rfl) rfl ?_
      first | refine sx_load 0 rfl rfl tyA51 tyS51 rfl rfl ?_ | refine sx_load 1 rfl rfl tyA51 tyS51 rfl rfl ?_
      refine sx_callVU (roE A1 (icells O1)) hdel rfl hvw (Ro.roE _ _) rfl ?_
      rintro v H' ⟨hv, rfl⟩
      rw [rowE_flt]
      refine sx_heap _ (rowE_wrs' _ _ _ _ _ _) ?_
      refine sx_assign rfl rfl ?_
      refine sx_nil (hZ _ _ ?_)
      refine awp_forget [(0, _), (1, _), (6, _), (7, _)] (Kn.cons rfl (Kn.cons rfl (Kn.cons rfl (Kn.cons rfl (Kn.nil))))) ?_
      refine awp_exit ?_
      repeat (with_reducible (first | refine nx_then_exit ?_ | refine nx_block_other (by decide) ?_ | refine nx_scope_exit ?_))
      with_reducible refine nx_block_exit ?_
      repeat (with_reducible (first | refine nx_block_normal ?_ | refine nx_scope_normal ?_))
      with_reducible first | refine nx_normal ?_ | refine nx_normalM ?_
      refine awp_region (fun Z hZ => ?_)
      refine sx_move rfl rfl ?_
      refine sx_add rfl rfl ((k + 1 : Nat) : Int) (by rw [IntWalk.i64_in _ (by omega)]; omega) rfl ?_
      refine sx_assign rfl rfl ?_
      refine sx_nil (hZ _ _ ?_)
      refine nx_forget [(0, _), (1, _), (6, _), (7, _)] (Kn.cons rfl (Kn.cons rfl (Kn.cons rfl (Kn.cons rfl (Kn.nil))))) ?_
      exact nx_round (k + 1, v, cDel x.id O1, rowE v 58 2 (icells (cDel x.id O1))) ⟨by show k + 1 ≤ _; omega, hok1.del _, .inl ⟨hv, rfl⟩, hq⟩ (by simp; omega) (Kn.cons rfl (Kn.cons rfl (Kn.cons rfl (Kn.cons rfl Kn.nil)))) (fun _ _ _ hw => (hw.sub (List.sublist_cons_self _ _)).perm (by
        show (Ent.ro g o (gcells L) :: (roE A (icells O) ++ rowE v _ _ _)).Perm ((roE A (icells O) ++ [Ent.ro g o (gcells L)]) ++ rowE v _ _ _)
        rw [List.append_assoc]
        exact List.perm_middle.symm))
    have hn : ¬ x.new = [] := by simpa using h4
    have e0 : mkE x O1 = putE x.id x.new O1 := by unfold mkE; rw [if_pos h3', if_neg hn]
    have eO : mkO x O1 = putQ x.id x.new O1 := by unfold mkO; rw [if_pos h3', if_neg hn]
    rw [e0, eO] at hq
    have hput := rput_fn2 A1 c1 O1 (roE A1 (icells O1)) hA1 (fun _ => rfl) (Ro.roE _ _) (by omega) hok1.rise x.id x.new
    have hok2 := hok1.putQ x.id x.new
    obtain ⟨e, he⟩ : ∃ e, putE x.id x.new O1 = e := ⟨_, rfl⟩
    rw [he] at hput hq
    refine awp_skip ?_
    repeat (with_reducible (first | refine nx_block_normal ?_ | refine nx_scope_normal ?_))
    with_reducible first | refine nx_normal ?_ | refine nx_normalM ?_
    by_cases he' : e = 0
    · rw [if_pos he'] at hq
      rw [putQ_new (he.trans he')] at hq hok2
      refine awp_seq_region (fun Z hZ => ?_)
      refine sx_move rfl rfl ?_
      refine sx_fieldAddr rfl tyF55_0 (by first | (simp only [Nat.reduceAdd, Nat.add_zero, Nat.zero_add]; first | done | rfl) | rfl) rfl ?_
      first | refine sx_load 0 rfl rfl tyA51 tyS51 rfl rfl ?_ | refine sx_load 1 rfl rfl tyA51 tyS51 rfl rfl ?_
      refine sx_fieldAddr rfl tyF55_2 (by first | (simp only [Nat.reduceAdd, Nat.add_zero, Nat.zero_add]; first | done | rfl) | rfl) rfl ?_
      first | refine sx_load 0 rfl rfl tyA9 tyS9 rfl rfl ?_ | refine sx_load 1 rfl rfl tyA9 tyS9 rfl rfl ?_
      refine sx_callVU (roE A1 (icells O1)) hput rfl hvw (Ro.roE _ _) rfl ?_
      rintro v H' ⟨u2, rfl, ⟨_, hv, rfl⟩ | ⟨hbad, _⟩⟩
      rotate_left
      exact absurd he' hbad
      rw [rowE_flt]
      refine sx_heap _ (rowE_wrs' _ _ _ _ _ _) ?_
      refine sx_move rfl rfl ?_
      refine sx_extract rfl rfl rfl ?_
      refine sx_extract rfl rfl rfl ?_
      refine sx_assign rfl rfl ?_
      refine sx_assign rfl rfl ?_
      refine sx_nil (hZ _ _ ?_)
      refine awp_forget [(0, _), (1, _), (7, _), (12, _), (13, _)] (Kn.cons rfl (Kn.cons rfl (Kn.cons rfl (Kn.cons rfl (Kn.cons rfl (Kn.nil)))))) ?_
      refine awp_seq ?_
      refine awp_seq_region (fun Z hZ => ?_)
      refine sx_move rfl rfl ?_
      first | refine sx_neq rfl rfl rfl ?_ | refine sx_sneq rfl rfl rfl ?_
      refine sx_nil (hZ _ _ ?_)
      refine awp_forget [(0, _), (1, _), (7, _), (12, _), (13, _), (74, _)] (Kn.cons rfl (Kn.cons rfl (Kn.cons rfl (Kn.cons rfl (Kn.cons rfl (Kn.cons rfl (Kn.nil))))))) ?_
      first | refine awp_cond rfl (fun h5 => ?_) (fun h5 => ?_) | refine awp_seq (awp_cond rfl (fun h5 => ?_) (fun h5 => ?_))
      · exfalso
        simp at h5
        omega
      refine awp_skip ?_
      repeat (with_reducible (first | refine nx_block_normal ?_ | refine nx_scope_normal ?_))
      with_reducible first | refine nx_normal ?_ | refine nx_normalM ?_
      refine awp_region (fun Z hZ => ?_)
      refine sx_move rfl rfl ?_
      refine sx_assign rfl rfl ?_
      refine sx_nil (hZ _ _ ?_)
      refine nx_forget [(0, _), (1, _), (6, _), (7, _)] (Kn.cons rfl (Kn.cons rfl (Kn.cons rfl (Kn.cons rfl (Kn.nil))))) ?_
      repeat (with_reducible (first | refine nx_block_normal ?_ | refine nx_scope_normal ?_))
      with_reducible first | refine nx_normal ?_ | refine nx_normalM ?_
      refine awp_region (fun Z hZ => ?_)
      refine sx_move rfl rfl ?_
      refine sx_add rfl rfl ((k + 1 : Nat) : Int) (by rw [IntWalk.i64_in _ (by omega)]; omega) rfl ?_
      refine sx_assign rfl rfl ?_
      refine sx_nil (hZ _ _ ?_)
      refine nx_forget [(0, _), (1, _), (6, _), (7, _)] (Kn.cons rfl (Kn.cons rfl (Kn.cons rfl (Kn.cons rfl (Kn.nil))))) ?_
      exact nx_round (k + 1, u2, cPut x.id x.new O1, rowE u2 58 2 (icells (cPut x.id x.new O1))) ⟨by show k + 1 ≤ _; omega, hok2, .inl ⟨hv, rfl⟩, hq⟩ (by simp; omega) (Kn.cons rfl (Kn.cons rfl (Kn.cons rfl (Kn.cons rfl Kn.nil)))) (fun _ _ _ hw => (hw.sub (List.sublist_cons_self _ _)).perm (by
        show (Ent.ro g o (gcells L) :: (roE A (icells O) ++ rowE u2 _ _ _)).Perm ((roE A (icells O) ++ [Ent.ro g o (gcells L)]) ++ rowE u2 _ _ _)
        rw [List.append_assoc]
        exact List.perm_middle.symm))
    · rw [if_neg he'] at hq
      obtain ⟨e1, e2⟩ := herr e (by omega) (by rw [← hq])
      rw [e1, e2]
      refine awp_seq_region (fun Z hZ => ?_)
      refine sx_move rfl rfl ?_
      refine sx_fieldAddr rfl tyF55_0 (by first | (simp only [Nat.reduceAdd, Nat.add_zero, Nat.zero_add]; first | done | rfl) | rfl) rfl ?_
      first | refine sx_load 0 rfl rfl tyA51 tyS51 rfl rfl ?_ | refine sx_load 1 rfl rfl tyA51 tyS51 rfl rfl ?_
      refine sx_fieldAddr rfl tyF55_2 (by first | (simp only [Nat.reduceAdd, Nat.add_zero, Nat.zero_add]; first | done | rfl) | rfl) rfl ?_
      first | refine sx_load 0 rfl rfl tyA9 tyS9 rfl rfl ?_ | refine sx_load 1 rfl rfl tyA9 tyS9 rfl rfl ?_
      refine sx_callVU (roE A1 (icells O1)) hput rfl hvw (Ro.roE _ _) rfl ?_
      rintro v H' ⟨u2, rfl, ⟨hbad, _⟩ | ⟨_, rfl, rfl⟩⟩
      exact absurd hbad he'
      refine sx_move rfl rfl ?_
      refine sx_extract rfl rfl rfl ?_
      refine sx_extract rfl rfl rfl ?_
      refine sx_assign rfl rfl ?_
      refine sx_assign rfl rfl ?_
      refine sx_nil (hZ _ _ ?_)
      refine awp_forget [(0, _), (1, _), (7, _), (12, _), (13, _)] (Kn.cons rfl (Kn.cons rfl (Kn.cons rfl (Kn.cons rfl (Kn.cons rfl (Kn.nil)))))) ?_
      refine awp_seq ?_
      refine awp_seq_region (fun Z hZ => ?_)
      refine sx_move rfl rfl ?_
      first | refine sx_neq rfl rfl rfl ?_ | refine sx_sneq rfl rfl rfl ?_
      refine sx_nil (hZ _ _ ?_)
      refine awp_forget [(0, _), (1, _), (7, _), (12, _), (13, _), (74, _)] (Kn.cons rfl (Kn.cons rfl (Kn.cons rfl (Kn.cons rfl (Kn.cons rfl (Kn.cons rfl (Kn.nil))))))) ?_
      first | refine awp_cond rfl (fun h5 => ?_) (fun h5 => ?_) | refine awp_seq (awp_cond rfl (fun h5 => ?_) (fun h5 => ?_))
      · refine awp_seq_region (fun Z hZ => ?_)
        refine sx_move rfl rfl ?_
        refine sx_move rfl rfl ?_
        refine sx_assign rfl rfl ?_
        refine sx_assign rfl rfl ?_
        refine sx_nil (hZ _ _ ?_)
        refine awp_forget [(4, _), (5, _)] (Kn.cons rfl (Kn.cons rfl (Kn.nil))) ?_
        refine awp_ret ?_
        repeat (with_reducible (first | refine nx_then_ret ?_ | refine nx_block_ret ?_ | refine nx_scope_ret ?_))
        exact nx_ret2h [] rfl rfl rfl (HLe.sub (List.nil_sublist _)) ⟨_, rfl, .inr ⟨rfl, rfl, rfl⟩⟩
      · exfalso
        simp at h5
        omega
  · refine awp_exit ?_
    repeat (with_reducible (first | refine nx_then_exit ?_ | refine nx_block_other (by decide) ?_ | refine nx_scope_exit ?_))
    with_reducible refine nx_block_exit ?_
    repeat (with_reducible (first | refine nx_block_normal ?_ | refine nx_scope_normal ?_))
    with_reducible first | refine nx_normal ?_ | refine nx_normalM ?_
    have hke : i = L.length := by simp at h; omega
    subst hke
    rw [List.drop_length, appR] at hq
    have e0 : appE O L = 0 := by unfold appE; rw [← hq]
    have eO : appO O L = O1 := by unfold appO; rw [if_pos e0, ← hq]
    rw [e0, eO]
    refine awp_seq_region (fun Z hZ => ?_)
    refine sx_move rfl rfl ?_
    refine sx_assign rfl rfl ?_
    refine sx_assign rfl rfl ?_
    refine sx_nil (hZ _ _ ?_)
    refine awp_forget [(4, _), (5, _)] (Kn.cons rfl (Kn.cons rfl (Kn.nil))) ?_
    refine awp_ret ?_
    repeat (with_reducible (first | refine nx_then_ret ?_ | refine nx_block_ret ?_ | refine nx_scope_ret ?_))
    exact nx_ret2h Hp rfl rfl rfl (HLe.sub (List.sublist_append_right _ _)) ⟨_, rfl, hSt⟩
end Go.Proofs.Ytahmhcmfeloclaa
