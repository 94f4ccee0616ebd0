/- The walk of leaves.Join. Conditions: the lists and texts are not too long. -/
import Derived.Test.YtodclhiggafkbaaLf6
namespace Go.Proofs.Ytodclhiggafkbaa
open Go.RowKit
set_option linter.unusedVariables false
set_option linter.unusedSimpArgs false
theorem join_fn (A : Option Addr) (c : Nat) (L : List En) (T : Heap) (hA : ArgOk A L.length) (hT : 0 < L.length → T = roE A (ecells L)) (hro : Ro T) (hL : L.length ≤ maxLen) (hE : EnsOk L) (t : List UInt8) (ht : t.length ≤ 1000000) :
    Fn Try.prog 15 [.slice A L.length c, .string (str t)] T fun v H' => ∃ u, v = .tuple #[u, iq (joinQ L t).2] ∧ RowOk u (joinQ L t).1.length ∧ H' = rowE u 52 4 (ecells (joinQ L t).1) := by
  have hL' : L.length ≤ 9223372036854775807 := hL
  refine Fn.enter (N := 50) Try.func15 rfl (by kernel_rfl) rfl (fun w0 => ?_)

  refine awp_seq_region (fun Z hZ => ?_)
  refine sx_assign rfl rfl ?_
  refine sx_assign rfl rfl ?_
  refine sx_nil (hZ _ _ ?_)
  refine awp_forget [(0, _), (1, _)] (Kn.cons rfl (Kn.cons rfl (Kn.nil))) ?_
  refine awp_seq ?_
  refine awp_seq_region (fun Z hZ => ?_)
  refine sx_move rfl rfl ?_
  refine sx_callPT T (erow_fn A c L T hA hT hro hL hE) rfl (List.Sublist.refl _) hro rfl ?_
  refine sx_assign rfl rfl ?_
  refine sx_nil (hZ _ _ ?_)
  refine awp_forget [(0, _), (1, _), (6, _)] (Kn.cons rfl (Kn.cons rfl (Kn.cons rfl (Kn.nil)))) ?_
  refine awp_seq_region (fun Z hZ => ?_)
  refine sx_move rfl rfl ?_
  first | refine sx_neq rfl rfl rfl ?_ | refine sx_sneq rfl rfl rfl ?_
  refine sx_nil (hZ _ _ ?_)
  refine awp_forget [(0, _), (1, _), (6, _), (16, _)] (Kn.cons rfl (Kn.cons rfl (Kn.cons rfl (Kn.cons rfl (Kn.nil))))) ?_
  first | refine awp_cond rfl (fun h => ?_) (fun h => ?_) | refine awp_seq (awp_cond rfl (fun h => ?_) (fun h => ?_))
  · have hr : rowC L ≠ 0 := by simp at h; omega
    rw [show joinQ L t = ([], rowC L) by unfold joinQ; rw [if_pos hr]]
    refine awp_seq_region (fun Z hZ => ?_)
    refine sx_move rfl rfl ?_
    refine sx_assign rfl rfl ?_
    refine sx_assign rfl rfl ?_
    refine sx_nil (hZ _ _ ?_)
    refine awp_forget [(4, _), (5, _)] (Kn.cons rfl (Kn.cons rfl (Kn.nil))) ?_
    refine awp_ret ?_
    repeat (with_reducible (first | refine nx_then_ret ?_ | refine nx_block_ret ?_ | refine nx_scope_ret ?_))
    exact nx_ret2h [] rfl rfl rfl (HLe.sub (List.nil_sublist _)) ⟨_, rfl, RowOk.nil, rfl⟩
  have hr : rowC L = 0 := by simp at h; omega
  obtain ⟨hl, hat⟩ := rowC_at hr hE
  obtain ⟨D, hD⟩ : ∃ D, joinG t [] L = D := ⟨_, rfl⟩
  rw [show joinQ L t = D by unfold joinQ; rw [if_neg (by simpa using hr), hD]]
  refine awp_skip ?_
  repeat (with_reducible (first | refine nx_block_normal ?_ | refine nx_scope_normal ?_))
  with_reducible first | refine nx_normal ?_ | refine nx_normalM ?_
  refine awp_seq_region (fun Z hZ => ?_)
  refine sx_assign rfl rfl ?_
  refine sx_nil (hZ _ _ ?_)
  refine awp_forget [(0, _), (1, _), (7, _)] (Kn.cons rfl (Kn.cons rfl (Kn.cons rfl (Kn.nil)))) ?_
  refine awp_seq ?_
  refine awp_seq_region (fun Z hZ => ?_)
  refine sx_move rfl rfl ?_
  first | refine sx_len Try.underlying24 rfl rfl ?_ | refine sx_lenS Try.underlying24 rfl rfl ?_
  refine sx_move rfl rfl ?_
  refine sx_nil (hZ _ _ ?_)
  refine awp_forget [(1, _), (7, _), (18, _), (19, _), (20, _)] (Kn.cons rfl (Kn.cons rfl (Kn.cons rfl (Kn.cons rfl (Kn.cons rfl (Kn.nil)))))) ?_
  refine awp_block ?_
  refine awp_loop (ι := Nat × Value × List En) (fun i => [(1, .string (str t)), (7, i.2.1), (18, .slice A L.length c), (19, iq (L.length : Nat)), (20, iq (i.1 : Nat))]) (fun i => T ++ rowE i.2.1 52 4 (ecells i.2.2))
    (fun i => i.1 ≤ L.length ∧ RowOk i.2.1 i.2.2.length ∧ EnsOk i.2.2 ∧ i.2.2.length ≤ i.1 * 4096 ∧ joinG t i.2.2 (L.drop i.1) = D) (fun i => L.length - i.1) (0, .slice none 0 0, []) ⟨by simp, RowOk.nil, fun e he => (by cases he), by simp, hD⟩ (Kn.cons rfl (Kn.cons rfl (Kn.cons rfl (Kn.cons rfl (Kn.cons rfl Kn.nil))))) (by simp [rowE]; exact HLe.refl _) ?_
  rintro ⟨k, v, out⟩ ⟨hk, hv, hO, hol, hq⟩
  simp only at hk hv hO hol hq
  refine awp_seq_region (fun Z hZ => ?_)
  first | refine sx_lss rfl rfl rfl ?_ | refine sx_slss rfl rfl rfl ?_
  refine sx_nil (hZ _ _ ?_)
  refine awp_forget [(1, _), (7, _), (18, _), (19, _), (20, _), (21, _)] (Kn.cons rfl (Kn.cons rfl (Kn.cons rfl (Kn.cons rfl (Kn.cons rfl (Kn.cons rfl (Kn.nil))))))) ?_
  first | refine awp_cond rfl (fun h1 => ?_) (fun h1 => ?_) | refine awp_seq (awp_cond rfl (fun h1 => ?_) (fun h1 => ?_))
  · have hlt : k < L.length := by simpa using h1
    have hx := atE_at hlt
    have hxo := atE_ok hE k
    have hoff := (hat k hlt).2
    obtain ⟨x, hxe⟩ : ∃ x, atE L k = x := ⟨_, rfl⟩
    rw [hxe] at hx hxo hoff
    have hdr : L.drop k = x :: L.drop (k + 1) := by rw [List.drop_eq_getElem_cons hlt]; congr 1; exact (List.getElem?_eq_some_iff.1 hx).2
    rw [hdr, joinG] at hq
    obtain ⟨ga, o, rfl⟩ := hA (by omega)
    obtain rfl := hT (by omega)
    refine awp_skip ?_
    repeat (with_reducible (first | refine nx_block_normal ?_ | refine nx_scope_normal ?_))
    with_reducible first | refine nx_normal ?_ | refine nx_normalM ?_
    refine awp_cut (ι := Value × List En) (fun i => [(1, .string (str t)), (7, i.1), (18, .slice (some ⟨ga, o, none⟩) L.length c), (19, iq (L.length : Nat)), (20, iq (k : Nat))]) (fun i => [.ro ga o (ecells L)] ++ rowE i.1 52 4 (ecells i.2)) (fun i => RowOk i.1 i.2.length ∧ EnsOk i.2 ∧ i.2.length ≤ (k + 1) * 4096 ∧ joinG t i.2 (L.drop (k + 1)) = D) ?_ ?_
    · refine awp_block ?_

      refine awp_seq_region (fun Z hZ => ?_)
      refine sx_indexAddr (o + k * 4) Try.underlying24 tyS52 rfl rfl (by omega) (by simp) rfl ?_
      refine sx_loadRo 0 rfl rfl (k * 4) rfl tyA52 tyS52 (ecells_all hx) rfl ?_
      refine sx_alloc tyZ52 rfl (fun g1 => ?_)
      first | refine sx_store 0 rfl rfl rfl tyS52 (by first | (simp only [Value.cells]; first | done | rfl) | rfl) rfl rfl (by first | (simp only [List.length_cons, List.length_nil, Nat.reduceAdd, Nat.zero_add, Nat.add_zero]; first | done | rfl) | rfl) (by first | (simp only [List.take_succ_cons, List.take_zero, List.drop_succ_cons, List.drop_zero, List.cons_append, List.nil_append, List.append_nil, List.length_cons, List.length_nil, Nat.reduceAdd, Nat.zero_add, Nat.add_zero, Value.cells, wrV]; first | done | rfl) | rfl) (by first | (simp only [List.set_cons_succ, List.set_cons_zero]; first | done | rfl) | rfl) ?_ | refine sx_store 1 rfl rfl rfl tyS52 (by first | (simp only [Value.cells]; first | done | rfl) | rfl) rfl rfl (by first | (simp only [List.length_cons, List.length_nil, Nat.reduceAdd, Nat.zero_add, Nat.add_zero]; first | done | rfl) | rfl) (by first | (simp only [List.take_succ_cons, List.take_zero, List.drop_succ_cons, List.drop_zero, List.cons_append, List.nil_append, List.append_nil, List.length_cons, List.length_nil, Nat.reduceAdd, Nat.zero_add, Nat.add_zero, Value.cells, wrV]; first | done | rfl) | rfl) (by first | (simp only [List.set_cons_succ, List.set_cons_zero]; first | done | rfl) | rfl) ?_
      refine sx_nil (hZ _ _ ?_)
      refine awp_forget [(1, _), (7, _), (9, _), (18, _), (19, _), (20, _)] (Kn.cons rfl (Kn.cons rfl (Kn.cons rfl (Kn.cons rfl (Kn.cons rfl (Kn.cons rfl (Kn.nil))))))) ?_

      refine awp_seq ?_
      refine awp_seq_region (fun Z hZ => ?_)
      first | refine sx_loadA 0 rfl rfl tyA52 tyS52 (by first | (simp only [List.length_cons, List.length_nil, Nat.reduceAdd, Nat.zero_add, Nat.add_zero]; first | done | rfl) | rfl) (by first | (simp only [List.take_succ_cons, List.take_zero, List.drop_succ_cons, List.drop_zero, List.cons_append, List.nil_append, List.append_nil, List.length_cons, List.length_nil, Nat.reduceAdd, Nat.zero_add, Nat.add_zero, Value.cells, wrV]; first | done | rfl) | rfl) rfl ?_ | refine sx_loadA 1 rfl rfl tyA52 tyS52 (by first | (simp only [List.length_cons, List.length_nil, Nat.reduceAdd, Nat.zero_add, Nat.add_zero]; first | done | rfl) | rfl) (by first | (simp only [List.take_succ_cons, List.take_zero, List.drop_succ_cons, List.drop_zero, List.cons_append, List.nil_append, List.append_nil, List.length_cons, List.length_nil, Nat.reduceAdd, Nat.zero_add, Nat.add_zero, Value.cells, wrV]; first | done | rfl) | rfl) rfl ?_
      refine sx_callP (pointer_fn x hxo) rfl rfl ?_
      refine sx_not rfl rfl ?_
      refine sx_nil (hZ _ _ ?_)
      refine awp_forget [(1, _), (7, _), (9, _), (18, _), (19, _), (20, _), (26, _)] (Kn.cons rfl (Kn.cons rfl (Kn.cons rfl (Kn.cons rfl (Kn.cons rfl (Kn.cons rfl (Kn.cons rfl (Kn.nil)))))))) ?_
      first | refine awp_cond rfl (fun h2 => ?_) (fun h2 => ?_) | refine awp_seq (awp_cond rfl (fun h2 => ?_) (fun h2 => ?_))
      · have hp : isPtr x = false := by simpa using h2
        rw [hp, if_neg (by decide)] at hq
        refine awp_seq_region (fun Z hZ => ?_)
        refine sx_move rfl rfl ?_
        first | refine sx_loadA 0 rfl rfl tyA52 tyS52 (by first | (simp only [List.length_cons, List.length_nil, Nat.reduceAdd, Nat.zero_add, Nat.add_zero]; first | done | rfl) | rfl) (by first | (simp only [List.take_succ_cons, List.take_zero, List.drop_succ_cons, List.drop_zero, List.cons_append, List.nil_append, List.append_nil, List.length_cons, List.length_nil, Nat.reduceAdd, Nat.zero_add, Nat.add_zero, Value.cells, wrV]; first | done | rfl) | rfl) rfl ?_ | refine sx_loadA 1 rfl rfl tyA52 tyS52 (by first | (simp only [List.length_cons, List.length_nil, Nat.reduceAdd, Nat.zero_add, Nat.add_zero]; first | done | rfl) | rfl) (by first | (simp only [List.take_succ_cons, List.take_zero, List.drop_succ_cons, List.drop_zero, List.cons_append, List.nil_append, List.append_nil, List.length_cons, List.length_nil, Nat.reduceAdd, Nat.zero_add, Nat.add_zero, Value.cells, wrV]; first | done | rfl) | rfl) rfl ?_
        refine sx_buildSlice Try.underlying24 tyS52 tyZ52 rfl rfl rfl rfl (by first | (simp only [List.take_succ_cons, List.take_zero, List.drop_succ_cons, List.drop_zero, List.cons_append, List.nil_append, List.append_nil, List.length_cons, List.length_nil, Nat.reduceAdd, Nat.zero_add, Nat.add_zero, Value.cells, wrV, zrep_one, List.replicate_succ, List.replicate_zero, Nat.reduceMul, Nat.zero_mul]; first | done | rfl) | rfl) rfl (fun g2 => ?_)
        refine sx_appendE [_, _, _] elemEn rfl hv (ecells_len out) rfl (fun w hw => rd_own (i := 0) (xs := x.cells) rfl rfl hw) rfl (by show _ ≤ 9223372036854775807; omega) (by omega) (HLe.refl _) rfl (fun v2 hv2 => ?_)
        rw [show ecells out ++ x.cells = ecells (out ++ [x]) from (fm_snoc _ _).symm]
        refine sx_assign rfl rfl ?_
        refine sx_nil (hZ _ _ ?_)
        refine awp_forget [(1, _), (7, _), (18, _), (19, _), (20, _)] (Kn.cons rfl (Kn.cons rfl (Kn.cons rfl (Kn.cons rfl (Kn.cons rfl (Kn.nil)))))) ?_
        refine awp_exit ?_
        repeat (with_reducible (first | refine nx_then_exit ?_ | refine nx_block_other (by decide) ?_))
        refine nx_block_exit ?_
        refine nx_cut (v2, out ++ [x]) ⟨by simpa using hv2, fun e he => ?_, by simp; omega, hq⟩ (Kn.cons rfl (Kn.cons rfl (Kn.cons rfl (Kn.cons rfl (Kn.cons rfl Kn.nil))))) (HLe.sub (List.Sublist.cons _ (List.Sublist.cons _ (List.Sublist.refl _))))
        rcases List.mem_append.1 he with he | he
        · exact hO e he
        · rw [List.mem_singleton.1 he]; exact hxo
      have hp : isPtr x = true := by simpa using h2
      rw [hp, if_pos rfl] at hq
      have hpc := piece_fn x hxo hoff t ht
      obtain ⟨q1, q2⟩ := pieceQ_ok x t
      obtain ⟨M, hM⟩ : ∃ M, (pieceQ x t).1 = M := ⟨_, rfl⟩
      obtain ⟨e, he⟩ : ∃ e, (pieceQ x t).2 = e := ⟨_, rfl⟩
      rw [hM, he] at hpc hq
      rw [hM] at q1 q2
      refine awp_skip ?_
      repeat (with_reducible (first | refine nx_block_normal ?_ | refine nx_scope_normal ?_))
      with_reducible first | refine nx_normal ?_ | refine nx_normalM ?_
      refine awp_seq_region (fun Z hZ => ?_)
      first | refine sx_loadA 0 rfl rfl tyA52 tyS52 (by first | (simp only [List.length_cons, List.length_nil, Nat.reduceAdd, Nat.zero_add, Nat.add_zero]; first | done | rfl) | rfl) (by first | (simp only [List.take_succ_cons, List.take_zero, List.drop_succ_cons, List.drop_zero, List.cons_append, List.nil_append, List.append_nil, List.length_cons, List.length_nil, Nat.reduceAdd, Nat.zero_add, Nat.add_zero, Value.cells, wrV]; first | done | rfl) | rfl) rfl ?_ | refine sx_loadA 1 rfl rfl tyA52 tyS52 (by first | (simp only [List.length_cons, List.length_nil, Nat.reduceAdd, Nat.zero_add, Nat.add_zero]; first | done | rfl) | rfl) (by first | (simp only [List.take_succ_cons, List.take_zero, List.drop_succ_cons, List.drop_zero, List.cons_append, List.nil_append, List.append_nil, List.length_cons, List.length_nil, Nat.reduceAdd, Nat.zero_add, Nat.add_zero, Value.cells, wrV]; first | done | rfl) | rfl) rfl ?_ | refine sx_loadA 2 rfl rfl tyA52 tyS52 (by first | (simp only [List.length_cons, List.length_nil, Nat.reduceAdd, Nat.zero_add, Nat.add_zero]; first | done | rfl) | rfl) (by first | (simp only [List.take_succ_cons, List.take_zero, List.drop_succ_cons, List.drop_zero, List.cons_append, List.nil_append, List.append_nil, List.length_cons, List.length_nil, Nat.reduceAdd, Nat.zero_add, Nat.add_zero, Value.cells, wrV]; first | done | rfl) | rfl) rfl ?_
      refine sx_move rfl rfl ?_
      refine sx_callO [] (_ :: .ro ga o (ecells L) :: rowE v 52 4 (ecells out)) hpc rfl (HLe.refl _) rfl ?_
      rintro v H' ⟨u, rfl, hu, rfl⟩
      rw [rowE_flt]
      refine sx_move rfl rfl ?_
      refine sx_extract rfl rfl rfl ?_
      refine sx_extract rfl rfl rfl ?_
      refine sx_assign rfl rfl ?_
      refine sx_assign rfl rfl ?_
      refine sx_nil (hZ _ _ ?_)
      refine awp_forget [(1, _), (7, _), (10, _), (11, _), (18, _), (19, _), (20, _)] (Kn.cons rfl (Kn.cons rfl (Kn.cons rfl (Kn.cons rfl (Kn.cons rfl (Kn.cons rfl (Kn.cons rfl (Kn.nil)))))))) ?_
      refine awp_seq ?_
      refine awp_seq_region (fun Z hZ => ?_)
      refine sx_move rfl rfl ?_
      first | refine sx_neq rfl rfl rfl ?_ | refine sx_sneq rfl rfl rfl ?_
      refine sx_nil (hZ _ _ ?_)
      refine awp_forget [(1, _), (7, _), (10, _), (11, _), (18, _), (19, _), (20, _), (38, _)] (Kn.cons rfl (Kn.cons rfl (Kn.cons rfl (Kn.cons rfl (Kn.cons rfl (Kn.cons rfl (Kn.cons rfl (Kn.cons rfl (Kn.nil))))))))) ?_
      first | refine awp_cond rfl (fun h3 => ?_) (fun h3 => ?_) | refine awp_seq (awp_cond rfl (fun h3 => ?_) (fun h3 => ?_))
      · have he0 : e ≠ 0 := by simp at h3; omega
        rw [if_pos he0] at hq
        rw [← hq]
        refine awp_seq_region (fun Z hZ => ?_)
        refine sx_move rfl rfl ?_
        refine sx_assign rfl rfl ?_
        refine sx_assign rfl rfl ?_
        refine sx_nil (hZ _ _ ?_)
        refine awp_forget [(4, _), (5, _)] (Kn.cons rfl (Kn.cons rfl (Kn.nil))) ?_
        refine awp_ret ?_
        repeat (with_reducible (first | refine nx_then_ret ?_ | refine nx_block_ret ?_ | refine nx_scope_ret ?_))
        exact nx_ret2h [] rfl rfl rfl (HLe.sub (List.nil_sublist _)) ⟨_, rfl, RowOk.nil, rfl⟩
      have he0 : e = 0 := by simp at h3; omega
      rw [if_neg (by simpa using he0)] at hq
      refine awp_skip ?_
      repeat (with_reducible (first | refine nx_block_normal ?_ | refine nx_scope_normal ?_))
      with_reducible first | refine nx_normal ?_ | refine nx_normalM ?_
      obtain ⟨A2, c2, rfl, hA2⟩ := hu.form
      refine awp_region (fun Z hZ => ?_)
      refine sx_move rfl rfl ?_
      refine sx_move rfl rfl ?_
      refine sx_appendE (rowE (.slice A2 M.length c2) 52 4 (ecells M) ++ [_, _]) elemEn rfl hv (ecells_len out) rfl (fun w hw => rd_rowE hu (ecells_len M) (fun y hy => List.mem_append_left _ hy) hw) (ecells_one M) (by show _ ≤ 9223372036854775807; omega) (by omega) (by rw [List.append_assoc]; exact HLe.refl _) rfl (fun v2 hv2 => ?_)
      rw [show ecells out ++ ecells M = ecells (out ++ M) from by simp [ecells]]
      refine sx_assign rfl rfl ?_
      refine sx_nil (hZ _ _ ?_)
      refine nx_forget [(1, _), (7, _), (18, _), (19, _), (20, _)] (Kn.cons rfl (Kn.cons rfl (Kn.cons rfl (Kn.cons rfl (Kn.cons rfl (Kn.nil)))))) ?_
      repeat (with_reducible refine nx_block_normal ?_)
      refine nx_cut (v2, out ++ M) ⟨by simpa using hv2, fun e he => ?_, by simp; omega, hq⟩ (Kn.cons rfl (Kn.cons rfl (Kn.cons rfl (Kn.cons rfl (Kn.cons rfl Kn.nil))))) (HLe.sub (by rw [List.append_assoc]; exact (List.Sublist.cons _ (List.Sublist.refl _)).trans (List.sublist_append_right _ _)))
      rcases List.mem_append.1 he with he | he
      · exact hO e he
      · exact q2 e he
    · rintro ⟨v2, out2⟩ ⟨hv2, hO2, hol2, hq2⟩
      refine awp_region (fun Z hZ => ?_)
      refine sx_add rfl rfl ((k + 1 : Nat) : Int) (by rw [IntWalk.i64_in _ (by omega)]; omega) rfl ?_
      refine sx_move rfl rfl ?_
      refine sx_nil (hZ _ _ ?_)
      refine nx_forget [(1, _), (7, _), (18, _), (19, _), (20, _)] (Kn.cons rfl (Kn.cons rfl (Kn.cons rfl (Kn.cons rfl (Kn.cons rfl (Kn.nil)))))) ?_
      exact nx_round (k + 1, v2, out2) ⟨by show k + 1 ≤ _; omega, hv2, hO2, hol2, hq2⟩ (by simp; omega) (Kn.cons rfl (Kn.cons rfl (Kn.cons rfl (Kn.cons rfl (Kn.cons rfl Kn.nil))))) (HLe.refl _)
  · refine awp_exit ?_
    repeat (with_reducible (first | refine nx_then_exit ?_ | refine nx_block_other (by decide) ?_ | refine nx_scope_exit ?_))
    with_reducible refine nx_block_exit ?_
    repeat (with_reducible (first | refine nx_block_normal ?_ | refine nx_scope_normal ?_))
    with_reducible first | refine nx_normal ?_ | refine nx_normalM ?_
    have hke : k = L.length := by simp at h1; omega
    subst hke
    rw [List.drop_length, joinG] at hq
    have hom : out.length ≤ maxLen := by show _ ≤ 9223372036854775807; omega
    obtain ⟨A3, c3, rfl, hA3, hle3⟩ := hv.ro
    refine awp_seq ?_
    refine awp_seq_region (fun Z hZ => ?_)
    refine sx_move rfl rfl ?_
    refine sx_callV (roE A3 (ecells out)) (erow_fn A3 c3 out _ hA3.arg (fun _ => rfl) (Ro.roE _ _) hom hO) rfl (row_view hle3 T _ _ _) (Ro.roE _ _) rfl ?_
    refine sx_assign rfl rfl ?_
    refine sx_nil (hZ _ _ ?_)
    refine awp_forget [(7, _), (12, _)] (Kn.cons rfl (Kn.cons rfl (Kn.nil))) ?_
    refine awp_seq_region (fun Z hZ => ?_)
    refine sx_move rfl rfl ?_
    first | refine sx_neq rfl rfl rfl ?_ | refine sx_sneq rfl rfl rfl ?_
    refine sx_nil (hZ _ _ ?_)
    refine awp_forget [(7, _), (12, _), (47, _)] (Kn.cons rfl (Kn.cons rfl (Kn.cons rfl (Kn.nil)))) ?_
    first | refine awp_cond rfl (fun h2 => ?_) (fun h2 => ?_) | refine awp_seq (awp_cond rfl (fun h2 => ?_) (fun h2 => ?_))
    · have hr2 : rowC out ≠ 0 := by simp at h2; omega
      rw [if_pos hr2] at hq
      rw [← hq]
      refine awp_seq_region (fun Z hZ => ?_)
      refine sx_move rfl rfl ?_
      refine sx_assign rfl rfl ?_
      refine sx_assign rfl rfl ?_
      refine sx_nil (hZ _ _ ?_)
      refine awp_forget [(4, _), (5, _)] (Kn.cons rfl (Kn.cons rfl (Kn.nil))) ?_
      refine awp_ret ?_
      repeat (with_reducible (first | refine nx_then_ret ?_ | refine nx_block_ret ?_ | refine nx_scope_ret ?_))
      exact nx_ret2h [] rfl rfl rfl (HLe.sub (List.nil_sublist _)) ⟨_, rfl, RowOk.nil, rfl⟩
    have hr2 : rowC out = 0 := by simp at h2; omega
    rw [if_neg (by simpa using hr2)] at hq
    rw [← hq]
    refine awp_skip ?_
    repeat (with_reducible (first | refine nx_block_normal ?_ | refine nx_scope_normal ?_))
    with_reducible first | refine nx_normal ?_ | refine nx_normalM ?_
    refine awp_seq_region (fun Z hZ => ?_)
    refine sx_move rfl rfl ?_
    refine sx_assign rfl rfl ?_
    refine sx_assign rfl rfl ?_
    refine sx_nil (hZ _ _ ?_)
    refine awp_forget [(4, _), (5, _)] (Kn.cons rfl (Kn.cons rfl (Kn.nil))) ?_
    refine awp_ret ?_
    repeat (with_reducible (first | refine nx_then_ret ?_ | refine nx_block_ret ?_ | refine nx_scope_ret ?_))
    exact nx_ret2h _ rfl rfl rfl (HLe.sub (List.sublist_append_right _ _)) ⟨_, rfl, hv, rfl⟩
end Go.Proofs.Ytodclhiggafkbaa
