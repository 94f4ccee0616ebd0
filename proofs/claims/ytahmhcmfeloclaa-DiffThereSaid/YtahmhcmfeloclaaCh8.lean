/- The walks of the document's answer for charts: Get, Del, Put, Bytes. Conditions: the lists are not too long. -/
import Derived.Test.YtahmhcmfeloclaaCh7
namespace Go.Proofs.Ytahmhcmfeloclaa
open Go.RowKit
set_option linter.unusedVariables false
set_option linter.unusedSimpArgs false
theorem rget_fn (A : Option Addr) (c : Nat) (L : List It) (T : Heap) (hA : ArgOk A L.length) (hT : 0 < L.length → T = roE A (icells L)) (hL : L.length ≤ 1000000) (k : Nat) :
    Fn Try.prog 29 [.slice A L.length c, uq k] T fun v _ => v = .tuple #[.string (str ((rGet k L).getD [])), .bool (rGet k L).isSome] := by
  refine Fn.enter (N := 25) Try.func29 rfl (by kernel_rfl) rfl (fun w0 => ?_)

  refine awp_seq_region (fun Z hZ => ?_)
  refine sx_assign rfl rfl ?_
  refine sx_assign rfl rfl ?_
  refine sx_nil (hZ _ _ ?_)
  refine awp_forget [(0, _), (1, _)] (Kn.cons rfl (Kn.cons rfl (Kn.nil))) ?_
  refine awp_seq ?_
  refine awp_seq_region (fun Z hZ => ?_)
  refine sx_assign rfl rfl ?_
  refine sx_nil (hZ _ _ ?_)
  refine awp_forget [(0, _), (1, _), (6, _)] (Kn.cons rfl (Kn.cons rfl (Kn.cons rfl (Kn.nil)))) ?_
  refine awp_block ?_
  refine awp_loop (ι := Nat) (fun i => [(0, .slice A L.length c), (1, uq k), (6, iq (i : Nat))]) (fun _ => T)
    (fun i => i ≤ L.length ∧ rGet k (L.drop i) = rGet k L) (fun i => L.length - i) 0 ⟨by simp, rfl⟩ (Kn.cons rfl (Kn.cons rfl (Kn.cons rfl Kn.nil))) (HLe.refl _) ?_
  rintro i ⟨hi, hq⟩
  refine awp_seq ?_
  refine awp_seq_region (fun Z hZ => ?_)
  refine sx_move rfl rfl ?_
  refine sx_move rfl rfl ?_
  first | refine sx_len Try.underlying22 rfl rfl ?_ | refine sx_lenS Try.underlying22 rfl rfl ?_
  first | refine sx_lss rfl rfl rfl ?_ | refine sx_slss rfl rfl rfl ?_
  refine sx_nil (hZ _ _ ?_)
  refine awp_forget [(0, _), (1, _), (6, _), (10, _)] (Kn.cons rfl (Kn.cons rfl (Kn.cons rfl (Kn.cons rfl (Kn.nil))))) ?_
  first | refine awp_cond rfl (fun h => ?_) (fun h => ?_) | refine awp_seq (awp_cond rfl (fun h => ?_) (fun h => ?_))
  · have hlt : i < L.length := by simpa using h
    have hx := itAt_at hlt
    obtain ⟨x, hxe⟩ : ∃ x, itAt L i = x := ⟨_, rfl⟩
    rw [hxe] at hx
    have hdr : L.drop i = x :: L.drop (i + 1) := by rw [List.drop_eq_getElem_cons hlt]; congr 1; exact (List.getElem?_eq_some_iff.1 hx).2
    rw [hdr, rGet] at hq
    obtain ⟨g, o, rfl⟩ := hA (by omega)
    obtain rfl := hT (by omega)
    refine awp_skip ?_
    repeat (with_reducible (first | refine nx_block_normal ?_ | refine nx_scope_normal ?_))
    with_reducible first | refine nx_normal ?_ | refine nx_normalM ?_
    refine awp_seq (awp_block ?_)

    refine awp_seq_region (fun Z hZ => ?_)
    refine sx_move rfl rfl ?_
    refine sx_move rfl rfl ?_
    refine sx_indexAddr (o + i * 2) Try.underlying22 tyS58 rfl rfl (by omega) (by simp) rfl ?_
    refine sx_fieldAddr rfl tyF58_0 (by first | (simp only [Nat.reduceAdd, Nat.add_zero, Nat.zero_add]; first | done | rfl) | rfl) rfl ?_
    refine sx_loadRo 0 rfl rfl (i * 2) rfl tyA51 tyS51 (icells_id hx) rfl ?_
    refine sx_move rfl rfl ?_
    first | refine sx_eql rfl rfl rfl ?_ | refine sx_seql rfl rfl rfl ?_
    refine sx_nil (hZ _ _ ?_)
    refine awp_forget [(0, _), (1, _), (6, _), (19, _)] (Kn.cons rfl (Kn.cons rfl (Kn.cons rfl (Kn.cons rfl (Kn.nil))))) ?_
    first | refine awp_cond rfl (fun h1 => ?_) (fun h1 => ?_) | refine awp_seq (awp_cond rfl (fun h1 => ?_) (fun h1 => ?_))
    · have he : x.id = k := by simp at h1; omega
      rw [if_pos he] at hq
      rw [← hq]
      refine awp_seq_region (fun Z hZ => ?_)
      refine sx_move rfl rfl ?_
      refine sx_move rfl rfl ?_
      refine sx_indexAddr (o + i * 2) Try.underlying22 tyS58 rfl rfl (by omega) (by simp) rfl ?_
      refine sx_fieldAddr rfl tyF58_1 (by first | (simp only [Nat.reduceAdd, Nat.add_zero, Nat.zero_add]; first | done | rfl) | rfl) rfl ?_
      refine sx_loadRo 0 rfl rfl (i * 2 + 1) rfl tyA9 tyS9 (icells_tx hx) rfl ?_
      refine sx_assign rfl rfl ?_
      refine sx_assign rfl rfl ?_
      refine sx_nil (hZ _ _ ?_)
      refine awp_forget [(4, _), (5, _)] (Kn.cons rfl (Kn.cons rfl (Kn.nil))) ?_
      refine awp_ret ?_
      repeat (with_reducible (first | refine nx_then_ret ?_ | refine nx_block_ret ?_ | refine nx_scope_ret ?_))
      exact nx_ret2 rfl rfl rfl rfl
    have he : x.id ≠ k := by simp at h1; omega
    rw [if_neg he] at hq
    refine awp_skip ?_
    repeat (with_reducible (first | refine nx_block_normal ?_ | refine nx_scope_normal ?_))
    with_reducible first | refine nx_normal ?_ | refine nx_normalM ?_
    refine awp_region (fun Z hZ => ?_)
    refine sx_move rfl rfl ?_
    refine sx_add rfl rfl ((i + 1 : Nat) : Int) (by rw [IntWalk.i64_in _ (by omega)]; omega) rfl ?_
    refine sx_assign rfl rfl ?_
    refine sx_nil (hZ _ _ ?_)
    refine nx_forget [(0, _), (1, _), (6, _)] (Kn.cons rfl (Kn.cons rfl (Kn.cons rfl (Kn.nil)))) ?_
    exact nx_round (i + 1) ⟨by omega, hq⟩ (by omega) (Kn.cons rfl (Kn.cons rfl (Kn.cons rfl Kn.nil))) (HLe.refl _)
  · refine awp_exit ?_
    repeat (with_reducible (first | refine nx_then_exit ?_ | refine nx_block_other (by decide) ?_ | refine nx_scope_exit ?_))
    with_reducible refine nx_block_exit ?_
    repeat (with_reducible (first | refine nx_block_normal ?_ | refine nx_scope_normal ?_))
    with_reducible first | refine nx_normal ?_ | refine nx_normalM ?_
    have hke : i = L.length := by simp at h; omega
    subst hke
    rw [List.drop_length, rGet] at hq
    rw [← hq]
    refine awp_seq_region (fun Z hZ => ?_)
    refine sx_assign rfl rfl ?_
    refine sx_assign rfl rfl ?_
    refine sx_nil (hZ _ _ ?_)
    refine awp_forget [(4, _), (5, _)] (Kn.cons rfl (Kn.cons rfl (Kn.nil))) ?_
    refine awp_ret ?_
    repeat (with_reducible (first | refine nx_then_ret ?_ | refine nx_block_ret ?_ | refine nx_scope_ret ?_))
    exact nx_ret2 rfl rfl rfl rfl
theorem rdel_fn (A : Option Addr) (c : Nat) (L : List It) (T : Heap) (hA : ArgOk A L.length) (hT : 0 < L.length → T = roE A (icells L)) (hro : Ro T) (hL : L.length ≤ 100000) (k : Nat) :
    Fn Try.prog 30 [.slice A L.length c, uq k] T fun v H' => RowOk v (rDel k L).length ∧ H' = rowE v 58 2 (icells (rDel k L)) := by
  refine Fn.enter (N := 28) Try.func30 rfl (by kernel_rfl) rfl (fun w0 => ?_)

  refine awp_seq_region (fun Z hZ => ?_)
  refine sx_assign rfl rfl ?_
  refine sx_nil (hZ _ _ ?_)
  refine awp_forget [(0, _), (1, _)] (Kn.cons rfl (Kn.cons rfl (Kn.nil))) ?_
  refine awp_seq_region (fun Z hZ => ?_)
  refine sx_assign rfl rfl ?_
  refine sx_nil (hZ _ _ ?_)
  refine awp_forget [(0, _), (1, _), (5, _)] (Kn.cons rfl (Kn.cons rfl (Kn.cons rfl (Kn.nil)))) ?_
  refine awp_seq ?_
  refine awp_seq_region (fun Z hZ => ?_)
  refine sx_assign rfl rfl ?_
  refine sx_nil (hZ _ _ ?_)
  refine awp_forget [(0, _), (1, _), (5, _), (6, _)] (Kn.cons rfl (Kn.cons rfl (Kn.cons rfl (Kn.cons rfl (Kn.nil))))) ?_
  refine awp_block ?_
  refine awp_loop (ι := Nat × Value) (fun i => [(0, .slice A L.length c), (1, uq k), (5, i.2), (6, iq (i.1 : Nat))]) (fun i => T ++ rowE i.2 58 2 (icells (rDel k (L.take i.1))))
    (fun i => i.1 ≤ L.length ∧ RowOk i.2 (rDel k (L.take i.1)).length) (fun i => L.length - i.1) (0, .slice none 0 0) ⟨by simp, RowOk.nil⟩ (Kn.cons rfl (Kn.cons rfl (Kn.cons rfl (Kn.cons rfl Kn.nil)))) (by simp [rowE]; exact HLe.refl _) ?_
  rintro ⟨i, v⟩ ⟨hi, hv⟩
  simp only at hi hv
  refine awp_seq ?_
  refine awp_seq_region (fun Z hZ => ?_)
  refine sx_move rfl rfl ?_
  refine sx_move rfl rfl ?_
  first | refine sx_len Try.underlying22 rfl rfl ?_ | refine sx_lenS Try.underlying22 rfl rfl ?_
  first | refine sx_lss rfl rfl rfl ?_ | refine sx_slss rfl rfl rfl ?_
  refine sx_nil (hZ _ _ ?_)
  refine awp_forget [(0, _), (1, _), (5, _), (6, _), (10, _)] (Kn.cons rfl (Kn.cons rfl (Kn.cons rfl (Kn.cons rfl (Kn.cons rfl (Kn.nil)))))) ?_
  first | refine awp_cond rfl (fun h => ?_) (fun h => ?_) | refine awp_seq (awp_cond rfl (fun h => ?_) (fun h => ?_))
  · have hlt : i < L.length := by simpa using h
    have hx := itAt_at hlt
    obtain ⟨x, hxe⟩ : ∃ x, itAt L i = x := ⟨_, rfl⟩
    rw [hxe] at hx
    have hfl : (rDel k (L.take i)).length ≤ i := by
      refine Nat.le_trans (List.length_filter_le _ _) ?_
      rw [List.length_take]
      omega
    have htk : rDel k (L.take (i + 1)) = rDel k (L.take i) ++ (if x.id ≠ k then [x] else []) := by
      unfold rDel
      rw [List.take_add_one, hx, List.filter_append]
      congr 1
      simp only [Option.toList, List.filter_cons, List.filter_nil]
      by_cases hc : x.id = k <;> simp [hc]
    obtain ⟨g, o, rfl⟩ := hA (by omega)
    obtain rfl := hT (by omega)
    refine awp_skip ?_
    repeat (with_reducible (first | refine nx_block_normal ?_ | refine nx_scope_normal ?_))
    with_reducible first | refine nx_normal ?_ | refine nx_normalM ?_
    refine awp_cut (ι := Value) (fun v => [(0, .slice (some ⟨g, o, none⟩) L.length c), (1, uq k), (5, v), (6, iq (i : Nat))]) (fun v => [.ro g o (icells L)] ++ rowE v 58 2 (icells (rDel k (L.take (i + 1))))) (fun v => RowOk v (rDel k (L.take (i + 1))).length) ?_ ?_
    · refine awp_block ?_

      refine awp_seq_region (fun Z hZ => ?_)
      refine sx_move rfl rfl ?_
      refine sx_move rfl rfl ?_
      refine sx_indexAddr (o + i * 2) Try.underlying22 tyS58 rfl rfl (by omega) (by simp) rfl ?_
      refine sx_fieldAddr rfl tyF58_0 (by first | (simp only [Nat.reduceAdd, Nat.add_zero, Nat.zero_add]; first | done | rfl) | rfl) rfl ?_
      refine sx_loadRo 0 rfl rfl (i * 2) rfl tyA51 tyS51 (icells_id hx) rfl ?_
      refine sx_move rfl rfl ?_
      first | refine sx_neq rfl rfl rfl ?_ | refine sx_sneq rfl rfl rfl ?_
      refine sx_nil (hZ _ _ ?_)
      refine awp_forget [(0, _), (1, _), (5, _), (6, _), (19, _)] (Kn.cons rfl (Kn.cons rfl (Kn.cons rfl (Kn.cons rfl (Kn.cons rfl (Kn.nil)))))) ?_
      first | refine awp_cond rfl (fun h1 => ?_) (fun h1 => ?_) | refine awp_seq (awp_cond rfl (fun h1 => ?_) (fun h1 => ?_))
      · have hp : x.id ≠ k := by simp at h1; omega
        rw [if_pos hp] at htk
        refine awp_region (fun Z hZ => ?_)
        refine sx_move rfl rfl ?_
        refine sx_move rfl rfl ?_
        refine sx_move rfl rfl ?_
        refine sx_indexAddr (o + i * 2) Try.underlying22 tyS58 rfl rfl (by omega) (by simp) rfl ?_
        refine sx_loadRo 0 rfl rfl (i * 2) rfl tyA58 tyS58 (icells_all hx) rfl ?_
        refine sx_buildSlice Try.underlying22 tyS58 tyZ58 rfl rfl rfl rfl (by first | (simp only [List.take_succ_cons, List.take_zero, List.drop_succ_cons, List.drop_zero, List.cons_append, List.nil_append, List.append_nil, List.length_cons, List.length_nil, Nat.reduceAdd, Nat.zero_add, Nat.add_zero, Value.cells, wrV, zrep_one, List.replicate_succ, List.replicate_zero, Nat.reduceMul, Nat.zero_mul]; first | done | rfl) | rfl) rfl (fun g1 => ?_)
        refine sx_appendE [_, _] elemItR rfl hv (icells_len _) rfl (fun w hw => rd_own (i := 0) (xs := x.cells) rfl rfl hw) rfl (by show _ ≤ 9223372036854775807; omega) (by omega) (HLe.refl _) rfl (fun v2 hv2 => ?_)
        refine sx_assign rfl rfl ?_
        refine sx_nil (hZ _ _ ?_)
        refine nx_forget [(0, _), (1, _), (5, _), (6, _)] (Kn.cons rfl (Kn.cons rfl (Kn.cons rfl (Kn.cons rfl (Kn.nil))))) ?_
        repeat (with_reducible refine nx_block_normal ?_)
        refine nx_cut v2 (by rw [htk]; simpa using hv2) (Kn.cons rfl (Kn.cons rfl (Kn.cons rfl (Kn.cons rfl Kn.nil)))) ?_
        rw [htk, show icells (rDel k (L.take i) ++ [x]) = icells (rDel k (L.take i)) ++ x.cells from fm_snoc _ _]
        exact HLe.drop 1 rfl
      · have hp : x.id = k := by simp at h1; omega
        rw [if_neg (by simpa using hp), List.append_nil] at htk
        refine awp_skip ?_
        repeat (with_reducible refine nx_block_normal ?_)
        refine nx_cut v (by rw [htk]; exact hv) (Kn.cons rfl (Kn.cons rfl (Kn.cons rfl (Kn.cons rfl Kn.nil)))) ?_
        rw [htk]
        exact HLe.refl _
    · rintro v2 hv2
      refine awp_region (fun Z hZ => ?_)
      refine sx_move rfl rfl ?_
      refine sx_add rfl rfl ((i + 1 : Nat) : Int) (by rw [IntWalk.i64_in _ (by omega)]; omega) rfl ?_
      refine sx_assign rfl rfl ?_
      refine sx_nil (hZ _ _ ?_)
      refine nx_forget [(0, _), (1, _), (5, _), (6, _)] (Kn.cons rfl (Kn.cons rfl (Kn.cons rfl (Kn.cons rfl (Kn.nil))))) ?_
      exact nx_round (i + 1, v2) ⟨by show i + 1 ≤ _; omega, hv2⟩ (by simp; omega) (Kn.cons rfl (Kn.cons rfl (Kn.cons rfl (Kn.cons rfl Kn.nil)))) (HLe.refl _)
  · refine awp_exit ?_
    repeat (with_reducible (first | refine nx_then_exit ?_ | refine nx_block_other (by decide) ?_ | refine nx_scope_exit ?_))
    with_reducible refine nx_block_exit ?_
    repeat (with_reducible (first | refine nx_block_normal ?_ | refine nx_scope_normal ?_))
    with_reducible first | refine nx_normal ?_ | refine nx_normalM ?_
    have hke : i = L.length := by simp at h; omega
    subst hke
    rw [List.take_length] at hv ⊢
    refine awp_seq_region (fun Z hZ => ?_)
    refine sx_move rfl rfl ?_
    refine sx_assign rfl rfl ?_
    refine sx_nil (hZ _ _ ?_)
    refine awp_forget [(4, _)] (Kn.cons rfl (Kn.nil)) ?_
    refine awp_ret ?_
    repeat (with_reducible (first | refine nx_then_ret ?_ | refine nx_block_ret ?_ | refine nx_scope_ret ?_))
    exact nx_ret1h _ rfl rfl (HLe.sub (List.sublist_append_right _ _)) ⟨hv, rfl⟩
end Go.Proofs.Ytahmhcmfeloclaa
