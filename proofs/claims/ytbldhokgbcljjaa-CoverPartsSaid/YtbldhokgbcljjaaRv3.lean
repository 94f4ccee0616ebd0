/- The walk of the document's four tiles in a tile. No conditions. -/
import Derived.Test.YtbldhokgbcljjaaRv2
import Derived.Test.YtbldhokgbcljjaaSxRs
namespace Go.Proofs.Ytbldhokgbcljjaa
open Go.RowKit
set_option linter.unusedVariables false
set_option linter.unusedSimpArgs false
set_option maxRecDepth 100000
abbrev Ti.cells (z : Nat) (p : Nat × Nat) : List Value := tcells z p.1 p.2
abbrev tlc (z : Nat) (L : List (Nat × Nat)) : List Value := L.flatMap (Ti.cells z)
theorem ti_len (z : Nat) (p : Nat × Nat) : (Ti.cells z p).length = 3 := rfl
theorem tlc_len (z : Nat) (L : List (Nat × Nat)) : (tlc z L).length = L.length * 3 := fm_len (ti_len z) L
theorem tlc_all {z : Nat} {L : List (Nat × Nat)} {i : Nat} {x : Nat × Nat} (h : L[i]? = some x) : rdV true 3 (tlc z L) (i * 3) = some (tval z x.1 x.2) := fm_rd (ti_len z) h
theorem tlc_one (z : Nat) (L : List (Nat × Nat)) : (tlc z L).all Value.oneCell' = true := List.all_eq_true.2 fun v hv => by
  obtain ⟨e, _, he⟩ := List.mem_flatMap.1 hv
  simp only [Ti.cells, tcells, List.mem_cons, List.not_mem_nil, or_false] at he
  rcases he with rfl | rfl | rfl <;> rfl
theorem tlc_app (z : Nat) (a b : List (Nat × Nat)) : tlc z (a ++ b) = tlc z a ++ tlc z b := List.flatMap_append
theorem tlc_drop (z : Nat) (L : List (Nat × Nat)) (i : Nat) : (tlc z L).drop (i * 3) = tlc z (L.drop i) := fm_drop (ti_len z) L i
theorem tlc_take (z : Nat) (L : List (Nat × Nat)) (i : Nat) (hi : i ≤ L.length) : (tlc z L).take (i * 3) = tlc z (L.take i) := by
  have h : tlc z L = tlc z (L.take i) ++ tlc z (L.drop i) := by rw [← tlc_app, List.take_append_drop]
  rw [h, List.take_left' (by rw [tlc_len, List.length_take, Nat.min_eq_left hi])]
theorem elemTR : ElemOk Try.prog 107 48 3 24 := ElemOk.mk_ (z := .agg #[iq 0, iq 0, iq 0]) Try.underlying107 (by kernel_rfl) rfl (by omega)
/-- The tiles in one, as they are gone through. -/
def kids (a b n : Nat) : List (Nat × Nat) := (List.range n).map fun i => (2 * a + i % 2, 2 * b + i / 2)
theorem kids_succ (a b n : Nat) : kids a b (n + 1) = kids a b n ++ [(2 * a + n % 2, 2 * b + n / 2)] := by
  unfold kids
  rw [List.range_succ, List.map_append]
  rfl
theorem rDown_fn (z a b : Nat) (hz : z + 1 ≤ 26) (ha : a < 2 ^ z) (hb : b < 2 ^ z) : Fn Try.prog 94 [tval z a b] [] fun v H' => ∃ (u : Value) (L : List (Nat × Nat)), v = .tuple #[u, iq (0 : Int)] ∧ RowOk u L.length ∧ L.Perm (kids a b 4) ∧ H' = rowE u 48 3 (tlc (z + 1) L) := by
  have hid := rID_fn z a b
  rw [(place_e0 (by omega) ha hb).1] at hid
  have hl := pow2_le26 (show z ≤ 26 by omega)
  obtain ⟨id0, hid0⟩ : ∃ i, idV z a b = i := ⟨_, rfl⟩
  rw [hid0] at hid
  refine Fn.enter (N := 84) Try.func94 rfl (by kernel_rfl) rfl (fun w0 => ?_)

  refine awp_seq_region (fun Z hZ => ?_)
  refine sx_box rfl rfl rfl (fun g1 => ?_)
  refine sx_assign rfl rfl ?_
  refine sx_assign rfl rfl ?_
  refine sx_nil (hZ _ _ ?_)
  refine awp_forget [(1, _)] (Kn.cons rfl (Kn.nil)) ?_

  refine awp_seq_region (fun Z hZ => ?_)
  first | refine sx_loadA 0 rfl rfl tyA48 tyS48 (by first | (simp only [List.length_cons, List.length_nil, Nat.reduceAdd, Nat.zero_add, Nat.add_zero]; first | done | rfl) | rfl) (by first | (simp only [List.take_succ_cons, List.take_zero, List.drop_succ_cons, List.drop_zero, List.cons_append, List.nil_append, List.append_nil, List.length_cons, List.length_nil, Nat.reduceAdd, Nat.zero_add, Nat.add_zero, Value.cells, wrV]; first | done | rfl) | rfl) rfl ?_
  refine sx_callP (hid) rfl rfl ?_
  refine sx_move rfl rfl ?_
  refine sx_extract rfl rfl rfl ?_
  refine sx_extract rfl rfl rfl ?_
  refine sx_assign rfl rfl ?_
  refine sx_assign rfl rfl ?_
  refine sx_nil (hZ _ _ ?_)
  refine awp_forget [(1, _), (5, _)] (Kn.cons rfl (Kn.cons rfl (Kn.nil))) ?_
  refine awp_seq ?_
  refine awp_seq_region (fun Z hZ => ?_)
  refine sx_move rfl rfl ?_
  refine sx_neq rfl rfl rfl ?_
  refine sx_nil (hZ _ _ ?_)
  refine awp_forget [(1, _), (5, _), (21, _)] (Kn.cons rfl (Kn.cons rfl (Kn.cons rfl (Kn.nil)))) ?_
  refine awp_cond rfl (fun h1 => ?_) (fun h1 => ?_)
  · cases h1
  refine awp_skip ?_
  with_reducible refine nx_normal ?_
  refine awp_seq ?_
  refine awp_seq_region (fun Z hZ => ?_)
  refine sx_fieldAddr rfl tyF48_0 (by first | (simp only [Nat.reduceAdd, Nat.add_zero, Nat.zero_add]; first | done | rfl) | rfl) rfl ?_
  first | refine sx_load 0 rfl rfl tyA3 tyS3 rfl rfl ?_
  refine sx_eql rfl rfl rfl ?_
  refine sx_nil (hZ _ _ ?_)
  refine awp_forget [(1, _), (25, _)] (Kn.cons rfl (Kn.cons rfl (Kn.nil))) ?_
  refine awp_cond rfl (fun h2 => ?_) (fun h2 => ?_)
  · exfalso
    simp at h2
    omega
  refine awp_skip ?_
  with_reducible refine nx_normal ?_
  refine awp_seq_region (fun Z hZ => ?_)
  refine sx_assign rfl rfl ?_
  refine sx_nil (hZ _ _ ?_)
  refine awp_forget [(1, _), (6, _)] (Kn.cons rfl (Kn.cons rfl (Kn.nil))) ?_
  refine awp_seq ?_
  refine awp_seq_region (fun Z hZ => ?_)
  refine sx_assign rfl rfl ?_
  refine sx_nil (hZ _ _ ?_)
  refine awp_forget [(1, _), (6, _), (7, _)] (Kn.cons rfl (Kn.cons rfl (Kn.cons rfl (Kn.nil)))) ?_
  refine awp_block ?_
  refine awp_loop (ι := Value × List (Nat × Nat) × Nat) (fun s => [(1, ptr g1 0), (6, s.1), (7, iq (s.2.2 : Nat))]) (fun s => .own g1 48 (tcells z a b) :: rowE s.1 48 3 (tlc (z + 1) s.2.1)) (fun s => s.2.2 ≤ 4 ∧ RowOk s.1 s.2.1.length ∧ s.2.1.Perm (kids a b s.2.2)) (fun s => 4 - s.2.2) (.slice none 0 0, [], 0) ⟨Nat.zero_le _, RowOk.nil, .nil⟩ (Kn.cons rfl (Kn.cons rfl (Kn.cons rfl Kn.nil))) (HLe.refl _) ?_
  rintro ⟨u, L, i⟩ ⟨hi, hu, hp⟩
  replace hi : i ≤ 4 := hi
  replace hu : RowOk u L.length := hu
  replace hp : L.Perm (kids a b i) := hp
  have hlen : L.length = i := by rw [hp.length_eq, kids, List.length_map, List.length_range]
  refine awp_forget [(1, ptr g1 0), (6, u), (7, iq i)] (Kn.cons rfl (Kn.cons rfl (Kn.cons rfl Kn.nil))) ?_
  refine awp_heap (.own g1 48 (tcells z a b) :: rowE u 48 3 (tlc (z + 1) L)) (HLe.refl _) ?_
  refine awp_seq ?_
  refine awp_seq_region (fun Z hZ => ?_)
  refine sx_move rfl rfl ?_
  refine sx_lss rfl rfl rfl ?_
  refine sx_nil (hZ _ _ ?_)
  refine awp_forget [(1, _), (6, _), (7, _), (27, _)] (Kn.cons rfl (Kn.cons rfl (Kn.cons rfl (Kn.cons rfl (Kn.nil))))) ?_
  refine awp_cond rfl (fun h3 => ?_) (fun h3 => ?_)
  · have hlt : i < 4 := by simp at h3; omega
    obtain ⟨x, hx⟩ : ∃ x, 2 * a + i % 2 = x := ⟨_, rfl⟩
    obtain ⟨y, hy⟩ : ∃ x, 2 * b + i / 2 = x := ⟨_, rfl⟩
    have hidk := rID_fn (z + 1 : Nat) x y
    obtain ⟨k, hk⟩ : ∃ k, idV (z + 1 : Nat) x y = k := ⟨_, rfl⟩
    obtain ⟨e, he⟩ : ∃ k, placeE (z + 1 : Nat) x y = k := ⟨_, rfl⟩
    rw [hk, he] at hidk
    obtain ⟨Au, cu, rfl, hAu⟩ := hu.form
    refine awp_skip ?_
    with_reducible refine nx_normal ?_
    refine awp_seq (awp_block ?_)

    refine awp_seq_region (fun Z hZ => ?_)
    refine sx_fieldAddr rfl tyF48_0 (by first | (simp only [Nat.reduceAdd, Nat.add_zero, Nat.zero_add]; first | done | rfl) | rfl) rfl ?_
    refine sx_load 0 rfl rfl tyA3 tyS3 rfl rfl ?_
    refine sx_add rfl rfl ((z + 1 : Nat) : Int) (by rw [IntWalk.i64_in _ (by omega)]; omega) rfl ?_
    refine sx_fieldAddr rfl tyF48_1 (by first | (simp only [Nat.reduceAdd, Nat.add_zero, Nat.zero_add]; first | done | rfl) | rfl) rfl ?_
    refine sx_load 0 rfl rfl tyA3 tyS3 rfl rfl ?_
    refine sx_mul rfl rfl ((2 * a : Nat) : Int) (by rw [IntWalk.i64_in _ (by omega)]; omega) rfl ?_
    refine sx_move rfl rfl ?_
    refine sx_rem rfl rfl (by omega) ((i % 2 : Nat) : Int) (by rw [Int.tmod_eq_emod_of_nonneg (by omega)]; omega) rfl ?_
    refine sx_add rfl rfl ((x : Nat) : Int) (by rw [IntWalk.i64_in _ (by omega)]; omega) rfl ?_
    refine sx_fieldAddr rfl tyF48_2 (by first | (simp only [Nat.reduceAdd, Nat.add_zero, Nat.zero_add]; first | done | rfl) | rfl) rfl ?_
    refine sx_load 0 rfl rfl tyA3 tyS3 rfl rfl ?_
    refine sx_mul rfl rfl ((2 * b : Nat) : Int) (by rw [IntWalk.i64_in _ (by omega)]; omega) rfl ?_
    refine sx_move rfl rfl ?_
    refine sx_quo rfl rfl (by omega) ((i / 2 : Nat) : Int) (by rw [Int.tdiv_eq_ediv_of_nonneg (by omega), IntWalk.i64_in _ (by omega)]; omega) rfl ?_
    refine sx_add rfl rfl ((y : Nat) : Int) (by rw [IntWalk.i64_in _ (by omega)]; omega) rfl ?_
    refine sx_build tyZ48 tyP48 rfl rfl (by first | (simp only [List.take_succ_cons, List.take_zero, List.drop_succ_cons, List.drop_zero, List.cons_append, List.nil_append, List.append_nil, List.length_cons, List.length_nil, Nat.reduceAdd, Nat.zero_add, Nat.add_zero, Value.cells, wrV, zrep_one, List.replicate_succ, List.replicate_zero, Nat.reduceMul, Nat.zero_mul]; first | done | rfl) | rfl) rfl ?_
    refine sx_alloc tyZ48 rfl (fun g2 => ?_)
    refine sx_store 0 rfl rfl rfl tyS48 (by first | (simp only [Value.cells]; first | done | rfl) | rfl) rfl rfl (by first | (simp only [List.length_cons, List.length_nil, Nat.reduceAdd, Nat.zero_add, Nat.add_zero]; first | done | rfl) | rfl) (by first | (simp only [List.take_succ_cons, List.take_zero, List.drop_succ_cons, List.drop_zero, List.cons_append, List.nil_append, List.append_nil, List.length_cons, List.length_nil, Nat.reduceAdd, Nat.zero_add, Nat.add_zero, Value.cells, wrV]; first | done | rfl) | rfl) (by first | (simp only [List.set_cons_succ, List.set_cons_zero]; first | done | rfl) | rfl) ?_
    refine sx_nil (hZ _ _ ?_)
    refine awp_forget [(1, _), (6, _), (7, _), (8, _)] (Kn.cons rfl (Kn.cons rfl (Kn.cons rfl (Kn.cons rfl (Kn.nil))))) ?_
    refine awp_seq_region (fun Z hZ => ?_)
    refine sx_loadA 0 rfl rfl tyA48 tyS48 (by first | (simp only [List.length_cons, List.length_nil, Nat.reduceAdd, Nat.zero_add, Nat.add_zero]; first | done | rfl) | rfl) (by first | (simp only [List.take_succ_cons, List.take_zero, List.drop_succ_cons, List.drop_zero, List.cons_append, List.nil_append, List.append_nil, List.length_cons, List.length_nil, Nat.reduceAdd, Nat.zero_add, Nat.add_zero, Value.cells, wrV]; first | done | rfl) | rfl) rfl ?_
    refine sx_callP (hidk) rfl rfl ?_
    refine sx_move rfl rfl ?_
    refine sx_extract rfl rfl rfl ?_
    refine sx_extract rfl rfl rfl ?_
    refine sx_assign rfl rfl ?_
    refine sx_assign rfl rfl ?_
    refine sx_nil (hZ _ _ ?_)
    refine awp_forget [(1, _), (6, _), (7, _), (8, _), (9, _)] (Kn.cons rfl (Kn.cons rfl (Kn.cons rfl (Kn.cons rfl (Kn.cons rfl (Kn.nil)))))) ?_
    refine awp_seq_region (fun Z hZ => ?_)
    refine sx_move rfl rfl ?_
    refine sx_len Try.underlying107 rfl rfl ?_
    refine sx_assign rfl rfl ?_
    refine sx_nil (hZ _ _ ?_)
    refine awp_forget [(1, _), (6, _), (7, _), (8, _), (9, _), (11, _)] (Kn.cons rfl (Kn.cons rfl (Kn.cons rfl (Kn.cons rfl (Kn.cons rfl (Kn.cons rfl (Kn.nil))))))) ?_
    refine awp_cut (ι := Nat) (fun at_ => [(1, ptr g1 0), (6, .slice Au L.length cu), (7, iq i), (8, ptr g2 0), (11, iq at_)]) (fun _ => .own g2 48 (tcells (z + 1 : Nat) x y) :: .own g1 48 (tcells z a b) :: rowE (.slice Au L.length cu) 48 3 (tlc (z + 1) L)) (fun at_ => at_ ≤ L.length) ?_ ?_
    · refine awp_block ?_
      refine awp_loop (ι := Nat) (fun at_ => [(1, ptr g1 0), (6, .slice Au L.length cu), (7, iq i), (8, ptr g2 0), (9, uq k), (11, iq at_)]) (fun _ => .own g2 48 (tcells (z + 1 : Nat) x y) :: .own g1 48 (tcells z a b) :: rowE (.slice Au L.length cu) 48 3 (tlc (z + 1) L)) (fun at_ => at_ ≤ L.length) (fun at_ => at_) L.length (Nat.le_refl _) (Kn.cons rfl (Kn.cons rfl (Kn.cons rfl (Kn.cons rfl (Kn.cons rfl (Kn.cons rfl Kn.nil)))))) (HLe.refl _) ?_
      rintro m hm
      replace hm : m ≤ L.length := hm
      refine awp_seq ?_
      refine awp_seq_region (fun Z hZ => ?_)
      refine sx_move rfl rfl ?_
      refine sx_gtr rfl rfl rfl ?_
      refine sx_nil (hZ _ _ ?_)
      refine awp_forget [(1, _), (6, _), (7, _), (8, _), (9, _), (11, _), (54, _)] (Kn.cons rfl (Kn.cons rfl (Kn.cons rfl (Kn.cons rfl (Kn.cons rfl (Kn.cons rfl (Kn.cons rfl (Kn.nil)))))))) ?_
      refine awp_cond rfl (fun h4 => ?_) (fun h4 => ?_)
      · have hm0 : 0 < m := by simp at h4; omega
        obtain ⟨j, rfl⟩ : ∃ j, m = j + 1 := ⟨m - 1, by omega⟩
        obtain ⟨t, ht⟩ : ∃ t, L[j]? = some t := ⟨_, List.getElem?_eq_getElem (by omega)⟩
        have hidt := rID_fn (z + 1 : Nat) t.1 t.2
        obtain ⟨k2, hk2⟩ : ∃ k, idV (z + 1 : Nat) t.1 t.2 = k := ⟨_, rfl⟩
        obtain ⟨e2, he2⟩ : ∃ k, placeE (z + 1 : Nat) t.1 t.2 = k := ⟨_, rfl⟩
        rw [hk2, he2] at hidt
        obtain ⟨g, c, hgc⟩ := hu.some (by omega)
        injection hgc with hg1 _ hg2
        subst hg1
        subst hg2
        refine awp_skip ?_
        with_reducible refine nx_normal ?_
        refine awp_block ?_
        refine awp_seq_region (fun Z hZ => ?_)
        refine sx_move rfl rfl ?_
        refine sx_move rfl rfl ?_
        refine sx_sub rfl rfl ((j : Nat) : Int) (by rw [IntWalk.i64_in _ (by omega)]; omega) rfl ?_
        refine sx_indexAddr (0 + j * 3) Try.underlying107 tyS48 rfl rfl (by omega) (by simp) rfl ?_
        refine sx_loadRd (j * 3) rfl (by omega) (fun w hw => rd_row (i := 2) rfl hw) (by omega) tyA48 tyS48 (tlc_all ht) rfl ?_
        refine sx_callP (hidt) rfl rfl ?_
        refine sx_move rfl rfl ?_
        refine sx_extract rfl rfl rfl ?_
        refine sx_extract rfl rfl rfl ?_
        refine sx_assign rfl rfl ?_
        refine sx_assign rfl rfl ?_
        refine sx_nil (hZ _ _ ?_)
        refine awp_forget [(1, _), (6, _), (7, _), (8, _), (9, _), (11, _), (12, _)] (Kn.cons rfl (Kn.cons rfl (Kn.cons rfl (Kn.cons rfl (Kn.cons rfl (Kn.cons rfl (Kn.cons rfl (Kn.nil)))))))) ?_
        refine awp_seq ?_
        refine awp_seq_region (fun Z hZ => ?_)
        refine sx_move rfl rfl ?_
        refine sx_move rfl rfl ?_
        refine sx_lss rfl rfl rfl ?_
        refine sx_nil (hZ _ _ ?_)
        refine awp_forget [(1, _), (6, _), (7, _), (8, _), (9, _), (11, _), (66, _)] (Kn.cons rfl (Kn.cons rfl (Kn.cons rfl (Kn.cons rfl (Kn.cons rfl (Kn.cons rfl (Kn.cons rfl (Kn.nil)))))))) ?_
        refine awp_cond rfl (fun h5 => ?_) (fun h5 => ?_)
        · refine awp_exit ?_
          repeat (with_reducible (first | refine nx_then_exit ?_ | refine nx_block_other (by decide) ?_))
          with_reducible refine nx_block_exit ?_
          exact nx_cut (j + 1) hm (Kn.cons rfl (Kn.cons rfl (Kn.cons rfl (Kn.cons rfl (Kn.cons rfl Kn.nil))))) (HLe.refl _)
        refine awp_skip ?_
        with_reducible refine nx_normal ?_
        refine awp_region (fun Z hZ => ?_)
        refine sx_move rfl rfl ?_
        refine sx_sub rfl rfl ((j : Nat) : Int) (by rw [IntWalk.i64_in _ (by omega)]; omega) rfl ?_
        refine sx_assign rfl rfl ?_
        refine sx_nil (hZ _ _ ?_)
        refine nx_forget [(1, _), (6, _), (7, _), (8, _), (9, _), (11, _)] (Kn.cons rfl (Kn.cons rfl (Kn.cons rfl (Kn.cons rfl (Kn.cons rfl (Kn.cons rfl (Kn.nil))))))) ?_
        with_reducible refine nx_block_normal ?_
        exact nx_round j (Nat.le_of_succ_le hm) (Nat.lt_succ_self j) (Kn.cons rfl (Kn.cons rfl (Kn.cons rfl (Kn.cons rfl (Kn.cons rfl (Kn.cons rfl Kn.nil)))))) (HLe.refl _)
      · refine awp_exit ?_
        repeat (with_reducible refine nx_then_exit ?_)
        with_reducible refine nx_block_exit ?_
        exact nx_cut m hm (Kn.cons rfl (Kn.cons rfl (Kn.cons rfl (Kn.cons rfl (Kn.cons rfl Kn.nil))))) (HLe.refl _)
    rintro m hm
    replace hm : m ≤ L.length := hm
    have e1 : ((tlc (z + 1) L).drop (0 * 3)).take ((m - 0) * 3) = tlc (z + 1) (L.take m) := by rw [Nat.zero_mul, List.drop_zero, Nat.sub_zero, tlc_take _ _ _ hm]
    have e2 : ((tlc (z + 1) L).drop (m * 3)).take ((L.length - m) * 3) = tlc (z + 1) (L.drop m) := by rw [tlc_drop, tlc_take _ _ _ (by rw [List.length_drop]; exact Nat.le_refl _), List.take_of_length_le (by rw [List.length_drop]; exact Nat.le_refl _)]
    have e3 : (L.take m).length = m := by rw [List.length_take, Nat.min_eq_left hm]

    refine awp_seq_region (fun Z hZ => ?_)
    refine sx_assign rfl rfl ?_
    refine sx_nil (hZ _ _ ?_)
    refine awp_forget [(1, _), (6, _), (7, _), (8, _), (11, _), (14, _)] (Kn.cons rfl (Kn.cons rfl (Kn.cons rfl (Kn.cons rfl (Kn.cons rfl (Kn.cons rfl (Kn.nil))))))) ?_
    refine awp_seq_region (fun Z hZ => ?_)
    refine sx_move rfl rfl ?_
    refine sx_move rfl rfl ?_
    refine sx_move rfl rfl ?_
    refine sx_sliceRd (i := 0) (j := m) Try.underlying107 tyS48 rfl hu 48 (fun y hy => List.mem_cons_of_mem _ (List.mem_cons_of_mem _ hy)) (tlc_len _ _) rfl rfl (Nat.zero_le _) hm rfl (fun A1 c1 hr1 => ?_)
    rw [e1] at hr1
    refine sx_appendE (m := m) (n := 0) (xs := []) (_ :: _ :: rowE (.slice Au L.length cu) 48 3 (tlc (z + 1) L)) elemTR rfl RowOk.nil rfl rfl hr1 (tlc_one _ _) (by show 0 + m ≤ 9223372036854775807; omega) (by omega) (by show HLe (_ ++ []) _; rw [List.append_nil]; exact HLe.refl _) rfl (fun v1 hv1 => ?_)
    rw [Nat.zero_add] at hv1
    refine sx_assign rfl rfl ?_
    refine sx_nil (hZ _ _ ?_)
    refine awp_forget [(1, _), (6, _), (7, _), (8, _), (11, _), (14, _)] (Kn.cons rfl (Kn.cons rfl (Kn.cons rfl (Kn.cons rfl (Kn.cons rfl (Kn.cons rfl (Kn.nil))))))) ?_
    refine awp_seq_region (fun Z hZ => ?_)
    refine sx_move rfl rfl ?_
    refine sx_loadA 0 rfl rfl tyA48 tyS48 (by first | (simp only [List.length_cons, List.length_nil, Nat.reduceAdd, Nat.zero_add, Nat.add_zero]; first | done | rfl) | rfl) (by first | (simp only [List.take_succ_cons, List.take_zero, List.drop_succ_cons, List.drop_zero, List.cons_append, List.nil_append, List.append_nil, List.length_cons, List.length_nil, Nat.reduceAdd, Nat.zero_add, Nat.add_zero, Value.cells, wrV]; first | done | rfl) | rfl) rfl ?_
    refine sx_buildSlice Try.underlying107 tyS48 tyZ48 rfl rfl rfl rfl (by first | (simp only [List.take_succ_cons, List.take_zero, List.drop_succ_cons, List.drop_zero, List.cons_append, List.nil_append, List.append_nil, List.length_cons, List.length_nil, Nat.reduceAdd, Nat.zero_add, Nat.add_zero, Value.cells, wrV, zrep_one, List.replicate_succ, List.replicate_zero, Nat.reduceMul, Nat.zero_mul]; first | done | rfl) | rfl) rfl (fun g3 => ?_)
    refine sx_appendE (m := 1) (n := m) (xs := tlc (z + 1) (L.take m)) (_ :: _ :: _ :: rowE (.slice Au L.length cu) 48 3 (tlc (z + 1) L)) elemTR rfl hv1 (by rw [tlc_len, e3]) rfl (fun w hw => rd_own (i := 0) (xs := tcells (z + 1 : Nat) x y) rfl rfl hw) rfl (by show m + 1 ≤ 9223372036854775807; omega) (by omega) (HLe.refl _) rfl (fun v2 hv2 => ?_)
    refine sx_assign rfl rfl ?_
    refine sx_nil (hZ _ _ ?_)
    refine awp_forget [(1, _), (6, _), (7, _), (11, _), (14, _)] (Kn.cons rfl (Kn.cons rfl (Kn.cons rfl (Kn.cons rfl (Kn.cons rfl (Kn.nil)))))) ?_
    refine awp_region (fun Z hZ => ?_)
    refine sx_move rfl rfl ?_
    refine sx_move rfl rfl ?_
    refine sx_move rfl rfl ?_
    refine sx_sliceRd (i := m) (j := L.length) Try.underlying107 tyS48 rfl hu 48 (fun y hy => List.mem_append_left _ (List.mem_cons_of_mem _ (List.mem_cons_of_mem _ (List.mem_cons_of_mem _ hy)))) (tlc_len _ _) rfl rfl hm (Nat.le_refl _) rfl (fun A2 c2 hr2 => ?_)
    rw [e2] at hr2
    refine sx_appendE (m := L.length - m) (n := m + 1) (xs := tlc (z + 1) (L.take m) ++ tcells (z + 1 : Nat) x y) (_ :: _ :: _ :: rowE (.slice Au L.length cu) 48 3 (tlc (z + 1) L)) elemTR rfl hv2 (by rw [List.length_append, tlc_len, e3]; show m * 3 + 3 = _; omega) rfl hr2 (tlc_one _ _) (by show _ ≤ 9223372036854775807; omega) (by omega) (HLe.refl _) rfl (fun v3 hv3 => ?_)
    refine sx_assign rfl rfl ?_
    refine sx_nil (hZ _ _ ?_)
    refine nx_forget [(1, _), (6, _), (7, _)] (Kn.cons rfl (Kn.cons rfl (Kn.cons rfl (Kn.nil)))) ?_
    repeat (with_reducible refine nx_block_normal ?_)
    with_reducible refine nx_normal ?_
    refine awp_region (fun Z hZ => ?_)
    refine sx_move rfl rfl ?_
    refine sx_add rfl rfl ((i + 1 : Nat) : Int) (by rw [IntWalk.i64_in _ (by omega)]; omega) rfl ?_
    refine sx_assign rfl rfl ?_
    refine sx_nil (hZ _ _ ?_)
    refine nx_forget [(1, _), (6, _), (7, _)] (Kn.cons rfl (Kn.cons rfl (Kn.cons rfl (Kn.nil)))) ?_
    have e4 : tlc (z + 1) (L.take m ++ [(x, y)] ++ L.drop m) = (tlc (z + 1) (L.take m) ++ tcells (z + 1 : Nat) x y) ++ tlc (z + 1) (L.drop m) := by rw [tlc_app, tlc_app]; rfl
    refine nx_round (v3, L.take m ++ [(x, y)] ++ L.drop m, i + 1) ⟨hlt, ?_, ?_⟩ (show 4 - (i + 1) < 4 - i by omega) (Kn.cons rfl (Kn.cons rfl (Kn.cons rfl Kn.nil))) ?_
    · show RowOk v3 (L.take m ++ [(x, y)] ++ L.drop m).length
      rw [List.length_append, List.length_append, e3, List.length_drop]
      exact hv3
    · show List.Perm (L.take m ++ [(x, y)] ++ L.drop m) (kids a b (i + 1))
      rw [kids_succ, hx, hy]
      have h1 : List.Perm (L.take m ++ [(x, y)] ++ L.drop m) (L ++ [(x, y)]) := by
        rw [List.append_assoc]
        have := List.perm_append_comm_assoc (L.take m) [(x, y)] (L.drop m)
        rw [List.take_append_drop] at this
        exact this.trans List.perm_append_comm
      exact h1.trans (hp.append_right _)
    · show HLe (.own g1 48 (tcells z a b) :: rowE v3 48 3 (tlc (z + 1) (L.take m ++ [(x, y)] ++ L.drop m))) _
      rw [e4]
      exact HLe.sub (.cons _ (.cons _ (.cons_cons _ (List.sublist_append_right _ _))))
  · refine awp_exit ?_
    repeat (with_reducible refine nx_then_exit ?_)
    with_reducible refine nx_block_exit ?_
    with_reducible refine nx_normal ?_
    obtain rfl : i = 4 := by simp at h3; omega
    refine awp_seq_region (fun Z hZ => ?_)
    refine sx_move rfl rfl ?_
    refine sx_assign rfl rfl ?_
    refine sx_assign rfl rfl ?_
    refine sx_nil (hZ _ _ ?_)
    refine awp_forget [(2, _), (3, _)] (Kn.cons rfl (Kn.cons rfl (Kn.nil))) ?_
    refine awp_ret ?_
    exact nx_ret2h _ rfl rfl rfl (HLe.drop 1 rfl) ⟨u, L, rfl, hu, hp, rfl⟩
theorem rDown_top (a b : Nat) (ha : a < 2 ^ 26) (hb : b < 2 ^ 26) : Fn Try.prog 94 [tval (26 : Nat) a b] [] fun v _ => v = .tuple #[.slice none 0 0, iq (6 : Int)] := by
  have hid := rID_fn (26 : Nat) a b
  rw [(place_e0 (by omega) ha hb).1] at hid
  obtain ⟨id0, hid0⟩ : ∃ i, idV (26 : Nat) a b = i := ⟨_, rfl⟩
  rw [hid0] at hid
  refine Fn.enter (N := 84) Try.func94 rfl (by kernel_rfl) rfl (fun w0 => ?_)

  refine awp_seq_region (fun Z hZ => ?_)
  refine sx_box rfl rfl rfl (fun g1 => ?_)
  refine sx_assign rfl rfl ?_
  refine sx_assign rfl rfl ?_
  refine sx_nil (hZ _ _ ?_)
  refine awp_forget [(1, _)] (Kn.cons rfl (Kn.nil)) ?_

  refine awp_seq_region (fun Z hZ => ?_)
  first | refine sx_loadA 0 rfl rfl tyA48 tyS48 (by first | (simp only [List.length_cons, List.length_nil, Nat.reduceAdd, Nat.zero_add, Nat.add_zero]; first | done | rfl) | rfl) (by first | (simp only [List.take_succ_cons, List.take_zero, List.drop_succ_cons, List.drop_zero, List.cons_append, List.nil_append, List.append_nil, List.length_cons, List.length_nil, Nat.reduceAdd, Nat.zero_add, Nat.add_zero, Value.cells, wrV]; first | done | rfl) | rfl) rfl ?_
  refine sx_callP (hid) rfl rfl ?_
  refine sx_move rfl rfl ?_
  refine sx_extract rfl rfl rfl ?_
  refine sx_extract rfl rfl rfl ?_
  refine sx_assign rfl rfl ?_
  refine sx_assign rfl rfl ?_
  refine sx_nil (hZ _ _ ?_)
  refine awp_forget [(1, _), (5, _)] (Kn.cons rfl (Kn.cons rfl (Kn.nil))) ?_
  refine awp_seq ?_
  refine awp_seq_region (fun Z hZ => ?_)
  refine sx_move rfl rfl ?_
  refine sx_neq rfl rfl rfl ?_
  refine sx_nil (hZ _ _ ?_)
  refine awp_forget [(1, _), (5, _), (21, _)] (Kn.cons rfl (Kn.cons rfl (Kn.cons rfl (Kn.nil)))) ?_
  refine awp_cond rfl (fun h1 => ?_) (fun h1 => ?_)
  · cases h1
  refine awp_skip ?_
  with_reducible refine nx_normal ?_
  refine awp_seq ?_
  refine awp_seq_region (fun Z hZ => ?_)
  refine sx_fieldAddr rfl tyF48_0 (by first | (simp only [Nat.reduceAdd, Nat.add_zero, Nat.zero_add]; first | done | rfl) | rfl) rfl ?_
  first | refine sx_load 0 rfl rfl tyA3 tyS3 rfl rfl ?_
  refine sx_eql rfl rfl rfl ?_
  refine sx_nil (hZ _ _ ?_)
  refine awp_forget [(1, _), (25, _)] (Kn.cons rfl (Kn.cons rfl (Kn.nil))) ?_
  refine awp_cond rfl (fun h2 => ?_) (fun h2 => ?_)
  · refine awp_seq_region (fun Z hZ => ?_)
    refine sx_assign rfl rfl ?_
    refine sx_assign rfl rfl ?_
    refine sx_nil (hZ _ _ ?_)
    refine awp_forget [(2, _), (3, _)] (Kn.cons rfl (Kn.cons rfl (Kn.nil))) ?_
    refine awp_ret ?_
    repeat (with_reducible refine nx_then_ret ?_)
    exact nx_ret2 rfl rfl rfl rfl
  cases h2
end Go.Proofs.Ytbldhokgbcljjaa
