/- The walks of lru's reference: Put and Get. Conditions: the lists are not too long. -/
import Derived.Test.YtoadkdlhbmmdlaaLr5
import Derived.Test.YtoadkdlhbmmdlaaSxK
namespace Go.Proofs.Ytoadkdlhbmmdlaa
open Go.RowKit
set_option linter.unusedVariables false
set_option linter.unusedSimpArgs false
theorem rput_fn (A : Option Addr) (c most : Nat) (L : List Item) (k : Ky) (v : List UInt8) (hA : SlOk A L.length) (hL : L.length ≤ 100000) :
    Fn Try.prog 25 [.slice A L.length c, iq most, encK k, .string (str v)] (roE A (icells L))
    fun u H' => ∃ g' o' c', u = .tuple #[.slice (some ⟨g', o', none⟩) (rPutL most L k v).length c', encK (rPutK most L k v), .bool (rPutB most L k v)] ∧ H' = [.ob g' (ReadP o' (icells (rPutL most L k v)))] := by
  have hdl := drop_len L k
  refine Fn.enter (N := 32) Try.func25 rfl (by kernel_rfl) rfl (fun w0 => ?_)

  refine awp_seq_region (fun Z hZ => ?_)
  refine sx_box rfl rfl rfl (fun g1 => ?_)
  refine sx_assign rfl rfl ?_
  refine sx_alloc tyZ32 rfl (fun g2 => ?_)
  refine sx_assign rfl rfl ?_
  refine sx_nil (hZ _ _ ?_)
  refine awp_forget [(0, _), (1, _), (3, _), (6, _), (9, _)] (Kn.cons rfl (Kn.cons rfl (Kn.cons rfl (Kn.cons rfl (Kn.cons rfl (Kn.nil)))))) ?_

  refine awk_seq_region (fun i : Nat × Nat × Nat => [(1, iq most), (9, ptr i.1 0), (11, .slice (some ⟨i.2.1, 0, none⟩) ((rDrop L k).length + 1) i.2.2)]) (fun i => [.ob i.2.1 (RowP 69 3 ((rDrop L k).length + 1) i.2.2 (icells (rDrop L k) ++ icell (k, v))), .own i.1 32 [uq 0, uq 0]]) (fun _ => True) _ [2, 6, 7] [(0, true), (1, true), (3, true), (4, true), (5, true), (2, false), (6, false), (7, false), (8, true)] [(0, true), (1, true), (3, true), (4, true), (5, true), (6, false), (2, false), (7, false), (8, true)] mixed (by kernel_rfl) (HLe.pick [1] (by simp) (by simp only [pick, List.filterMap_cons, List.filterMap_nil, List.getElem?_cons_succ, List.getElem?_cons_zero]; rfl)) ?_ ?_ ?_
  · refine tw_p rfl ?_
    refine sv_move rfl rfl ?_
    refine sv_nil ?_
    refine tw_p rfl ?_
    first | refine sv_loadA 0 rfl rfl tyA32 tyS32 (by first | (simp only [List.length_cons, List.length_nil, Nat.reduceAdd, Nat.zero_add, Nat.add_zero]; first | done | rfl) | rfl) (by first | (simp only [List.take_succ_cons, List.take_zero, List.drop_succ_cons, List.drop_zero, List.cons_append, List.nil_append, List.append_nil, List.length_cons, List.length_nil, Nat.reduceAdd, Nat.zero_add, Nat.add_zero, Value.cells, wrV]; first | done | rfl) | rfl) rfl ?_
    refine sv_nil ?_
    refine tw_p rfl ?_
    first | refine sv_loadA 0 rfl rfl tyA32 tyS32 (by first | (simp only [List.length_cons, List.length_nil, Nat.reduceAdd, Nat.zero_add, Nat.add_zero]; first | done | rfl) | rfl) (by first | (simp only [List.take_succ_cons, List.take_zero, List.drop_succ_cons, List.drop_zero, List.cons_append, List.nil_append, List.append_nil, List.length_cons, List.length_nil, Nat.reduceAdd, Nat.zero_add, Nat.add_zero, Value.cells, wrV]; first | done | rfl) | rfl) rfl ?_
    refine sv_nil ?_
    refine tw_p rfl ?_
    refine sv_move rfl rfl ?_
    refine sv_nil ?_
    refine tw_p rfl ?_
    refine sv_build tyZ69 tyP69 rfl rfl (by first | (simp only [List.take_succ_cons, List.take_zero, List.drop_succ_cons, List.drop_zero, List.cons_append, List.nil_append, List.append_nil, List.length_cons, List.length_nil, Nat.reduceAdd, Nat.zero_add, Nat.add_zero, Value.cells, wrV, zrep_one, List.replicate_succ, List.replicate_zero, Nat.reduceMul, Nat.zero_mul]; first | done | rfl) | rfl) rfl ?_
    refine sv_nil ?_
    refine tw_g rfl ?_
    refine sx_callRE (roE A (icells L)) (rdrop_fn A c L k hA hL) rfl (by first | exact List.sublist_append_right [_, _] _ | exact List.sublist_append_right [_, _, _] _) (Ro.roE _ _) rfl (fun v1 hv1 => ?_)
    refine sx_nil ⟨HLe.pick [1] (by simp) rfl, ?_⟩
    refine tw_g rfl ?_
    refine sx_buildSlice Try.underlying43 tyS69 tyZ69 rfl rfl rfl rfl (by first | (simp only [List.take_succ_cons, List.take_zero, List.drop_succ_cons, List.drop_zero, List.cons_append, List.nil_append, List.append_nil, List.length_cons, List.length_nil, Nat.reduceAdd, Nat.zero_add, Nat.add_zero, Value.cells, wrV, zrep_one, List.replicate_succ, List.replicate_zero, Nat.reduceMul, Nat.zero_mul]; first | done | rfl) | rfl) rfl (fun g3 => ?_)
    refine sx_nil ⟨HLe.pick [2] (by simp) rfl, ?_⟩
    refine tw_g rfl ?_
    refine sx_appendE ([_, _, _] ++ roE A (icells L)) elemItem rfl hv1 (icells_len _) rfl (fun w hw => rd_own (i := 0) (xs := icell (k, v)) rfl rfl hw) rfl (by show _ ≤ 9223372036854775807; omega) (by omega) (HLe.refl _) rfl (fun v2 hv2 => ?_)
    obtain ⟨g3', c3, rfl⟩ := hv2.some (by omega)
    refine sx_nil ⟨HLe.pick [2] (by simp) rfl, ?_⟩
    refine tw_p rfl ?_
    refine sv_assign rfl rfl ?_
    refine sv_nil ?_
    refine tw_nil ?_
    exact ⟨(g2, g3', c3), trivial, Kn.cons rfl (Kn.cons rfl (Kn.cons rfl Kn.nil)), (HLe.pick [3, 1] (by simp) rfl).trans (HLe.mid [_, _, _] (roE A (icells L)) [_])⟩
  · refine tw_p rfl ?_
    refine sv_move rfl rfl ?_
    refine sv_nil ?_
    refine tw_p rfl ?_
    first | refine sv_loadA 0 rfl rfl tyA32 tyS32 (by first | (simp only [List.length_cons, List.length_nil, Nat.reduceAdd, Nat.zero_add, Nat.add_zero]; first | done | rfl) | rfl) (by first | (simp only [List.take_succ_cons, List.take_zero, List.drop_succ_cons, List.drop_zero, List.cons_append, List.nil_append, List.append_nil, List.length_cons, List.length_nil, Nat.reduceAdd, Nat.zero_add, Nat.add_zero, Value.cells, wrV]; first | done | rfl) | rfl) rfl ?_
    refine sv_nil ?_
    refine tw_p rfl ?_
    first | refine sv_loadA 0 rfl rfl tyA32 tyS32 (by first | (simp only [List.length_cons, List.length_nil, Nat.reduceAdd, Nat.zero_add, Nat.add_zero]; first | done | rfl) | rfl) (by first | (simp only [List.take_succ_cons, List.take_zero, List.drop_succ_cons, List.drop_zero, List.cons_append, List.nil_append, List.append_nil, List.length_cons, List.length_nil, Nat.reduceAdd, Nat.zero_add, Nat.add_zero, Value.cells, wrV]; first | done | rfl) | rfl) rfl ?_
    refine sv_nil ?_
    refine tw_p rfl ?_
    refine sv_move rfl rfl ?_
    refine sv_nil ?_
    refine tw_p rfl ?_
    refine sv_build tyZ69 tyP69 rfl rfl (by first | (simp only [List.take_succ_cons, List.take_zero, List.drop_succ_cons, List.drop_zero, List.cons_append, List.nil_append, List.append_nil, List.length_cons, List.length_nil, Nat.reduceAdd, Nat.zero_add, Nat.add_zero, Value.cells, wrV, zrep_one, List.replicate_succ, List.replicate_zero, Nat.reduceMul, Nat.zero_mul]; first | done | rfl) | rfl) rfl ?_
    refine sv_nil ?_
    refine tw_g rfl ?_
    refine sx_buildSlice Try.underlying43 tyS69 tyZ69 rfl rfl rfl rfl (by first | (simp only [List.take_succ_cons, List.take_zero, List.drop_succ_cons, List.drop_zero, List.cons_append, List.nil_append, List.append_nil, List.length_cons, List.length_nil, Nat.reduceAdd, Nat.zero_add, Nat.add_zero, Value.cells, wrV, zrep_one, List.replicate_succ, List.replicate_zero, Nat.reduceMul, Nat.zero_mul]; first | done | rfl) | rfl) rfl (fun g3 => ?_)
    refine sx_nil ⟨HLe.pick [2] (by simp) rfl, ?_⟩
    refine tw_g rfl ?_
    refine sx_callRE (roE A (icells L)) (rdrop_fn A c L k hA hL) rfl (by first | exact List.sublist_append_right [_, _] _ | exact List.sublist_append_right [_, _, _] _) (Ro.roE _ _) rfl (fun v1 hv1 => ?_)
    refine sx_nil ⟨HLe.pick [2] (by simp) rfl, ?_⟩
    refine tw_g rfl ?_
    refine sx_appendE ([_, _, _] ++ roE A (icells L)) elemItem rfl hv1 (icells_len _) rfl (fun w hw => rd_own (i := 0) (xs := icell (k, v)) rfl rfl hw) rfl (by show _ ≤ 9223372036854775807; omega) (by omega) (HLe.refl _) rfl (fun v2 hv2 => ?_)
    obtain ⟨g3', c3, rfl⟩ := hv2.some (by omega)
    refine sx_nil ⟨HLe.pick [2] (by simp) rfl, ?_⟩
    refine tw_p rfl ?_
    refine sv_assign rfl rfl ?_
    refine sv_nil ?_
    refine tw_nil ?_
    exact ⟨(g2, g3', c3), trivial, Kn.cons rfl (Kn.cons rfl (Kn.cons rfl Kn.nil)), (HLe.pick [3, 1] (by simp) rfl).trans (HLe.mid [_, _, _] (roE A (icells L)) [_])⟩
  rintro ⟨g2, g3, c3⟩ -
  rw [show icells (rDrop L k) ++ icell (k, v) = icells (rDrop L k ++ [(k, v)]) from (fm_snoc _ _).symm]
  have hlen : (rDrop L k ++ [(k, v)]).length = (rDrop L k).length + 1 := by simp
  rw [← hlen]
  refine awp_seq ?_
  refine awp_seq_region (fun Z hZ => ?_)
  refine sx_move rfl rfl ?_
  first | refine sx_len Try.underlying43 rfl rfl ?_ | refine sx_lenS Try.underlying43 rfl rfl ?_
  refine sx_move rfl rfl ?_
  first | refine sx_leq rfl rfl rfl ?_ | refine sx_sleq rfl rfl rfl ?_
  refine sx_nil (hZ _ _ ?_)
  refine awp_forget [(9, _), (11, _), (23, _)] (Kn.cons rfl (Kn.cons rfl (Kn.cons rfl (Kn.nil)))) ?_
  first | refine awp_cond rfl (fun h => ?_) (fun h => ?_) | refine awp_seq (awp_cond rfl (fun h => ?_) (fun h => ?_))
  · obtain ⟨e1, e2, e3⟩ := rPut_few (L := L) (k := k) (v := v) (most := most) (by simp at h ⊢; omega)
    rw [e1, e2, e3]

    refine awp_seq_region (fun Z hZ => ?_)
    refine sx_move rfl rfl ?_
    refine sx_build tyZ32 tyP32 rfl rfl (by first | (simp only [List.take_succ_cons, List.take_zero, List.drop_succ_cons, List.drop_zero, List.cons_append, List.nil_append, List.append_nil, List.length_cons, List.length_nil, Nat.reduceAdd, Nat.zero_add, Nat.add_zero, Value.cells, wrV, zrep_one, List.replicate_succ, List.replicate_zero, Nat.reduceMul, Nat.zero_mul]; first | done | rfl) | rfl) rfl ?_
    refine sx_assign rfl rfl ?_
    first | refine sx_store 0 rfl rfl rfl tyS32 (by first | (simp only [Value.cells]; first | done | rfl) | rfl) rfl rfl (by first | (simp only [List.length_cons, List.length_nil, Nat.reduceAdd, Nat.zero_add, Nat.add_zero]; first | done | rfl) | rfl) (by first | (simp only [List.take_succ_cons, List.take_zero, List.drop_succ_cons, List.drop_zero, List.cons_append, List.nil_append, List.append_nil, List.length_cons, List.length_nil, Nat.reduceAdd, Nat.zero_add, Nat.add_zero, Value.cells, wrV]; first | done | rfl) | rfl) (by first | (simp only [List.set_cons_succ, List.set_cons_zero]; first | done | rfl) | rfl) ?_ | refine sx_store 1 rfl rfl rfl tyS32 (by first | (simp only [Value.cells]; first | done | rfl) | rfl) rfl rfl (by first | (simp only [List.length_cons, List.length_nil, Nat.reduceAdd, Nat.zero_add, Nat.add_zero]; first | done | rfl) | rfl) (by first | (simp only [List.take_succ_cons, List.take_zero, List.drop_succ_cons, List.drop_zero, List.cons_append, List.nil_append, List.append_nil, List.length_cons, List.length_nil, Nat.reduceAdd, Nat.zero_add, Nat.add_zero, Value.cells, wrV]; first | done | rfl) | rfl) (by first | (simp only [List.set_cons_succ, List.set_cons_zero]; first | done | rfl) | rfl) ?_
    refine sx_assign rfl rfl ?_
    refine sx_nil (hZ _ _ ?_)
    refine awp_forget [(8, _), (9, _), (10, _)] (Kn.cons rfl (Kn.cons rfl (Kn.cons rfl (Kn.nil)))) ?_
    refine awp_ret ?_
    repeat (with_reducible (first | refine nx_then_ret ?_ | refine nx_block_ret ?_))
    exact nx_ret3h _ rfl rfl (ResOk.cell 1 rfl rfl tyA32 tyS32 rfl) rfl ((row_read []).trans (HLe.pick [0] (by simp) rfl)) ⟨g3, 0, c3, rfl, rfl⟩
  refine awp_skip ?_
  repeat (with_reducible refine nx_block_normal ?_)
  with_reducible refine nx_normal ?_
  obtain ⟨x, r, hx⟩ : ∃ x r, rDrop L k ++ [(k, v)] = x :: r := by
    cases hh : rDrop L k ++ [(k, v)] with
    | nil => simp at hh
    | cons x r => exact ⟨x, r, rfl⟩
  obtain ⟨e1, e2, e3⟩ := rPut_many (most := most) (by simp at h ⊢; omega) hx
  rw [e1, e2, e3]
  rw [hx] at h hlen ⊢
  have hkey : rdV true 2 (icells (x :: r)) (0 * 3) = some (.agg #[uq x.1.1, uq x.1.2]) := icells_key (L := x :: r) (i := 0) rfl
  rcases Nat.lt_or_ge c3 (x :: r).length with hlt | hge
  · refine awp_false 0 rfl (fun o ho => ?_)
    obtain ⟨cur, _, h2, _⟩ := ho
    exact absurd h2 (Nat.not_le_of_lt hlt)

  refine aww_seq_region _ [(0, true), (1, true), (2, true), (3, true), (4, true), (5, true), (6, true), (7, false), (8, true)] mixed (by kernel_rfl) (HLe.pick [0] (by simp) (by simp only [pick, List.filterMap_cons, List.filterMap_nil, List.getElem?_cons_succ, List.getElem?_cons_zero]; rfl)) (fun Z hZ => ?_)
  refine tw_p rfl ?_
  refine sv_move rfl rfl ?_
  refine sv_nil ?_
  refine tw_p rfl ?_
  refine sv_slice Try.underlying43 tyS69 rfl rfl rfl (by omega) (by simp; omega) (by simp at hge ⊢; omega) rfl (fun o4 ho4 => ?_)
  refine sv_nil ?_
  refine tw_p rfl ?_
  refine sv_move rfl rfl ?_
  refine sv_nil ?_
  refine tw_p rfl ?_
  refine sv_indexAddr 0 Try.underlying43 tyS69 rfl rfl (by simp) rfl rfl ?_
  refine sv_nil ?_
  refine tw_p rfl ?_
  refine sv_fieldAddr rfl tyF69_0 (by first | (simp only [Nat.reduceAdd, Nat.add_zero, Nat.zero_add]; first | done | rfl) | rfl) rfl ?_
  refine sv_nil ?_
  refine tw_p rfl ?_
  refine sv_loadRd (o := 0) 0 rfl rfl (fun w hw => rd_row (i := 0) rfl hw) (by simp) tyA32 tyS32 hkey rfl ?_
  refine sv_nil ?_
  refine tw_p rfl ?_
  refine sv_assign rfl rfl ?_
  refine sv_nil ?_
  refine tw_g rfl ?_
  first | refine sx_store 0 rfl rfl rfl tyS32 (by first | (simp only [Value.cells]; first | done | rfl) | rfl) rfl rfl (by first | (simp only [List.length_cons, List.length_nil, Nat.reduceAdd, Nat.zero_add, Nat.add_zero]; first | done | rfl) | rfl) (by first | (simp only [List.take_succ_cons, List.take_zero, List.drop_succ_cons, List.drop_zero, List.cons_append, List.nil_append, List.append_nil, List.length_cons, List.length_nil, Nat.reduceAdd, Nat.zero_add, Nat.add_zero, Value.cells, wrV]; first | done | rfl) | rfl) (by first | (simp only [List.set_cons_succ, List.set_cons_zero]; first | done | rfl) | rfl) ?_ | refine sx_store 1 rfl rfl rfl tyS32 (by first | (simp only [Value.cells]; first | done | rfl) | rfl) rfl rfl (by first | (simp only [List.length_cons, List.length_nil, Nat.reduceAdd, Nat.zero_add, Nat.add_zero]; first | done | rfl) | rfl) (by first | (simp only [List.take_succ_cons, List.take_zero, List.drop_succ_cons, List.drop_zero, List.cons_append, List.nil_append, List.append_nil, List.length_cons, List.length_nil, Nat.reduceAdd, Nat.zero_add, Nat.add_zero, Value.cells, wrV]; first | done | rfl) | rfl) (by first | (simp only [List.set_cons_succ, List.set_cons_zero]; first | done | rfl) | rfl) ?_
  refine sx_nil ⟨HLe.pick [0] (by simp) rfl, ?_⟩
  refine tw_p rfl ?_
  refine sv_assign rfl rfl ?_
  refine sv_nil ?_
  refine tw_nil (hZ _ _ ?_)
  refine awp_forget [(8, _), (9, _), (10, _)] (Kn.cons rfl (Kn.cons rfl (Kn.cons rfl (Kn.nil)))) ?_
  refine awp_ret ?_
  repeat (with_reducible (first | refine nx_then_ret ?_ | refine nx_block_ret ?_))
  have hl1 : (((x :: r).length : Nat) : Int).toNat - (1 : Int).toNat = r.length := by simp
  refine nx_ret3h [.ob g3 (ReadP o4 (icells r))] rfl rfl (ResOk.cell 1 rfl rfl tyA32 tyS32 rfl) rfl (HLe.trans ?_ ((row_read []).trans (HLe.pick [0] (by simp) rfl))) ⟨g3, o4, c3 - 1, by rw [hl1]; rfl, rfl⟩
  rcases r with _ | ⟨y, r⟩
  · exact read_nil []
  · have : o4 = 0 + 3 := ho4 (by simp; omega)
    subst this
    exact read_off (k := 3) []
end Go.Proofs.Ytoadkdlhbmmdlaa
