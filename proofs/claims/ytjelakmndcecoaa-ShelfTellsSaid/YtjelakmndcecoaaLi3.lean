/- The walks of package lru: Put, Get, Drop, by the items that a cache holds. No conditions. -/
import Derived.Test.YtjelakmndcecoaaLi2
namespace Go.Proofs.Ytjelakmndcecoaa.LI
open Go.RowKit
set_option linter.unusedVariables false
set_option linter.unusedSimpArgs false
theorem rPut_few {most : Nat} {L : List Item} {k : Ky} {v : Nat} (h : (rDrop L k ++ [(k, v)]).length ≤ most) : rPutL most L k v = rDrop L k ++ [(k, v)] ∧ rPutK most L k v = (0, 0) ∧ rPutB most L k v = false :=
  ⟨if_pos h, if_pos h, decide_eq_false (by omega)⟩
theorem rPut_many {most : Nat} {L : List Item} {k : Ky} {v : Nat} {x : Item} {r : List Item} (h : ¬ (rDrop L k ++ [(k, v)]).length ≤ most) (hx : rDrop L k ++ [(k, v)] = x :: r) : rPutL most L k v = r ∧ rPutK most L k v = x.1 ∧ rPutB most L k v = true :=
  ⟨by unfold rPutL; rw [if_neg h, hx]; rfl, by unfold rPutK; rw [if_neg h, hx]; rfl, decide_eq_true (by omega)⟩
theorem drop_len (L : List Item) (k : Ky) : (rDrop L k).length ≤ L.length := List.length_filter_le _ _
theorem put_fn (g b most : Nat) (s : CS) (L : List Item) (k : Ky) (v : Nat) (hR : Rep s L) (hm : L.length ≤ most) (hb : most ≤ 64) :
    Fn Try.prog 32 [ptr g 0, encK k, iq (v : Nat)] (cacheH g b most s)
    fun u H' => ∃ s', u = .tuple #[encK (rPutK most L k v), .bool (rPutB most L k v)] ∧ Rep s' (rPutL most L k v) ∧ H' = cacheH g b most s' := by
  refine Fn.enter (N := 42) Try.func32 rfl (by kernel_rfl) rfl (fun w0 => ?_)

  refine awp_seq_region (fun Z hZ => ?_)
  refine sx_box rfl rfl rfl (fun g1 => ?_)
  refine sx_alloc tyZ47 rfl (fun g2 => ?_)
  refine sx_assign rfl rfl ?_
  refine sx_nil (hZ _ _ ?_)
  refine awp_forget [(0, _), (2, _), (4, _), (6, _)] (Kn.cons rfl (Kn.cons rfl (Kn.cons rfl (Kn.cons rfl (Kn.nil))))) ?_
  refine awp_seq ?_
  refine awp_seq_region (fun Z hZ => ?_)
  refine sx_move rfl rfl ?_
  refine sx_callK [2, 3] [0, 1] (most_fn g b most s) rfl rfl (by simp) rfl ?_
  rintro v H' ⟨rfl, rfl⟩
  refine sx_norm (by simp only [List.filter_cons, List.filter_nil, Ent.wr, if_true, List.cons_append, List.nil_append, pick, List.filterMap_cons, List.filterMap_nil, List.getElem?_cons_succ, List.getElem?_cons_zero]; first | done | rfl) ?_
  refine sx_eql rfl rfl rfl ?_
  refine sx_nil (hZ _ _ ?_)
  refine awp_forget [(0, _), (2, _), (4, _), (6, _), (11, _)] (Kn.cons rfl (Kn.cons rfl (Kn.cons rfl (Kn.cons rfl (Kn.cons rfl (Kn.nil)))))) ?_
  refine awp_cond rfl (fun h => ?_) (fun h => ?_)
  · have h0 : most = 0 := by simpa using h
    subst h0
    obtain rfl : L = [] := List.eq_nil_of_length_eq_zero (by omega)

    refine awp_seq_region (fun Z hZ => ?_)
    refine sx_loadA 3 rfl rfl tyA47 tyS47 (by first | (simp only [List.length_cons, List.length_nil, Nat.reduceAdd, Nat.zero_add, Nat.add_zero]; first | done | rfl) | rfl) (by first | (simp only [List.take_succ_cons, List.take_zero, List.drop_succ_cons, List.drop_zero, List.cons_append, List.nil_append, List.append_nil, List.length_cons, List.length_nil, Nat.reduceAdd, Nat.zero_add, Nat.add_zero, Value.cells, wrV]; first | done | rfl) | rfl) rfl ?_
    refine sx_store 2 rfl rfl rfl tyS47 (by first | (simp only [Value.cells]; first | done | rfl) | rfl) rfl rfl (by first | (simp only [List.length_cons, List.length_nil, Nat.reduceAdd, Nat.zero_add, Nat.add_zero]; first | done | rfl) | rfl) (by first | (simp only [List.take_succ_cons, List.take_zero, List.drop_succ_cons, List.drop_zero, List.cons_append, List.nil_append, List.append_nil, List.length_cons, List.length_nil, Nat.reduceAdd, Nat.zero_add, Nat.add_zero, Value.cells, wrV]; first | done | rfl) | rfl) (by first | (simp only [List.set_cons_succ, List.set_cons_zero]; first | done | rfl) | rfl) ?_
    refine sx_assign rfl rfl ?_
    refine sx_nil (hZ _ _ ?_)
    refine awp_forget [(6, _), (7, _)] (Kn.cons rfl (Kn.cons rfl (Kn.nil))) ?_
    refine awp_ret ?_
    repeat (with_reducible refine nx_then_ret ?_)
    exact nx_ret2h _ rfl (ResOk.cell 2 rfl rfl tyA47 tyS47 rfl) rfl (HLe.pick [0, 1] (by simp) rfl) ⟨s, rfl, hR, rfl⟩
  refine awp_skip ?_
  with_reducible refine nx_normal ?_
  refine awp_cut (ι := CS) (fun c => [(0, ptr g 0), (2, iq (v : Nat)), (4, ptr g1 0), (6, ptr g2 0)]) (fun c => [cacheE g b most c.old c.new, mapE encK encV b c.M, .own g2 47 [uq 0, uq 0], .own g1 47 [uq k.1, uq k.2]])
    (fun c => Rep c (rDrop L k)) ?_ ?_

  · refine awp_seq_region (fun Z hZ => ?_)
    refine sx_move rfl rfl ?_
    refine sx_loadA 3 rfl rfl tyA47 tyS47 (by first | (simp only [List.length_cons, List.length_nil, Nat.reduceAdd, Nat.zero_add, Nat.add_zero]; first | done | rfl) | rfl) (by first | (simp only [List.take_succ_cons, List.take_zero, List.drop_succ_cons, List.drop_zero, List.cons_append, List.nil_append, List.append_nil, List.length_cons, List.length_nil, Nat.reduceAdd, Nat.zero_add, Nat.add_zero, Value.cells, wrV]; first | done | rfl) | rfl) rfl ?_
    refine sx_callK [0, 1] [2, 3] (has_fn g b most s k) rfl rfl (by simp) rfl ?_
    rintro v H' ⟨rfl, rfl⟩
    refine sx_norm (by simp only [List.filter_cons, List.filter_nil, Ent.wr, if_true, List.cons_append, List.nil_append, pick, List.filterMap_cons, List.filterMap_nil, List.getElem?_cons_succ, List.getElem?_cons_zero]; first | done | rfl) ?_
    refine sx_nil (hZ _ _ ?_)
    refine awp_forget [(0, _), (2, _), (4, _), (6, _), (15, _)] (Kn.cons rfl (Kn.cons rfl (Kn.cons rfl (Kn.cons rfl (Kn.cons rfl (Kn.nil)))))) ?_
    refine awp_cond rfl (fun h => ?_) (fun h => ?_)
    · rw [hR.has] at h
      refine awp_region (fun Z hZ => ?_)
      refine sx_move rfl rfl ?_
      refine sx_loadA 3 rfl rfl tyA47 tyS47 (by first | (simp only [List.length_cons, List.length_nil, Nat.reduceAdd, Nat.zero_add, Nat.add_zero]; first | done | rfl) | rfl) (by first | (simp only [List.take_succ_cons, List.take_zero, List.drop_succ_cons, List.drop_zero, List.cons_append, List.nil_append, List.append_nil, List.length_cons, List.length_nil, Nat.reduceAdd, Nat.zero_add, Nat.add_zero, Value.cells, wrV]; first | done | rfl) | rfl) rfl ?_
      refine sx_callK [0, 1] [2, 3] (cut_fn g b most s k) rfl rfl (by simp) rfl ?_
      rintro v H' ⟨rfl, rfl⟩
      refine sx_norm (by simp only [List.filter_cons, List.filter_nil, Ent.wr, if_true, List.cons_append, List.nil_append, pick, List.filterMap_cons, List.filterMap_nil, List.getElem?_cons_succ, List.getElem?_cons_zero]; first | done | rfl) ?_
      refine sx_nil (hZ _ _ ?_)
      refine nx_forget [(0, _), (2, _), (4, _), (6, _)] (Kn.cons rfl (Kn.cons rfl (Kn.cons rfl (Kn.cons rfl (Kn.nil))))) ?_
      exact nx_cut (cutS s k) (hR.val h).2 (Kn.cons rfl (Kn.cons rfl (Kn.cons rfl (Kn.cons rfl Kn.nil)))) (HLe.pick [0, 1, 2, 3] (by simp) rfl)
    · rw [hR.has] at h
      refine awp_skip ?_
      exact nx_cut s (by rw [drop_none h]; exact hR) (Kn.cons rfl (Kn.cons rfl (Kn.cons rfl (Kn.cons rfl Kn.nil)))) (HLe.pick [0, 1, 2, 3] (by simp) rfl)
  intro c hc
  have hp := hc.push (v := v) (hc.gone (drop_has L k))

  refine awp_seq_region (fun Z hZ => ?_)
  refine sx_move rfl rfl ?_
  refine sx_loadA 3 rfl rfl tyA47 tyS47 (by first | (simp only [List.length_cons, List.length_nil, Nat.reduceAdd, Nat.zero_add, Nat.add_zero]; first | done | rfl) | rfl) (by first | (simp only [List.take_succ_cons, List.take_zero, List.drop_succ_cons, List.drop_zero, List.cons_append, List.nil_append, List.append_nil, List.length_cons, List.length_nil, Nat.reduceAdd, Nat.zero_add, Nat.add_zero, Value.cells, wrV]; first | done | rfl) | rfl) rfl ?_
  refine sx_move rfl rfl ?_
  refine sx_callK [0, 1] [2, 3] (push_fn g b most c k v) rfl rfl (by simp) rfl ?_
  rintro v' H' ⟨rfl, rfl⟩
  refine sx_norm (by simp only [List.filter_cons, List.filter_nil, Ent.wr, if_true, List.cons_append, List.nil_append, pick, List.filterMap_cons, List.filterMap_nil, List.getElem?_cons_succ, List.getElem?_cons_zero]; first | done | rfl) ?_
  refine sx_nil (hZ _ _ ?_)
  refine awp_forget [(0, _), (6, _)] (Kn.cons rfl (Kn.cons rfl (Kn.nil))) ?_
  generalize pushS c k v = c at hp
  have hlen := hp.len
  refine awp_seq ?_
  refine aww_seq_region _ [(0, true), (1, true), (2, true), (3, true), (4, true), (5, true), (6, true), (7, true), (8, true), (9, true)] mixed (by kernel_rfl) (HLe.pick [0, 1] (by simp) (by simp only [pick, List.filterMap_cons, List.filterMap_nil, List.getElem?_cons_succ, List.getElem?_cons_zero]; rfl)) (fun Z hZ => ?_)
  refine tw_p rfl ?_
  refine sv_move rfl rfl ?_
  refine sv_nil ?_
  refine tw_p rfl ?_
  refine sv_nilCheck rfl rfl ?_
  refine sv_nil ?_
  refine tw_p rfl ?_
  refine sv_fieldAddr rfl tyF93_1 (by first | (simp only [Nat.reduceAdd, Nat.add_zero, Nat.zero_add]; first | done | rfl) | rfl) rfl ?_
  refine sv_nil ?_
  refine tw_p rfl ?_
  refine sv_load 0 rfl rfl tyA91 tyS91 rfl rfl ?_
  refine sv_nil ?_
  refine tw_p rfl ?_
  refine sv_lenM 1 Try.underlying91 rfl rfl rfl ?_
  refine sv_nil ?_
  refine tw_p rfl ?_
  refine sv_move rfl rfl ?_
  refine sv_nil ?_
  refine tw_p rfl ?_
  refine sv_nilCheck rfl rfl ?_
  refine sv_nil ?_
  refine tw_p rfl ?_
  refine sv_fieldAddr rfl tyF93_0 (by first | (simp only [Nat.reduceAdd, Nat.add_zero, Nat.zero_add]; first | done | rfl) | rfl) rfl ?_
  refine sv_nil ?_
  refine tw_p rfl ?_
  refine sv_load 0 rfl rfl tyA3 tyS3 rfl rfl ?_
  refine sv_nil ?_
  refine tw_p rfl ?_
  refine sv_leq rfl rfl rfl ?_
  refine sv_nil ?_
  refine tw_nil (hZ _ _ ?_)
  refine awp_forget [(0, _), (6, _), (32, _)] (Kn.cons rfl (Kn.cons rfl (Kn.cons rfl (Kn.nil)))) ?_
  refine awp_cond rfl (fun h => ?_) (fun h => ?_)
  · have h' : (rDrop L k ++ [(k, v)]).length ≤ most := by rw [← hlen]; simpa using h
    obtain ⟨e1, e2, e3⟩ := rPut_few h'
    rw [e1, e2, e3]
    refine awp_seq_region (fun Z hZ => ?_)
    refine sx_build tyZ47 tyP47 rfl rfl (by first | (simp only [List.take_succ_cons, List.take_zero, List.drop_succ_cons, List.drop_zero, List.cons_append, List.nil_append, List.append_nil, List.length_cons, List.length_nil, Nat.reduceAdd, Nat.zero_add, Nat.add_zero, Value.cells, wrV, zrep_one, List.replicate_succ, List.replicate_zero, Nat.reduceMul, Nat.zero_mul]; first | done | rfl) | rfl) rfl ?_
    refine sx_store 2 rfl rfl rfl tyS47 (by first | (simp only [Value.cells]; first | done | rfl) | rfl) rfl rfl (by first | (simp only [List.length_cons, List.length_nil, Nat.reduceAdd, Nat.zero_add, Nat.add_zero]; first | done | rfl) | rfl) (by first | (simp only [List.take_succ_cons, List.take_zero, List.drop_succ_cons, List.drop_zero, List.cons_append, List.nil_append, List.append_nil, List.length_cons, List.length_nil, Nat.reduceAdd, Nat.zero_add, Nat.add_zero, Value.cells, wrV]; first | done | rfl) | rfl) (by first | (simp only [List.set_cons_succ, List.set_cons_zero]; first | done | rfl) | rfl) ?_
    refine sx_assign rfl rfl ?_
    refine sx_nil (hZ _ _ ?_)
    refine awp_forget [(6, _), (7, _)] (Kn.cons rfl (Kn.cons rfl (Kn.nil))) ?_
    refine awp_ret ?_
    repeat (with_reducible refine nx_then_ret ?_)
    exact nx_ret2h _ rfl (ResOk.cell 2 rfl rfl tyA47 tyS47 rfl) rfl (HLe.pick [0, 1] (by simp) rfl) ⟨c, rfl, hp, rfl⟩
  refine awp_skip ?_
  with_reducible refine nx_normal ?_
  have h' : ¬ (rDrop L k ++ [(k, v)]).length ≤ most := by rw [← hlen]; simpa using h
  obtain ⟨x, r, hx⟩ : ∃ x r, rDrop L k ++ [(k, v)] = x :: r := by
    cases hh : rDrop L k ++ [(k, v)] with
    | nil => simp at hh
    | cons x r => exact ⟨x, r, rfl⟩
  obtain ⟨e1, e2, e3⟩ := rPut_many h' hx
  obtain ⟨ho, hcut⟩ := hp.oldest hx
  rw [← ho] at e2 hcut
  rw [e1, e2, e3]
  refine awp_seq_region (fun Z hZ => ?_)
  refine sx_move rfl rfl ?_
  refine sx_nilCheck rfl rfl ?_
  refine sx_fieldAddr rfl tyF93_2 (by first | (simp only [Nat.reduceAdd, Nat.add_zero, Nat.zero_add]; first | done | rfl) | rfl) rfl ?_
  refine sx_loadA 0 rfl rfl tyA47 tyS47 (by first | (simp only [List.length_cons, List.length_nil, Nat.reduceAdd, Nat.zero_add, Nat.add_zero]; first | done | rfl) | rfl) (by first | (simp only [List.take_succ_cons, List.take_zero, List.drop_succ_cons, List.drop_zero, List.cons_append, List.nil_append, List.append_nil, List.length_cons, List.length_nil, Nat.reduceAdd, Nat.zero_add, Nat.add_zero, Value.cells, wrV]; first | done | rfl) | rfl) rfl ?_
  refine sx_alloc tyZ47 rfl (fun g3 => ?_)
  refine sx_store 0 rfl rfl rfl tyS47 (by first | (simp only [Value.cells]; first | done | rfl) | rfl) rfl rfl (by first | (simp only [List.length_cons, List.length_nil, Nat.reduceAdd, Nat.zero_add, Nat.add_zero]; first | done | rfl) | rfl) (by first | (simp only [List.take_succ_cons, List.take_zero, List.drop_succ_cons, List.drop_zero, List.cons_append, List.nil_append, List.append_nil, List.length_cons, List.length_nil, Nat.reduceAdd, Nat.zero_add, Nat.add_zero, Value.cells, wrV]; first | done | rfl) | rfl) (by first | (simp only [List.set_cons_succ, List.set_cons_zero]; first | done | rfl) | rfl) ?_
  refine sx_nil (hZ _ _ ?_)
  refine awp_forget [(0, _), (6, _), (8, _)] (Kn.cons rfl (Kn.cons rfl (Kn.cons rfl (Kn.nil)))) ?_
  refine awp_seq_region (fun Z hZ => ?_)
  refine sx_move rfl rfl ?_
  refine sx_loadA 0 rfl rfl tyA47 tyS47 (by first | (simp only [List.length_cons, List.length_nil, Nat.reduceAdd, Nat.zero_add, Nat.add_zero]; first | done | rfl) | rfl) (by first | (simp only [List.take_succ_cons, List.take_zero, List.drop_succ_cons, List.drop_zero, List.cons_append, List.nil_append, List.append_nil, List.length_cons, List.length_nil, Nat.reduceAdd, Nat.zero_add, Nat.add_zero, Value.cells, wrV]; first | done | rfl) | rfl) rfl ?_
  refine sx_callK [1, 2] [0, 3, 4] (cut_fn g b most c c.old) rfl rfl (by simp) rfl ?_
  rintro v' H' ⟨rfl, rfl⟩
  refine sx_norm (by simp only [List.filter_cons, List.filter_nil, Ent.wr, if_true, List.cons_append, List.nil_append, pick, List.filterMap_cons, List.filterMap_nil, List.getElem?_cons_succ, List.getElem?_cons_zero]; first | done | rfl) ?_
  refine sx_nil (hZ _ _ ?_)
  refine awp_forget [(6, _), (8, _)] (Kn.cons rfl (Kn.cons rfl (Kn.nil))) ?_
  refine awp_seq_region (fun Z hZ => ?_)
  refine sx_loadA 2 rfl rfl tyA47 tyS47 (by first | (simp only [List.length_cons, List.length_nil, Nat.reduceAdd, Nat.zero_add, Nat.add_zero]; first | done | rfl) | rfl) (by first | (simp only [List.take_succ_cons, List.take_zero, List.drop_succ_cons, List.drop_zero, List.cons_append, List.nil_append, List.append_nil, List.length_cons, List.length_nil, Nat.reduceAdd, Nat.zero_add, Nat.add_zero, Value.cells, wrV]; first | done | rfl) | rfl) rfl ?_
  refine sx_store 3 rfl rfl rfl tyS47 (by first | (simp only [Value.cells]; first | done | rfl) | rfl) rfl rfl (by first | (simp only [List.length_cons, List.length_nil, Nat.reduceAdd, Nat.zero_add, Nat.add_zero]; first | done | rfl) | rfl) (by first | (simp only [List.take_succ_cons, List.take_zero, List.drop_succ_cons, List.drop_zero, List.cons_append, List.nil_append, List.append_nil, List.length_cons, List.length_nil, Nat.reduceAdd, Nat.zero_add, Nat.add_zero, Value.cells, wrV]; first | done | rfl) | rfl) (by first | (simp only [List.set_cons_succ, List.set_cons_zero]; first | done | rfl) | rfl) ?_
  refine sx_assign rfl rfl ?_
  refine sx_nil (hZ _ _ ?_)
  refine awp_forget [(6, _), (7, _)] (Kn.cons rfl (Kn.cons rfl (Kn.nil))) ?_
  refine awp_ret ?_
  exact nx_ret2h _ rfl (ResOk.cell 3 rfl rfl tyA47 tyS47 rfl) rfl (HLe.pick [0, 1] (by simp) rfl) ⟨_, rfl, hcut, rfl⟩
theorem nd_none {M : List (Ky × Node)} {k : Ky} (h : (aget M k).isSome = false) : (nd M k).v = 0 := by
  rw [Option.isSome_eq_false_iff, Option.isNone_iff_eq_none] at h
  unfold nd
  rw [h]; rfl
theorem valK_none {L : List Item} {k : Ky} (h : hasK L k = false) : valK L k = 0 := by
  unfold valK
  have : L.find? (fun x => decide (x.1 = k)) = none := List.find?_eq_none.2 fun x hx he => by
    have : hasK L k = true := List.any_eq_true.2 ⟨x, hx, he⟩
    rw [h] at this; cases this
  rw [this]; rfl
theorem get_fn (g b most : Nat) (s : CS) (L : List Item) (k : Ky) (hR : Rep s L) :
    Fn Try.prog 38 [ptr g 0, encK k] (cacheH g b most s)
    fun u H' => ∃ s', u = .tuple #[iq ((valK L k : Nat)), .bool (hasK L k)] ∧ Rep s' (rGetL L k) ∧ H' = cacheH g b most s' := by
  obtain ⟨x, hx⟩ : ∃ x, hasK L k = x := ⟨_, rfl⟩
  have hh := hR.has k
  rw [hx] at hh
  rw [hx]
  refine Fn.enter (N := 19) Try.func38 rfl (by kernel_rfl) rfl (fun w0 => ?_)

  refine awp_seq_region (fun Z hZ => ?_)
  refine sx_box rfl rfl rfl (fun g1 => ?_)
  refine sx_assign rfl rfl ?_
  refine sx_assign rfl rfl ?_
  refine sx_nil (hZ _ _ ?_)
  refine awp_forget [(0, _), (3, _), (4, _)] (Kn.cons rfl (Kn.cons rfl (Kn.cons rfl (Kn.nil)))) ?_
  refine awp_seq ?_
  refine awp_seq_region (fun Z hZ => ?_)
  refine sx_move rfl rfl ?_
  refine sx_loadA 0 rfl rfl tyA47 tyS47 (by first | (simp only [List.length_cons, List.length_nil, Nat.reduceAdd, Nat.zero_add, Nat.add_zero]; first | done | rfl) | rfl) (by first | (simp only [List.take_succ_cons, List.take_zero, List.drop_succ_cons, List.drop_zero, List.cons_append, List.nil_append, List.append_nil, List.length_cons, List.length_nil, Nat.reduceAdd, Nat.zero_add, Nat.add_zero, Value.cells, wrV]; first | done | rfl) | rfl) rfl ?_
  refine sx_callK [1, 2] [0] (has_fn g b most s k) rfl rfl (by simp) rfl ?_
  rintro v H' ⟨rfl, rfl⟩
  refine sx_norm (by simp only [List.filter_cons, List.filter_nil, Ent.wr, if_true, List.cons_append, List.nil_append, pick, List.filterMap_cons, List.filterMap_nil, List.getElem?_cons_succ, List.getElem?_cons_zero]; first | done | rfl) ?_
  rw [hh]
  refine sx_not rfl rfl ?_
  refine sx_nil (hZ _ _ ?_)
  refine awp_forget [(0, _), (3, _), (4, _), (9, _)] (Kn.cons rfl (Kn.cons rfl (Kn.cons rfl (Kn.cons rfl (Kn.nil))))) ?_
  refine awp_cond rfl (fun h => ?_) (fun h => ?_)
  · have hf : x = false := by simpa using h
    subst hf
    refine awp_seq_region (fun Z hZ => ?_)
    refine sx_move rfl rfl ?_
    refine sx_assign rfl rfl ?_
    refine sx_assign rfl rfl ?_
    refine sx_nil (hZ _ _ ?_)
    refine awp_forget [(4, _), (5, _)] (Kn.cons rfl (Kn.cons rfl (Kn.nil))) ?_
    refine awp_ret ?_
    repeat (with_reducible refine nx_then_ret ?_)
    exact nx_ret2h _ rfl rfl rfl (HLe.pick [0, 1] (by simp) rfl) ⟨s, by rw [valK_none hx]; rfl, by unfold rGetL; rw [hx]; exact hR, rfl⟩
  refine awp_skip ?_
  with_reducible refine nx_normal ?_
  have hf : x = true := by simpa using h
  subst hf
  obtain ⟨hv, hc⟩ := hR.val hx
  have hp := hc.push (v := valK L k) (hc.gone (drop_has L k))

  refine awp_seq_region (fun Z hZ => ?_)
  refine sx_move rfl rfl ?_
  refine sx_loadA 2 rfl rfl tyA47 tyS47 (by first | (simp only [List.length_cons, List.length_nil, Nat.reduceAdd, Nat.zero_add, Nat.add_zero]; first | done | rfl) | rfl) (by first | (simp only [List.take_succ_cons, List.take_zero, List.drop_succ_cons, List.drop_zero, List.cons_append, List.nil_append, List.append_nil, List.length_cons, List.length_nil, Nat.reduceAdd, Nat.zero_add, Nat.add_zero, Value.cells, wrV]; first | done | rfl) | rfl) rfl ?_
  refine sx_callK [0, 1] [2] (cut_fn g b most s k) rfl rfl (by simp) rfl ?_
  rintro v H' ⟨rfl, rfl⟩
  refine sx_norm (by simp only [List.filter_cons, List.filter_nil, Ent.wr, if_true, List.cons_append, List.nil_append, pick, List.filterMap_cons, List.filterMap_nil, List.getElem?_cons_succ, List.getElem?_cons_zero]; first | done | rfl) ?_
  rw [hv]
  refine sx_assign rfl rfl ?_
  refine sx_nil (hZ _ _ ?_)
  refine awp_forget [(0, _), (3, _), (4, _)] (Kn.cons rfl (Kn.cons rfl (Kn.cons rfl (Kn.nil)))) ?_
  generalize cutS s k = c at hp
  refine awp_seq_region (fun Z hZ => ?_)
  refine sx_move rfl rfl ?_
  refine sx_loadA 2 rfl rfl tyA47 tyS47 (by first | (simp only [List.length_cons, List.length_nil, Nat.reduceAdd, Nat.zero_add, Nat.add_zero]; first | done | rfl) | rfl) (by first | (simp only [List.take_succ_cons, List.take_zero, List.drop_succ_cons, List.drop_zero, List.cons_append, List.nil_append, List.append_nil, List.length_cons, List.length_nil, Nat.reduceAdd, Nat.zero_add, Nat.add_zero, Value.cells, wrV]; first | done | rfl) | rfl) rfl ?_
  refine sx_move rfl rfl ?_
  refine sx_callK [0, 1] [2] (push_fn g b most c k (valK L k)) rfl rfl (by simp) rfl ?_
  rintro v H' ⟨rfl, rfl⟩
  refine sx_norm (by simp only [List.filter_cons, List.filter_nil, Ent.wr, if_true, List.cons_append, List.nil_append, pick, List.filterMap_cons, List.filterMap_nil, List.getElem?_cons_succ, List.getElem?_cons_zero]; first | done | rfl) ?_
  refine sx_nil (hZ _ _ ?_)
  refine awp_forget [(4, _)] (Kn.cons rfl (Kn.nil)) ?_
  refine awp_seq_region (fun Z hZ => ?_)
  refine sx_move rfl rfl ?_
  refine sx_assign rfl rfl ?_
  refine sx_assign rfl rfl ?_
  refine sx_nil (hZ _ _ ?_)
  refine awp_forget [(4, _), (5, _)] (Kn.cons rfl (Kn.cons rfl (Kn.nil))) ?_
  refine awp_ret ?_
  exact nx_ret2h _ rfl rfl rfl (HLe.pick [0, 1] (by simp) rfl) ⟨_, rfl, by unfold rGetL; rw [hx]; exact hp, rfl⟩
theorem drop_fn (g b most : Nat) (s : CS) (L : List Item) (k : Ky) (hR : Rep s L) :
    Fn Try.prog 39 [ptr g 0, encK k] (cacheH g b most s)
    fun u H' => ∃ s', u = .bool (hasK L k) ∧ Rep s' (rDrop L k) ∧ H' = cacheH g b most s' := by
  obtain ⟨x, hx⟩ : ∃ x, hasK L k = x := ⟨_, rfl⟩
  have hh := hR.has k
  rw [hx] at hh
  rw [hx]
  refine Fn.enter (N := 12) Try.func39 rfl (by kernel_rfl) rfl (fun w0 => ?_)

  refine awp_seq_region (fun Z hZ => ?_)
  refine sx_box rfl rfl rfl (fun g1 => ?_)
  refine sx_assign rfl rfl ?_
  refine sx_nil (hZ _ _ ?_)
  refine awp_forget [(0, _), (3, _)] (Kn.cons rfl (Kn.cons rfl (Kn.nil))) ?_
  refine awp_seq ?_
  refine awp_seq_region (fun Z hZ => ?_)
  refine sx_move rfl rfl ?_
  refine sx_loadA 0 rfl rfl tyA47 tyS47 (by first | (simp only [List.length_cons, List.length_nil, Nat.reduceAdd, Nat.zero_add, Nat.add_zero]; first | done | rfl) | rfl) (by first | (simp only [List.take_succ_cons, List.take_zero, List.drop_succ_cons, List.drop_zero, List.cons_append, List.nil_append, List.append_nil, List.length_cons, List.length_nil, Nat.reduceAdd, Nat.zero_add, Nat.add_zero, Value.cells, wrV]; first | done | rfl) | rfl) rfl ?_
  refine sx_callK [1, 2] [0] (has_fn g b most s k) rfl rfl (by simp) rfl ?_
  rintro v H' ⟨rfl, rfl⟩
  refine sx_norm (by simp only [List.filter_cons, List.filter_nil, Ent.wr, if_true, List.cons_append, List.nil_append, pick, List.filterMap_cons, List.filterMap_nil, List.getElem?_cons_succ, List.getElem?_cons_zero]; first | done | rfl) ?_
  rw [hh]
  refine sx_not rfl rfl ?_
  refine sx_nil (hZ _ _ ?_)
  refine awp_forget [(0, _), (3, _), (8, _)] (Kn.cons rfl (Kn.cons rfl (Kn.cons rfl (Kn.nil)))) ?_
  refine awp_cond rfl (fun h => ?_) (fun h => ?_)
  · have hf : x = false := by simpa using h
    subst hf
    refine awp_seq_region (fun Z hZ => ?_)
    refine sx_assign rfl rfl ?_
    refine sx_nil (hZ _ _ ?_)
    refine awp_forget [(4, _)] (Kn.cons rfl (Kn.nil)) ?_
    refine awp_ret ?_
    repeat (with_reducible refine nx_then_ret ?_)
    exact nx_ret1h _ rfl rfl (HLe.pick [0, 1] (by simp) rfl) ⟨s, rfl, by rw [drop_none hx]; exact hR, rfl⟩
  refine awp_skip ?_
  with_reducible refine nx_normal ?_
  have hf : x = true := by simpa using h
  subst hf
  obtain ⟨hv, hc⟩ := hR.val hx

  refine awp_seq_region (fun Z hZ => ?_)
  refine sx_move rfl rfl ?_
  refine sx_loadA 2 rfl rfl tyA47 tyS47 (by first | (simp only [List.length_cons, List.length_nil, Nat.reduceAdd, Nat.zero_add, Nat.add_zero]; first | done | rfl) | rfl) (by first | (simp only [List.take_succ_cons, List.take_zero, List.drop_succ_cons, List.drop_zero, List.cons_append, List.nil_append, List.append_nil, List.length_cons, List.length_nil, Nat.reduceAdd, Nat.zero_add, Nat.add_zero, Value.cells, wrV]; first | done | rfl) | rfl) rfl ?_
  refine sx_callK [0, 1] [2] (cut_fn g b most s k) rfl rfl (by simp) rfl ?_
  rintro v H' ⟨rfl, rfl⟩
  refine sx_norm (by simp only [List.filter_cons, List.filter_nil, Ent.wr, if_true, List.cons_append, List.nil_append, pick, List.filterMap_cons, List.filterMap_nil, List.getElem?_cons_succ, List.getElem?_cons_zero]; first | done | rfl) ?_
  refine sx_nil (hZ _ _ ?_)
  refine awp_forget [] (Kn.nil) ?_
  refine awp_seq_region (fun Z hZ => ?_)
  refine sx_assign rfl rfl ?_
  refine sx_nil (hZ _ _ ?_)
  refine awp_forget [(4, _)] (Kn.cons rfl (Kn.nil)) ?_
  refine awp_ret ?_
  exact nx_ret1h _ rfl rfl (HLe.pick [0, 1] (by simp) rfl) ⟨_, rfl, hc, rfl⟩
end Go.Proofs.Ytjelakmndcecoaa.LI
