/- The walks of package lru: cut and push. No conditions. -/
import Derived.Test.YtjelakmndcecoaaLi1
namespace Go.Proofs.Ytjelakmndcecoaa.LI
open Go.RowKit
set_option linter.unusedVariables false
set_option linter.unusedSimpArgs false
theorem cutA_yes (s : CS) (k : Ky) (x : Node) (hx : nd s.M k = x) (h : keq k s.old = true) : cutA s k = { s with M := adel s.M k, old := x.n } := by subst hx; exact if_pos (of_decide_eq_true h)
theorem cutA_no (s : CS) (k : Ky) (x y : Node) (hx : nd s.M k = x) (hy : nd (adel s.M k) x.o = y) (h : keq k s.old = false) : cutA s k = { s with M := aput (adel s.M k) x.o { y with n := x.n } } := by subst hx; subst hy; exact if_neg (of_decide_eq_false h)
theorem cutB_yes (s : CS) (k : Ky) (x : Node) (h : keq k s.new = true) : cutB s k x = { s with new := x.o } := if_pos (of_decide_eq_true h)
theorem cutB_no (s : CS) (k : Ky) (x y : Node) (hy : nd s.M x.n = y) (h : keq k s.new = false) : cutB s k x = { s with M := aput s.M x.n { y with o := x.o } } := by subst hy; exact if_neg (of_decide_eq_false h)
abbrev nodeE (g : Nat) (x : Node) : Ent := .own g 104 [iq (x.v : Nat), uq x.o.1, uq x.o.2, uq x.n.1, uq x.n.2]
theorem cut_fn (g b : Nat) (most : Int) (s : CS) (k : Ky) : Fn Try.prog 47 [ptr g 0, encK k] (cacheH g b most s)
    fun v H' => v = iq ((nd s.M k).v : Nat) ∧ H' = cacheH g b most (cutS s k) := by
  obtain ⟨x, hx⟩ : ∃ x, nd s.M k = x := ⟨_, rfl⟩
  unfold cutS
  rw [hx]
  refine Fn.enter (N := 77) Try.func47 rfl (by kernel_rfl) rfl (fun w0 => ?_)

  refine awp_seq_region (fun Z hZ => ?_)
  refine sx_box rfl rfl rfl (fun g1 => ?_)
  refine sx_assign rfl rfl ?_
  refine sx_nil (hZ _ _ ?_)
  refine awp_forget [(0, _), (3, _)] (Kn.cons rfl (Kn.cons rfl (Kn.nil))) ?_
  refine aww_seq_region _ [(0, true), (1, true), (2, true), (3, true), (4, true), (5, true), (6, false), (7, false)] mixed (by kernel_rfl) (HLe.pick [0, 1, 2] (by simp) (by simp only [pick, List.filterMap_cons, List.filterMap_nil, List.getElem?_cons_succ, List.getElem?_cons_zero]; rfl)) (fun Z hZ => ?_)
  refine tw_p rfl ?_
  refine sv_move rfl rfl ?_
  refine sv_nil ?_
  refine tw_p rfl ?_
  refine sv_nilCheck rfl rfl ?_
  refine sv_nil ?_
  refine tw_p rfl ?_
  refine sv_fieldAddr rfl tyF93_1 (by first | (simp only [Nat.reduceAdd, Nat.add_zero, Nat.zero_add]; first | done | rfl) | rfl) rfl ?_
  refine sv_nil ?_
  refine tw_p rfl ?_
  refine sv_load 1 rfl rfl tyA91 tyS91 rfl rfl ?_
  refine sv_nil ?_
  refine tw_p rfl ?_
  refine sv_loadA 0 rfl rfl tyA47 tyS47 (by first | (simp only [List.length_cons, List.length_nil, Nat.reduceAdd, Nat.zero_add, Nat.add_zero]; first | done | rfl) | rfl) (by first | (simp only [List.take_succ_cons, List.take_zero, List.drop_succ_cons, List.drop_zero, List.cons_append, List.nil_append, List.append_nil, List.length_cons, List.length_nil, Nat.reduceAdd, Nat.zero_add, Nat.add_zero, Value.cells, wrV]; first | done | rfl) | rfl) rfl ?_
  refine sv_nil ?_
  refine tw_p rfl ?_
  refine sv_lookup 2 keyOk Try.underlying91 zeroNode k _ rfl rfl rfl (look_v hx) rfl ?_
  refine sv_nil ?_
  refine tw_g rfl ?_
  refine sx_alloc tyZ104 rfl (fun g2 => ?_)
  refine sx_nil ⟨HLe.pick [1, 2, 3] (by simp) rfl, ?_⟩
  refine tw_g rfl ?_
  refine sx_store 0 rfl rfl rfl tyS104 (by first | (simp only [Value.cells]; first | done | rfl) | rfl) rfl rfl (by first | (simp only [List.length_cons, List.length_nil, Nat.reduceAdd, Nat.zero_add, Nat.add_zero]; first | done | rfl) | rfl) (by first | (simp only [List.take_succ_cons, List.take_zero, List.drop_succ_cons, List.drop_zero, List.cons_append, List.nil_append, List.append_nil, List.length_cons, List.length_nil, Nat.reduceAdd, Nat.zero_add, Nat.add_zero, Value.cells, wrV]; first | done | rfl) | rfl) (by first | (simp only [List.set_cons_succ, List.set_cons_zero]; first | done | rfl) | rfl) ?_
  refine sx_nil ⟨HLe.pick [1, 2, 3] (by simp) rfl, ?_⟩
  refine tw_nil (hZ _ _ ?_)
  refine awp_forget [(0, _), (3, _), (5, _)] (Kn.cons rfl (Kn.cons rfl (Kn.cons rfl (Kn.nil)))) ?_
  refine aww_seq_region _ [(0, true), (1, true), (2, true), (3, true), (4, true), (5, false)] mixed (by kernel_rfl) (HLe.pick [1, 2] (by simp) (by simp only [pick, List.filterMap_cons, List.filterMap_nil, List.getElem?_cons_succ, List.getElem?_cons_zero]; rfl)) (fun Z hZ => ?_)
  refine tw_p rfl ?_
  refine sv_move rfl rfl ?_
  refine sv_nil ?_
  refine tw_p rfl ?_
  refine sv_nilCheck rfl rfl ?_
  refine sv_nil ?_
  refine tw_p rfl ?_
  refine sv_fieldAddr rfl tyF93_1 (by first | (simp only [Nat.reduceAdd, Nat.add_zero, Nat.zero_add]; first | done | rfl) | rfl) rfl ?_
  refine sv_nil ?_
  refine tw_p rfl ?_
  refine sv_load 1 rfl rfl tyA91 tyS91 rfl rfl ?_
  refine sv_nil ?_
  refine tw_p rfl ?_
  refine sv_loadA 0 rfl rfl tyA47 tyS47 (by first | (simp only [List.length_cons, List.length_nil, Nat.reduceAdd, Nat.zero_add, Nat.add_zero]; first | done | rfl) | rfl) (by first | (simp only [List.take_succ_cons, List.take_zero, List.drop_succ_cons, List.drop_zero, List.cons_append, List.nil_append, List.append_nil, List.length_cons, List.length_nil, Nat.reduceAdd, Nat.zero_add, Nat.add_zero, Value.cells, wrV]; first | done | rfl) | rfl) rfl ?_
  refine sv_nil ?_
  refine tw_g rfl ?_
  refine sx_delete 3 keyOk Try.underlying91 k rfl rfl rfl rfl ?_
  refine sx_nil ⟨HLe.pick [1, 2] (by simp) rfl, ?_⟩
  refine tw_nil (hZ _ _ ?_)
  refine awp_forget [(0, _), (3, _), (5, _)] (Kn.cons rfl (Kn.cons rfl (Kn.cons rfl (Kn.nil)))) ?_
  refine awp_cut (ι := CS) (fun c => [(0, ptr g 0), (3, ptr g1 0), (5, ptr g2 0)]) (fun c => [nodeE g2 x, .own g1 47 [uq k.1, uq k.2], cacheE g b most c.old c.new, mapE encK encV b c.M]) (fun c => c = cutA s k) ?_ ?_
  · refine aww_seq_region _ [(0, true), (1, true), (2, true), (3, true), (4, true), (5, true)] mixed (by kernel_rfl) (HLe.pick [1, 2] (by simp) (by simp only [pick, List.filterMap_cons, List.filterMap_nil, List.getElem?_cons_succ, List.getElem?_cons_zero]; rfl)) (fun Z hZ => ?_)
    refine tw_p rfl ?_
    refine sv_loadA 0 rfl rfl tyA47 tyS47 (by first | (simp only [List.length_cons, List.length_nil, Nat.reduceAdd, Nat.zero_add, Nat.add_zero]; first | done | rfl) | rfl) (by first | (simp only [List.take_succ_cons, List.take_zero, List.drop_succ_cons, List.drop_zero, List.cons_append, List.nil_append, List.append_nil, List.length_cons, List.length_nil, Nat.reduceAdd, Nat.zero_add, Nat.add_zero, Value.cells, wrV]; first | done | rfl) | rfl) rfl ?_
    refine sv_nil ?_
    refine tw_p rfl ?_
    refine sv_move rfl rfl ?_
    refine sv_nil ?_
    refine tw_p rfl ?_
    refine sv_nilCheck rfl rfl ?_
    refine sv_nil ?_
    refine tw_p rfl ?_
    refine sv_fieldAddr rfl tyF93_2 (by first | (simp only [Nat.reduceAdd, Nat.add_zero, Nat.zero_add]; first | done | rfl) | rfl) rfl ?_
    refine sv_nil ?_
    refine tw_p rfl ?_
    refine sv_loadA 1 rfl rfl tyA47 tyS47 (by first | (simp only [List.length_cons, List.length_nil, Nat.reduceAdd, Nat.zero_add, Nat.add_zero]; first | done | rfl) | rfl) (by first | (simp only [List.take_succ_cons, List.take_zero, List.drop_succ_cons, List.drop_zero, List.cons_append, List.nil_append, List.append_nil, List.length_cons, List.length_nil, Nat.reduceAdd, Nat.zero_add, Nat.add_zero, Value.cells, wrV]; first | done | rfl) | rfl) rfl ?_
    refine sv_nil ?_
    refine tw_p rfl ?_
    refine sv_aeql (key_eq k s.old) guard_key rfl rfl rfl ?_
    refine sv_nil ?_
    refine tw_nil (hZ _ _ ?_)
    refine awp_forget [(0, _), (3, _), (5, _), (24, _)] (Kn.cons rfl (Kn.cons rfl (Kn.cons rfl (Kn.cons rfl (Kn.nil))))) ?_
    refine awp_cond rfl (fun h => ?_) (fun h => ?_)
    · refine awp_region (fun Z hZ => ?_)
      refine sx_move rfl rfl ?_
      refine sx_fieldAddr rfl tyF104_2 (by first | (simp only [Nat.reduceAdd, Nat.add_zero, Nat.zero_add]; first | done | rfl) | rfl) rfl ?_
      refine sx_loadA 0 rfl rfl tyA47 tyS47 (by first | (simp only [List.length_cons, List.length_nil, Nat.reduceAdd, Nat.zero_add, Nat.add_zero]; first | done | rfl) | rfl) (by first | (simp only [List.take_succ_cons, List.take_zero, List.drop_succ_cons, List.drop_zero, List.cons_append, List.nil_append, List.append_nil, List.length_cons, List.length_nil, Nat.reduceAdd, Nat.zero_add, Nat.add_zero, Value.cells, wrV]; first | done | rfl) | rfl) rfl ?_
      refine sx_nilCheck rfl rfl ?_
      refine sx_fieldAddr rfl tyF93_2 (by first | (simp only [Nat.reduceAdd, Nat.add_zero, Nat.zero_add]; first | done | rfl) | rfl) rfl ?_
      refine sx_store 2 rfl rfl rfl tyS47 (by first | (simp only [Value.cells]; first | done | rfl) | rfl) rfl rfl (by first | (simp only [List.length_cons, List.length_nil, Nat.reduceAdd, Nat.zero_add, Nat.add_zero]; first | done | rfl) | rfl) (by first | (simp only [List.take_succ_cons, List.take_zero, List.drop_succ_cons, List.drop_zero, List.cons_append, List.nil_append, List.append_nil, List.length_cons, List.length_nil, Nat.reduceAdd, Nat.zero_add, Nat.add_zero, Value.cells, wrV]; first | done | rfl) | rfl) (by first | (simp only [List.set_cons_succ, List.set_cons_zero]; first | done | rfl) | rfl) ?_
      refine sx_nil (hZ _ _ ?_)
      refine nx_forget [(0, _), (3, _), (5, _)] (Kn.cons rfl (Kn.cons rfl (Kn.cons rfl (Kn.nil)))) ?_
      refine nx_cut _ rfl (Kn.cons rfl (Kn.cons rfl (Kn.cons rfl Kn.nil))) (HLe.pick [0, 1, 2, 3] (by simp) ?_)
      rw [cutA_yes s k x hx h]
      rfl
    · obtain ⟨y, hy⟩ : ∃ y, nd (adel s.M k) x.o = y := ⟨_, rfl⟩
      refine aww_seq_region _ [(0, true), (1, true), (2, true), (3, true), (4, true), (5, true), (6, true), (7, false), (8, false)] mixed (by kernel_rfl) (HLe.pick [0, 2, 3] (by simp) (by simp only [pick, List.filterMap_cons, List.filterMap_nil, List.getElem?_cons_succ, List.getElem?_cons_zero]; rfl)) (fun Z hZ => ?_)
      refine tw_p rfl ?_
      refine sv_move rfl rfl ?_
      refine sv_nil ?_
      refine tw_p rfl ?_
      refine sv_nilCheck rfl rfl ?_
      refine sv_nil ?_
      refine tw_p rfl ?_
      refine sv_fieldAddr rfl tyF93_1 (by first | (simp only [Nat.reduceAdd, Nat.add_zero, Nat.zero_add]; first | done | rfl) | rfl) rfl ?_
      refine sv_nil ?_
      refine tw_p rfl ?_
      refine sv_load 1 rfl rfl tyA91 tyS91 rfl rfl ?_
      refine sv_nil ?_
      refine tw_p rfl ?_
      refine sv_fieldAddr rfl tyF104_1 (by first | (simp only [Nat.reduceAdd, Nat.add_zero, Nat.zero_add]; first | done | rfl) | rfl) rfl ?_
      refine sv_nil ?_
      refine tw_p rfl ?_
      refine sv_loadA 0 rfl rfl tyA47 tyS47 (by first | (simp only [List.length_cons, List.length_nil, Nat.reduceAdd, Nat.zero_add, Nat.add_zero]; first | done | rfl) | rfl) (by first | (simp only [List.take_succ_cons, List.take_zero, List.drop_succ_cons, List.drop_zero, List.cons_append, List.nil_append, List.append_nil, List.length_cons, List.length_nil, Nat.reduceAdd, Nat.zero_add, Nat.add_zero, Value.cells, wrV]; first | done | rfl) | rfl) rfl ?_
      refine sv_nil ?_
      refine tw_p rfl ?_
      refine sv_lookup 2 keyOk Try.underlying91 zeroNode x.o _ rfl rfl rfl (look_v hy) rfl ?_
      refine sv_nil ?_
      refine tw_g rfl ?_
      refine sx_alloc tyZ104 rfl (fun g3 => ?_)
      refine sx_nil ⟨HLe.pick [1, 3, 4] (by simp) rfl, ?_⟩
      refine tw_g rfl ?_
      refine sx_store 0 rfl rfl rfl tyS104 (by first | (simp only [Value.cells]; first | done | rfl) | rfl) rfl rfl (by first | (simp only [List.length_cons, List.length_nil, Nat.reduceAdd, Nat.zero_add, Nat.add_zero]; first | done | rfl) | rfl) (by first | (simp only [List.take_succ_cons, List.take_zero, List.drop_succ_cons, List.drop_zero, List.cons_append, List.nil_append, List.append_nil, List.length_cons, List.length_nil, Nat.reduceAdd, Nat.zero_add, Nat.add_zero, Value.cells, wrV]; first | done | rfl) | rfl) (by first | (simp only [List.set_cons_succ, List.set_cons_zero]; first | done | rfl) | rfl) ?_
      refine sx_nil ⟨HLe.pick [1, 3, 4] (by simp) rfl, ?_⟩
      refine tw_nil (hZ _ _ ?_)
      refine awp_forget [(0, _), (3, _), (5, _), (6, _)] (Kn.cons rfl (Kn.cons rfl (Kn.cons rfl (Kn.cons rfl (Kn.nil))))) ?_
      refine awp_seq_region (fun Z hZ => ?_)
      refine sx_fieldAddr rfl tyF104_2 (by first | (simp only [Nat.reduceAdd, Nat.add_zero, Nat.zero_add]; first | done | rfl) | rfl) rfl ?_
      refine sx_loadA 1 rfl rfl tyA47 tyS47 (by first | (simp only [List.length_cons, List.length_nil, Nat.reduceAdd, Nat.zero_add, Nat.add_zero]; first | done | rfl) | rfl) (by first | (simp only [List.take_succ_cons, List.take_zero, List.drop_succ_cons, List.drop_zero, List.cons_append, List.nil_append, List.append_nil, List.length_cons, List.length_nil, Nat.reduceAdd, Nat.zero_add, Nat.add_zero, Value.cells, wrV]; first | done | rfl) | rfl) rfl ?_
      refine sx_fieldAddr rfl tyF104_2 (by first | (simp only [Nat.reduceAdd, Nat.add_zero, Nat.zero_add]; first | done | rfl) | rfl) rfl ?_
      refine sx_store 0 rfl rfl rfl tyS47 (by first | (simp only [Value.cells]; first | done | rfl) | rfl) rfl rfl (by first | (simp only [List.length_cons, List.length_nil, Nat.reduceAdd, Nat.zero_add, Nat.add_zero]; first | done | rfl) | rfl) (by first | (simp only [List.take_succ_cons, List.take_zero, List.drop_succ_cons, List.drop_zero, List.cons_append, List.nil_append, List.append_nil, List.length_cons, List.length_nil, Nat.reduceAdd, Nat.zero_add, Nat.add_zero, Value.cells, wrV]; first | done | rfl) | rfl) (by first | (simp only [List.set_cons_succ, List.set_cons_zero]; first | done | rfl) | rfl) ?_
      refine sx_nil (hZ _ _ ?_)
      refine awp_forget [(0, _), (3, _), (5, _), (6, _)] (Kn.cons rfl (Kn.cons rfl (Kn.cons rfl (Kn.cons rfl (Kn.nil))))) ?_
      refine aww_region _ [(0, true), (1, true), (2, true), (3, true), (4, true), (5, true), (6, true), (7, false)] mixed (by kernel_rfl) (HLe.pick [0, 1, 3] (by simp) (by simp only [pick, List.filterMap_cons, List.filterMap_nil, List.getElem?_cons_succ, List.getElem?_cons_zero]; rfl)) (fun Z hZ => ?_)
      refine tw_p rfl ?_
      refine sv_move rfl rfl ?_
      refine sv_nil ?_
      refine tw_p rfl ?_
      refine sv_nilCheck rfl rfl ?_
      refine sv_nil ?_
      refine tw_p rfl ?_
      refine sv_fieldAddr rfl tyF93_1 (by first | (simp only [Nat.reduceAdd, Nat.add_zero, Nat.zero_add]; first | done | rfl) | rfl) rfl ?_
      refine sv_nil ?_
      refine tw_p rfl ?_
      refine sv_load 2 rfl rfl tyA91 tyS91 rfl rfl ?_
      refine sv_nil ?_
      refine tw_p rfl ?_
      refine sv_fieldAddr rfl tyF104_1 (by first | (simp only [Nat.reduceAdd, Nat.add_zero, Nat.zero_add]; first | done | rfl) | rfl) rfl ?_
      refine sv_nil ?_
      refine tw_p rfl ?_
      refine sv_loadA 1 rfl rfl tyA47 tyS47 (by first | (simp only [List.length_cons, List.length_nil, Nat.reduceAdd, Nat.zero_add, Nat.add_zero]; first | done | rfl) | rfl) (by first | (simp only [List.take_succ_cons, List.take_zero, List.drop_succ_cons, List.drop_zero, List.cons_append, List.nil_append, List.append_nil, List.length_cons, List.length_nil, Nat.reduceAdd, Nat.zero_add, Nat.add_zero, Value.cells, wrV]; first | done | rfl) | rfl) rfl ?_
      refine sv_nil ?_
      refine tw_p rfl ?_
      refine sv_loadA 0 rfl rfl tyA104 tyS104 (by first | (simp only [List.length_cons, List.length_nil, Nat.reduceAdd, Nat.zero_add, Nat.add_zero]; first | done | rfl) | rfl) (by first | (simp only [List.take_succ_cons, List.take_zero, List.drop_succ_cons, List.drop_zero, List.cons_append, List.nil_append, List.append_nil, List.length_cons, List.length_nil, Nat.reduceAdd, Nat.zero_add, Nat.add_zero, Value.cells, wrV]; first | done | rfl) | rfl) rfl ?_
      refine sv_nil ?_
      refine tw_g rfl ?_
      refine sx_mapUpdate 4 keyOk Try.underlying91 x.o { y with n := x.n } rfl rfl rfl rfl rfl ?_
      refine sx_nil ⟨HLe.pick [0, 1, 3] (by simp) rfl, ?_⟩
      refine tw_nil (hZ _ _ ?_)
      refine nx_forget [(0, _), (3, _), (5, _)] (Kn.cons rfl (Kn.cons rfl (Kn.cons rfl (Kn.nil)))) ?_
      refine nx_cut _ rfl (Kn.cons rfl (Kn.cons rfl (Kn.cons rfl Kn.nil))) (HLe.pick [1, 2, 3, 4] (by simp) ?_)
      rw [cutA_no s k x y hx hy h]
      rfl
  rintro c rfl
  generalize cutA s k = c

  refine awp_cut (ι := CS) (fun c => [(5, ptr g2 0)]) (fun c => [nodeE g2 x, cacheE g b most c.old c.new, mapE encK encV b c.M]) (fun c' => c' = cutB c k x) ?_ ?_
  · refine aww_seq_region _ [(0, true), (1, true), (2, true), (3, true), (4, true), (5, true)] mixed (by kernel_rfl) (HLe.pick [1, 2] (by simp) (by simp only [pick, List.filterMap_cons, List.filterMap_nil, List.getElem?_cons_succ, List.getElem?_cons_zero]; rfl)) (fun Z hZ => ?_)
    refine tw_p rfl ?_
    refine sv_loadA 0 rfl rfl tyA47 tyS47 (by first | (simp only [List.length_cons, List.length_nil, Nat.reduceAdd, Nat.zero_add, Nat.add_zero]; first | done | rfl) | rfl) (by first | (simp only [List.take_succ_cons, List.take_zero, List.drop_succ_cons, List.drop_zero, List.cons_append, List.nil_append, List.append_nil, List.length_cons, List.length_nil, Nat.reduceAdd, Nat.zero_add, Nat.add_zero, Value.cells, wrV]; first | done | rfl) | rfl) rfl ?_
    refine sv_nil ?_
    refine tw_p rfl ?_
    refine sv_move rfl rfl ?_
    refine sv_nil ?_
    refine tw_p rfl ?_
    refine sv_nilCheck rfl rfl ?_
    refine sv_nil ?_
    refine tw_p rfl ?_
    refine sv_fieldAddr rfl tyF93_3 (by first | (simp only [Nat.reduceAdd, Nat.add_zero, Nat.zero_add]; first | done | rfl) | rfl) rfl ?_
    refine sv_nil ?_
    refine tw_p rfl ?_
    refine sv_loadA 1 rfl rfl tyA47 tyS47 (by first | (simp only [List.length_cons, List.length_nil, Nat.reduceAdd, Nat.zero_add, Nat.add_zero]; first | done | rfl) | rfl) (by first | (simp only [List.take_succ_cons, List.take_zero, List.drop_succ_cons, List.drop_zero, List.cons_append, List.nil_append, List.append_nil, List.length_cons, List.length_nil, Nat.reduceAdd, Nat.zero_add, Nat.add_zero, Value.cells, wrV]; first | done | rfl) | rfl) rfl ?_
    refine sv_nil ?_
    refine tw_p rfl ?_
    refine sv_aeql (key_eq k c.new) guard_key rfl rfl rfl ?_
    refine sv_nil ?_
    refine tw_nil (hZ _ _ ?_)
    refine awp_forget [(0, _), (5, _), (52, _)] (Kn.cons rfl (Kn.cons rfl (Kn.cons rfl (Kn.nil)))) ?_
    refine awp_cond rfl (fun h => ?_) (fun h => ?_)
    · refine awp_region (fun Z hZ => ?_)
      refine sx_move rfl rfl ?_
      refine sx_fieldAddr rfl tyF104_1 (by first | (simp only [Nat.reduceAdd, Nat.add_zero, Nat.zero_add]; first | done | rfl) | rfl) rfl ?_
      refine sx_loadA 0 rfl rfl tyA47 tyS47 (by first | (simp only [List.length_cons, List.length_nil, Nat.reduceAdd, Nat.zero_add, Nat.add_zero]; first | done | rfl) | rfl) (by first | (simp only [List.take_succ_cons, List.take_zero, List.drop_succ_cons, List.drop_zero, List.cons_append, List.nil_append, List.append_nil, List.length_cons, List.length_nil, Nat.reduceAdd, Nat.zero_add, Nat.add_zero, Value.cells, wrV]; first | done | rfl) | rfl) rfl ?_
      refine sx_nilCheck rfl rfl ?_
      refine sx_fieldAddr rfl tyF93_3 (by first | (simp only [Nat.reduceAdd, Nat.add_zero, Nat.zero_add]; first | done | rfl) | rfl) rfl ?_
      refine sx_store 2 rfl rfl rfl tyS47 (by first | (simp only [Value.cells]; first | done | rfl) | rfl) rfl rfl (by first | (simp only [List.length_cons, List.length_nil, Nat.reduceAdd, Nat.zero_add, Nat.add_zero]; first | done | rfl) | rfl) (by first | (simp only [List.take_succ_cons, List.take_zero, List.drop_succ_cons, List.drop_zero, List.cons_append, List.nil_append, List.append_nil, List.length_cons, List.length_nil, Nat.reduceAdd, Nat.zero_add, Nat.add_zero, Value.cells, wrV]; first | done | rfl) | rfl) (by first | (simp only [List.set_cons_succ, List.set_cons_zero]; first | done | rfl) | rfl) ?_
      refine sx_nil (hZ _ _ ?_)
      refine nx_forget [(5, _)] (Kn.cons rfl (Kn.nil)) ?_
      refine nx_cut _ rfl (Kn.cons rfl Kn.nil) (HLe.pick [0, 2, 3] (by simp) ?_)
      rw [cutB_yes c k x h]
      rfl
    · obtain ⟨y, hy⟩ : ∃ y, nd c.M x.n = y := ⟨_, rfl⟩
      refine aww_seq_region _ [(0, true), (1, true), (2, true), (3, true), (4, true), (5, true), (6, true), (7, false), (8, false)] mixed (by kernel_rfl) (HLe.pick [0, 2, 3] (by simp) (by simp only [pick, List.filterMap_cons, List.filterMap_nil, List.getElem?_cons_succ, List.getElem?_cons_zero]; rfl)) (fun Z hZ => ?_)
      refine tw_p rfl ?_
      refine sv_move rfl rfl ?_
      refine sv_nil ?_
      refine tw_p rfl ?_
      refine sv_nilCheck rfl rfl ?_
      refine sv_nil ?_
      refine tw_p rfl ?_
      refine sv_fieldAddr rfl tyF93_1 (by first | (simp only [Nat.reduceAdd, Nat.add_zero, Nat.zero_add]; first | done | rfl) | rfl) rfl ?_
      refine sv_nil ?_
      refine tw_p rfl ?_
      refine sv_load 1 rfl rfl tyA91 tyS91 rfl rfl ?_
      refine sv_nil ?_
      refine tw_p rfl ?_
      refine sv_fieldAddr rfl tyF104_2 (by first | (simp only [Nat.reduceAdd, Nat.add_zero, Nat.zero_add]; first | done | rfl) | rfl) rfl ?_
      refine sv_nil ?_
      refine tw_p rfl ?_
      refine sv_loadA 0 rfl rfl tyA47 tyS47 (by first | (simp only [List.length_cons, List.length_nil, Nat.reduceAdd, Nat.zero_add, Nat.add_zero]; first | done | rfl) | rfl) (by first | (simp only [List.take_succ_cons, List.take_zero, List.drop_succ_cons, List.drop_zero, List.cons_append, List.nil_append, List.append_nil, List.length_cons, List.length_nil, Nat.reduceAdd, Nat.zero_add, Nat.add_zero, Value.cells, wrV]; first | done | rfl) | rfl) rfl ?_
      refine sv_nil ?_
      refine tw_p rfl ?_
      refine sv_lookup 2 keyOk Try.underlying91 zeroNode x.n _ rfl rfl rfl (look_v hy) rfl ?_
      refine sv_nil ?_
      refine tw_g rfl ?_
      refine sx_alloc tyZ104 rfl (fun g4 => ?_)
      refine sx_nil ⟨HLe.pick [1, 3, 4] (by simp) rfl, ?_⟩
      refine tw_g rfl ?_
      refine sx_store 0 rfl rfl rfl tyS104 (by first | (simp only [Value.cells]; first | done | rfl) | rfl) rfl rfl (by first | (simp only [List.length_cons, List.length_nil, Nat.reduceAdd, Nat.zero_add, Nat.add_zero]; first | done | rfl) | rfl) (by first | (simp only [List.take_succ_cons, List.take_zero, List.drop_succ_cons, List.drop_zero, List.cons_append, List.nil_append, List.append_nil, List.length_cons, List.length_nil, Nat.reduceAdd, Nat.zero_add, Nat.add_zero, Value.cells, wrV]; first | done | rfl) | rfl) (by first | (simp only [List.set_cons_succ, List.set_cons_zero]; first | done | rfl) | rfl) ?_
      refine sx_nil ⟨HLe.pick [1, 3, 4] (by simp) rfl, ?_⟩
      refine tw_nil (hZ _ _ ?_)
      refine awp_forget [(0, _), (5, _), (7, _)] (Kn.cons rfl (Kn.cons rfl (Kn.cons rfl (Kn.nil)))) ?_
      refine awp_seq_region (fun Z hZ => ?_)
      refine sx_fieldAddr rfl tyF104_1 (by first | (simp only [Nat.reduceAdd, Nat.add_zero, Nat.zero_add]; first | done | rfl) | rfl) rfl ?_
      refine sx_loadA 1 rfl rfl tyA47 tyS47 (by first | (simp only [List.length_cons, List.length_nil, Nat.reduceAdd, Nat.zero_add, Nat.add_zero]; first | done | rfl) | rfl) (by first | (simp only [List.take_succ_cons, List.take_zero, List.drop_succ_cons, List.drop_zero, List.cons_append, List.nil_append, List.append_nil, List.length_cons, List.length_nil, Nat.reduceAdd, Nat.zero_add, Nat.add_zero, Value.cells, wrV]; first | done | rfl) | rfl) rfl ?_
      refine sx_fieldAddr rfl tyF104_1 (by first | (simp only [Nat.reduceAdd, Nat.add_zero, Nat.zero_add]; first | done | rfl) | rfl) rfl ?_
      refine sx_store 0 rfl rfl rfl tyS47 (by first | (simp only [Value.cells]; first | done | rfl) | rfl) rfl rfl (by first | (simp only [List.length_cons, List.length_nil, Nat.reduceAdd, Nat.zero_add, Nat.add_zero]; first | done | rfl) | rfl) (by first | (simp only [List.take_succ_cons, List.take_zero, List.drop_succ_cons, List.drop_zero, List.cons_append, List.nil_append, List.append_nil, List.length_cons, List.length_nil, Nat.reduceAdd, Nat.zero_add, Nat.add_zero, Value.cells, wrV]; first | done | rfl) | rfl) (by first | (simp only [List.set_cons_succ, List.set_cons_zero]; first | done | rfl) | rfl) ?_
      refine sx_nil (hZ _ _ ?_)
      refine awp_forget [(0, _), (5, _), (7, _)] (Kn.cons rfl (Kn.cons rfl (Kn.cons rfl (Kn.nil)))) ?_
      refine aww_region _ [(0, true), (1, true), (2, true), (3, true), (4, true), (5, true), (6, true), (7, false)] mixed (by kernel_rfl) (HLe.pick [0, 1, 3] (by simp) (by simp only [pick, List.filterMap_cons, List.filterMap_nil, List.getElem?_cons_succ, List.getElem?_cons_zero]; rfl)) (fun Z hZ => ?_)
      refine tw_p rfl ?_
      refine sv_move rfl rfl ?_
      refine sv_nil ?_
      refine tw_p rfl ?_
      refine sv_nilCheck rfl rfl ?_
      refine sv_nil ?_
      refine tw_p rfl ?_
      refine sv_fieldAddr rfl tyF93_1 (by first | (simp only [Nat.reduceAdd, Nat.add_zero, Nat.zero_add]; first | done | rfl) | rfl) rfl ?_
      refine sv_nil ?_
      refine tw_p rfl ?_
      refine sv_load 2 rfl rfl tyA91 tyS91 rfl rfl ?_
      refine sv_nil ?_
      refine tw_p rfl ?_
      refine sv_fieldAddr rfl tyF104_2 (by first | (simp only [Nat.reduceAdd, Nat.add_zero, Nat.zero_add]; first | done | rfl) | rfl) rfl ?_
      refine sv_nil ?_
      refine tw_p rfl ?_
      refine sv_loadA 1 rfl rfl tyA47 tyS47 (by first | (simp only [List.length_cons, List.length_nil, Nat.reduceAdd, Nat.zero_add, Nat.add_zero]; first | done | rfl) | rfl) (by first | (simp only [List.take_succ_cons, List.take_zero, List.drop_succ_cons, List.drop_zero, List.cons_append, List.nil_append, List.append_nil, List.length_cons, List.length_nil, Nat.reduceAdd, Nat.zero_add, Nat.add_zero, Value.cells, wrV]; first | done | rfl) | rfl) rfl ?_
      refine sv_nil ?_
      refine tw_p rfl ?_
      refine sv_loadA 0 rfl rfl tyA104 tyS104 (by first | (simp only [List.length_cons, List.length_nil, Nat.reduceAdd, Nat.zero_add, Nat.add_zero]; first | done | rfl) | rfl) (by first | (simp only [List.take_succ_cons, List.take_zero, List.drop_succ_cons, List.drop_zero, List.cons_append, List.nil_append, List.append_nil, List.length_cons, List.length_nil, Nat.reduceAdd, Nat.zero_add, Nat.add_zero, Value.cells, wrV]; first | done | rfl) | rfl) rfl ?_
      refine sv_nil ?_
      refine tw_g rfl ?_
      refine sx_mapUpdate 4 keyOk Try.underlying91 x.n { y with o := x.o } rfl rfl rfl rfl rfl ?_
      refine sx_nil ⟨HLe.pick [0, 1, 3] (by simp) rfl, ?_⟩
      refine tw_nil (hZ _ _ ?_)
      refine nx_forget [(5, _)] (Kn.cons rfl (Kn.nil)) ?_
      refine nx_cut _ rfl (Kn.cons rfl Kn.nil) (HLe.pick [1, 3, 4] (by simp) ?_)
      rw [cutB_no c k x y hy h]
      rfl
  rintro c' rfl

  refine awp_seq_region (fun Z hZ => ?_)
  refine sx_fieldAddr rfl tyF104_0 (by first | (simp only [Nat.reduceAdd, Nat.add_zero, Nat.zero_add]; first | done | rfl) | rfl) rfl ?_
  refine sx_load 0 rfl rfl tyA3 tyS3 rfl rfl ?_
  refine sx_assign rfl rfl ?_
  refine sx_nil (hZ _ _ ?_)
  refine awp_forget [(4, _)] (Kn.cons rfl (Kn.nil)) ?_
  refine awp_ret ?_
  exact nx_ret1h _ rfl rfl (HLe.pick [1, 2] (by simp) rfl) ⟨rfl, rfl⟩
theorem pushA_yes (s : CS) (k : Ky) (h : s.M.length = 0) : pushA s k = { s with old := k } := if_pos h
theorem pushA_no (s : CS) (k : Ky) (y : Node) (hy : nd s.M s.new = y) (h : ¬ s.M.length = 0) : pushA s k = { s with M := aput s.M s.new { y with n := k } } := by subst hy; exact if_neg h
theorem push_fn (g b : Nat) (most : Int) (s : CS) (k : Ky) (v : Nat) : Fn Try.prog 48 [ptr g 0, encK k, iq (v : Nat)] (cacheH g b most s)
    fun v' H' => v' = .tuple #[] ∧ H' = cacheH g b most (pushS s k v) := by
  unfold pushS
  refine Fn.enter (N := 52) Try.func48 rfl (by kernel_rfl) rfl (fun w0 => ?_)

  refine awp_seq_region (fun Z hZ => ?_)
  refine sx_box rfl rfl rfl (fun g1 => ?_)
  refine sx_nil (hZ _ _ ?_)
  refine awp_forget [(0, _), (2, _), (4, _)] (Kn.cons rfl (Kn.cons rfl (Kn.cons rfl (Kn.nil)))) ?_
  refine awp_cut (ι := CS) (fun c => [(0, ptr g 0), (2, iq (v : Nat)), (4, ptr g1 0)]) (fun c => [.own g1 47 [uq k.1, uq k.2], cacheE g b most c.old c.new, mapE encK encV b c.M]) (fun c => c = pushA s k) ?_ ?_
  · refine awp_seq_region (fun Z hZ => ?_)
    refine sx_move rfl rfl ?_
    refine sx_nilCheck rfl rfl ?_
    refine sx_fieldAddr rfl tyF93_1 (by first | (simp only [Nat.reduceAdd, Nat.add_zero, Nat.zero_add]; first | done | rfl) | rfl) rfl ?_
    refine sx_load 1 rfl rfl tyA91 tyS91 rfl rfl ?_
    refine sx_lenM 2 Try.underlying91 rfl rfl rfl ?_
    refine sx_eql rfl rfl rfl ?_
    refine sx_nil (hZ _ _ ?_)
    refine awp_forget [(0, _), (2, _), (4, _), (12, _)] (Kn.cons rfl (Kn.cons rfl (Kn.cons rfl (Kn.cons rfl (Kn.nil))))) ?_
    refine awp_cond rfl (fun h => ?_) (fun h => ?_)
    · refine awp_region (fun Z hZ => ?_)
      refine sx_move rfl rfl ?_
      refine sx_loadA 0 rfl rfl tyA47 tyS47 (by first | (simp only [List.length_cons, List.length_nil, Nat.reduceAdd, Nat.zero_add, Nat.add_zero]; first | done | rfl) | rfl) (by first | (simp only [List.take_succ_cons, List.take_zero, List.drop_succ_cons, List.drop_zero, List.cons_append, List.nil_append, List.append_nil, List.length_cons, List.length_nil, Nat.reduceAdd, Nat.zero_add, Nat.add_zero, Value.cells, wrV]; first | done | rfl) | rfl) rfl ?_
      refine sx_nilCheck rfl rfl ?_
      refine sx_fieldAddr rfl tyF93_2 (by first | (simp only [Nat.reduceAdd, Nat.add_zero, Nat.zero_add]; first | done | rfl) | rfl) rfl ?_
      refine sx_store 1 rfl rfl rfl tyS47 (by first | (simp only [Value.cells]; first | done | rfl) | rfl) rfl rfl (by first | (simp only [List.length_cons, List.length_nil, Nat.reduceAdd, Nat.zero_add, Nat.add_zero]; first | done | rfl) | rfl) (by first | (simp only [List.take_succ_cons, List.take_zero, List.drop_succ_cons, List.drop_zero, List.cons_append, List.nil_append, List.append_nil, List.length_cons, List.length_nil, Nat.reduceAdd, Nat.zero_add, Nat.add_zero, Value.cells, wrV]; first | done | rfl) | rfl) (by first | (simp only [List.set_cons_succ, List.set_cons_zero]; first | done | rfl) | rfl) ?_
      refine sx_nil (hZ _ _ ?_)
      refine nx_forget [(0, _), (2, _), (4, _)] (Kn.cons rfl (Kn.cons rfl (Kn.cons rfl (Kn.nil)))) ?_
      refine nx_cut _ rfl (Kn.cons rfl (Kn.cons rfl (Kn.cons rfl Kn.nil))) (HLe.pick [0, 1, 2] (by simp) ?_)
      rw [pushA_yes s k (by simpa using h)]
      rfl
    · obtain ⟨y, hy⟩ : ∃ y, nd s.M s.new = y := ⟨_, rfl⟩
      refine aww_seq_region _ [(0, true), (1, true), (2, true), (3, true), (4, true), (5, true), (6, true), (7, true), (8, true), (9, false), (10, false)] mixed (by kernel_rfl) (HLe.pick [1, 2] (by simp) (by simp only [pick, List.filterMap_cons, List.filterMap_nil, List.getElem?_cons_succ, List.getElem?_cons_zero]; rfl)) (fun Z hZ => ?_)
      refine tw_p rfl ?_
      refine sv_move rfl rfl ?_
      refine sv_nil ?_
      refine tw_p rfl ?_
      refine sv_nilCheck rfl rfl ?_
      refine sv_nil ?_
      refine tw_p rfl ?_
      refine sv_fieldAddr rfl tyF93_1 (by first | (simp only [Nat.reduceAdd, Nat.add_zero, Nat.zero_add]; first | done | rfl) | rfl) rfl ?_
      refine sv_nil ?_
      refine tw_p rfl ?_
      refine sv_load 0 rfl rfl tyA91 tyS91 rfl rfl ?_
      refine sv_nil ?_
      refine tw_p rfl ?_
      refine sv_move rfl rfl ?_
      refine sv_nil ?_
      refine tw_p rfl ?_
      refine sv_nilCheck rfl rfl ?_
      refine sv_nil ?_
      refine tw_p rfl ?_
      refine sv_fieldAddr rfl tyF93_3 (by first | (simp only [Nat.reduceAdd, Nat.add_zero, Nat.zero_add]; first | done | rfl) | rfl) rfl ?_
      refine sv_nil ?_
      refine tw_p rfl ?_
      refine sv_loadA 0 rfl rfl tyA47 tyS47 (by first | (simp only [List.length_cons, List.length_nil, Nat.reduceAdd, Nat.zero_add, Nat.add_zero]; first | done | rfl) | rfl) (by first | (simp only [List.take_succ_cons, List.take_zero, List.drop_succ_cons, List.drop_zero, List.cons_append, List.nil_append, List.append_nil, List.length_cons, List.length_nil, Nat.reduceAdd, Nat.zero_add, Nat.add_zero, Value.cells, wrV]; first | done | rfl) | rfl) rfl ?_
      refine sv_nil ?_
      refine tw_p rfl ?_
      refine sv_lookup 1 keyOk Try.underlying91 zeroNode s.new _ rfl rfl rfl (look_v hy) rfl ?_
      refine sv_nil ?_
      refine tw_g rfl ?_
      refine sx_alloc tyZ104 rfl (fun g2 => ?_)
      refine sx_nil ⟨HLe.pick [2, 3] (by simp) rfl, ?_⟩
      refine tw_g rfl ?_
      refine sx_store 0 rfl rfl rfl tyS104 (by first | (simp only [Value.cells]; first | done | rfl) | rfl) rfl rfl (by first | (simp only [List.length_cons, List.length_nil, Nat.reduceAdd, Nat.zero_add, Nat.add_zero]; first | done | rfl) | rfl) (by first | (simp only [List.take_succ_cons, List.take_zero, List.drop_succ_cons, List.drop_zero, List.cons_append, List.nil_append, List.append_nil, List.length_cons, List.length_nil, Nat.reduceAdd, Nat.zero_add, Nat.add_zero, Value.cells, wrV]; first | done | rfl) | rfl) (by first | (simp only [List.set_cons_succ, List.set_cons_zero]; first | done | rfl) | rfl) ?_
      refine sx_nil ⟨HLe.pick [2, 3] (by simp) rfl, ?_⟩
      refine tw_nil (hZ _ _ ?_)
      refine awp_forget [(0, _), (2, _), (4, _), (6, _)] (Kn.cons rfl (Kn.cons rfl (Kn.cons rfl (Kn.cons rfl (Kn.nil))))) ?_
      refine awp_seq_region (fun Z hZ => ?_)
      refine sx_loadA 1 rfl rfl tyA47 tyS47 (by first | (simp only [List.length_cons, List.length_nil, Nat.reduceAdd, Nat.zero_add, Nat.add_zero]; first | done | rfl) | rfl) (by first | (simp only [List.take_succ_cons, List.take_zero, List.drop_succ_cons, List.drop_zero, List.cons_append, List.nil_append, List.append_nil, List.length_cons, List.length_nil, Nat.reduceAdd, Nat.zero_add, Nat.add_zero, Value.cells, wrV]; first | done | rfl) | rfl) rfl ?_
      refine sx_fieldAddr rfl tyF104_2 (by first | (simp only [Nat.reduceAdd, Nat.add_zero, Nat.zero_add]; first | done | rfl) | rfl) rfl ?_
      refine sx_store 0 rfl rfl rfl tyS47 (by first | (simp only [Value.cells]; first | done | rfl) | rfl) rfl rfl (by first | (simp only [List.length_cons, List.length_nil, Nat.reduceAdd, Nat.zero_add, Nat.add_zero]; first | done | rfl) | rfl) (by first | (simp only [List.take_succ_cons, List.take_zero, List.drop_succ_cons, List.drop_zero, List.cons_append, List.nil_append, List.append_nil, List.length_cons, List.length_nil, Nat.reduceAdd, Nat.zero_add, Nat.add_zero, Value.cells, wrV]; first | done | rfl) | rfl) (by first | (simp only [List.set_cons_succ, List.set_cons_zero]; first | done | rfl) | rfl) ?_
      refine sx_nil (hZ _ _ ?_)
      refine awp_forget [(0, _), (2, _), (4, _), (6, _)] (Kn.cons rfl (Kn.cons rfl (Kn.cons rfl (Kn.cons rfl (Kn.nil))))) ?_
      refine aww_region _ [(0, true), (1, true), (2, true), (3, true), (4, true), (5, true), (6, true), (7, true), (8, true), (9, false)] mixed (by kernel_rfl) (HLe.pick [0, 2] (by simp) (by simp only [pick, List.filterMap_cons, List.filterMap_nil, List.getElem?_cons_succ, List.getElem?_cons_zero]; rfl)) (fun Z hZ => ?_)
      refine tw_p rfl ?_
      refine sv_move rfl rfl ?_
      refine sv_nil ?_
      refine tw_p rfl ?_
      refine sv_nilCheck rfl rfl ?_
      refine sv_nil ?_
      refine tw_p rfl ?_
      refine sv_fieldAddr rfl tyF93_1 (by first | (simp only [Nat.reduceAdd, Nat.add_zero, Nat.zero_add]; first | done | rfl) | rfl) rfl ?_
      refine sv_nil ?_
      refine tw_p rfl ?_
      refine sv_load 1 rfl rfl tyA91 tyS91 rfl rfl ?_
      refine sv_nil ?_
      refine tw_p rfl ?_
      refine sv_move rfl rfl ?_
      refine sv_nil ?_
      refine tw_p rfl ?_
      refine sv_nilCheck rfl rfl ?_
      refine sv_nil ?_
      refine tw_p rfl ?_
      refine sv_fieldAddr rfl tyF93_3 (by first | (simp only [Nat.reduceAdd, Nat.add_zero, Nat.zero_add]; first | done | rfl) | rfl) rfl ?_
      refine sv_nil ?_
      refine tw_p rfl ?_
      refine sv_loadA 1 rfl rfl tyA47 tyS47 (by first | (simp only [List.length_cons, List.length_nil, Nat.reduceAdd, Nat.zero_add, Nat.add_zero]; first | done | rfl) | rfl) (by first | (simp only [List.take_succ_cons, List.take_zero, List.drop_succ_cons, List.drop_zero, List.cons_append, List.nil_append, List.append_nil, List.length_cons, List.length_nil, Nat.reduceAdd, Nat.zero_add, Nat.add_zero, Value.cells, wrV]; first | done | rfl) | rfl) rfl ?_
      refine sv_nil ?_
      refine tw_p rfl ?_
      refine sv_loadA 0 rfl rfl tyA104 tyS104 (by first | (simp only [List.length_cons, List.length_nil, Nat.reduceAdd, Nat.zero_add, Nat.add_zero]; first | done | rfl) | rfl) (by first | (simp only [List.take_succ_cons, List.take_zero, List.drop_succ_cons, List.drop_zero, List.cons_append, List.nil_append, List.append_nil, List.length_cons, List.length_nil, Nat.reduceAdd, Nat.zero_add, Nat.add_zero, Value.cells, wrV]; first | done | rfl) | rfl) rfl ?_
      refine sv_nil ?_
      refine tw_g rfl ?_
      refine sx_mapUpdate 3 keyOk Try.underlying91 s.new { y with n := k } rfl rfl rfl rfl rfl ?_
      refine sx_nil ⟨HLe.pick [0, 2] (by simp) rfl, ?_⟩
      refine tw_nil (hZ _ _ ?_)
      refine nx_forget [(0, _), (2, _), (4, _)] (Kn.cons rfl (Kn.cons rfl (Kn.cons rfl (Kn.nil)))) ?_
      refine nx_cut _ rfl (Kn.cons rfl (Kn.cons rfl (Kn.cons rfl Kn.nil))) (HLe.pick [1, 2, 3] (by simp) ?_)
      rw [pushA_no s k y hy (by simpa using h)]
      rfl
  rintro c rfl
  generalize pushA s k = c

  refine aww_seq_region _ [(0, true), (1, true), (2, true), (3, true), (4, true), (5, true), (6, true), (7, true), (8, true), (9, true), (10, true), (11, false)] mixed (by kernel_rfl) (HLe.pick [0, 1] (by simp) (by simp only [pick, List.filterMap_cons, List.filterMap_nil, List.getElem?_cons_succ, List.getElem?_cons_zero]; rfl)) (fun Z hZ => ?_)
  refine tw_p rfl ?_
  refine sv_move rfl rfl ?_
  refine sv_nil ?_
  refine tw_p rfl ?_
  refine sv_nilCheck rfl rfl ?_
  refine sv_nil ?_
  refine tw_p rfl ?_
  refine sv_fieldAddr rfl tyF93_1 (by first | (simp only [Nat.reduceAdd, Nat.add_zero, Nat.zero_add]; first | done | rfl) | rfl) rfl ?_
  refine sv_nil ?_
  refine tw_p rfl ?_
  refine sv_load 1 rfl rfl tyA91 tyS91 rfl rfl ?_
  refine sv_nil ?_
  refine tw_p rfl ?_
  refine sv_loadA 0 rfl rfl tyA47 tyS47 (by first | (simp only [List.length_cons, List.length_nil, Nat.reduceAdd, Nat.zero_add, Nat.add_zero]; first | done | rfl) | rfl) (by first | (simp only [List.take_succ_cons, List.take_zero, List.drop_succ_cons, List.drop_zero, List.cons_append, List.nil_append, List.append_nil, List.length_cons, List.length_nil, Nat.reduceAdd, Nat.zero_add, Nat.add_zero, Value.cells, wrV]; first | done | rfl) | rfl) rfl ?_
  refine sv_nil ?_
  refine tw_p rfl ?_
  refine sv_move rfl rfl ?_
  refine sv_nil ?_
  refine tw_p rfl ?_
  refine sv_move rfl rfl ?_
  refine sv_nil ?_
  refine tw_p rfl ?_
  refine sv_nilCheck rfl rfl ?_
  refine sv_nil ?_
  refine tw_p rfl ?_
  refine sv_fieldAddr rfl tyF93_3 (by first | (simp only [Nat.reduceAdd, Nat.add_zero, Nat.zero_add]; first | done | rfl) | rfl) rfl ?_
  refine sv_nil ?_
  refine tw_p rfl ?_
  refine sv_loadA 1 rfl rfl tyA47 tyS47 (by first | (simp only [List.length_cons, List.length_nil, Nat.reduceAdd, Nat.zero_add, Nat.add_zero]; first | done | rfl) | rfl) (by first | (simp only [List.take_succ_cons, List.take_zero, List.drop_succ_cons, List.drop_zero, List.cons_append, List.nil_append, List.append_nil, List.length_cons, List.length_nil, Nat.reduceAdd, Nat.zero_add, Nat.add_zero, Value.cells, wrV]; first | done | rfl) | rfl) rfl ?_
  refine sv_nil ?_
  refine tw_p rfl ?_
  refine sv_build tyZ104 tyP104 rfl rfl (by first | (simp only [List.take_succ_cons, List.take_zero, List.drop_succ_cons, List.drop_zero, List.cons_append, List.nil_append, List.append_nil, List.length_cons, List.length_nil, Nat.reduceAdd, Nat.zero_add, Nat.add_zero, Value.cells, wrV, zrep_one, List.replicate_succ, List.replicate_zero, Nat.reduceMul, Nat.zero_mul]; first | done | rfl) | rfl) rfl ?_
  refine sv_nil ?_
  refine tw_g rfl ?_
  refine sx_mapUpdate 2 keyOk Try.underlying91 k ⟨v, c.new, (0, 0)⟩ rfl rfl rfl rfl rfl ?_
  refine sx_nil ⟨HLe.pick [0, 1] (by simp) rfl, ?_⟩
  refine tw_nil (hZ _ _ ?_)
  refine awp_forget [(0, _), (4, _)] (Kn.cons rfl (Kn.cons rfl (Kn.nil))) ?_
  refine awp_region (fun Z hZ => ?_)
  refine sx_move rfl rfl ?_
  refine sx_loadA 0 rfl rfl tyA47 tyS47 (by first | (simp only [List.length_cons, List.length_nil, Nat.reduceAdd, Nat.zero_add, Nat.add_zero]; first | done | rfl) | rfl) (by first | (simp only [List.take_succ_cons, List.take_zero, List.drop_succ_cons, List.drop_zero, List.cons_append, List.nil_append, List.append_nil, List.length_cons, List.length_nil, Nat.reduceAdd, Nat.zero_add, Nat.add_zero, Value.cells, wrV]; first | done | rfl) | rfl) rfl ?_
  refine sx_nilCheck rfl rfl ?_
  refine sx_fieldAddr rfl tyF93_3 (by first | (simp only [Nat.reduceAdd, Nat.add_zero, Nat.zero_add]; first | done | rfl) | rfl) rfl ?_
  refine sx_store 1 rfl rfl rfl tyS47 (by first | (simp only [Value.cells]; first | done | rfl) | rfl) rfl rfl (by first | (simp only [List.length_cons, List.length_nil, Nat.reduceAdd, Nat.zero_add, Nat.add_zero]; first | done | rfl) | rfl) (by first | (simp only [List.take_succ_cons, List.take_zero, List.drop_succ_cons, List.drop_zero, List.cons_append, List.nil_append, List.append_nil, List.length_cons, List.length_nil, Nat.reduceAdd, Nat.zero_add, Nat.add_zero, Value.cells, wrV]; first | done | rfl) | rfl) (by first | (simp only [List.set_cons_succ, List.set_cons_zero]; first | done | rfl) | rfl) ?_
  refine sx_nil (hZ _ _ ?_)
  refine nx_forget [] (Kn.nil) ?_
  exact nx_end0h _ rfl (HLe.pick [1, 2] (by simp) rfl) ⟨rfl, rfl⟩
end Go.Proofs.Ytjelakmndcecoaa.LI
