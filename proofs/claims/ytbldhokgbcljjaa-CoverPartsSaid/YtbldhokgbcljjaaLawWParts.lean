/- CoverParts. No conditions. -/
import Derived.Test.YtbldhokgbcljjaaCw5
import Derived.Test.YtbldhokgbcljjaaMw2
import Derived.Test.YtbldhokgbcljjaaSxO
namespace Go.Proofs.Ytbldhokgbcljjaa
open Go.RowKit
set_option linter.unusedVariables false
set_option linter.unusedSimpArgs false
set_option maxRecDepth 100000
theorem cparts05_fn (r : Rc) (t : Int) : Fn Try.prog 10 [r.val, iq t] [] fun v _ => v = .bool true := by
  obtain ⟨L, e, hR, hc, -⟩ := spans_both r 4096
  have hl := hR.len
  rcases hR with ⟨he, hL0, _⟩ | ⟨rfl, Zm, A, B, C, D, hr, _, _, hdn, _⟩
  · subst hL0
    refine Fn.enter (N := 106) Try.func10 rfl (by kernel_rfl) rfl (fun w0 => ?_)

    refine awp_seq_region (fun Z hZ => ?_)
    refine sx_box rfl rfl rfl (fun g1 => ?_)
    refine sx_assign rfl rfl ?_
    refine sx_nil (hZ _ _ ?_)
    refine awp_forget [(1, _), (2, _)] (Kn.cons rfl (Kn.cons rfl (Kn.nil))) ?_

    refine awp_seq_region (fun Z hZ => ?_)
    first | refine sx_loadA 0 rfl rfl tyA61 tyS61 (by first | (simp only [List.length_cons, List.length_nil, Nat.reduceAdd, Nat.zero_add, Nat.add_zero]; first | done | rfl) | rfl) (by first | (simp only [List.take_succ_cons, List.take_zero, List.drop_succ_cons, List.drop_zero, List.cons_append, List.nil_append, List.append_nil, List.length_cons, List.length_nil, Nat.reduceAdd, Nat.zero_add, Nat.add_zero, Value.cells, wrV]; first | done | rfl) | rfl) rfl ?_
    refine sx_callIT (hc) rfl rfl (fun A1 c1 hA1 => ?_)
    refine sx_move rfl rfl ?_
    refine sx_extract rfl rfl rfl ?_
    refine sx_extract rfl rfl rfl ?_
    refine sx_assign rfl rfl ?_
    refine sx_assign rfl rfl ?_
    refine sx_nil (hZ _ _ ?_)
    refine awp_forget [(1, _), (2, _), (5, _), (6, _)] (Kn.cons rfl (Kn.cons rfl (Kn.cons rfl (Kn.cons rfl (Kn.nil))))) ?_
    refine awp_seq ?_
    refine awp_seq_region (fun Z hZ => ?_)
    refine sx_move rfl rfl ?_
    refine sx_neq rfl rfl rfl ?_
    refine sx_move rfl rfl ?_
    refine sx_force 20 rfl true (by first | rfl | (simp; done) | (simp; omega) | (simp; assumption)) ?_
    refine sx_off rfl rfl rfl rfl rfl ?_
    refine sx_off rfl rfl rfl rfl rfl ?_
    refine sx_off rfl rfl rfl rfl rfl ?_
    refine sx_off rfl rfl rfl rfl rfl ?_
    refine sx_off rfl rfl rfl rfl rfl ?_
    refine sx_pick rfl rfl rfl ?_
    refine sx_move rfl rfl ?_
    refine sx_force 27 rfl true (by first | rfl | (simp; done) | (simp; omega) | (simp; assumption)) ?_
    refine sx_off rfl rfl rfl rfl rfl ?_
    refine sx_off rfl rfl rfl rfl rfl ?_
    refine sx_off rfl rfl rfl rfl rfl ?_
    refine sx_off rfl rfl rfl rfl rfl ?_
    refine sx_pick rfl rfl rfl ?_
    refine sx_move rfl rfl ?_
    refine sx_force 33 rfl true (by first | rfl | (simp; done) | (simp; omega) | (simp; assumption)) ?_
    refine sx_off rfl rfl rfl rfl rfl ?_
    refine sx_off rfl rfl rfl rfl rfl ?_
    refine sx_off rfl rfl rfl rfl rfl ?_
    refine sx_off rfl rfl rfl rfl rfl ?_
    refine sx_pick rfl rfl rfl ?_
    refine sx_nil (hZ _ _ ?_)
    refine awp_forget [(1, _), (2, _), (5, _), (6, _), (38, _)] (Kn.cons rfl (Kn.cons rfl (Kn.cons rfl (Kn.cons rfl (Kn.cons rfl (Kn.nil)))))) ?_
    refine awp_cond rfl (fun h2 => ?_) (fun h2 => ?_)
    · refine awp_seq_region (fun Z hZ => ?_)
      refine sx_move rfl rfl ?_
      refine sx_len Try.underlying24 rfl rfl ?_
      refine sx_eql rfl rfl rfl ?_
      refine sx_move rfl rfl ?_
      refine sx_force 42 rfl true (by first | rfl | (simp; done) | (simp; omega) | (simp; assumption)) ?_
      refine sx_on rfl rfl rfl ?_
      refine sx_move rfl rfl ?_
      refine sx_on rfl rfl rfl ?_
      refine sx_neq rfl rfl rfl ?_
      refine sx_pick rfl rfl rfl ?_
      refine sx_move rfl rfl ?_
      refine sx_force 46 rfl true (by first | rfl | (simp; done) | (simp; omega) | (simp; assumption)) ?_
      refine sx_on rfl rfl rfl ?_
      refine sx_callP c05wake_fn rfl rfl ?_
      refine sx_pick rfl rfl rfl ?_
      refine sx_move rfl rfl ?_
      refine sx_force 49 rfl true (by first | rfl | (simp; done) | (simp; omega) | (simp; assumption)) ?_
      refine sx_off rfl rfl rfl rfl rfl ?_
      refine sx_off rfl rfl rfl rfl rfl ?_
      refine sx_off rfl rfl rfl rfl rfl ?_
      refine sx_offU rfl rfl rfl rfl ?_
      refine sx_off rfl rfl rfl rfl rfl ?_
      refine sx_pick rfl rfl rfl ?_
      refine sx_assign rfl rfl ?_
      refine sx_nil (hZ _ _ ?_)
      refine awp_forget [(4, _)] (Kn.cons rfl (Kn.nil)) ?_
      refine awp_ret ?_
      repeat (with_reducible refine nx_then_ret ?_)
      exact nx_ret1 rfl rfl rfl
    cases h2
  have hpos := done_pos hdn hr.x hr.y hr.xl hr.yl
  by_cases hin : (A : Int) ≤ t ∧ t < C
  · obtain ⟨m, rfl⟩ : ∃ m : Nat, t = m := ⟨t.toNat, by omega⟩
    have hZ := hr.zo
    have hy := hr.y
    have hxl := hr.xl
    have hyl := hr.yl
    obtain rfl := hr.is_
    have h26 := pow2_le26 hZ
    have ha : (Rc.mk (Zm : Nat) A B (m : Nat) D).Ok Zm A B m D := ⟨rfl, hZ, by omega, hy, by omega, hyl⟩
    have hb : (Rc.mk (Zm : Nat) (m + 1 : Nat) B C D).Ok Zm (m + 1) B C D := ⟨rfl, hZ, by omega, hy, hxl, hyl⟩
    obtain ⟨M, f, hRM, hcM, -⟩ := spans_both (Rc.mk (Zm : Nat) A B (m : Nat) D) 4096
    obtain ⟨K, g, hRK, hcK, -⟩ := spans_both (Rc.mk (Zm : Nat) (m + 1 : Nat) B C D) 4096
    have hlM := hRM.len
    have hlK := hRK.len
    have hsM := hRM.sps
    have hsK := hRK.sps
    have w1 : f = 21 ∨ (f = 0 ∧ DoneQ Zm (RIn A B m D) (4 ^ Zm) M) := by
      rcases hRM with ⟨_, _, h | h | h⟩ | ⟨h, Z1, a1, b1, c1, d1, h1, _, _, h2, _⟩
      · omega
      · exact absurd ha.chk h.2.2.1
      · exact .inl h.2.2.1
      · have e := h1.is_
        injection e with e1 e2 e3 e4 e5
        obtain rfl : Zm = Z1 := by omega
        obtain rfl : A = a1 := by omega
        obtain rfl : B = b1 := by omega
        obtain rfl : m = c1 := by omega
        obtain rfl : D = d1 := by omega
        exact .inr ⟨h, h2⟩
    have w2 : g = 21 ∨ (g = 0 ∧ DoneQ Zm (RIn (m + 1) B C D) (4 ^ Zm) K) := by
      rcases hRK with ⟨_, _, h | h | h⟩ | ⟨h, Z1, a1, b1, c1, d1, h1, _, _, h2, _⟩
      · omega
      · exact absurd hb.chk h.2.2.1
      · exact .inl h.2.2.1
      · have e := h1.is_
        injection e with e1 e2 e3 e4 e5
        obtain rfl : Zm = Z1 := by omega
        obtain rfl : m + 1 = a1 := by omega
        obtain rfl : B = b1 := by omega
        obtain rfl : C = c1 := by omega
        obtain rfl : D = d1 := by omega
        exact .inr ⟨h, h2⟩
    refine Fn.enter (N := 106) Try.func10 rfl (by kernel_rfl) rfl (fun w0 => ?_)

    refine awp_seq_region (fun Z hZ => ?_)
    refine sx_box rfl rfl rfl (fun g1 => ?_)
    refine sx_assign rfl rfl ?_
    refine sx_nil (hZ _ _ ?_)
    refine awp_forget [(1, _), (2, _)] (Kn.cons rfl (Kn.cons rfl (Kn.nil))) ?_

    refine awp_seq_region (fun Z hZ => ?_)
    first | refine sx_loadA 0 rfl rfl tyA61 tyS61 (by first | (simp only [List.length_cons, List.length_nil, Nat.reduceAdd, Nat.zero_add, Nat.add_zero]; first | done | rfl) | rfl) (by first | (simp only [List.take_succ_cons, List.take_zero, List.drop_succ_cons, List.drop_zero, List.cons_append, List.nil_append, List.append_nil, List.length_cons, List.length_nil, Nat.reduceAdd, Nat.zero_add, Nat.add_zero, Value.cells, wrV]; first | done | rfl) | rfl) rfl ?_
    refine sx_callIT (hc) rfl rfl (fun A1 c1 hA1 => ?_)
    refine sx_move rfl rfl ?_
    refine sx_extract rfl rfl rfl ?_
    refine sx_extract rfl rfl rfl ?_
    refine sx_assign rfl rfl ?_
    refine sx_assign rfl rfl ?_
    refine sx_nil (hZ _ _ ?_)
    refine awp_forget [(1, _), (2, _), (5, _), (6, _)] (Kn.cons rfl (Kn.cons rfl (Kn.cons rfl (Kn.cons rfl (Kn.nil))))) ?_
    refine awp_seq ?_
    refine awp_seq_region (fun Z hZ => ?_)
    refine sx_move rfl rfl ?_
    refine sx_neq rfl rfl rfl ?_
    refine sx_move rfl rfl ?_
    refine sx_force 20 rfl false (by first | rfl | (simp; done) | (simp; omega) | (simp; assumption)) ?_
    refine sx_on rfl rfl rfl ?_
    refine sx_fieldAddr rfl tyF61_1 (by first | (simp only [Nat.reduceAdd, Nat.add_zero, Nat.zero_add]; first | done | rfl) | rfl) rfl ?_
    refine sx_on rfl rfl rfl ?_
    first | refine sx_load 0 rfl rfl tyA3 tyS3 rfl rfl ?_
    refine sx_on rfl rfl rfl ?_
    refine sx_fieldAddr rfl tyF61_3 (by first | (simp only [Nat.reduceAdd, Nat.add_zero, Nat.zero_add]; first | done | rfl) | rfl) rfl ?_
    refine sx_on rfl rfl rfl ?_
    first | refine sx_load 0 rfl rfl tyA3 tyS3 rfl rfl ?_
    refine sx_on rfl rfl rfl ?_
    refine sx_geq rfl rfl rfl ?_
    refine sx_pick rfl rfl rfl ?_
    refine sx_move rfl rfl ?_
    refine sx_force 27 rfl false (by first | rfl | (simp; done) | (simp; omega) | (simp; assumption)) ?_
    refine sx_on rfl rfl rfl ?_
    refine sx_move rfl rfl ?_
    refine sx_on rfl rfl rfl ?_
    refine sx_fieldAddr rfl tyF61_1 (by first | (simp only [Nat.reduceAdd, Nat.add_zero, Nat.zero_add]; first | done | rfl) | rfl) rfl ?_
    refine sx_on rfl rfl rfl ?_
    first | refine sx_load 0 rfl rfl tyA3 tyS3 rfl rfl ?_
    refine sx_on rfl rfl rfl ?_
    refine sx_lss rfl rfl rfl ?_
    refine sx_pick rfl rfl rfl ?_
    refine sx_move rfl rfl ?_
    refine sx_force 33 rfl false (by first | rfl | (simp; done) | (simp; omega) | (simp; assumption)) ?_
    refine sx_on rfl rfl rfl ?_
    refine sx_move rfl rfl ?_
    refine sx_on rfl rfl rfl ?_
    refine sx_fieldAddr rfl tyF61_3 (by first | (simp only [Nat.reduceAdd, Nat.add_zero, Nat.zero_add]; first | done | rfl) | rfl) rfl ?_
    refine sx_on rfl rfl rfl ?_
    first | refine sx_load 0 rfl rfl tyA3 tyS3 rfl rfl ?_
    refine sx_on rfl rfl rfl ?_
    refine sx_geq rfl rfl rfl ?_
    refine sx_pick rfl rfl rfl ?_
    refine sx_nil (hZ _ _ ?_)
    refine awp_forget [(1, _), (2, _), (5, _), (6, _), (38, _)] (Kn.cons rfl (Kn.cons rfl (Kn.cons rfl (Kn.cons rfl (Kn.cons rfl (Kn.nil)))))) ?_
    refine awp_cond rfl (fun h2 => ?_) (fun h2 => ?_)
    · exact absurd h2 (by simp; omega)
    refine awp_skip ?_
    with_reducible refine nx_normal ?_
    refine awp_heap (.own g1 61 (Rc.mk (Zm : Nat) A B C D).cells :: roE A1 (scells L)) (HLe.refl _) ?_
    refine awr_seq_region (fun j : Nat × Nat => [(1, iq (m : Nat)), (5, .slice A1 L.length c1), (7, ptr j.1 0), (8, ptr j.2 0)]) (fun j => .own j.2 61 (Rc.mk (Zm : Nat) A B C D).cells :: .own j.1 61 (Rc.mk (Zm : Nat) A B C D).cells :: roE A1 (scells L)) (fun j => True) _ [2, 3, 4, 5] (Tr.step (0, true) (Tr.step (1, true) (Tr.fork (Tr.step (2, false) (Tr.step (3, false) (Tr.step (4, false) (Tr.step (5, false) Tr.nil)))) (Tr.step (3, false) (Tr.step (2, false) (Tr.step (4, false) (Tr.step (5, false) Tr.nil))))))) mixed (by kernel_rfl) (HLe.pick [0] (by simp) (by simp only [pick, List.filterMap_cons, List.filterMap_nil, List.getElem?_cons_succ, List.getElem?_cons_zero]; rfl)) ?_ ?_
    · refine tt_p rfl ?_
      first | refine sv_loadA 0 rfl rfl tyA61 tyS61 (by first | (simp only [List.length_cons, List.length_nil, Nat.reduceAdd, Nat.zero_add, Nat.add_zero]; first | done | rfl) | rfl) (by first | (simp only [List.take_succ_cons, List.take_zero, List.drop_succ_cons, List.drop_zero, List.cons_append, List.nil_append, List.append_nil, List.length_cons, List.length_nil, Nat.reduceAdd, Nat.zero_add, Nat.add_zero, Value.cells, wrV]; first | done | rfl) | rfl) rfl ?_
      refine sv_nil ?_
      refine tt_p rfl ?_
      first | refine sv_loadA 0 rfl rfl tyA61 tyS61 (by first | (simp only [List.length_cons, List.length_nil, Nat.reduceAdd, Nat.zero_add, Nat.add_zero]; first | done | rfl) | rfl) (by first | (simp only [List.take_succ_cons, List.take_zero, List.drop_succ_cons, List.drop_zero, List.cons_append, List.nil_append, List.append_nil, List.length_cons, List.length_nil, Nat.reduceAdd, Nat.zero_add, Nat.add_zero, Value.cells, wrV]; first | done | rfl) | rfl) rfl ?_
      refine sv_nil ?_
      refine tt_fork ?_ ?_
      · refine tt_g rfl ?_
        refine sx_alloc tyZ61 rfl (fun g2 => ?_)
        refine sx_nil ⟨HLe.pick [1] (by simp) rfl, ?_⟩
        refine tt_g rfl ?_
        refine sx_alloc tyZ61 rfl (fun g3 => ?_)
        refine sx_nil ⟨HLe.pick [2] (by simp) rfl, ?_⟩
        refine tt_g rfl ?_
        refine sx_store 1 rfl rfl rfl tyS61 (by first | (simp only [Value.cells]; first | done | rfl) | rfl) rfl rfl (by first | (simp only [List.length_cons, List.length_nil, Nat.reduceAdd, Nat.zero_add, Nat.add_zero]; first | done | rfl) | rfl) (by first | (simp only [List.take_succ_cons, List.take_zero, List.drop_succ_cons, List.drop_zero, List.cons_append, List.nil_append, List.append_nil, List.length_cons, List.length_nil, Nat.reduceAdd, Nat.zero_add, Nat.add_zero, Value.cells, wrV]; first | done | rfl) | rfl) (by first | (simp only [List.set_cons_succ, List.set_cons_zero]; first | done | rfl) | rfl) ?_
        refine sx_nil ⟨HLe.pick [2] (by simp) rfl, ?_⟩
        refine tt_g rfl ?_
        refine sx_store 0 rfl rfl rfl tyS61 (by first | (simp only [Value.cells]; first | done | rfl) | rfl) rfl rfl (by first | (simp only [List.length_cons, List.length_nil, Nat.reduceAdd, Nat.zero_add, Nat.add_zero]; first | done | rfl) | rfl) (by first | (simp only [List.take_succ_cons, List.take_zero, List.drop_succ_cons, List.drop_zero, List.cons_append, List.nil_append, List.append_nil, List.length_cons, List.length_nil, Nat.reduceAdd, Nat.zero_add, Nat.add_zero, Value.cells, wrV]; first | done | rfl) | rfl) (by first | (simp only [List.set_cons_succ, List.set_cons_zero]; first | done | rfl) | rfl) ?_
        refine sx_nil ⟨HLe.pick [2] (by simp) rfl, ?_⟩
        refine tt_nil ?_
        exact ⟨(g2, g3), trivial, Kn.cons rfl (Kn.cons rfl (Kn.cons rfl (Kn.cons rfl Kn.nil))), HLe.sub (.cons_cons _ (.cons_cons _ (.cons _ (List.Sublist.refl _))))⟩
      · refine tt_g rfl ?_
        refine sx_alloc tyZ61 rfl (fun g2 => ?_)
        refine sx_nil ⟨HLe.pick [1] (by simp) rfl, ?_⟩
        refine tt_g rfl ?_
        refine sx_alloc tyZ61 rfl (fun g3 => ?_)
        refine sx_nil ⟨HLe.pick [2] (by simp) rfl, ?_⟩
        refine tt_g rfl ?_
        refine sx_store 0 rfl rfl rfl tyS61 (by first | (simp only [Value.cells]; first | done | rfl) | rfl) rfl rfl (by first | (simp only [List.length_cons, List.length_nil, Nat.reduceAdd, Nat.zero_add, Nat.add_zero]; first | done | rfl) | rfl) (by first | (simp only [List.take_succ_cons, List.take_zero, List.drop_succ_cons, List.drop_zero, List.cons_append, List.nil_append, List.append_nil, List.length_cons, List.length_nil, Nat.reduceAdd, Nat.zero_add, Nat.add_zero, Value.cells, wrV]; first | done | rfl) | rfl) (by first | (simp only [List.set_cons_succ, List.set_cons_zero]; first | done | rfl) | rfl) ?_
        refine sx_nil ⟨HLe.pick [2] (by simp) rfl, ?_⟩
        refine tt_g rfl ?_
        refine sx_store 1 rfl rfl rfl tyS61 (by first | (simp only [Value.cells]; first | done | rfl) | rfl) rfl rfl (by first | (simp only [List.length_cons, List.length_nil, Nat.reduceAdd, Nat.zero_add, Nat.add_zero]; first | done | rfl) | rfl) (by first | (simp only [List.take_succ_cons, List.take_zero, List.drop_succ_cons, List.drop_zero, List.cons_append, List.nil_append, List.append_nil, List.length_cons, List.length_nil, Nat.reduceAdd, Nat.zero_add, Nat.add_zero, Value.cells, wrV]; first | done | rfl) | rfl) (by first | (simp only [List.set_cons_succ, List.set_cons_zero]; first | done | rfl) | rfl) ?_
        refine sx_nil ⟨HLe.pick [2] (by simp) rfl, ?_⟩
        refine tt_nil ?_
        exact ⟨(g3, g2), trivial, Kn.cons rfl (Kn.cons rfl (Kn.cons rfl (Kn.cons rfl Kn.nil))), (HLe.permS (List.Perm.swap _ _ _)).trans (HLe.sub (.cons_cons _ (.cons_cons _ (.cons _ (List.Sublist.refl _)))))⟩
    rintro ⟨q1, q2⟩ -

    refine awp_seq_region (fun Z hZ => ?_)
    refine sx_move rfl rfl ?_
    refine sx_move rfl rfl ?_
    refine sx_add rfl rfl ((m + 1 : Nat) : Int) (by rw [IntWalk.i64_in _ (by omega)]; omega) rfl ?_
    refine sx_fieldAddr rfl tyF61_3 (by first | (simp only [Nat.reduceAdd, Nat.add_zero, Nat.zero_add]; first | done | rfl) | rfl) rfl ?_
    refine sx_store1 1 rfl rfl rfl tyS3 rfl (by first | (simp only [List.length_cons, List.length_nil, Nat.reduceAdd, Nat.zero_add, Nat.add_zero]; first | done | rfl) | rfl) (by first | (simp only [List.set_cons_succ, List.set_cons_zero, Nat.reduceAdd, Nat.add_zero, Nat.zero_add]; first | done | rfl) | rfl) (by first | (simp only [List.set_cons_succ, List.set_cons_zero]; first | done | rfl) | rfl) ?_
    refine sx_fieldAddr rfl tyF61_1 (by first | (simp only [Nat.reduceAdd, Nat.add_zero, Nat.zero_add]; first | done | rfl) | rfl) rfl ?_
    refine sx_store1 0 rfl rfl rfl tyS3 rfl (by first | (simp only [List.length_cons, List.length_nil, Nat.reduceAdd, Nat.zero_add, Nat.add_zero]; first | done | rfl) | rfl) (by first | (simp only [List.set_cons_succ, List.set_cons_zero, Nat.reduceAdd, Nat.add_zero, Nat.zero_add]; first | done | rfl) | rfl) (by first | (simp only [List.set_cons_succ, List.set_cons_zero]; first | done | rfl) | rfl) ?_
    refine sx_nil (hZ _ _ ?_)
    refine awp_forget [(5, _), (7, _), (8, _)] (Kn.cons rfl (Kn.cons rfl (Kn.cons rfl (Kn.nil)))) ?_
    refine awp_seq_region (fun Z hZ => ?_)
    refine sx_loadA 1 rfl rfl tyA61 tyS61 (by first | (simp only [List.length_cons, List.length_nil, Nat.reduceAdd, Nat.zero_add, Nat.add_zero]; first | done | rfl) | rfl) (by first | (simp only [List.take_succ_cons, List.take_zero, List.drop_succ_cons, List.drop_zero, List.cons_append, List.nil_append, List.append_nil, List.length_cons, List.length_nil, Nat.reduceAdd, Nat.zero_add, Nat.add_zero, Value.cells, wrV]; first | done | rfl) | rfl) rfl ?_
    refine sx_callIT (hcM) rfl rfl (fun A2 c2 hA2 => ?_)
    refine sx_move rfl rfl ?_
    refine sx_extract rfl rfl rfl ?_
    refine sx_extract rfl rfl rfl ?_
    refine sx_assign rfl rfl ?_
    refine sx_assign rfl rfl ?_
    refine sx_nil (hZ _ _ ?_)
    refine awp_forget [(5, _), (8, _), (9, _), (10, _)] (Kn.cons rfl (Kn.cons rfl (Kn.cons rfl (Kn.cons rfl (Kn.nil))))) ?_
    refine awp_seq_region (fun Z hZ => ?_)
    refine sx_loadA 0 rfl rfl tyA61 tyS61 (by first | (simp only [List.length_cons, List.length_nil, Nat.reduceAdd, Nat.zero_add, Nat.add_zero]; first | done | rfl) | rfl) (by first | (simp only [List.take_succ_cons, List.take_zero, List.drop_succ_cons, List.drop_zero, List.cons_append, List.nil_append, List.append_nil, List.length_cons, List.length_nil, Nat.reduceAdd, Nat.zero_add, Nat.add_zero, Value.cells, wrV]; first | done | rfl) | rfl) rfl ?_
    refine sx_callIT (hcK) rfl rfl (fun A3 c3 hA3 => ?_)
    refine sx_move rfl rfl ?_
    refine sx_extract rfl rfl rfl ?_
    refine sx_extract rfl rfl rfl ?_
    refine sx_assign rfl rfl ?_
    refine sx_assign rfl rfl ?_
    refine sx_nil (hZ _ _ ?_)
    refine awp_forget [(5, _), (9, _), (10, _), (11, _), (12, _)] (Kn.cons rfl (Kn.cons rfl (Kn.cons rfl (Kn.cons rfl (Kn.cons rfl (Kn.nil)))))) ?_
    rcases w1 with rfl | ⟨rfl, w1⟩
    · refine awp_seq ?_
      refine awp_seq_region (fun Z hZ => ?_)
      refine sx_move rfl rfl ?_
      refine sx_neq rfl rfl rfl ?_
      refine sx_move rfl rfl ?_
      refine sx_force 75 rfl true (by first | rfl | (simp; done) | (simp; omega) | (simp; assumption)) ?_
      refine sx_off rfl rfl rfl rfl rfl ?_
      refine sx_off rfl rfl rfl rfl rfl ?_
      refine sx_pick rfl rfl rfl ?_
      refine sx_nil (hZ _ _ ?_)
      refine awp_forget [(5, _), (9, _), (10, _), (11, _), (12, _), (78, _)] (Kn.cons rfl (Kn.cons rfl (Kn.cons rfl (Kn.cons rfl (Kn.cons rfl (Kn.cons rfl (Kn.nil))))))) ?_
      refine awp_cond rfl (fun h8 => ?_) (fun h8 => ?_)
      · rcases w2 with rfl | ⟨rfl, w2⟩
        · refine awp_seq_region (fun Z hZ => ?_)
          refine sx_move rfl rfl ?_
          refine sx_eql rfl rfl rfl ?_
          refine sx_move rfl rfl ?_
          refine sx_force 81 rfl false (by first | rfl | (simp; done) | (simp; omega) | (simp; assumption)) ?_
          refine sx_on rfl rfl rfl ?_
          refine sx_move rfl rfl ?_
          refine sx_on rfl rfl rfl ?_
          refine sx_eql rfl rfl rfl ?_
          refine sx_pick rfl rfl rfl ?_
          refine sx_move rfl rfl ?_
          refine sx_force 85 rfl true (by first | rfl | (simp; done) | (simp; omega) | (simp; assumption)) ?_
          refine sx_on rfl rfl rfl ?_
          refine sx_move rfl rfl ?_
          refine sx_on rfl rfl rfl ?_
          refine sx_eql rfl rfl rfl ?_
          refine sx_on rfl rfl rfl ?_
          refine sx_move rfl rfl ?_
          refine sx_force 88 rfl false (by first | rfl | (simp; done) | (simp; omega) | (simp; assumption)) ?_
          refine sx_on rfl rfl rfl ?_
          refine sx_move rfl rfl ?_
          refine sx_on rfl rfl rfl ?_
          refine sx_eql rfl rfl rfl ?_
          refine sx_on rfl rfl rfl ?_
          refine sx_pick rfl rfl rfl ?_
          refine sx_pick rfl rfl rfl ?_
          refine sx_move rfl rfl ?_
          refine sx_force 93 rfl true (by first | rfl | (simp; done) | (simp; omega) | (simp; assumption)) ?_
          refine sx_on rfl rfl rfl ?_
          refine sx_callP c05wake_fn rfl rfl ?_
          refine sx_pick rfl rfl rfl ?_
          refine sx_assign rfl rfl ?_
          refine sx_nil (hZ _ _ ?_)
          refine awp_forget [(4, _)] (Kn.cons rfl (Kn.nil)) ?_
          refine awp_ret ?_
          repeat (with_reducible refine nx_then_ret ?_)
          exact nx_ret1 rfl rfl rfl
        · refine awp_seq_region (fun Z hZ => ?_)
          refine sx_move rfl rfl ?_
          refine sx_eql rfl rfl rfl ?_
          refine sx_move rfl rfl ?_
          refine sx_force 81 rfl false (by first | rfl | (simp; done) | (simp; omega) | (simp; assumption)) ?_
          refine sx_on rfl rfl rfl ?_
          refine sx_move rfl rfl ?_
          refine sx_on rfl rfl rfl ?_
          refine sx_eql rfl rfl rfl ?_
          refine sx_pick rfl rfl rfl ?_
          refine sx_move rfl rfl ?_
          refine sx_force 85 rfl true (by first | rfl | (simp; done) | (simp; omega) | (simp; assumption)) ?_
          refine sx_on rfl rfl rfl ?_
          refine sx_move rfl rfl ?_
          refine sx_on rfl rfl rfl ?_
          refine sx_eql rfl rfl rfl ?_
          refine sx_on rfl rfl rfl ?_
          refine sx_move rfl rfl ?_
          refine sx_force 88 rfl true (by first | rfl | (simp; done) | (simp; omega) | (simp; assumption)) ?_
          refine sx_off rfl rfl rfl rfl rfl ?_
          refine sx_off rfl rfl rfl rfl rfl ?_
          refine sx_on rfl rfl rfl ?_
          refine sx_pick rfl rfl rfl ?_
          refine sx_pick rfl rfl rfl ?_
          refine sx_move rfl rfl ?_
          refine sx_force 93 rfl true (by first | rfl | (simp; done) | (simp; omega) | (simp; assumption)) ?_
          refine sx_on rfl rfl rfl ?_
          refine sx_callP c05wake_fn rfl rfl ?_
          refine sx_pick rfl rfl rfl ?_
          refine sx_assign rfl rfl ?_
          refine sx_nil (hZ _ _ ?_)
          refine awp_forget [(4, _)] (Kn.cons rfl (Kn.nil)) ?_
          refine awp_ret ?_
          repeat (with_reducible refine nx_then_ret ?_)
          exact nx_ret1 rfl rfl rfl
      cases h8
    · rcases w2 with rfl | ⟨rfl, w2⟩
      · refine awp_seq ?_
        refine awp_seq_region (fun Z hZ => ?_)
        refine sx_move rfl rfl ?_
        refine sx_neq rfl rfl rfl ?_
        refine sx_move rfl rfl ?_
        refine sx_force 75 rfl false (by first | rfl | (simp; done) | (simp; omega) | (simp; assumption)) ?_
        refine sx_on rfl rfl rfl ?_
        refine sx_move rfl rfl ?_
        refine sx_on rfl rfl rfl ?_
        refine sx_neq rfl rfl rfl ?_
        refine sx_pick rfl rfl rfl ?_
        refine sx_nil (hZ _ _ ?_)
        refine awp_forget [(5, _), (9, _), (10, _), (11, _), (12, _), (78, _)] (Kn.cons rfl (Kn.cons rfl (Kn.cons rfl (Kn.cons rfl (Kn.cons rfl (Kn.cons rfl (Kn.nil))))))) ?_
        refine awp_cond rfl (fun h8 => ?_) (fun h8 => ?_)
        · refine awp_seq_region (fun Z hZ => ?_)
          refine sx_move rfl rfl ?_
          refine sx_eql rfl rfl rfl ?_
          refine sx_move rfl rfl ?_
          refine sx_force 81 rfl true (by first | rfl | (simp; done) | (simp; omega) | (simp; assumption)) ?_
          refine sx_off rfl rfl rfl rfl rfl ?_
          refine sx_off rfl rfl rfl rfl rfl ?_
          refine sx_pick rfl rfl rfl ?_
          refine sx_move rfl rfl ?_
          refine sx_force 85 rfl true (by first | rfl | (simp; done) | (simp; omega) | (simp; assumption)) ?_
          refine sx_on rfl rfl rfl ?_
          refine sx_move rfl rfl ?_
          refine sx_on rfl rfl rfl ?_
          refine sx_eql rfl rfl rfl ?_
          refine sx_on rfl rfl rfl ?_
          refine sx_move rfl rfl ?_
          refine sx_force 88 rfl false (by first | rfl | (simp; done) | (simp; omega) | (simp; assumption)) ?_
          refine sx_on rfl rfl rfl ?_
          refine sx_move rfl rfl ?_
          refine sx_on rfl rfl rfl ?_
          refine sx_eql rfl rfl rfl ?_
          refine sx_on rfl rfl rfl ?_
          refine sx_pick rfl rfl rfl ?_
          refine sx_pick rfl rfl rfl ?_
          refine sx_move rfl rfl ?_
          refine sx_force 93 rfl true (by first | rfl | (simp; done) | (simp; omega) | (simp; assumption)) ?_
          refine sx_on rfl rfl rfl ?_
          refine sx_callP c05wake_fn rfl rfl ?_
          refine sx_pick rfl rfl rfl ?_
          refine sx_assign rfl rfl ?_
          refine sx_nil (hZ _ _ ?_)
          refine awp_forget [(4, _)] (Kn.cons rfl (Kn.nil)) ?_
          refine awp_ret ?_
          repeat (with_reducible refine nx_then_ret ?_)
          exact nx_ret1 rfl rfl rfl
        cases h8
      · have hun := done_parts hdn w1 w2 (by omega) (by omega)
        refine awp_seq ?_
        refine awp_seq_region (fun Z hZ => ?_)
        refine sx_move rfl rfl ?_
        refine sx_neq rfl rfl rfl ?_
        refine sx_move rfl rfl ?_
        refine sx_force 75 rfl false (by first | rfl | (simp; done) | (simp; omega) | (simp; assumption)) ?_
        refine sx_on rfl rfl rfl ?_
        refine sx_move rfl rfl ?_
        refine sx_on rfl rfl rfl ?_
        refine sx_neq rfl rfl rfl ?_
        refine sx_pick rfl rfl rfl ?_
        refine sx_nil (hZ _ _ ?_)
        refine awp_forget [(5, _), (9, _), (10, _), (11, _), (12, _), (78, _)] (Kn.cons rfl (Kn.cons rfl (Kn.cons rfl (Kn.cons rfl (Kn.cons rfl (Kn.cons rfl (Kn.nil))))))) ?_
        refine awp_cond rfl (fun h8 => ?_) (fun h8 => ?_)
        · cases h8
        refine awp_skip ?_
        with_reducible refine nx_normal ?_
        refine awp_seq_meet [(4, .bool true)] [] (fun Z hZ => ?_) ?_
        · refine sx_move rfl rfl ?_
          refine sx_move rfl rfl ?_
          refine sx_callIE (roE A2 (scells M) ++ roE A3 (scells K)) (union_fn A2 A3 c2 c3 M K hA2 hA3 (by omega) (by omega) hsM hsK) rfl (HLe.twoS (by with_reducible repeat (first | exact List.Sublist.refl _ | exact List.nil_sublist _ | exact List.sublist_append_right _ _ | refine List.Sublist.trans ?_ (List.sublist_append_left _ _) | exact List.Sublist.cons_cons _ (List.nil_sublist _) | refine List.Sublist.cons _ ?_)) (by with_reducible repeat (first | exact List.Sublist.refl _ | exact List.nil_sublist _ | exact List.sublist_append_right _ _ | refine List.Sublist.trans ?_ (List.sublist_append_left _ _) | exact List.Sublist.cons_cons _ (List.nil_sublist _) | refine List.Sublist.cons _ ?_)) (Ro.roE _ _)) ((Ro.roE _ _).append (Ro.roE _ _)) rfl (fun A4 c4 hA4 => ?_)
          rw [hun] at hA4 ⊢
          refine sx_callIE (roE A4 (scells L)) (sback_fn A4 c4 L _ hA4.arg (fun _ => rfl) (Ro.roE _ _) (by omega)) rfl (HLe.sub (by with_reducible repeat (first | exact List.Sublist.refl _ | exact List.nil_sublist _ | exact List.sublist_append_right _ _ | refine List.Sublist.trans ?_ (List.sublist_append_left _ _) | exact List.Sublist.cons_cons _ (List.nil_sublist _) | refine List.Sublist.cons _ ?_))) (Ro.roE _ _) rfl (fun A5 c5 hA5 => ?_)
          refine sx_move rfl rfl ?_
          refine sx_callIE (roE A1 (scells L)) (sback_fn A1 c1 L _ hA1.arg (fun _ => rfl) (Ro.roE _ _) (by omega)) rfl (HLe.sub (by with_reducible repeat (first | exact List.Sublist.refl _ | exact List.nil_sublist _ | exact List.sublist_append_right _ _ | refine List.Sublist.trans ?_ (List.sublist_append_left _ _) | exact List.Sublist.cons_cons _ (List.nil_sublist _) | refine List.Sublist.cons _ ?_))) (Ro.roE _ _) rfl (fun A6 c6 hA6 => ?_)
          refine sx_callV (roE A5 (scells L) ++ roE A6 (scells L)) (same05_fn A5 c5 L hA5 (by omega) A6 c6 L hA6 (by omega)) rfl (HLe.twoS (by with_reducible repeat (first | exact List.Sublist.refl _ | exact List.nil_sublist _ | exact List.sublist_append_right _ _ | refine List.Sublist.trans ?_ (List.sublist_append_left _ _) | exact List.Sublist.cons_cons _ (List.nil_sublist _) | refine List.Sublist.cons _ ?_)) (by with_reducible repeat (first | exact List.Sublist.refl _ | exact List.nil_sublist _ | exact List.sublist_append_right _ _ | refine List.Sublist.trans ?_ (List.sublist_append_left _ _) | exact List.Sublist.cons_cons _ (List.nil_sublist _) | refine List.Sublist.cons _ ?_)) (Ro.roE _ _)) ((Ro.roE _ _).append (Ro.roE _ _)) rfl ?_
          rw [sameS_self]
          refine sx_move rfl rfl ?_
          refine sx_force 103 rfl true (by first | rfl | (simp; done)) ?_
          refine sx_on rfl rfl rfl ?_
          refine sx_callP c05wake_fn rfl rfl ?_
          refine sx_pick rfl rfl rfl ?_
          refine sx_assign rfl rfl ?_
          refine sx_nil (hZ _ _ ?_ ?_)
          · exact Kn.cons rfl Kn.nil
          · exact HLe.sub (List.nil_sublist _)
        refine awp_ret ?_
        exact nx_ret1 rfl rfl rfl
  · have hlen : ¬ ((L.length : Int) = 0) := by omega
    have hne : ¬ L = [] := fun h => by rw [h] at hpos; exact absurd hpos (by decide)
    obtain rfl := hr.is_
    refine Fn.enter (N := 106) Try.func10 rfl (by kernel_rfl) rfl (fun w0 => ?_)

    refine awp_seq_region (fun Z hZ => ?_)
    refine sx_box rfl rfl rfl (fun g1 => ?_)
    refine sx_assign rfl rfl ?_
    refine sx_nil (hZ _ _ ?_)
    refine awp_forget [(1, _), (2, _)] (Kn.cons rfl (Kn.cons rfl (Kn.nil))) ?_

    refine awp_seq_region (fun Z hZ => ?_)
    first | refine sx_loadA 0 rfl rfl tyA61 tyS61 (by first | (simp only [List.length_cons, List.length_nil, Nat.reduceAdd, Nat.zero_add, Nat.add_zero]; first | done | rfl) | rfl) (by first | (simp only [List.take_succ_cons, List.take_zero, List.drop_succ_cons, List.drop_zero, List.cons_append, List.nil_append, List.append_nil, List.length_cons, List.length_nil, Nat.reduceAdd, Nat.zero_add, Nat.add_zero, Value.cells, wrV]; first | done | rfl) | rfl) rfl ?_
    refine sx_callIT (hc) rfl rfl (fun A1 c1 hA1 => ?_)
    refine sx_move rfl rfl ?_
    refine sx_extract rfl rfl rfl ?_
    refine sx_extract rfl rfl rfl ?_
    refine sx_assign rfl rfl ?_
    refine sx_assign rfl rfl ?_
    refine sx_nil (hZ _ _ ?_)
    refine awp_forget [(1, _), (2, _), (5, _), (6, _)] (Kn.cons rfl (Kn.cons rfl (Kn.cons rfl (Kn.cons rfl (Kn.nil))))) ?_
    refine awp_seq ?_
    refine awp_seq_meet [(1, iq t), (2, ptr g1 0), (5, .slice A1 L.length c1), (6, iq 0), (38, .bool true)] [] (fun Z hZ => ?_) ?_
    · refine sx_move rfl rfl ?_
      refine sx_neq rfl rfl rfl ?_
      refine sx_move rfl rfl ?_
      refine sx_split 20 rfl (fun hb2 => ?_) (fun hb2 => ?_)
      · refine sx_off rfl rfl rfl rfl rfl ?_
        refine sx_off rfl rfl rfl rfl rfl ?_
        refine sx_off rfl rfl rfl rfl rfl ?_
        refine sx_off rfl rfl rfl rfl rfl ?_
        refine sx_off rfl rfl rfl rfl rfl ?_
        refine sx_pick rfl rfl rfl ?_
        refine sx_move rfl rfl ?_
        refine sx_off rfl rfl rfl rfl rfl ?_
        refine sx_off rfl rfl rfl rfl rfl ?_
        refine sx_off rfl rfl rfl rfl rfl ?_
        refine sx_off rfl rfl rfl rfl rfl ?_
        refine sx_pick rfl rfl rfl ?_
        refine sx_move rfl rfl ?_
        refine sx_off rfl rfl rfl rfl rfl ?_
        refine sx_off rfl rfl rfl rfl rfl ?_
        refine sx_off rfl rfl rfl rfl rfl ?_
        refine sx_off rfl rfl rfl rfl rfl ?_
        refine sx_pick rfl rfl rfl ?_
        refine sx_nil (hZ _ _ ?_ ?_)
        · exact Kn.cons rfl (Kn.cons rfl (Kn.cons rfl (Kn.cons rfl (Kn.cons (congrArg some (congrArg Value.bool (by first | rfl | (simp at *; done) | (exfalso; simp at *; omega) | (simp_all; done)))) Kn.nil))))
        · exact HLe.sub (List.nil_sublist _)
      · refine sx_on rfl rfl rfl ?_
        refine sx_fieldAddr rfl tyF61_1 (by first | (simp only [Nat.reduceAdd, Nat.add_zero, Nat.zero_add]; first | done | rfl) | rfl) rfl ?_
        refine sx_on rfl rfl rfl ?_
        first | refine sx_load 0 rfl rfl tyA3 tyS3 rfl rfl ?_
        refine sx_on rfl rfl rfl ?_
        refine sx_fieldAddr rfl tyF61_3 (by first | (simp only [Nat.reduceAdd, Nat.add_zero, Nat.zero_add]; first | done | rfl) | rfl) rfl ?_
        refine sx_on rfl rfl rfl ?_
        first | refine sx_load 0 rfl rfl tyA3 tyS3 rfl rfl ?_
        refine sx_on rfl rfl rfl ?_
        refine sx_geq rfl rfl rfl ?_
        refine sx_pick rfl rfl rfl ?_
        refine sx_move rfl rfl ?_
        refine sx_split 27 rfl (fun hb9 => ?_) (fun hb9 => ?_)
        · refine sx_off rfl rfl rfl rfl rfl ?_
          refine sx_off rfl rfl rfl rfl rfl ?_
          refine sx_off rfl rfl rfl rfl rfl ?_
          refine sx_off rfl rfl rfl rfl rfl ?_
          refine sx_pick rfl rfl rfl ?_
          refine sx_move rfl rfl ?_
          refine sx_off rfl rfl rfl rfl rfl ?_
          refine sx_off rfl rfl rfl rfl rfl ?_
          refine sx_off rfl rfl rfl rfl rfl ?_
          refine sx_off rfl rfl rfl rfl rfl ?_
          refine sx_pick rfl rfl rfl ?_
          refine sx_nil (hZ _ _ ?_ ?_)
          · exact Kn.cons rfl (Kn.cons rfl (Kn.cons rfl (Kn.cons rfl (Kn.cons (congrArg some (congrArg Value.bool (by first | rfl | (simp at *; done) | (exfalso; simp at *; omega) | (simp_all; done)))) Kn.nil))))
          · exact HLe.sub (List.nil_sublist _)
        · refine sx_on rfl rfl rfl ?_
          refine sx_move rfl rfl ?_
          refine sx_on rfl rfl rfl ?_
          refine sx_fieldAddr rfl tyF61_1 (by first | (simp only [Nat.reduceAdd, Nat.add_zero, Nat.zero_add]; first | done | rfl) | rfl) rfl ?_
          refine sx_on rfl rfl rfl ?_
          first | refine sx_load 0 rfl rfl tyA3 tyS3 rfl rfl ?_
          refine sx_on rfl rfl rfl ?_
          refine sx_lss rfl rfl rfl ?_
          refine sx_pick rfl rfl rfl ?_
          refine sx_move rfl rfl ?_
          refine sx_split 33 rfl (fun hb15 => ?_) (fun hb15 => ?_)
          · refine sx_off rfl rfl rfl rfl rfl ?_
            refine sx_off rfl rfl rfl rfl rfl ?_
            refine sx_off rfl rfl rfl rfl rfl ?_
            refine sx_off rfl rfl rfl rfl rfl ?_
            refine sx_pick rfl rfl rfl ?_
            refine sx_nil (hZ _ _ ?_ ?_)
            · exact Kn.cons rfl (Kn.cons rfl (Kn.cons rfl (Kn.cons rfl (Kn.cons (congrArg some (congrArg Value.bool (by first | rfl | (simp at *; done) | (exfalso; simp at *; omega) | (simp_all; done)))) Kn.nil))))
            · exact HLe.sub (List.nil_sublist _)
          · refine sx_on rfl rfl rfl ?_
            refine sx_move rfl rfl ?_
            refine sx_on rfl rfl rfl ?_
            refine sx_fieldAddr rfl tyF61_3 (by first | (simp only [Nat.reduceAdd, Nat.add_zero, Nat.zero_add]; first | done | rfl) | rfl) rfl ?_
            refine sx_on rfl rfl rfl ?_
            first | refine sx_load 0 rfl rfl tyA3 tyS3 rfl rfl ?_
            refine sx_on rfl rfl rfl ?_
            refine sx_geq rfl rfl rfl ?_
            refine sx_pick rfl rfl rfl ?_
            refine sx_nil (hZ _ _ ?_ ?_)
            · exact Kn.cons rfl (Kn.cons rfl (Kn.cons rfl (Kn.cons rfl (Kn.cons (congrArg some (congrArg Value.bool (by first | rfl | (simp at *; done) | (exfalso; simp at *; omega) | (simp_all; done)))) Kn.nil))))
            · exact HLe.sub (List.nil_sublist _)
    refine awp_cond rfl (fun h2 => ?_) (fun h2 => ?_)
    · refine awp_seq_region (fun Z hZ => ?_)
      refine sx_move rfl rfl ?_
      refine sx_len Try.underlying24 rfl rfl ?_
      refine sx_eql rfl rfl rfl ?_
      refine sx_move rfl rfl ?_
      refine sx_force 42 rfl false (by first | rfl | (simp; done) | (simp; omega) | (simp; assumption)) ?_
      refine sx_off rfl rfl rfl rfl rfl ?_
      refine sx_off rfl rfl rfl rfl rfl ?_
      refine sx_pick rfl rfl rfl ?_
      refine sx_move rfl rfl ?_
      refine sx_force 46 rfl false (by first | rfl | (simp; done) | (simp; omega) | (simp; assumption)) ?_
      refine sx_off rfl rfl rfl rfl rfl ?_
      refine sx_pick rfl rfl rfl ?_
      refine sx_move rfl rfl ?_
      refine sx_force 49 rfl false (by first | rfl | (simp; done) | (simp; omega) | (simp; assumption)) ?_
      refine sx_on rfl rfl rfl ?_
      refine sx_move rfl rfl ?_
      refine sx_on rfl rfl rfl ?_
      refine sx_eql rfl rfl rfl ?_
      refine sx_on rfl rfl rfl ?_
      refine sx_move rfl rfl ?_
      refine sx_force 52 rfl true (by first | rfl | (simp; done) | (simp; omega) | (simp; assumption)) ?_
      refine sx_on rfl rfl rfl ?_
      refine sx_callP c05wake_fn rfl rfl ?_
      refine sx_on rfl rfl rfl ?_
      refine sx_pick rfl rfl rfl ?_
      refine sx_pick rfl rfl rfl ?_
      refine sx_assign rfl rfl ?_
      refine sx_nil (hZ _ _ ?_)
      refine awp_forget [(4, _)] (Kn.cons rfl (Kn.nil)) ?_
      refine awp_ret ?_
      repeat (with_reducible refine nx_then_ret ?_)
      exact nx_ret1 rfl rfl rfl
    cases h2
theorem leaves_rcP : leaves Try.prog 5 61 = some [.int .i64, .int .i64, .int .i64, .int .i64, .int .i64] := by kernel_rfl
theorem CoverParts_read {H : Type} {enc : TypeId × Value → H} (w : World) {base : Nat} {v0 v1 : Value} {d0 d1 : DataW H} {p0 p1 : List MemPlace}
    (k0 : Value.okWide Try.prog w .any base 61 v0) (h0 : DataW.Trod enc Try.prog w 0 (fun _ => true) true 61 v0 d0 p0)
    (k1 : Value.okWide Try.prog w .any base 3 v1) (h1 : DataW.Trod enc Try.prog w 0 (fun _ => true) true 3 v1 d1 p1) :
    Calls Try.prog 10 #[v0, v1] w fun e w' => e = .returned (.bool true) ∧ Bel w w' := by
  obtain ⟨cs0, rfl, a⟩ := open_struct 5 Try.underlying61 leaves_rcP k0 h0
  obtain ⟨rz, c1, rfl, _, a1⟩ := alike_i64 a
  obtain ⟨ra, c2, rfl, _, a2⟩ := alike_i64 a1
  obtain ⟨rb, c3, rfl, _, a3⟩ := alike_i64 a2
  obtain ⟨rc, c4, rfl, _, a4⟩ := alike_i64 a3
  obtain ⟨rd, c5, rfl, _, a5⟩ := alike_i64 a4
  cases a5
  obtain ⟨t, rfl, _, _, _⟩ := ChangeShapes.open_int Try.underlying3 k1 h1
  exact (cparts05_fn ⟨rz, ra, rb, rc, rd⟩ t).bel w
namespace coverParts
open Go.ChangeShapes Go.WideShapes Go.ChangeAt Go.RowKit
theorem own : ownKnob Try.prog.godebug = none := by kernel_rfl
theorem laidOut : laidOutB Try.prog = true := by kernel_rfl
set_option maxRecDepth 100000 in
theorem lifted (os : Os) (started : os.Started) (H : Type) (enc : TypeId × Value → H) :
    ReturnsInHanded {} Try.checked os 10 .any (Rows.coverPartsSpec.pre6 enc Try.prog Try.f10 Rows.coverPartsRow.domain false) (Rows.coverPartsSpec.post enc Try.prog Try.f10 false true false false) := by
  refine returnsInHanded_of_change (C := Try.checked) own started (by kernel_rfl) Try.func10
    (ChangeSpec.witness6 (enc := enc) (C := Try.checked) false ⟨#[], #[.agg #[.int .i64 0, .int .i64 0, .int .i64 0, .int .i64 0, .int .i64 0], .int .i64 0], []⟩ 8 (by kernel_rfl) (by kernel_rfl) (by kernel_rfl) (by kernel_rfl)) ?_
  intro W base args ds gs before hval0 hW hcnd _
  have hval : ∀ (j : Nat) t v, Try.f10.params[j]? = some t → args[j]? = some v → Value.okWide Try.prog W .any base t v := hval0
  have hW' := hW
  obtain ⟨p, q, hA0, hV, rfl, hfz, hnd⟩ := hW
  have hA : DataW.TrodAll enc Try.prog W 0 (fun _ => true) true Try.f10.params.toList args.toList ds p := hA0
  rw [Try.params10] at hA hval
  obtain ⟨v0, vs0, d0, ds0, p0, q0, hargs, rfl, rfl, h0, r0⟩ := trodAll_cons hA
  obtain ⟨v1, vs1, d1, ds1, p1, q1, rfl, rfl, rfl, h1, r1⟩ := trodAll_cons r0
  obtain ⟨rfl, rfl, rfl⟩ := trodAll_nil r1
  obtain rfl : args = #[v0, v1] := by cases args; simp_all
  obtain ⟨rfl, rfl⟩ := trodVars_none hV
  have lt0 : ∀ x ∈ p0, x.block < W.heap.size := by obtain ⟨m, hm⟩ := h0; exact DataW.trod_lt m _ _ _ hm
  have lt1 : ∀ x ∈ p1, x.block < W.heap.size := by obtain ⟨m, hm⟩ := h1; exact DataW.trod_lt m _ _ _ hm
  refine (CoverParts_read W (hval 0 61 v0 rfl rfl) h0 (hval 1 3 v1 rfl rfl) h1).mono fun e W' ⟨he, bel0⟩ => ?_
  have bel : Below W.heap.size W W' := bel0
  subst he
  exact ⟨_, rfl, _, _, _, [], _, [], hW', trodAll_mk1 (shut_bool Try.underlying4 _), (trodAll_cons_mk (Below.trod laidOut (by kernel_rfl) (of_decide_eq_true (by kernel_rfl)) h0 bel lt0) (trodAll_cons_mk (Below.trod laidOut (by kernel_rfl) (of_decide_eq_true (by kernel_rfl)) h1 bel lt1) trodAll_mk0)), rfl, bel.frame _, fun h => by cases h⟩
theorem over : Rows.coverPartsRow.holds Try.pinned (OpenSpec.ofChange Rows.coverPartsSpec) :=
  OpenClaim.holds_of_wide 10 Try.f10 rfl rfl rfl rfl rfl rfl rfl ⟨rfl, rfl, rfl, rfl, rfl⟩ rfl rfl rfl rfl rfl (by kernel_rfl) Try.func10 (by kernel_rfl)
    (of_decide_eq_true (by kernel_rfl)) (by unfold Func.isWrapper; first | (rw [if_pos (by decide +kernel)]; kernel_rfl) | (rw [if_neg (by decide +kernel)]; exact ⟨rfl, rfl⟩))
    (fun os started H enc _ => lifted os started H enc)
theorem proved : Rows.CoverPartsSaid := over
#print axioms proved
end coverParts
end Go.Proofs.Ytbldhokgbcljjaa
