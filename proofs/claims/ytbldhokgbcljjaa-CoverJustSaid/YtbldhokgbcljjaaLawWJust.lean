/- CoverJust. No conditions. -/
import Derived.Test.YtbldhokgbcljjaaCw5
import Derived.Test.YtbldhokgbcljjaaMw3
import Derived.Test.YtbldhokgbcljjaaCu4
namespace Go.Proofs.Ytbldhokgbcljjaa
open Go.RowKit
set_option linter.unusedVariables false
set_option linter.unusedSimpArgs false
set_option maxRecDepth 100000
theorem cjust05_fn (r : Rc) (z x y : Int) : Fn Try.prog 12 [r.val, tval z x y] [] fun v _ => v = .bool true := by
  obtain ⟨L, e, hR, hc, -⟩ := spans_both r 4096
  have hl := hR.len
  have hso := hR.sps
  rcases hR with ⟨he, hL0, hw⟩ | ⟨rfl, Zm, A, B, C, D, hr, _, _, hdn, _⟩
  · subst hL0
    have hck := cCheck_fn r
    have hw' : e = 21 ∨ (e ≠ 21 ∧ chkE r = e) := by
      rcases hw with h | h | h
      · omega
      · refine .inr ⟨?_, h.2.2.2.symm⟩
        have := chk_ways r
        omega
      · exact .inl h.2.2.1
    refine Fn.enter (N := 129) Try.func12 rfl (by kernel_rfl) rfl (fun w0 => ?_)

    refine awp_seq_region (fun Z hZ => ?_)
    refine sx_box rfl rfl rfl (fun g1 => ?_)
    refine sx_box rfl rfl rfl (fun g2 => ?_)
    refine sx_assign rfl rfl ?_
    refine sx_nil (hZ _ _ ?_)
    refine awp_forget [(2, _), (3, _)] (Kn.cons rfl (Kn.cons rfl (Kn.nil))) ?_

    refine awp_seq_region (fun Z hZ => ?_)
    first | refine sx_loadA 0 rfl rfl tyA61 tyS61 (by first | (simp only [List.length_cons, List.length_nil, Nat.reduceAdd, Nat.zero_add, Nat.add_zero]; first | done | rfl) | rfl) (by first | (simp only [List.take_succ_cons, List.take_zero, List.drop_succ_cons, List.drop_zero, List.cons_append, List.nil_append, List.append_nil, List.length_cons, List.length_nil, Nat.reduceAdd, Nat.zero_add, Nat.add_zero, Value.cells, wrV]; first | done | rfl) | rfl) rfl ?_ | refine sx_loadA 1 rfl rfl tyA61 tyS61 (by first | (simp only [List.length_cons, List.length_nil, Nat.reduceAdd, Nat.zero_add, Nat.add_zero]; first | done | rfl) | rfl) (by first | (simp only [List.take_succ_cons, List.take_zero, List.drop_succ_cons, List.drop_zero, List.cons_append, List.nil_append, List.append_nil, List.length_cons, List.length_nil, Nat.reduceAdd, Nat.zero_add, Nat.add_zero, Value.cells, wrV]; first | done | rfl) | rfl) rfl ?_
    refine sx_callIT (hc) rfl rfl (fun A1 c1 hA1 => ?_)
    refine sx_move rfl rfl ?_
    refine sx_extract rfl rfl rfl ?_
    refine sx_extract rfl rfl rfl ?_
    refine sx_assign rfl rfl ?_
    refine sx_assign rfl rfl ?_
    refine sx_nil (hZ _ _ ?_)
    refine awp_forget [(2, _), (3, _), (5, _), (6, _)] (Kn.cons rfl (Kn.cons rfl (Kn.cons rfl (Kn.cons rfl (Kn.nil))))) ?_
    refine awp_seq ?_
    refine awp_seq_region (fun Z hZ => ?_)
    refine sx_move rfl rfl ?_
    first | refine sx_neq rfl rfl rfl ?_ | refine sx_sneq rfl rfl rfl ?_
    refine sx_nil (hZ _ _ ?_)
    refine awp_forget [(2, _), (3, _), (5, _), (6, _), (16, _)] (Kn.cons rfl (Kn.cons rfl (Kn.cons rfl (Kn.cons rfl (Kn.cons rfl (Kn.nil)))))) ?_
    first | refine awp_cond rfl (fun h2 => ?_) (fun h2 => ?_) | refine awp_seq (awp_cond rfl (fun h2 => ?_) (fun h2 => ?_))
    · rcases hw' with rfl | ⟨hw1, hw2⟩
      · refine awp_seq_region (fun Z hZ => ?_)
        refine sx_move rfl rfl ?_
        first | refine sx_len Try.underlying24 rfl rfl ?_ | refine sx_lenS Try.underlying24 rfl rfl ?_
        first | refine sx_eql rfl rfl rfl ?_ | refine sx_seql rfl rfl rfl ?_
        refine sx_move rfl rfl ?_
        refine sx_force 20 rfl true (by first | rfl | (simp; done) | (simp; omega) | (simp; assumption)) ?_
        refine sx_on rfl rfl rfl ?_
        refine sx_move rfl rfl ?_
        refine sx_on rfl rfl rfl ?_
        first | refine sx_eql rfl rfl rfl ?_ | refine sx_seql rfl rfl rfl ?_
        refine sx_on rfl rfl rfl ?_
        refine sx_move rfl rfl ?_
        refine sx_force 23 rfl true (by first | rfl | (simp; done) | (simp; omega) | (simp; assumption)) ?_
        refine sx_off rfl rfl rfl rfl rfl ?_
        refine sx_off rfl rfl rfl rfl rfl ?_
        refine sx_off rfl rfl rfl rfl rfl ?_
        refine sx_off rfl rfl rfl rfl rfl ?_
        refine sx_on rfl rfl rfl ?_
        refine sx_pick rfl rfl rfl ?_
        refine sx_pick rfl rfl rfl ?_
        refine sx_move rfl rfl ?_
        refine sx_force 30 rfl true (by first | rfl | (simp; done) | (simp; omega) | (simp; assumption)) ?_
        refine sx_on rfl rfl rfl ?_
        refine sx_callP c05wake_fn rfl rfl ?_
        refine sx_pick rfl rfl rfl ?_
        refine sx_assign rfl rfl ?_
        refine sx_nil (hZ _ _ ?_)
        refine awp_forget [(4, _)] (Kn.cons rfl (Kn.nil)) ?_
        refine awp_ret ?_
        repeat (with_reducible (first | refine nx_then_ret ?_ | refine nx_block_ret ?_ | refine nx_scope_ret ?_))
        exact nx_ret1 rfl rfl rfl
      · rw [hw2] at hck
        refine awp_seq_region (fun Z hZ => ?_)
        refine sx_move rfl rfl ?_
        first | refine sx_len Try.underlying24 rfl rfl ?_ | refine sx_lenS Try.underlying24 rfl rfl ?_
        first | refine sx_eql rfl rfl rfl ?_ | refine sx_seql rfl rfl rfl ?_
        refine sx_move rfl rfl ?_
        refine sx_force 20 rfl true (by first | rfl | (simp; done) | (simp; omega) | (simp; assumption)) ?_
        refine sx_on rfl rfl rfl ?_
        refine sx_move rfl rfl ?_
        refine sx_on rfl rfl rfl ?_
        first | refine sx_eql rfl rfl rfl ?_ | refine sx_seql rfl rfl rfl ?_
        refine sx_on rfl rfl rfl ?_
        refine sx_move rfl rfl ?_
        refine sx_force 23 rfl false (by first | rfl | (simp; done) | (simp; omega) | (simp; assumption)) ?_
        refine sx_on rfl rfl rfl ?_
        refine sx_move rfl rfl ?_
        refine sx_on rfl rfl rfl ?_
        first | refine sx_loadA 0 rfl rfl tyA61 tyS61 (by first | (simp only [List.length_cons, List.length_nil, Nat.reduceAdd, Nat.zero_add, Nat.add_zero]; first | done | rfl) | rfl) (by first | (simp only [List.take_succ_cons, List.take_zero, List.drop_succ_cons, List.drop_zero, List.cons_append, List.nil_append, List.append_nil, List.length_cons, List.length_nil, Nat.reduceAdd, Nat.zero_add, Nat.add_zero, Value.cells, wrV]; first | done | rfl) | rfl) rfl ?_ | refine sx_loadA 1 rfl rfl tyA61 tyS61 (by first | (simp only [List.length_cons, List.length_nil, Nat.reduceAdd, Nat.zero_add, Nat.add_zero]; first | done | rfl) | rfl) (by first | (simp only [List.take_succ_cons, List.take_zero, List.drop_succ_cons, List.drop_zero, List.cons_append, List.nil_append, List.append_nil, List.length_cons, List.length_nil, Nat.reduceAdd, Nat.zero_add, Nat.add_zero, Value.cells, wrV]; first | done | rfl) | rfl) rfl ?_
        refine sx_on rfl rfl rfl ?_
        refine sx_callP hck rfl rfl ?_
        refine sx_on rfl rfl rfl ?_
        first | refine sx_eql rfl rfl rfl ?_ | refine sx_seql rfl rfl rfl ?_
        refine sx_on rfl rfl rfl ?_
        refine sx_pick rfl rfl rfl ?_
        refine sx_pick rfl rfl rfl ?_
        refine sx_move rfl rfl ?_
        refine sx_force 30 rfl true (by first | rfl | (simp; done) | (simp; omega) | (simp; assumption)) ?_
        refine sx_on rfl rfl rfl ?_
        refine sx_callP c05wake_fn rfl rfl ?_
        refine sx_pick rfl rfl rfl ?_
        refine sx_assign rfl rfl ?_
        refine sx_nil (hZ _ _ ?_)
        refine awp_forget [(4, _)] (Kn.cons rfl (Kn.nil)) ?_
        refine awp_ret ?_
        repeat (with_reducible (first | refine nx_then_ret ?_ | refine nx_block_ret ?_ | refine nx_scope_ret ?_))
        exact nx_ret1 rfl rfl rfl
    exact absurd (by simpa using h2) he
  have hpos := done_pos hdn hr.x hr.y hr.xl hr.yl
  have hZ := hr.zo
  have hxl := hr.xl
  have hyl := hr.yl
  have htot : totM L = sizeQ r := by
    rw [hr.size]
    have := hr.sizeLe
    have ht := done_total hdn hxl hyl
    unfold totM
    rw [ht]
    omega
  have hszl : sizeQ r ≤ 4503599627370496 := by rw [hr.size]; exact hr.sizeLe
  have hzoom : ∀ s ∈ L, zoomQ s.a = (Zm : Int) ∧ zoomQ s.b = (Zm : Int) := fun s hs => by
    have h1 := hdn.plain.ok s hs
    have h2 := (hdn.is_ s.a).1 ⟨s, hs, Nat.le_refl _, h1⟩
    have h3 := (hdn.is_ s.b).1 ⟨s, hs, h1, Nat.le_refl _⟩
    exact ⟨zoom_at hZ h2.1 h2.2.1, zoom_at hZ h3.1 h3.2.1⟩
  have hsz := cSize_fn r
  have hhas := cHas_fn r (Zm : Nat) x y
  have hq : placeE (Zm : Nat) x y = 0 → hasQ r (Zm : Nat) x y = decide (inS L (idV (Zm : Nat) x y)) := fun hp => by
    rcases place_ways (Zm : Nat) x y with h | ⟨n, hn, hn2, h⟩ | ⟨n, a, b, hn, rfl, rfl, hn2, ha, hb⟩
    · omega
    · obtain rfl : Zm = n := by omega
      rw [(place_e8 hn2 h).1] at hp
      exact absurd hp (by decide)
    · obtain rfl : Zm = n := by omega
      rw [id_0 hn2 ha hb, Bool.eq_iff_iff, decide_eq_true_iff, done_has hdn ha hb]
      unfold hasQ
      rw [decide_eq_true_iff]
      have hck := hr.chk
      have e := hr.is_
      subst e
      simp only [RIn]
      constructor
      · rintro ⟨_, _, h1, h2, h3, h4⟩
        exact ⟨⟨by omega, by omega⟩, by omega, by omega⟩
      · rintro ⟨⟨h1, h2⟩, h3, h4⟩
        exact ⟨hck, trivial, by omega, by omega, by omega, by omega⟩
  have hrz : r.z = (Zm : Int) := by rw [hr.is_]
  have hid := tID_fn (Zm : Nat) x y
  obtain ⟨id, hidE⟩ : ∃ id, idV (Zm : Nat) x y = id := ⟨_, rfl⟩
  obtain ⟨pe, hpe⟩ : ∃ pe, placeE (Zm : Nat) x y = pe := ⟨_, rfl⟩
  obtain ⟨hb, hhb⟩ : ∃ hb, hasQ r (Zm : Nat) x y = hb := ⟨_, rfl⟩
  obtain ⟨sz, hsz0⟩ : ∃ n, sizeQ r = n := ⟨_, rfl⟩
  rw [hidE, hpe] at hid
  rw [hidE, hpe, hhb] at hq
  rw [hhb] at hhas
  rw [hsz0] at htot hszl hsz
  have hne : ¬ L = [] := fun h => by rw [h] at hpos; exact absurd hpos (by decide)
  obtain rfl := hr.is_
  refine Fn.enter (N := 129) Try.func12 rfl (by kernel_rfl) rfl (fun w0 => ?_)

  refine awp_seq_region (fun Z hZ => ?_)
  refine sx_box rfl rfl rfl (fun g1 => ?_)
  refine sx_box rfl rfl rfl (fun g2 => ?_)
  refine sx_assign rfl rfl ?_
  refine sx_nil (hZ _ _ ?_)
  refine awp_forget [(2, _), (3, _)] (Kn.cons rfl (Kn.cons rfl (Kn.nil))) ?_

  refine awp_seq_region (fun Z hZ => ?_)
  first | refine sx_loadA 0 rfl rfl tyA61 tyS61 (by first | (simp only [List.length_cons, List.length_nil, Nat.reduceAdd, Nat.zero_add, Nat.add_zero]; first | done | rfl) | rfl) (by first | (simp only [List.take_succ_cons, List.take_zero, List.drop_succ_cons, List.drop_zero, List.cons_append, List.nil_append, List.append_nil, List.length_cons, List.length_nil, Nat.reduceAdd, Nat.zero_add, Nat.add_zero, Value.cells, wrV]; first | done | rfl) | rfl) rfl ?_ | refine sx_loadA 1 rfl rfl tyA61 tyS61 (by first | (simp only [List.length_cons, List.length_nil, Nat.reduceAdd, Nat.zero_add, Nat.add_zero]; first | done | rfl) | rfl) (by first | (simp only [List.take_succ_cons, List.take_zero, List.drop_succ_cons, List.drop_zero, List.cons_append, List.nil_append, List.append_nil, List.length_cons, List.length_nil, Nat.reduceAdd, Nat.zero_add, Nat.add_zero, Value.cells, wrV]; first | done | rfl) | rfl) rfl ?_
  refine sx_callIT (hc) rfl rfl (fun A1 c1 hA1 => ?_)
  refine sx_move rfl rfl ?_
  refine sx_extract rfl rfl rfl ?_
  refine sx_extract rfl rfl rfl ?_
  refine sx_assign rfl rfl ?_
  refine sx_assign rfl rfl ?_
  refine sx_nil (hZ _ _ ?_)
  refine awp_forget [(2, _), (3, _), (5, _), (6, _)] (Kn.cons rfl (Kn.cons rfl (Kn.cons rfl (Kn.cons rfl (Kn.nil))))) ?_
  refine awp_seq ?_
  refine awp_seq_region (fun Z hZ => ?_)
  refine sx_move rfl rfl ?_
  first | refine sx_neq rfl rfl rfl ?_ | refine sx_sneq rfl rfl rfl ?_
  refine sx_nil (hZ _ _ ?_)
  refine awp_forget [(2, _), (3, _), (5, _), (6, _), (16, _)] (Kn.cons rfl (Kn.cons rfl (Kn.cons rfl (Kn.cons rfl (Kn.cons rfl (Kn.nil)))))) ?_
  first | refine awp_cond rfl (fun h2 => ?_) (fun h2 => ?_) | refine awp_seq (awp_cond rfl (fun h2 => ?_) (fun h2 => ?_))
  · cases h2
  obtain ⟨gl, ol, rfl⟩ := slIn_pos2 hA1 hpos
  refine awp_skip ?_
  repeat (with_reducible (first | refine nx_block_normal ?_ | refine nx_scope_normal ?_))
  with_reducible first | refine nx_normal ?_ | refine nx_normalM ?_
  refine awp_heap [.own g2 48 (tcells z x y), .own g1 61 (Rc.mk (Zm : Nat) A B C D).cells, .ro gl ol (scells L)] (HLe.refl _) ?_

  refine awp_seq ?_
  refine awq_seq_meet [(2, ptr g1 0), (3, ptr g2 0), (5, .slice (some ⟨gl, ol, none⟩) L.length c1), (48, .bool false)] [.own g2 48 (tcells z x y), .own g1 61 (Rc.mk (Zm : Nat) A B C D).cells, .ro gl ol (scells L)] mixed (by kernel_rfl) (fun Z hZ => ?_) ?_
  · refine sq_move rfl rfl ?_
    refine sq_callV [.ro gl ol (scells L)] (stotal_fn (some ⟨gl, ol, none⟩) c1 L _ hA1.arg (fun _ => rfl) (Ro.roE (some ⟨gl, ol, none⟩) (scells L)) (by omega) hso) rfl (HLe.drop 2 rfl) (Ro.roE (some ⟨gl, ol, none⟩) (scells L)) rfl ?_
    rw [htot]
    first | refine sq_loadA 0 rfl rfl tyA61 tyS61 (by first | (simp only [List.length_cons, List.length_nil, Nat.reduceAdd, Nat.zero_add, Nat.add_zero]; first | done | rfl) | rfl) (by first | (simp only [List.take_succ_cons, List.take_zero, List.drop_succ_cons, List.drop_zero, List.cons_append, List.nil_append, List.append_nil, List.length_cons, List.length_nil, Nat.reduceAdd, Nat.zero_add, Nat.add_zero, Value.cells, wrV]; first | done | rfl) | rfl) rfl ?_ | refine sq_loadA 1 rfl rfl tyA61 tyS61 (by first | (simp only [List.length_cons, List.length_nil, Nat.reduceAdd, Nat.zero_add, Nat.add_zero]; first | done | rfl) | rfl) (by first | (simp only [List.take_succ_cons, List.take_zero, List.drop_succ_cons, List.drop_zero, List.cons_append, List.nil_append, List.append_nil, List.length_cons, List.length_nil, Nat.reduceAdd, Nat.zero_add, Nat.add_zero, Value.cells, wrV]; first | done | rfl) | rfl) rfl ?_ | refine sq_loadA 2 rfl rfl tyA61 tyS61 (by first | (simp only [List.length_cons, List.length_nil, Nat.reduceAdd, Nat.zero_add, Nat.add_zero]; first | done | rfl) | rfl) (by first | (simp only [List.take_succ_cons, List.take_zero, List.drop_succ_cons, List.drop_zero, List.cons_append, List.nil_append, List.append_nil, List.length_cons, List.length_nil, Nat.reduceAdd, Nat.zero_add, Nat.add_zero, Value.cells, wrV]; first | done | rfl) | rfl) rfl ?_
    refine sq_callP (hsz) rfl rfl ?_
    refine sq_conv rfl rfl rfl (sz : Int) (by rw [IntWalk.u64_in _ (by omega)]) rfl ?_
    first | refine sq_neq rfl rfl rfl ?_ | refine sq_sneq rfl rfl rfl ?_
    refine sq_move rfl rfl ?_
    refine sq_force 39 rfl false (by first | rfl | (simp; done) | (simp; assumption) | (simp; omega)) ?_
    refine sq_on rfl rfl rfl ?_
    refine sq_move rfl rfl ?_
    refine sq_on rfl rfl rfl ?_
    first | refine sq_len Try.underlying24 rfl rfl ?_ | refine sq_lenS Try.underlying24 rfl rfl ?_
    refine sq_on rfl rfl rfl ?_
    first | refine sq_eql rfl rfl rfl ?_ | refine sq_seql rfl rfl rfl ?_
    refine sq_pick rfl rfl rfl ?_
    refine sq_move rfl rfl ?_
    refine sq_force 44 rfl false (by first | rfl | (simp; done) | (simp; assumption) | (simp; omega)) ?_
    refine sq_on rfl rfl rfl ?_
    refine sq_move rfl rfl ?_
    refine sq_on rfl rfl rfl ?_
    first | refine sq_len Try.underlying24 rfl rfl ?_ | refine sq_lenS Try.underlying24 rfl rfl ?_
    refine sq_on rfl rfl rfl ?_
    first | refine sq_gtr rfl rfl rfl ?_ | refine sq_sgtr rfl rfl rfl ?_
    refine sq_pick rfl rfl rfl ?_
    refine sq_nil (hZ _ _ ?_ ?_)
    · exact Kn.cons rfl (Kn.cons rfl (Kn.cons rfl (Kn.cons (congrArg some (congrArg Value.bool (by first | rfl | (simp; omega)))) Kn.nil)))
    · exact HLe.refl _
  first | refine awp_cond rfl (fun h4 => ?_) (fun h4 => ?_) | refine awp_seq (awp_cond rfl (fun h4 => ?_) (fun h4 => ?_))
  · cases h4
  refine awp_skip ?_
  repeat (with_reducible (first | refine nx_block_normal ?_ | refine nx_scope_normal ?_))
  with_reducible first | refine nx_normal ?_ | refine nx_normalM ?_
  refine awp_seq ?_
  refine awp_seq_region (fun Z hZ => ?_)
  refine sx_assign rfl rfl ?_
  refine sx_nil (hZ _ _ ?_)
  refine awp_forget [(2, _), (3, _), (5, _), (7, _)] (Kn.cons rfl (Kn.cons rfl (Kn.cons rfl (Kn.cons rfl (Kn.nil))))) ?_
  refine awp_block ?_
  refine awp_loop (ι := Nat) (fun i => [(2, ptr g1 0), (3, ptr g2 0), (5, .slice (some ⟨gl, ol, none⟩) L.length c1), (7, iq (i : Nat))]) (fun _ => [.own g2 48 (tcells z x y), .own g1 61 (Rc.mk (Zm : Nat) A B C D).cells, .ro gl ol (scells L)]) (fun i => i ≤ L.length) (fun i => L.length - i) 0 (Nat.zero_le _) (Kn.cons rfl (Kn.cons rfl (Kn.cons rfl (Kn.cons rfl Kn.nil)))) (HLe.refl _) ?_
  intro i hi
  refine awp_seq ?_
  refine awp_seq_region (fun Z hZ => ?_)
  refine sx_move rfl rfl ?_
  refine sx_move rfl rfl ?_
  first | refine sx_len Try.underlying24 rfl rfl ?_ | refine sx_lenS Try.underlying24 rfl rfl ?_
  first | refine sx_lss rfl rfl rfl ?_ | refine sx_slss rfl rfl rfl ?_
  refine sx_nil (hZ _ _ ?_)
  refine awp_forget [(2, _), (3, _), (5, _), (7, _), (52, _)] (Kn.cons rfl (Kn.cons rfl (Kn.cons rfl (Kn.cons rfl (Kn.cons rfl (Kn.nil)))))) ?_
  first | refine awp_cond rfl (fun h7 => ?_) (fun h7 => ?_) | refine awp_seq (awp_cond rfl (fun h7 => ?_) (fun h7 => ?_))
  · have hlt : i < L.length := by simpa using h7
    obtain ⟨s, hs⟩ : ∃ s, L[i]? = some s := ⟨_, List.getElem?_eq_getElem hlt⟩
    have hsm := List.mem_of_getElem? hs
    have hsk := hdn.plain.ok s hsm
    obtain ⟨hz1, hz2⟩ := hzoom s hsm
    obtain ⟨so1, so2⟩ := hso s hsm
    have zf1 := zoom_fn s.a so1
    have zf2 := zoom_fn s.b so2
    rw [hz1] at zf1
    rw [hz2] at zf2
    refine awp_skip ?_
    repeat (with_reducible (first | refine nx_block_normal ?_ | refine nx_scope_normal ?_))
    with_reducible first | refine nx_normal ?_ | refine nx_normalM ?_
    refine awp_seq (awp_block ?_)
    rcases Nat.eq_zero_or_pos i with h0 | h0
    · subst h0
      refine awq_seq_region mixed (by kernel_rfl) (fun Z hZ => ?_)
      refine sq_move rfl rfl ?_
      refine sq_move rfl rfl ?_
      refine sq_indexAddr (ol + 0 * 2) Try.underlying24 tyS43 rfl rfl (by omega) (by simp) rfl ?_
      refine sq_fieldAddr rfl tyF43_0 (by first | (simp only [Nat.reduceAdd, Nat.add_zero, Nat.zero_add]; first | done | rfl) | rfl) rfl ?_
      refine sq_loadRo 2 rfl rfl (0 * 2) (by omega) tyA36 tyS36 (scells_a hs) rfl ?_
      refine sq_move rfl rfl ?_
      refine sq_move rfl rfl ?_
      refine sq_indexAddr (ol + 0 * 2) Try.underlying24 tyS43 rfl rfl (by omega) (by simp) rfl ?_
      refine sq_fieldAddr rfl tyF43_1 (by first | (simp only [Nat.reduceAdd, Nat.add_zero, Nat.zero_add]; first | done | rfl) | rfl) rfl ?_
      refine sq_loadRo 2 rfl rfl (0 * 2 + 1) (by omega) tyA36 tyS36 (scells_b hs) rfl ?_
      first | refine sq_gtr rfl rfl rfl ?_ | refine sq_sgtr rfl rfl rfl ?_
      refine sq_move rfl rfl ?_
      refine sq_force 66 rfl false (by first | rfl | (simp; done) | (simp; omega) | (simp; assumption)) ?_
      refine sq_on rfl rfl rfl ?_
      refine sq_move rfl rfl ?_
      refine sq_on rfl rfl rfl ?_
      first | refine sq_gtr rfl rfl rfl ?_ | refine sq_sgtr rfl rfl rfl ?_
      refine sq_on rfl rfl rfl ?_
      refine sq_move rfl rfl ?_
      refine sq_force 69 rfl false (by first | rfl | (simp; done) | (simp; omega) | (simp; assumption)) ?_
      refine sq_off rfl rfl rfl rfl rfl ?_
      refine sq_off rfl rfl rfl rfl rfl ?_
      refine sq_off rfl rfl rfl rfl rfl ?_
      refine sq_off rfl rfl rfl rfl rfl ?_
      refine sq_off rfl rfl rfl rfl rfl ?_
      refine sq_off rfl rfl rfl rfl rfl ?_
      refine sq_off rfl rfl rfl rfl rfl ?_
      refine sq_off rfl rfl rfl rfl rfl ?_
      refine sq_off rfl rfl rfl rfl rfl ?_
      refine sq_off rfl rfl rfl rfl rfl ?_
      refine sq_off rfl rfl rfl rfl rfl ?_
      refine sq_off rfl rfl rfl rfl rfl ?_
      refine sq_off rfl rfl rfl rfl rfl ?_
      refine sq_on rfl rfl rfl ?_
      refine sq_pick rfl rfl rfl ?_
      refine sq_pick rfl rfl rfl ?_
      refine sq_move rfl rfl ?_
      refine sq_force 85 rfl false (by first | rfl | (simp; done) | (simp; omega) | (simp; assumption)) ?_
      refine sq_on rfl rfl rfl ?_
      refine sq_move rfl rfl ?_
      refine sq_on rfl rfl rfl ?_
      refine sq_move rfl rfl ?_
      refine sq_on rfl rfl rfl ?_
      refine sq_indexAddr (ol + 0 * 2) Try.underlying24 tyS43 rfl rfl (by omega) (by simp) rfl ?_
      refine sq_on rfl rfl rfl ?_
      refine sq_fieldAddr rfl tyF43_0 (by first | (simp only [Nat.reduceAdd, Nat.add_zero, Nat.zero_add]; first | done | rfl) | rfl) rfl ?_
      refine sq_on rfl rfl rfl ?_
      refine sq_loadRo 2 rfl rfl (0 * 2) (by omega) tyA36 tyS36 (scells_a hs) rfl ?_
      refine sq_on rfl rfl rfl ?_
      refine sq_callP (zf1) rfl rfl ?_
      refine sq_on rfl rfl rfl ?_
      refine sq_fieldAddr rfl tyF61_0 (by first | (simp only [Nat.reduceAdd, Nat.add_zero, Nat.zero_add]; first | done | rfl) | rfl) rfl ?_
      refine sq_on rfl rfl rfl ?_
      first | refine sq_load 0 rfl rfl tyA3 tyS3 rfl rfl ?_ | refine sq_load 1 rfl rfl tyA3 tyS3 rfl rfl ?_ | refine sq_load 2 rfl rfl tyA3 tyS3 rfl rfl ?_
      refine sq_on rfl rfl rfl ?_
      first | refine sq_neq rfl rfl rfl ?_ | refine sq_sneq rfl rfl rfl ?_
      refine sq_pick rfl rfl rfl ?_
      refine sq_move rfl rfl ?_
      refine sq_force 96 rfl false (by first | rfl | (simp; done) | (simp; omega) | (simp; assumption)) ?_
      refine sq_on rfl rfl rfl ?_
      refine sq_move rfl rfl ?_
      refine sq_on rfl rfl rfl ?_
      refine sq_move rfl rfl ?_
      refine sq_on rfl rfl rfl ?_
      refine sq_indexAddr (ol + 0 * 2) Try.underlying24 tyS43 rfl rfl (by omega) (by simp) rfl ?_
      refine sq_on rfl rfl rfl ?_
      refine sq_fieldAddr rfl tyF43_1 (by first | (simp only [Nat.reduceAdd, Nat.add_zero, Nat.zero_add]; first | done | rfl) | rfl) rfl ?_
      refine sq_on rfl rfl rfl ?_
      refine sq_loadRo 2 rfl rfl (0 * 2 + 1) (by omega) tyA36 tyS36 (scells_b hs) rfl ?_
      refine sq_on rfl rfl rfl ?_
      refine sq_callP (zf2) rfl rfl ?_
      refine sq_on rfl rfl rfl ?_
      refine sq_fieldAddr rfl tyF61_0 (by first | (simp only [Nat.reduceAdd, Nat.add_zero, Nat.zero_add]; first | done | rfl) | rfl) rfl ?_
      refine sq_on rfl rfl rfl ?_
      first | refine sq_load 0 rfl rfl tyA3 tyS3 rfl rfl ?_ | refine sq_load 1 rfl rfl tyA3 tyS3 rfl rfl ?_ | refine sq_load 2 rfl rfl tyA3 tyS3 rfl rfl ?_
      refine sq_on rfl rfl rfl ?_
      first | refine sq_neq rfl rfl rfl ?_ | refine sq_sneq rfl rfl rfl ?_
      refine sq_pick rfl rfl rfl ?_
      refine sq_nil (hZ _ _ ?_)
      refine awp_forget [(2, _), (3, _), (5, _), (7, _), (106, _)] (Kn.cons rfl (Kn.cons rfl (Kn.cons rfl (Kn.cons rfl (Kn.cons rfl (Kn.nil)))))) ?_
      first | refine awp_cond rfl (fun h9 => ?_) (fun h9 => ?_) | refine awp_seq (awp_cond rfl (fun h9 => ?_) (fun h9 => ?_))
      · exfalso
        simp at h9
        try omega
      refine awp_skip ?_
      repeat (with_reducible (first | refine nx_block_normal ?_ | refine nx_scope_normal ?_))
      with_reducible first | refine nx_normal ?_ | refine nx_normalM ?_
      refine awp_region (fun Z hZ => ?_)
      refine sx_move rfl rfl ?_
      refine sx_add rfl rfl ((0 + 1 : Nat) : Int) (by rw [IntWalk.i64_in _ (by omega)]; omega) rfl ?_
      refine sx_assign rfl rfl ?_
      refine sx_nil (hZ _ _ ?_)
      refine nx_forget [(2, _), (3, _), (5, _), (7, _)] (Kn.cons rfl (Kn.cons rfl (Kn.cons rfl (Kn.cons rfl (Kn.nil))))) ?_
      exact nx_round 1 (by omega) (by omega) (Kn.cons rfl (Kn.cons rfl (Kn.cons rfl (Kn.cons rfl Kn.nil)))) (HLe.refl _)
    · obtain ⟨i, rfl⟩ : ∃ j, i = j + 1 := ⟨i - 1, by omega⟩
      obtain ⟨p, hp⟩ : ∃ p, L[i]? = some p := ⟨_, List.getElem?_eq_getElem (by omega)⟩
      have hgap : p.b + 1 < s.a := by
        have := List.pairwise_iff_getElem.1 hdn.plain.gap i (i + 1) (by omega) hlt (by omega)
        rw [(List.getElem?_eq_some_iff.1 hp).2, (List.getElem?_eq_some_iff.1 hs).2] at this
        exact this
      refine awq_seq_region mixed (by kernel_rfl) (fun Z hZ => ?_)
      refine sq_move rfl rfl ?_
      refine sq_move rfl rfl ?_
      refine sq_indexAddr (ol + (i + 1) * 2) Try.underlying24 tyS43 rfl rfl (by omega) (by simp) rfl ?_
      refine sq_fieldAddr rfl tyF43_0 (by first | (simp only [Nat.reduceAdd, Nat.add_zero, Nat.zero_add]; first | done | rfl) | rfl) rfl ?_
      refine sq_loadRo 2 rfl rfl ((i + 1) * 2) (by omega) tyA36 tyS36 (scells_a hs) rfl ?_
      refine sq_move rfl rfl ?_
      refine sq_move rfl rfl ?_
      refine sq_indexAddr (ol + (i + 1) * 2) Try.underlying24 tyS43 rfl rfl (by omega) (by simp) rfl ?_
      refine sq_fieldAddr rfl tyF43_1 (by first | (simp only [Nat.reduceAdd, Nat.add_zero, Nat.zero_add]; first | done | rfl) | rfl) rfl ?_
      refine sq_loadRo 2 rfl rfl ((i + 1) * 2 + 1) (by omega) tyA36 tyS36 (scells_b hs) rfl ?_
      first | refine sq_gtr rfl rfl rfl ?_ | refine sq_sgtr rfl rfl rfl ?_
      refine sq_move rfl rfl ?_
      refine sq_force 66 rfl false (by first | rfl | (simp; done) | (simp; omega) | (simp; assumption)) ?_
      refine sq_on rfl rfl rfl ?_
      refine sq_move rfl rfl ?_
      refine sq_on rfl rfl rfl ?_
      first | refine sq_gtr rfl rfl rfl ?_ | refine sq_sgtr rfl rfl rfl ?_
      refine sq_on rfl rfl rfl ?_
      refine sq_move rfl rfl ?_
      refine sq_force 69 rfl true (by first | rfl | (simp; done) | (simp; omega) | (simp; assumption)) ?_
      refine sq_on rfl rfl rfl ?_
      refine sq_move rfl rfl ?_
      refine sq_on rfl rfl rfl ?_
      refine sq_move rfl rfl ?_
      refine sq_on rfl rfl rfl ?_
      refine sq_indexAddr (ol + (i + 1) * 2) Try.underlying24 tyS43 rfl rfl (by omega) (by simp) rfl ?_
      refine sq_on rfl rfl rfl ?_
      refine sq_fieldAddr rfl tyF43_0 (by first | (simp only [Nat.reduceAdd, Nat.add_zero, Nat.zero_add]; first | done | rfl) | rfl) rfl ?_
      refine sq_on rfl rfl rfl ?_
      refine sq_loadRo 2 rfl rfl ((i + 1) * 2) (by omega) tyA36 tyS36 (scells_a hs) rfl ?_
      refine sq_on rfl rfl rfl ?_
      refine sq_move rfl rfl ?_
      refine sq_on rfl rfl rfl ?_
      refine sq_move rfl rfl ?_
      refine sq_on rfl rfl rfl ?_
      refine sq_sub rfl rfl ((i : Nat) : Int) (by rw [IntWalk.i64_in _ (by omega)]; omega) rfl ?_
      refine sq_on rfl rfl rfl ?_
      refine sq_indexAddr (ol + i * 2) Try.underlying24 tyS43 rfl rfl (by omega) (by simp) rfl ?_
      refine sq_on rfl rfl rfl ?_
      refine sq_fieldAddr rfl tyF43_1 (by first | (simp only [Nat.reduceAdd, Nat.add_zero, Nat.zero_add]; first | done | rfl) | rfl) rfl ?_
      refine sq_on rfl rfl rfl ?_
      refine sq_loadRo 2 rfl rfl (i * 2 + 1) (by omega) tyA36 tyS36 (scells_b hp) rfl ?_
      refine sq_on rfl rfl rfl ?_
      refine sq_add rfl rfl ((p.b + 1 : Nat) : Int) (by rw [IntWalk.u64_in _ (by omega)]; omega) rfl ?_
      refine sq_on rfl rfl rfl ?_
      first | refine sq_leq rfl rfl rfl ?_ | refine sq_sleq rfl rfl rfl ?_
      refine sq_on rfl rfl rfl ?_
      refine sq_pick rfl rfl rfl ?_
      refine sq_pick rfl rfl rfl ?_
      refine sq_move rfl rfl ?_
      refine sq_force 85 rfl false (by first | rfl | (simp; done) | (simp; omega) | (simp; assumption)) ?_
      refine sq_on rfl rfl rfl ?_
      refine sq_move rfl rfl ?_
      refine sq_on rfl rfl rfl ?_
      refine sq_move rfl rfl ?_
      refine sq_on rfl rfl rfl ?_
      refine sq_indexAddr (ol + (i + 1) * 2) Try.underlying24 tyS43 rfl rfl (by omega) (by simp) rfl ?_
      refine sq_on rfl rfl rfl ?_
      refine sq_fieldAddr rfl tyF43_0 (by first | (simp only [Nat.reduceAdd, Nat.add_zero, Nat.zero_add]; first | done | rfl) | rfl) rfl ?_
      refine sq_on rfl rfl rfl ?_
      refine sq_loadRo 2 rfl rfl ((i + 1) * 2) (by omega) tyA36 tyS36 (scells_a hs) rfl ?_
      refine sq_on rfl rfl rfl ?_
      refine sq_callP (zf1) rfl rfl ?_
      refine sq_on rfl rfl rfl ?_
      refine sq_fieldAddr rfl tyF61_0 (by first | (simp only [Nat.reduceAdd, Nat.add_zero, Nat.zero_add]; first | done | rfl) | rfl) rfl ?_
      refine sq_on rfl rfl rfl ?_
      first | refine sq_load 0 rfl rfl tyA3 tyS3 rfl rfl ?_ | refine sq_load 1 rfl rfl tyA3 tyS3 rfl rfl ?_ | refine sq_load 2 rfl rfl tyA3 tyS3 rfl rfl ?_
      refine sq_on rfl rfl rfl ?_
      first | refine sq_neq rfl rfl rfl ?_ | refine sq_sneq rfl rfl rfl ?_
      refine sq_pick rfl rfl rfl ?_
      refine sq_move rfl rfl ?_
      refine sq_force 96 rfl false (by first | rfl | (simp; done) | (simp; omega) | (simp; assumption)) ?_
      refine sq_on rfl rfl rfl ?_
      refine sq_move rfl rfl ?_
      refine sq_on rfl rfl rfl ?_
      refine sq_move rfl rfl ?_
      refine sq_on rfl rfl rfl ?_
      refine sq_indexAddr (ol + (i + 1) * 2) Try.underlying24 tyS43 rfl rfl (by omega) (by simp) rfl ?_
      refine sq_on rfl rfl rfl ?_
      refine sq_fieldAddr rfl tyF43_1 (by first | (simp only [Nat.reduceAdd, Nat.add_zero, Nat.zero_add]; first | done | rfl) | rfl) rfl ?_
      refine sq_on rfl rfl rfl ?_
      refine sq_loadRo 2 rfl rfl ((i + 1) * 2 + 1) (by omega) tyA36 tyS36 (scells_b hs) rfl ?_
      refine sq_on rfl rfl rfl ?_
      refine sq_callP (zf2) rfl rfl ?_
      refine sq_on rfl rfl rfl ?_
      refine sq_fieldAddr rfl tyF61_0 (by first | (simp only [Nat.reduceAdd, Nat.add_zero, Nat.zero_add]; first | done | rfl) | rfl) rfl ?_
      refine sq_on rfl rfl rfl ?_
      first | refine sq_load 0 rfl rfl tyA3 tyS3 rfl rfl ?_ | refine sq_load 1 rfl rfl tyA3 tyS3 rfl rfl ?_ | refine sq_load 2 rfl rfl tyA3 tyS3 rfl rfl ?_
      refine sq_on rfl rfl rfl ?_
      first | refine sq_neq rfl rfl rfl ?_ | refine sq_sneq rfl rfl rfl ?_
      refine sq_pick rfl rfl rfl ?_
      refine sq_nil (hZ _ _ ?_)
      refine awp_forget [(2, _), (3, _), (5, _), (7, _), (106, _)] (Kn.cons rfl (Kn.cons rfl (Kn.cons rfl (Kn.cons rfl (Kn.cons rfl (Kn.nil)))))) ?_
      first | refine awp_cond rfl (fun h9 => ?_) (fun h9 => ?_) | refine awp_seq (awp_cond rfl (fun h9 => ?_) (fun h9 => ?_))
      · exfalso
        simp at h9
        try omega
      refine awp_skip ?_
      repeat (with_reducible (first | refine nx_block_normal ?_ | refine nx_scope_normal ?_))
      with_reducible first | refine nx_normal ?_ | refine nx_normalM ?_
      refine awp_region (fun Z hZ => ?_)
      refine sx_move rfl rfl ?_
      refine sx_add rfl rfl ((i + 1 + 1 : Nat) : Int) (by rw [IntWalk.i64_in _ (by omega)]; omega) rfl ?_
      refine sx_assign rfl rfl ?_
      refine sx_nil (hZ _ _ ?_)
      refine nx_forget [(2, _), (3, _), (5, _), (7, _)] (Kn.cons rfl (Kn.cons rfl (Kn.cons rfl (Kn.cons rfl (Kn.nil))))) ?_
      exact nx_round (i + 1 + 1) (by omega) (by omega) (Kn.cons rfl (Kn.cons rfl (Kn.cons rfl (Kn.cons rfl Kn.nil)))) (HLe.refl _)
  · refine awp_exit ?_
    repeat (with_reducible (first | refine nx_then_exit ?_ | refine nx_block_other (by decide) ?_ | refine nx_scope_exit ?_))
    with_reducible refine nx_block_exit ?_
    repeat (with_reducible (first | refine nx_block_normal ?_ | refine nx_scope_normal ?_))
    with_reducible first | refine nx_normal ?_ | refine nx_normalM ?_

    refine awp_seq_region (fun Z hZ => ?_)
    refine sx_fieldAddr rfl tyF61_0 (by first | (simp only [Nat.reduceAdd, Nat.add_zero, Nat.zero_add]; first | done | rfl) | rfl) rfl ?_
    first | refine sx_load 0 rfl rfl tyA3 tyS3 rfl rfl ?_ | refine sx_load 1 rfl rfl tyA3 tyS3 rfl rfl ?_ | refine sx_load 2 rfl rfl tyA3 tyS3 rfl rfl ?_
    refine sx_fieldAddr rfl tyF48_0 (by first | (simp only [Nat.reduceAdd, Nat.add_zero, Nat.zero_add]; first | done | rfl) | rfl) rfl ?_
    first | refine sx_store1 0 rfl rfl rfl tyS3 rfl (by first | (simp only [List.length_cons, List.length_nil, Nat.reduceAdd, Nat.zero_add, Nat.add_zero]; first | done | rfl) | rfl) (by first | (simp only [List.set_cons_succ, List.set_cons_zero, Nat.reduceAdd, Nat.add_zero, Nat.zero_add]; first | done | rfl) | rfl) (by first | (simp only [List.set_cons_succ, List.set_cons_zero]; first | done | rfl) | rfl) ?_ | refine sx_store1 1 rfl rfl rfl tyS3 rfl (by first | (simp only [List.length_cons, List.length_nil, Nat.reduceAdd, Nat.zero_add, Nat.add_zero]; first | done | rfl) | rfl) (by first | (simp only [List.set_cons_succ, List.set_cons_zero, Nat.reduceAdd, Nat.add_zero, Nat.zero_add]; first | done | rfl) | rfl) (by first | (simp only [List.set_cons_succ, List.set_cons_zero]; first | done | rfl) | rfl) ?_ | refine sx_store1 2 rfl rfl rfl tyS3 rfl (by first | (simp only [List.length_cons, List.length_nil, Nat.reduceAdd, Nat.zero_add, Nat.add_zero]; first | done | rfl) | rfl) (by first | (simp only [List.set_cons_succ, List.set_cons_zero, Nat.reduceAdd, Nat.add_zero, Nat.zero_add]; first | done | rfl) | rfl) (by first | (simp only [List.set_cons_succ, List.set_cons_zero]; first | done | rfl) | rfl) ?_
    refine sx_nil (hZ _ _ ?_)
    refine awp_forget [(2, _), (3, _), (5, _)] (Kn.cons rfl (Kn.cons rfl (Kn.cons rfl (Kn.nil)))) ?_
    refine awp_seq_region (fun Z hZ => ?_)
    first | refine sx_loadA 0 rfl rfl tyA48 tyS48 (by first | (simp only [List.length_cons, List.length_nil, Nat.reduceAdd, Nat.zero_add, Nat.add_zero]; first | done | rfl) | rfl) (by first | (simp only [List.take_succ_cons, List.take_zero, List.drop_succ_cons, List.drop_zero, List.cons_append, List.nil_append, List.append_nil, List.length_cons, List.length_nil, Nat.reduceAdd, Nat.zero_add, Nat.add_zero, Value.cells, wrV]; first | done | rfl) | rfl) rfl ?_ | refine sx_loadA 1 rfl rfl tyA48 tyS48 (by first | (simp only [List.length_cons, List.length_nil, Nat.reduceAdd, Nat.zero_add, Nat.add_zero]; first | done | rfl) | rfl) (by first | (simp only [List.take_succ_cons, List.take_zero, List.drop_succ_cons, List.drop_zero, List.cons_append, List.nil_append, List.append_nil, List.length_cons, List.length_nil, Nat.reduceAdd, Nat.zero_add, Nat.add_zero, Value.cells, wrV]; first | done | rfl) | rfl) rfl ?_ | refine sx_loadA 2 rfl rfl tyA48 tyS48 (by first | (simp only [List.length_cons, List.length_nil, Nat.reduceAdd, Nat.zero_add, Nat.add_zero]; first | done | rfl) | rfl) (by first | (simp only [List.take_succ_cons, List.take_zero, List.drop_succ_cons, List.drop_zero, List.cons_append, List.nil_append, List.append_nil, List.length_cons, List.length_nil, Nat.reduceAdd, Nat.zero_add, Nat.add_zero, Value.cells, wrV]; first | done | rfl) | rfl) rfl ?_
    refine sx_callP (hid) rfl rfl ?_
    refine sx_move rfl rfl ?_
    refine sx_extract rfl rfl rfl ?_
    refine sx_extract rfl rfl rfl ?_
    refine sx_assign rfl rfl ?_
    refine sx_assign rfl rfl ?_
    refine sx_nil (hZ _ _ ?_)
    refine awp_forget [(2, _), (3, _), (5, _), (8, _), (9, _)] (Kn.cons rfl (Kn.cons rfl (Kn.cons rfl (Kn.cons rfl (Kn.cons rfl (Kn.nil)))))) ?_
    rcases Decidable.em (pe = 0) with h | h
    · subst h
      rw [hq rfl] at hhas
      refine awq_seq_region mixed (by kernel_rfl) (fun Z hZ => ?_)
      refine sq_move rfl rfl ?_
      first | refine sq_neq rfl rfl rfl ?_ | refine sq_sneq rfl rfl rfl ?_
      refine sq_move rfl rfl ?_
      refine sq_force 117 rfl false (by first | rfl | (simp; done) | (simp; omega) | (simp; assumption)) ?_
      refine sq_on rfl rfl rfl ?_
      refine sq_move rfl rfl ?_
      refine sq_on rfl rfl rfl ?_
      refine sq_move rfl rfl ?_
      refine sq_on rfl rfl rfl ?_
      refine sq_callV [.ro gl ol (scells L)] (sin_fn (some ⟨gl, ol, none⟩) c1 L _ hA1.arg (fun _ => rfl) (Ro.roE (some ⟨gl, ol, none⟩) (scells L)) (by omega) id) rfl (HLe.drop 2 rfl) (Ro.roE (some ⟨gl, ol, none⟩) (scells L)) rfl ?_
      refine sq_on rfl rfl rfl ?_
      first | refine sq_loadA 0 rfl rfl tyA61 tyS61 (by first | (simp only [List.length_cons, List.length_nil, Nat.reduceAdd, Nat.zero_add, Nat.add_zero]; first | done | rfl) | rfl) (by first | (simp only [List.take_succ_cons, List.take_zero, List.drop_succ_cons, List.drop_zero, List.cons_append, List.nil_append, List.append_nil, List.length_cons, List.length_nil, Nat.reduceAdd, Nat.zero_add, Nat.add_zero, Value.cells, wrV]; first | done | rfl) | rfl) rfl ?_ | refine sq_loadA 1 rfl rfl tyA61 tyS61 (by first | (simp only [List.length_cons, List.length_nil, Nat.reduceAdd, Nat.zero_add, Nat.add_zero]; first | done | rfl) | rfl) (by first | (simp only [List.take_succ_cons, List.take_zero, List.drop_succ_cons, List.drop_zero, List.cons_append, List.nil_append, List.append_nil, List.length_cons, List.length_nil, Nat.reduceAdd, Nat.zero_add, Nat.add_zero, Value.cells, wrV]; first | done | rfl) | rfl) rfl ?_ | refine sq_loadA 2 rfl rfl tyA61 tyS61 (by first | (simp only [List.length_cons, List.length_nil, Nat.reduceAdd, Nat.zero_add, Nat.add_zero]; first | done | rfl) | rfl) (by first | (simp only [List.take_succ_cons, List.take_zero, List.drop_succ_cons, List.drop_zero, List.cons_append, List.nil_append, List.append_nil, List.length_cons, List.length_nil, Nat.reduceAdd, Nat.zero_add, Nat.add_zero, Value.cells, wrV]; first | done | rfl) | rfl) rfl ?_
      refine sq_on rfl rfl rfl ?_
      first | refine sq_loadA 0 rfl rfl tyA48 tyS48 (by first | (simp only [List.length_cons, List.length_nil, Nat.reduceAdd, Nat.zero_add, Nat.add_zero]; first | done | rfl) | rfl) (by first | (simp only [List.take_succ_cons, List.take_zero, List.drop_succ_cons, List.drop_zero, List.cons_append, List.nil_append, List.append_nil, List.length_cons, List.length_nil, Nat.reduceAdd, Nat.zero_add, Nat.add_zero, Value.cells, wrV]; first | done | rfl) | rfl) rfl ?_ | refine sq_loadA 1 rfl rfl tyA48 tyS48 (by first | (simp only [List.length_cons, List.length_nil, Nat.reduceAdd, Nat.zero_add, Nat.add_zero]; first | done | rfl) | rfl) (by first | (simp only [List.take_succ_cons, List.take_zero, List.drop_succ_cons, List.drop_zero, List.cons_append, List.nil_append, List.append_nil, List.length_cons, List.length_nil, Nat.reduceAdd, Nat.zero_add, Nat.add_zero, Value.cells, wrV]; first | done | rfl) | rfl) rfl ?_ | refine sq_loadA 2 rfl rfl tyA48 tyS48 (by first | (simp only [List.length_cons, List.length_nil, Nat.reduceAdd, Nat.zero_add, Nat.add_zero]; first | done | rfl) | rfl) (by first | (simp only [List.take_succ_cons, List.take_zero, List.drop_succ_cons, List.drop_zero, List.cons_append, List.nil_append, List.append_nil, List.length_cons, List.length_nil, Nat.reduceAdd, Nat.zero_add, Nat.add_zero, Value.cells, wrV]; first | done | rfl) | rfl) rfl ?_
      refine sq_on rfl rfl rfl ?_
      refine sq_callP (hhas) rfl rfl ?_
      refine sq_on rfl rfl rfl ?_
      refine sq_beql Try.underlying4 rfl rfl rfl ?_
      refine sq_pick rfl rfl rfl ?_
      refine sq_move rfl rfl ?_
      refine sq_force 126 rfl true (by first | rfl | (simp; done) | (simp; omega) | (simp; assumption)) ?_
      refine sq_on rfl rfl rfl ?_
      refine sq_callP c05wake_fn rfl rfl ?_
      refine sq_pick rfl rfl rfl ?_
      refine sq_assign rfl rfl ?_
      refine sq_nil (hZ _ _ ?_)
      refine awp_forget [(4, _)] (Kn.cons rfl (Kn.nil)) ?_
      refine awp_ret ?_
      repeat (with_reducible (first | refine nx_then_ret ?_ | refine nx_block_ret ?_ | refine nx_scope_ret ?_))
      exact nx_ret1 rfl rfl rfl
    · refine awq_seq_region mixed (by kernel_rfl) (fun Z hZ => ?_)
      refine sq_move rfl rfl ?_
      first | refine sq_neq rfl rfl rfl ?_ | refine sq_sneq rfl rfl rfl ?_
      refine sq_move rfl rfl ?_
      refine sq_force 117 rfl true (by first | rfl | (simp; done) | (simp; omega) | (simp; assumption)) ?_
      refine sq_off rfl rfl rfl rfl rfl ?_
      refine sq_off rfl rfl rfl rfl rfl ?_
      refine sq_off rfl rfl rfl rfl rfl ?_
      refine sq_off rfl rfl rfl rfl rfl ?_
      refine sq_off rfl rfl rfl rfl rfl ?_
      refine sq_off rfl rfl rfl rfl rfl ?_
      refine sq_off rfl rfl rfl rfl rfl ?_
      refine sq_pick rfl rfl rfl ?_
      refine sq_move rfl rfl ?_
      refine sq_force 126 rfl true (by first | rfl | (simp; done) | (simp; omega) | (simp; assumption)) ?_
      refine sq_on rfl rfl rfl ?_
      refine sq_callP c05wake_fn rfl rfl ?_
      refine sq_pick rfl rfl rfl ?_
      refine sq_assign rfl rfl ?_
      refine sq_nil (hZ _ _ ?_)
      refine awp_forget [(4, _)] (Kn.cons rfl (Kn.nil)) ?_
      refine awp_ret ?_
      repeat (with_reducible (first | refine nx_then_ret ?_ | refine nx_block_ret ?_ | refine nx_scope_ret ?_))
      exact nx_ret1 rfl rfl rfl
theorem leaves_rcJ : leaves Try.prog 5 61 = some [.int .i64, .int .i64, .int .i64, .int .i64, .int .i64] := by kernel_rfl
theorem leaves_tiJ : leaves Try.prog 5 48 = some [.int .i64, .int .i64, .int .i64] := by kernel_rfl
theorem CoverJust_read {H : Type} {enc : TypeId × Value → H} (w : World) {base : Nat} {v0 v1 : Value} {d0 d1 : DataW H} {p0 p1 : List MemPlace}
    (k0 : Value.okWide Try.prog w .any base 61 v0) (h0 : DataW.Trod enc Try.prog w 0 (fun _ => true) true 61 v0 d0 p0)
    (k1 : Value.okWide Try.prog w .any base 48 v1) (h1 : DataW.Trod enc Try.prog w 0 (fun _ => true) true 48 v1 d1 p1) :
    Calls Try.prog 12 #[v0, v1] w fun e w' => e = .returned (.bool true) ∧ Bel w w' := by
  obtain ⟨cs0, rfl, a⟩ := open_struct 5 Try.underlying61 leaves_rcJ k0 h0
  obtain ⟨rz, c1, rfl, _, a1⟩ := alike_i64 a
  obtain ⟨ra, c2, rfl, _, a2⟩ := alike_i64 a1
  obtain ⟨rb, c3, rfl, _, a3⟩ := alike_i64 a2
  obtain ⟨rc, c4, rfl, _, a4⟩ := alike_i64 a3
  obtain ⟨rd, c5, rfl, _, a5⟩ := alike_i64 a4
  cases a5
  obtain ⟨cs, rfl, b⟩ := open_struct 5 Try.underlying48 leaves_tiJ k1 h1
  obtain ⟨z, d1, rfl, _, b1⟩ := alike_i64 b
  obtain ⟨x, d2, rfl, _, b2⟩ := alike_i64 b1
  obtain ⟨y, d3, rfl, _, b3⟩ := alike_i64 b2
  cases b3
  exact (cjust05_fn ⟨rz, ra, rb, rc, rd⟩ z x y).bel w
namespace coverJust
open Go.ChangeShapes Go.WideShapes Go.ChangeAt Go.RowKit
theorem own : ownKnob Try.prog.godebug = none := by kernel_rfl
theorem laidOut : laidOutB Try.prog = true := by kernel_rfl
set_option maxRecDepth 100000 in
theorem lifted (os : Os) (started : os.Started) (H : Type) (enc : TypeId × Value → H) :
    ReturnsInHanded {} Try.checked os 12 .any (Rows.coverJustSpec.pre6 enc Try.prog Try.f12 Rows.coverJustRow.domain false) (Rows.coverJustSpec.post enc Try.prog Try.f12 false true false false) := by
  refine returnsInHanded_of_change (C := Try.checked) own started (by kernel_rfl) Try.func12
    (ChangeSpec.witness6 (enc := enc) (C := Try.checked) false ⟨#[], #[.agg #[.int .i64 0, .int .i64 0, .int .i64 0, .int .i64 0, .int .i64 0], .agg #[.int .i64 0, .int .i64 0, .int .i64 0]], []⟩ 8 (by kernel_rfl) (by kernel_rfl) (by kernel_rfl) (by kernel_rfl)) ?_
  intro W base args ds gs before hval0 hW hcnd _
  have hval : ∀ (j : Nat) t v, Try.f12.params[j]? = some t → args[j]? = some v → Value.okWide Try.prog W .any base t v := hval0
  have hW' := hW
  obtain ⟨p, q, hA0, hV, rfl, hfz, hnd⟩ := hW
  have hA : DataW.TrodAll enc Try.prog W 0 (fun _ => true) true Try.f12.params.toList args.toList ds p := hA0
  rw [Try.params12] at hA hval
  obtain ⟨v0, vs0, d0, ds0, p0, q0, hargs, rfl, rfl, h0, r0⟩ := trodAll_cons hA
  obtain ⟨v1, vs1, d1, ds1, p1, q1, rfl, rfl, rfl, h1, r1⟩ := trodAll_cons r0
  obtain ⟨rfl, rfl, rfl⟩ := trodAll_nil r1
  obtain rfl : args = #[v0, v1] := by cases args; simp_all
  obtain ⟨rfl, rfl⟩ := trodVars_none hV
  have lt0 : ∀ x ∈ p0, x.block < W.heap.size := by obtain ⟨m, hm⟩ := h0; exact DataW.trod_lt m _ _ _ hm
  have lt1 : ∀ x ∈ p1, x.block < W.heap.size := by obtain ⟨m, hm⟩ := h1; exact DataW.trod_lt m _ _ _ hm
  refine (CoverJust_read W (hval 0 61 v0 rfl rfl) h0 (hval 1 48 v1 rfl rfl) h1).mono fun e W' ⟨he, bel0⟩ => ?_
  have bel : Below W.heap.size W W' := bel0
  subst he
  exact ⟨_, rfl, _, _, _, [], _, [], hW', trodAll_mk1 (shut_bool Try.underlying4 _), (trodAll_cons_mk (Below.trod laidOut (by kernel_rfl) (of_decide_eq_true (by kernel_rfl)) h0 bel lt0) (trodAll_cons_mk (Below.trod laidOut (by kernel_rfl) (of_decide_eq_true (by kernel_rfl)) h1 bel lt1) trodAll_mk0)), rfl, bel.frame _, fun h => by cases h⟩
theorem over : Rows.coverJustRow.holds Try.pinned (OpenSpec.ofChange Rows.coverJustSpec) :=
  OpenClaim.holds_of_wide 12 Try.f12 rfl rfl rfl rfl rfl rfl rfl ⟨rfl, rfl, rfl, rfl, rfl⟩ rfl rfl rfl rfl rfl (by kernel_rfl) Try.func12 (by kernel_rfl)
    (of_decide_eq_true (by kernel_rfl)) (by unfold Func.isWrapper; first | (rw [if_pos (by decide +kernel)]; kernel_rfl) | (rw [if_neg (by decide +kernel)]; exact ⟨rfl, rfl⟩))
    (fun os started H enc _ => lifted os started H enc)
theorem proved : Rows.CoverJustSaid := over
#print axioms proved
end coverJust
end Go.Proofs.Ytbldhokgbcljjaa
