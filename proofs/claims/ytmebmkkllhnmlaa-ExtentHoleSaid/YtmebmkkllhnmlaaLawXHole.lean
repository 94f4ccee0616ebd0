/- ExtentHole. No conditions. -/
import Derived.Test.YtmebmkkllhnmlaaXp9
namespace Go.Proofs.Ytmebmkkllhnmlaa
open Go.RowKit
set_option linter.unusedVariables false
set_option linter.unusedSimpArgs false
set_option maxRecDepth 100000
/-- What a rectangle's missing tiles have to do with one tile. -/
theorem hole_in {r : Rc} {Z a b c d : Nat} (hr : r.Ok Z a b c d) {O : List It} (z x y : Int) :
    ((holesQ O Z a b c d).any fun p => tiq (Z : Nat) (p.1 : Nat) (p.2 : Nat) z x y) = (decide (placeE z x y = 0) && (!cHas (idV z x y) O && hasQ r z x y)) := by
  have hxl := hr.xl
  have hyl := hr.yl
  have hx := hr.x
  have hy := hr.y
  rw [Bool.eq_iff_iff, List.any_eq_true]
  simp only [Bool.and_eq_true, decide_eq_true_eq, Bool.not_eq_true']
  constructor
  · rintro ⟨p, hp, hq⟩
    obtain ⟨rfl, rfl, rfl⟩ := tiq_iff.1 hq
    obtain ⟨⟨h1, h2⟩, ⟨h3, h4⟩, h5⟩ := (mem_rectH _ _ _ _ _ p).1 hp
    have hpl := place_e0 hr.zo (show p.1 < 2 ^ Z by omega) (show p.2 < 2 ^ Z by omega)
    refine ⟨hpl.1, ?_, ?_⟩
    · rw [id_0 hr.zo (show p.1 < 2 ^ Z by omega) (show p.2 < 2 ^ Z by omega)]
      exact h5
    · have hc := hr.chk
      obtain rfl := hr.is_
      unfold hasQ
      rw [decide_eq_true_iff]
      exact ⟨hc, rfl, by show (a : Int) ≤ p.1; omega, by show (p.1 : Int) ≤ c; omega, by show (b : Int) ≤ p.2; omega, by show (p.2 : Int) ≤ d; omega⟩
  · rintro ⟨h1, h2, h3⟩
    obtain ⟨n, u, v, rfl, rfl, rfl, hn, hu, hv⟩ := place_nat h1
    obtain rfl := hr.is_
    unfold hasQ at h3
    rw [decide_eq_true_iff] at h3
    obtain ⟨_, h4, h5, h6, h7, h8⟩ := h3
    simp only at h4 h5 h6 h7 h8
    obtain rfl : n = Z := by omega
    rw [id_0 hn hu hv] at h2
    exact ⟨(u, v), (mem_rectH _ _ _ _ _ _).2 ⟨⟨by show a ≤ u; omega, by show u < _; omega⟩, ⟨by show b ≤ v; omega, by show v < _; omega⟩, h2⟩, tiq_self _ _ _⟩
theorem hole_has {r : Rc} {Z a b c d : Nat} (hr : r.Ok Z a b c d) {O : List It} {p : Nat × Nat} (hp : p ∈ holesQ O Z a b c d) : hasQ r (Z : Nat) (p.1 : Nat) (p.2 : Nat) = true := by
  have hx := hr.x
  have hy := hr.y
  obtain ⟨⟨h1, h2⟩, ⟨h3, h4⟩, h5⟩ := (mem_rectH _ _ _ _ _ p).1 hp
  have hc := hr.chk
  obtain rfl := hr.is_
  unfold hasQ
  rw [decide_eq_true_iff]
  exact ⟨hc, rfl, by show (a : Int) ≤ p.1; omega, by show (p.1 : Int) ≤ c; omega, by show (b : Int) ≤ p.2; omega, by show (p.2 : Int) ≤ d; omega⟩
set_option maxHeartbeats 1000000 in
theorem xholelaw_fn (A : Option Addr) (c : Nat) (L : List It) (T : Heap) (hA : ArgOk A L.length) (hT : 0 < L.length → T = roE A (icells L)) (hro : Ro T) (hL : L.length ≤ maxLen) (hE : ItsTx L) (r : Rc) (z x y : Int) :
    Fn Try.prog 5 [.slice A L.length c, r.val, tval z x y] T fun v _ => v = .bool true := by
  have o1 := over_fn A c L T hA hT hro hL hE 60 3000 (by decide) (by decide)
  have hsz := cSize_fn r
  have hck := cCheck_fn r
  have hid := tID_fn z x y
  have hhas := cHas_fn r z x y
  refine Fn.enter (N := 103) Try.func5 rfl (by kernel_rfl) rfl (fun w0 => ?_)

  refine awp_seq_region (fun Z hZ => ?_)
  refine sx_box rfl rfl rfl (fun g1 => ?_)
  refine sx_box rfl rfl rfl (fun g2 => ?_)
  refine sx_assign rfl rfl ?_
  refine sx_nil (hZ _ _ ?_)
  refine awp_forget [(0, _), (4, _), (5, _)] (Kn.cons rfl (Kn.cons rfl (Kn.cons rfl (Kn.nil)))) ?_

  refine awp_seq ?_
  refine awp_seq_region (fun Z hZ => ?_)
  refine sx_move rfl rfl ?_
  refine sx_callPT T o1 rfl (by repeat (first | exact List.Sublist.refl _ | exact List.nil_sublist _ | exact List.sublist_append_right _ _ | refine List.Sublist.trans ?_ (List.sublist_append_left _ _) | exact List.Sublist.cons_cons _ (List.nil_sublist _) | refine List.Sublist.cons _ ?_)) hro rfl ?_
  refine sx_nil (hZ _ _ ?_)
  refine awp_forget [(0, _), (4, _), (5, _), (18, _)] (Kn.cons rfl (Kn.cons rfl (Kn.cons rfl (Kn.cons rfl (Kn.nil))))) ?_
  refine awp_cond rfl (fun h => ?_) (fun h => ?_)
  · refine awp_seq_region (fun Z hZ => ?_)
    refine sx_callP x44wake_fn rfl rfl ?_
    refine sx_assign rfl rfl ?_
    refine sx_nil (hZ _ _ ?_)
    refine awp_forget [(6, _)] (Kn.cons rfl (Kn.nil)) ?_
    refine awp_ret ?_
    repeat (with_reducible refine nx_then_ret ?_)
    exact nx_ret1 rfl rfl rfl
  have n1 : cBytes L ≤ 3000 ∧ L.length ≤ 60 := by simp at h; omega
  have hok := ownQ_ok L
  refine awp_skip ?_
  with_reducible refine nx_normal ?_
  refine awp_seq_region (fun Z hZ => ?_)
  refine sx_move rfl rfl ?_
  refine sx_ownE L T hA hT hro (by repeat (first | exact List.Sublist.refl _ | exact List.nil_sublist _ | exact List.sublist_append_right _ _ | refine List.Sublist.trans ?_ (List.sublist_append_left _ _) | exact List.Sublist.cons_cons _ (List.nil_sublist _) | refine List.Sublist.cons _ ?_)) (by omega) rfl rfl (fun A1 c1 A2 c2 hA1 hA2 => ?_)
  refine sx_move rfl rfl ?_
  refine sx_extract rfl rfl rfl ?_
  refine sx_extract rfl rfl rfl ?_
  refine sx_alloc tyZ29 rfl (fun g3 => ?_)
  refine sx_store 0 rfl rfl rfl tyS29 (by first | (simp only [Value.cells]; first | done | rfl) | rfl) rfl rfl (by first | (simp only [List.length_cons, List.length_nil, Nat.reduceAdd, Nat.zero_add, Nat.add_zero]; first | done | rfl) | rfl) (by first | (simp only [List.take_succ_cons, List.take_zero, List.drop_succ_cons, List.drop_zero, List.cons_append, List.nil_append, List.append_nil, List.length_cons, List.length_nil, Nat.reduceAdd, Nat.zero_add, Nat.add_zero, Value.cells, wrV]; first | done | rfl) | rfl) (by first | (simp only [List.set_cons_succ, List.set_cons_zero]; first | done | rfl) | rfl) ?_
  refine sx_assign rfl rfl ?_
  refine sx_nil (hZ _ _ ?_)
  refine awp_forget [(4, _), (5, _), (7, _)] (Kn.cons rfl (Kn.cons rfl (Kn.cons rfl (Kn.nil)))) ?_
  obtain ⟨O, hO⟩ : ∃ O, ownQ L = O := ⟨_, rfl⟩
  rw [hO] at hok hA1 hA2 ⊢
  obtain ⟨Zm, K, e, hR, hx, -⟩ := holes_both A1 c1 O hA1 hok r 4096
  have hKl := hR.len
  refine awp_heap (.own g3 29 [.slice A1 O.length c1] :: .own g2 24 (tcells z x y) :: .own g1 36 r.cells :: roE A1 (icells O)) (HLe.sub (.cons_cons _ (.cons_cons _ (.cons_cons _ ((List.sublist_append_right T _).trans (List.sublist_append_left _ _)))))) ?_

  refine awp_seq_region (fun Z hZ => ?_)
  refine sx_loadA 0 rfl rfl tyA29 tyS29 (by first | (simp only [List.length_cons, List.length_nil, Nat.reduceAdd, Nat.zero_add, Nat.add_zero]; first | done | rfl) | rfl) (by first | (simp only [List.take_succ_cons, List.take_zero, List.drop_succ_cons, List.drop_zero, List.cons_append, List.nil_append, List.append_nil, List.length_cons, List.length_nil, Nat.reduceAdd, Nat.zero_add, Nat.add_zero, Value.cells, wrV]; first | done | rfl) | rfl) rfl ?_
  refine sx_loadA 2 rfl rfl tyA36 tyS36 (by first | (simp only [List.length_cons, List.length_nil, Nat.reduceAdd, Nat.zero_add, Nat.add_zero]; first | done | rfl) | rfl) (by first | (simp only [List.take_succ_cons, List.take_zero, List.drop_succ_cons, List.drop_zero, List.cons_append, List.nil_append, List.append_nil, List.length_cons, List.length_nil, Nat.reduceAdd, Nat.zero_add, Nat.add_zero, Value.cells, wrV]; first | done | rfl) | rfl) rfl ?_
  refine sx_callIX (fun u => .tuple #[u, iq e]) (roE A1 (icells O)) hx rfl (HLe.drop 3 rfl) (Ro.roE _ _) rfl (fun A3 c3 hA3 => ?_)
  refine sx_move rfl rfl ?_
  refine sx_extract rfl rfl rfl ?_
  refine sx_extract rfl rfl rfl ?_
  refine sx_assign rfl rfl ?_
  refine sx_assign rfl rfl ?_
  refine sx_nil (hZ _ _ ?_)
  refine awp_forget [(4, _), (5, _), (7, _), (9, _), (10, _)] (Kn.cons rfl (Kn.cons rfl (Kn.cons rfl (Kn.cons rfl (Kn.cons rfl (Kn.nil)))))) ?_
  rcases hR with ⟨he, hK0, hw⟩ | ⟨rfl, a, b, c', d, hr, hKe, _⟩
  · subst hK0
    refine awp_seq ?_
    refine awp_seq_region (fun Z hZ => ?_)
    refine sx_move rfl rfl ?_
    refine sx_neq rfl rfl rfl ?_
    refine sx_nil (hZ _ _ ?_)
    refine awp_forget [(4, _), (5, _), (7, _), (9, _), (10, _), (32, _)] (Kn.cons rfl (Kn.cons rfl (Kn.cons rfl (Kn.cons rfl (Kn.cons rfl (Kn.cons rfl (Kn.nil))))))) ?_
    refine awp_cond rfl (fun h5 => ?_) (fun h5 => ?_)
    · rcases hw with ⟨h1, _⟩ | ⟨_, _, h1, h2⟩ | ⟨_, _, h1, rfl, h2⟩
      · omega
      · have hw3 := chk_ways r
        have hne : ¬ e = 21 := by omega
        rw [← h2] at hck
        refine awp_seq_region (fun Z hZ => ?_)
        refine sx_move rfl rfl ?_
        refine sx_len Try.underlying54 rfl rfl ?_
        refine sx_eql rfl rfl rfl ?_
        refine sx_move rfl rfl ?_
        refine sx_force 36 rfl true (by first | rfl | (simp; done) | (simp; omega) | (simp; assumption)) ?_
        refine sx_on rfl rfl rfl ?_
        refine sx_move rfl rfl ?_
        refine sx_on rfl rfl rfl ?_
        refine sx_eql rfl rfl rfl ?_
        refine sx_on rfl rfl rfl ?_
        refine sx_move rfl rfl ?_
        refine sx_force 39 rfl false (by first | rfl | (simp; done) | (simp; omega) | (simp; assumption)) ?_
        refine sx_off rfl rfl rfl rfl rfl ?_
        refine sx_off rfl rfl rfl rfl rfl ?_
        refine sx_off rfl rfl rfl rfl rfl ?_
        refine sx_on rfl rfl rfl ?_
        refine sx_pick rfl rfl rfl ?_
        refine sx_on rfl rfl rfl ?_
        refine sx_move rfl rfl ?_
        refine sx_force 44 rfl false (by first | rfl | (simp; done) | (simp; omega) | (simp; assumption)) ?_
        refine sx_on rfl rfl rfl ?_
        refine sx_move rfl rfl ?_
        refine sx_on rfl rfl rfl ?_
        refine sx_loadA 2 rfl rfl tyA36 tyS36 (by first | (simp only [List.length_cons, List.length_nil, Nat.reduceAdd, Nat.zero_add, Nat.add_zero]; first | done | rfl) | rfl) (by first | (simp only [List.take_succ_cons, List.take_zero, List.drop_succ_cons, List.drop_zero, List.cons_append, List.nil_append, List.append_nil, List.length_cons, List.length_nil, Nat.reduceAdd, Nat.zero_add, Nat.add_zero, Value.cells, wrV]; first | done | rfl) | rfl) rfl ?_
        refine sx_on rfl rfl rfl ?_
        refine sx_callP hck rfl rfl ?_
        refine sx_on rfl rfl rfl ?_
        refine sx_eql rfl rfl rfl ?_
        refine sx_on rfl rfl rfl ?_
        refine sx_pick rfl rfl rfl ?_
        refine sx_pick rfl rfl rfl ?_
        refine sx_move rfl rfl ?_
        refine sx_force 51 rfl true (by first | rfl | (simp; done) | (simp; omega) | (simp; assumption)) ?_
        refine sx_on rfl rfl rfl ?_
        refine sx_callP x44wake_fn rfl rfl ?_
        refine sx_pick rfl rfl rfl ?_
        refine sx_assign rfl rfl ?_
        refine sx_nil (hZ _ _ ?_)
        refine awp_forget [(6, _)] (Kn.cons rfl (Kn.nil)) ?_
        refine awp_ret ?_
        repeat (with_reducible refine nx_then_ret ?_)
        exact nx_ret1 rfl rfl rfl
      · have hgt : 4096 < sizeQ r := by omega
        refine awp_seq_region (fun Z hZ => ?_)
        refine sx_move rfl rfl ?_
        refine sx_len Try.underlying54 rfl rfl ?_
        refine sx_eql rfl rfl rfl ?_
        refine sx_move rfl rfl ?_
        refine sx_force 36 rfl true (by first | rfl | (simp; done) | (simp; omega) | (simp; assumption)) ?_
        refine sx_on rfl rfl rfl ?_
        refine sx_move rfl rfl ?_
        refine sx_on rfl rfl rfl ?_
        refine sx_eql rfl rfl rfl ?_
        refine sx_on rfl rfl rfl ?_
        refine sx_move rfl rfl ?_
        refine sx_force 39 rfl true (by first | rfl | (simp; done) | (simp; omega) | (simp; assumption)) ?_
        refine sx_on rfl rfl rfl ?_
        refine sx_loadA 2 rfl rfl tyA36 tyS36 (by first | (simp only [List.length_cons, List.length_nil, Nat.reduceAdd, Nat.zero_add, Nat.add_zero]; first | done | rfl) | rfl) (by first | (simp only [List.take_succ_cons, List.take_zero, List.drop_succ_cons, List.drop_zero, List.cons_append, List.nil_append, List.append_nil, List.length_cons, List.length_nil, Nat.reduceAdd, Nat.zero_add, Nat.add_zero, Value.cells, wrV]; first | done | rfl) | rfl) rfl ?_
        refine sx_on rfl rfl rfl ?_
        refine sx_callP hsz rfl rfl ?_
        refine sx_on rfl rfl rfl ?_
        refine sx_gtr rfl rfl rfl ?_
        refine sx_on rfl rfl rfl ?_
        refine sx_pick rfl rfl rfl ?_
        refine sx_on rfl rfl rfl ?_
        refine sx_move rfl rfl ?_
        refine sx_force 44 rfl true (by first | rfl | (simp; done) | (simp; omega) | (simp; assumption)) ?_
        refine sx_off rfl rfl rfl rfl rfl ?_
        refine sx_off rfl rfl rfl rfl rfl ?_
        refine sx_off rfl rfl rfl rfl rfl ?_
        refine sx_off rfl rfl rfl rfl rfl ?_
        refine sx_on rfl rfl rfl ?_
        refine sx_pick rfl rfl rfl ?_
        refine sx_pick rfl rfl rfl ?_
        refine sx_move rfl rfl ?_
        refine sx_force 51 rfl true (by first | rfl | (simp; done) | (simp; omega) | (simp; assumption)) ?_
        refine sx_on rfl rfl rfl ?_
        refine sx_callP x44wake_fn rfl rfl ?_
        refine sx_pick rfl rfl rfl ?_
        refine sx_assign rfl rfl ?_
        refine sx_nil (hZ _ _ ?_)
        refine awp_forget [(6, _)] (Kn.cons rfl (Kn.nil)) ?_
        refine awp_ret ?_
        repeat (with_reducible refine nx_then_ret ?_)
        exact nx_ret1 rfl rfl rfl
    exact absurd (by simpa using h5) he
  have hin := hole_in hr (O := O) z x y
  rw [← hKe] at hin
  have hKh : ∀ p ∈ K, hasQ r (Zm : Nat) (p.1 : Nat) (p.2 : Nat) = true := fun p hp => hole_has hr (by rw [← hKe]; exact hp)
  obtain ⟨id, hide⟩ : ∃ i, idV z x y = i := ⟨_, rfl⟩
  obtain ⟨pe, hpe⟩ : ∃ i, placeE z x y = i := ⟨_, rfl⟩
  obtain ⟨q, hq⟩ : ∃ b, hasQ r z x y = b := ⟨_, rfl⟩
  obtain ⟨t, ht⟩ : ∃ b, cHas id O = b := ⟨_, rfl⟩
  rw [hide, hpe] at hid
  rw [hq] at hhas
  rw [hide, hpe, hq, ht] at hin
  have hget := get_fn A1 c1 O _ hA1.arg (fun _ => rfl) (Ro.roE _ _) (by have := hok.len; omega) hok.rise id
  rw [ht] at hget
  refine awp_seq ?_
  refine awp_seq_region (fun Z hZ => ?_)
  refine sx_move rfl rfl ?_
  refine sx_neq rfl rfl rfl ?_
  refine sx_nil (hZ _ _ ?_)
  refine awp_forget [(4, _), (5, _), (7, _), (9, _), (10, _), (32, _)] (Kn.cons rfl (Kn.cons rfl (Kn.cons rfl (Kn.cons rfl (Kn.cons rfl (Kn.cons rfl (Kn.nil))))))) ?_
  refine awp_cond rfl (fun h5 => ?_) (fun h5 => ?_)
  · cases h5
  refine awp_skip ?_
  with_reducible refine nx_normal ?_
  refine awp_seq_region (fun Z hZ => ?_)
  refine sx_loadA 1 rfl rfl tyA24 tyS24 (by first | (simp only [List.length_cons, List.length_nil, Nat.reduceAdd, Nat.zero_add, Nat.add_zero]; first | done | rfl) | rfl) (by first | (simp only [List.take_succ_cons, List.take_zero, List.drop_succ_cons, List.drop_zero, List.cons_append, List.nil_append, List.append_nil, List.length_cons, List.length_nil, Nat.reduceAdd, Nat.zero_add, Nat.add_zero, Value.cells, wrV]; first | done | rfl) | rfl) rfl ?_
  refine sx_callP hid rfl rfl ?_
  refine sx_move rfl rfl ?_
  refine sx_extract rfl rfl rfl ?_
  refine sx_extract rfl rfl rfl ?_
  refine sx_assign rfl rfl ?_
  refine sx_assign rfl rfl ?_
  refine sx_nil (hZ _ _ ?_)
  refine awp_forget [(4, _), (5, _), (7, _), (9, _), (11, _), (12, _)] (Kn.cons rfl (Kn.cons rfl (Kn.cons rfl (Kn.cons rfl (Kn.cons rfl (Kn.cons rfl (Kn.nil))))))) ?_
  refine awp_seq_region (fun Z hZ => ?_)
  refine sx_loadA 0 rfl rfl tyA29 tyS29 (by first | (simp only [List.length_cons, List.length_nil, Nat.reduceAdd, Nat.zero_add, Nat.add_zero]; first | done | rfl) | rfl) (by first | (simp only [List.take_succ_cons, List.take_zero, List.drop_succ_cons, List.drop_zero, List.cons_append, List.nil_append, List.append_nil, List.length_cons, List.length_nil, Nat.reduceAdd, Nat.zero_add, Nat.add_zero, Value.cells, wrV]; first | done | rfl) | rfl) rfl ?_
  refine sx_move rfl rfl ?_
  refine sx_callV (roE A1 (icells O)) hget rfl (HLe.sub ((List.Sublist.cons _ (.cons _ (.cons _ (List.Sublist.refl _)))).trans (List.sublist_append_left _ _))) (Ro.roE _ _) rfl ?_
  refine sx_move rfl rfl ?_
  refine sx_extract rfl rfl rfl ?_
  refine sx_extract rfl rfl rfl ?_
  refine sx_assign rfl rfl ?_
  refine sx_assign rfl rfl ?_
  refine sx_nil (hZ _ _ ?_)
  refine awp_forget [(4, _), (5, _), (9, _), (12, _), (14, _)] (Kn.cons rfl (Kn.cons rfl (Kn.cons rfl (Kn.cons rfl (Kn.cons rfl (Kn.nil)))))) ?_
  refine awp_heap (.own g2 24 (tcells z x y) :: .own g1 36 r.cells :: roE A3 (tlc Zm K)) (HLe.sub (List.Sublist.append (l₁ := [_, _]) (.cons _ (.cons_cons _ (.cons_cons _ (List.nil_sublist _)))) (List.Sublist.refl _))) ?_

  refine awp_seq_region (fun Z hZ => ?_)
  refine sx_assign rfl rfl ?_
  refine sx_nil (hZ _ _ ?_)
  refine awp_forget [(4, _), (5, _), (9, _), (12, _), (14, _), (15, _)] (Kn.cons rfl (Kn.cons rfl (Kn.cons rfl (Kn.cons rfl (Kn.cons rfl (Kn.cons rfl (Kn.nil))))))) ?_
  refine awp_seq ?_
  refine awp_seq_region (fun Z hZ => ?_)
  refine sx_assign rfl rfl ?_
  refine sx_nil (hZ _ _ ?_)
  refine awp_forget [(4, _), (5, _), (9, _), (12, _), (14, _), (15, _), (16, _)] (Kn.cons rfl (Kn.cons rfl (Kn.cons rfl (Kn.cons rfl (Kn.cons rfl (Kn.cons rfl (Kn.cons rfl (Kn.nil)))))))) ?_
  refine awp_block ?_
  refine awp_loop (ι := Bool × Nat) (fun s => [(4, ptr g1 0), (5, ptr g2 0), (9, .slice A3 K.length c3), (12, iq pe), (14, .bool t), (15, .bool s.1), (16, iq (s.2 : Nat))]) (fun _ => .own g2 24 (tcells z x y) :: .own g1 36 r.cells :: roE A3 (tlc Zm K)) (fun s => s.2 ≤ K.length ∧ s.1 = (K.take s.2).any fun p => tiq (Zm : Nat) (p.1 : Nat) (p.2 : Nat) z x y) (fun s => K.length - s.2) (false, 0) ⟨Nat.zero_le _, rfl⟩ (Kn.cons rfl (Kn.cons rfl (Kn.cons rfl (Kn.cons rfl (Kn.cons rfl (Kn.cons rfl (Kn.cons rfl Kn.nil))))))) (HLe.refl _) ?_
  rintro ⟨o, i⟩ ⟨hi, ho⟩
  replace hi : i ≤ K.length := hi
  replace ho : o = (K.take i).any fun p => tiq (Zm : Nat) (p.1 : Nat) (p.2 : Nat) z x y := ho
  refine awp_forget [(4, ptr g1 0), (5, ptr g2 0), (9, .slice A3 K.length c3), (12, iq pe), (14, .bool t), (15, .bool o), (16, iq (i : Nat))] (Kn.cons rfl (Kn.cons rfl (Kn.cons rfl (Kn.cons rfl (Kn.cons rfl (Kn.cons rfl (Kn.cons rfl Kn.nil))))))) ?_
  refine awp_seq ?_
  refine awp_seq_region (fun Z hZ => ?_)
  refine sx_move rfl rfl ?_
  refine sx_move rfl rfl ?_
  refine sx_len Try.underlying54 rfl rfl ?_
  refine sx_lss rfl rfl rfl ?_
  refine sx_nil (hZ _ _ ?_)
  refine awp_forget [(4, _), (5, _), (9, _), (12, _), (14, _), (15, _), (16, _), (68, _)] (Kn.cons rfl (Kn.cons rfl (Kn.cons rfl (Kn.cons rfl (Kn.cons rfl (Kn.cons rfl (Kn.cons rfl (Kn.cons rfl (Kn.nil))))))))) ?_
  refine awp_cond rfl (fun h11 => ?_) (fun h11 => ?_)
  · have hlt : i < K.length := by simpa using h11
    obtain ⟨p, hp⟩ : ∃ p, K[i]? = some p := ⟨_, List.getElem?_eq_getElem hlt⟩
    have hph := cHas_fn r (Zm : Nat) (p.1 : Nat) (p.2 : Nat)
    rw [hKh p (List.mem_of_getElem? hp)] at hph
    obtain ⟨w, hw⟩ : ∃ b, tiq (Zm : Nat) (p.1 : Nat) (p.2 : Nat) z x y = b := ⟨_, rfl⟩
    obtain ⟨g, o', rfl⟩ := hA3.arg (by omega)
    refine awp_heap [.own g2 24 (tcells z x y), .own g1 36 r.cells, .ro g o' (tlc Zm K)] (HLe.refl _) ?_
    refine awp_skip ?_
    with_reducible refine nx_normal ?_
    refine awp_seq (awp_block ?_)

    refine awq_seq_meet [(4, ptr g1 0), (5, ptr g2 0), (9, .slice (some ⟨g, o', none⟩) K.length c3), (12, iq pe), (14, .bool t), (15, .bool (Bool.or o w)), (16, iq (i : Nat))] [.own g2 24 (tcells z x y), .own g1 36 r.cells, .ro g o' (tlc Zm K)] mixed (by kernel_rfl) (fun Z hZ => ?_) ?_
    · refine sq_move rfl rfl ?_
      refine sq_move rfl rfl ?_
      refine sq_split 72 rfl (fun hb1 => ?_) (fun hb1 => ?_)
      · refine sq_off rfl rfl rfl rfl rfl ?_
        refine sq_off rfl rfl rfl rfl rfl ?_
        refine sq_off rfl rfl rfl rfl rfl ?_
        refine sq_off rfl rfl rfl rfl rfl ?_
        refine sq_off rfl rfl rfl rfl rfl ?_
        refine sq_off rfl rfl rfl rfl rfl ?_
        refine sq_pick rfl rfl rfl ?_
        refine sq_assign rfl rfl ?_
        refine sq_nil (hZ _ _ ?_ ?_)
        · exact Kn.cons rfl (Kn.cons rfl (Kn.cons rfl (Kn.cons rfl (Kn.cons rfl (Kn.cons (congrArg some (congrArg Value.bool (by first | (cases o <;> cases w <;> first | rfl | (exfalso; simp at hb1; done)) | simp_all))) (Kn.cons rfl Kn.nil))))))
        · exact HLe.refl _
      · refine sq_on rfl rfl rfl ?_
        refine sq_move rfl rfl ?_
        refine sq_on rfl rfl rfl ?_
        refine sq_move rfl rfl ?_
        refine sq_on rfl rfl rfl ?_
        refine sq_indexAddr (o' + i * 3) Try.underlying54 tyS39 rfl rfl (by omega) (by simp) rfl ?_
        refine sq_on rfl rfl rfl ?_
        refine sq_loadRo 2 rfl rfl (i * 3) rfl tyA39 tyS39 (tlc_all hp) rfl ?_
        refine sq_on rfl rfl rfl ?_
        refine sq_loadA 0 rfl rfl tyA24 tyS24 (by first | (simp only [List.length_cons, List.length_nil, Nat.reduceAdd, Nat.zero_add, Nat.add_zero]; first | done | rfl) | rfl) (by first | (simp only [List.take_succ_cons, List.take_zero, List.drop_succ_cons, List.drop_zero, List.cons_append, List.nil_append, List.append_nil, List.length_cons, List.length_nil, Nat.reduceAdd, Nat.zero_add, Nat.add_zero, Value.cells, wrV]; first | done | rfl) | rfl) rfl ?_
        refine sq_on rfl rfl rfl ?_
        refine sq_aeql (ti_eqC (Zm : Nat) (p.1 : Nat) (p.2 : Nat) z x y) guard_tiC rfl rfl rfl ?_
        rw [hw]
        refine sq_pick rfl rfl rfl ?_
        refine sq_assign rfl rfl ?_
        refine sq_nil (hZ _ _ ?_ ?_)
        · exact Kn.cons rfl (Kn.cons rfl (Kn.cons rfl (Kn.cons rfl (Kn.cons rfl (Kn.cons (congrArg some (congrArg Value.bool (by first | (cases o <;> cases w <;> first | rfl | (exfalso; simp at hb1; done)) | simp_all))) (Kn.cons rfl Kn.nil))))))
        · exact HLe.refl _
    refine awq_seq_region mixed (by kernel_rfl) (fun Z hZ => ?_)
    refine sq_loadA 1 rfl rfl tyA36 tyS36 (by first | (simp only [List.length_cons, List.length_nil, Nat.reduceAdd, Nat.zero_add, Nat.add_zero]; first | done | rfl) | rfl) (by first | (simp only [List.take_succ_cons, List.take_zero, List.drop_succ_cons, List.drop_zero, List.cons_append, List.nil_append, List.append_nil, List.length_cons, List.length_nil, Nat.reduceAdd, Nat.zero_add, Nat.add_zero, Value.cells, wrV]; first | done | rfl) | rfl) rfl ?_
    refine sq_move rfl rfl ?_
    refine sq_move rfl rfl ?_
    refine sq_indexAddr (o' + i * 3) Try.underlying54 tyS39 rfl rfl (by omega) (by simp) rfl ?_
    refine sq_loadRo 2 rfl rfl (i * 3) rfl tyA39 tyS39 (tlc_all hp) rfl ?_
    refine sq_callP hph rfl rfl ?_
    refine sq_not rfl rfl ?_
    refine sq_nil (hZ _ _ ?_)
    refine awp_forget [(4, _), (5, _), (9, _), (12, _), (14, _), (15, _), (16, _), (86, _)] (Kn.cons rfl (Kn.cons rfl (Kn.cons rfl (Kn.cons rfl (Kn.cons rfl (Kn.cons rfl (Kn.cons rfl (Kn.cons rfl (Kn.nil))))))))) ?_
    refine awp_cond rfl (fun h14 => ?_) (fun h14 => ?_)
    · cases h14
    refine awp_skip ?_
    repeat (with_reducible refine nx_block_normal ?_)
    with_reducible refine nx_normal ?_
    refine awp_region (fun Z hZ => ?_)
    refine sx_move rfl rfl ?_
    refine sx_add rfl rfl ((i + 1 : Nat) : Int) (by rw [IntWalk.i64_in _ (by omega)]; omega) rfl ?_
    refine sx_assign rfl rfl ?_
    refine sx_nil (hZ _ _ ?_)
    refine nx_forget [(4, _), (5, _), (9, _), (12, _), (14, _), (15, _), (16, _)] (Kn.cons rfl (Kn.cons rfl (Kn.cons rfl (Kn.cons rfl (Kn.cons rfl (Kn.cons rfl (Kn.cons rfl (Kn.nil)))))))) ?_
    refine nx_round (o || w, i + 1) ⟨hlt, ?_⟩ (show K.length - (i + 1) < K.length - i by omega) (Kn.cons rfl (Kn.cons rfl (Kn.cons rfl (Kn.cons rfl (Kn.cons rfl (Kn.cons rfl (Kn.cons rfl Kn.nil))))))) (HLe.refl _)
    show (o || w) = (K.take (i + 1)).any _
    obtain ⟨hlt2, hpe2⟩ := List.getElem?_eq_some_iff.1 hp
    rw [List.take_succ_eq_append_getElem hlt2, hpe2, List.any_append, ← ho, List.any_cons, List.any_nil, Bool.or_false, hw]
  · refine awp_exit ?_
    repeat (with_reducible refine nx_then_exit ?_)
    with_reducible refine nx_block_exit ?_
    with_reducible refine nx_normal ?_
    obtain rfl : i = K.length := by simp at h11; omega
    rw [List.take_length, hin] at ho
    by_cases hp0 : pe = 0
    · subst hp0
      cases t
      · obtain rfl : o = q := by rw [ho]; simp
        refine awp_seq_region (fun Z hZ => ?_)
        refine sx_move rfl rfl ?_
        refine sx_move rfl rfl ?_
        refine sx_eql rfl rfl rfl ?_
        refine sx_move rfl rfl ?_
        refine sx_force 90 rfl true (by first | rfl | (simp; done) | (simp; omega) | (simp; assumption)) ?_
        refine sx_on rfl rfl rfl ?_
        refine sx_move rfl rfl ?_
        refine sx_on rfl rfl rfl ?_
        refine sx_not rfl rfl ?_
        refine sx_pick rfl rfl rfl ?_
        refine sx_move rfl rfl ?_
        refine sx_force 94 rfl true (by first | rfl | (simp; done) | (simp; omega) | (simp; assumption)) ?_
        refine sx_on rfl rfl rfl ?_
        refine sx_loadA 1 rfl rfl tyA36 tyS36 (by first | (simp only [List.length_cons, List.length_nil, Nat.reduceAdd, Nat.zero_add, Nat.add_zero]; first | done | rfl) | rfl) (by first | (simp only [List.take_succ_cons, List.take_zero, List.drop_succ_cons, List.drop_zero, List.cons_append, List.nil_append, List.append_nil, List.length_cons, List.length_nil, Nat.reduceAdd, Nat.zero_add, Nat.add_zero, Value.cells, wrV]; first | done | rfl) | rfl) rfl ?_
        refine sx_on rfl rfl rfl ?_
        refine sx_loadA 0 rfl rfl tyA24 tyS24 (by first | (simp only [List.length_cons, List.length_nil, Nat.reduceAdd, Nat.zero_add, Nat.add_zero]; first | done | rfl) | rfl) (by first | (simp only [List.take_succ_cons, List.take_zero, List.drop_succ_cons, List.drop_zero, List.cons_append, List.nil_append, List.append_nil, List.length_cons, List.length_nil, Nat.reduceAdd, Nat.zero_add, Nat.add_zero, Value.cells, wrV]; first | done | rfl) | rfl) rfl ?_
        refine sx_on rfl rfl rfl ?_
        refine sx_callP hhas rfl rfl ?_
        refine sx_pick rfl rfl rfl ?_
        refine sx_beql Try.underlying4 rfl rfl rfl ?_
        refine sx_move rfl rfl ?_
        refine sx_force 100 rfl true (by first | rfl | (simp; done) | (simp; omega) | (simp; assumption)) ?_
        refine sx_on rfl rfl rfl ?_
        refine sx_callP x44wake_fn rfl rfl ?_
        refine sx_pick rfl rfl rfl ?_
        refine sx_assign rfl rfl ?_
        refine sx_nil (hZ _ _ ?_)
        refine awp_forget [(6, _)] (Kn.cons rfl (Kn.nil)) ?_
        refine awp_ret ?_
        exact nx_ret1 rfl rfl rfl
      · obtain rfl : o = false := by rw [ho]; simp
        refine awp_seq_region (fun Z hZ => ?_)
        refine sx_move rfl rfl ?_
        refine sx_move rfl rfl ?_
        refine sx_eql rfl rfl rfl ?_
        refine sx_move rfl rfl ?_
        refine sx_force 90 rfl true (by first | rfl | (simp; done) | (simp; omega) | (simp; assumption)) ?_
        refine sx_on rfl rfl rfl ?_
        refine sx_move rfl rfl ?_
        refine sx_on rfl rfl rfl ?_
        refine sx_not rfl rfl ?_
        refine sx_pick rfl rfl rfl ?_
        refine sx_move rfl rfl ?_
        refine sx_force 94 rfl false (by first | rfl | (simp; done) | (simp; omega) | (simp; assumption)) ?_
        refine sx_off rfl rfl rfl rfl rfl ?_
        refine sx_off rfl rfl rfl rfl rfl ?_
        refine sx_off rfl rfl rfl rfl rfl ?_
        refine sx_pick rfl rfl rfl ?_
        refine sx_beql Try.underlying4 rfl rfl rfl ?_
        refine sx_move rfl rfl ?_
        refine sx_force 100 rfl true (by first | rfl | (simp; done) | (simp; omega) | (simp; assumption)) ?_
        refine sx_on rfl rfl rfl ?_
        refine sx_callP x44wake_fn rfl rfl ?_
        refine sx_pick rfl rfl rfl ?_
        refine sx_assign rfl rfl ?_
        refine sx_nil (hZ _ _ ?_)
        refine awp_forget [(6, _)] (Kn.cons rfl (Kn.nil)) ?_
        refine awp_ret ?_
        exact nx_ret1 rfl rfl rfl
    · obtain rfl : o = false := by rw [ho]; simp [hp0]
      refine awp_seq_region (fun Z hZ => ?_)
      refine sx_move rfl rfl ?_
      refine sx_move rfl rfl ?_
      refine sx_eql rfl rfl rfl ?_
      refine sx_move rfl rfl ?_
      refine sx_force 90 rfl false (by first | rfl | (simp; done) | (simp; omega) | (simp; assumption)) ?_
      refine sx_off rfl rfl rfl rfl rfl ?_
      refine sx_off rfl rfl rfl rfl rfl ?_
      refine sx_pick rfl rfl rfl ?_
      refine sx_move rfl rfl ?_
      refine sx_force 94 rfl false (by first | rfl | (simp; done) | (simp; omega) | (simp; assumption)) ?_
      refine sx_off rfl rfl rfl rfl rfl ?_
      refine sx_off rfl rfl rfl rfl rfl ?_
      refine sx_off rfl rfl rfl rfl rfl ?_
      refine sx_pick rfl rfl rfl ?_
      refine sx_beql Try.underlying4 rfl rfl rfl ?_
      refine sx_move rfl rfl ?_
      refine sx_force 100 rfl true (by first | rfl | (simp; done) | (simp; omega) | (simp; assumption)) ?_
      refine sx_on rfl rfl rfl ?_
      refine sx_callP x44wake_fn rfl rfl ?_
      refine sx_pick rfl rfl rfl ?_
      refine sx_assign rfl rfl ?_
      refine sx_nil (hZ _ _ ?_)
      refine awp_forget [(6, _)] (Kn.cons rfl (Kn.nil)) ?_
      refine awp_ret ?_
      exact nx_ret1 rfl rfl rfl
theorem leaves_rc44 : leaves Try.prog 5 36 = some [.int .i64, .int .i64, .int .i64, .int .i64, .int .i64] := by kernel_rfl
theorem leaves_ti44 : leaves Try.prog 5 24 = some [.int .i64, .int .i64, .int .i64] := by kernel_rfl
theorem ExtentHole_read {H : Type} {enc : TypeId × Value → H} (w : World) {base : Nat} {v0 v1 v2 : Value} {d0 d1 d2 : DataW H} {p0 p1 p2 : List MemPlace}
    (k0 : Value.okWide Try.prog w .any base 22 v0) (h0 : DataW.Trod enc Try.prog w 0 (fun _ => true) true 22 v0 d0 p0)
    (k1 : Value.okWide Try.prog w .any base 36 v1) (h1 : DataW.Trod enc Try.prog w 0 (fun _ => true) true 36 v1 d1 p1)
    (k2 : Value.okWide Try.prog w .any base 24 v2) (h2 : DataW.Trod enc Try.prog w 0 (fun _ => true) true 24 v2 d2 p2) :
    Calls Try.prog 5 #[v0, v1, v2] w fun e w' => e = .returned (.bool true) ∧ Bel w w' := by
  obtain ⟨A, c, L, T, rfl, hA, hL, hE, hT, hro, hS, hc⟩ := open_its k0 h0
  obtain ⟨cs0, rfl, a⟩ := open_struct 5 Try.underlying36 leaves_rc44 k1 h1
  obtain ⟨rz, c1, rfl, _, a1⟩ := alike_i64 a
  obtain ⟨ra, c2, rfl, _, a2⟩ := alike_i64 a1
  obtain ⟨rb, c3, rfl, _, a3⟩ := alike_i64 a2
  obtain ⟨rc, c4, rfl, _, a4⟩ := alike_i64 a3
  obtain ⟨rd, c5, rfl, _, a5⟩ := alike_i64 a4
  cases a5
  obtain ⟨cs, rfl, b⟩ := open_struct 5 Try.underlying24 leaves_ti44 k2 h2
  obtain ⟨t1, e1, rfl, _, b1⟩ := alike_i64 b
  obtain ⟨t2, e2, rfl, _, b2⟩ := alike_i64 b1
  obtain ⟨t3, e3, rfl, _, b3⟩ := alike_i64 b2
  cases b3
  exact tail_bel hro hS (xholelaw_fn A c L T hA hT hro hL hE ⟨rz, ra, rb, rc, rd⟩ t1 t2 t3)
namespace extentHole
open Go.ChangeShapes Go.WideShapes Go.ChangeAt Go.RowKit
theorem own : ownKnob Try.prog.godebug = none := by kernel_rfl
theorem laidOut : laidOutB Try.prog = true := by kernel_rfl
set_option maxRecDepth 100000 in
theorem lifted (os : Os) (started : os.Started) (H : Type) (enc : TypeId × Value → H) :
    ReturnsInHanded {} Try.checked os 5 .any (Rows.extentHoleSpec.pre6 enc Try.prog Try.f5 Rows.extentHoleRow.domain false) (Rows.extentHoleSpec.post enc Try.prog Try.f5 false true false false) := by
  refine returnsInHanded_of_change (C := Try.checked) own started (by kernel_rfl) Try.func5
    (ChangeSpec.witness6 (enc := enc) (C := Try.checked) false ⟨#[], #[.slice none 0 0, .agg #[.int .i64 0, .int .i64 0, .int .i64 0, .int .i64 0, .int .i64 0], .agg #[.int .i64 0, .int .i64 0, .int .i64 0]], []⟩ 8 (by kernel_rfl) (by kernel_rfl) (by kernel_rfl) (by kernel_rfl)) ?_
  intro W base args ds gs before hval0 hW hcnd _
  have hval : ∀ (j : Nat) t v, Try.f5.params[j]? = some t → args[j]? = some v → Value.okWide Try.prog W .any base t v := hval0
  have hW' := hW
  obtain ⟨p, q, hA0, hV, rfl, hfz, hnd⟩ := hW
  have hA : DataW.TrodAll enc Try.prog W 0 (fun _ => true) true Try.f5.params.toList args.toList ds p := hA0
  rw [Try.params5] at hA hval
  obtain ⟨v0, vs0, d0, ds0, p0, q0, hargs, rfl, rfl, h0, r0⟩ := trodAll_cons hA
  obtain ⟨v1, vs1, d1, ds1, p1, q1, rfl, rfl, rfl, h1, r1⟩ := trodAll_cons r0
  obtain ⟨v2, vs2, d2, ds2, p2, q2, rfl, rfl, rfl, h2, r2⟩ := trodAll_cons r1
  obtain ⟨rfl, rfl, rfl⟩ := trodAll_nil r2
  obtain rfl : args = #[v0, v1, v2] := by cases args; simp_all
  obtain ⟨rfl, rfl⟩ := trodVars_none hV
  have lt0 : ∀ x ∈ p0, x.block < W.heap.size := by obtain ⟨m, hm⟩ := h0; exact DataW.trod_lt m _ _ _ hm
  have lt1 : ∀ x ∈ p1, x.block < W.heap.size := by obtain ⟨m, hm⟩ := h1; exact DataW.trod_lt m _ _ _ hm
  have lt2 : ∀ x ∈ p2, x.block < W.heap.size := by obtain ⟨m, hm⟩ := h2; exact DataW.trod_lt m _ _ _ hm
  refine (ExtentHole_read W (hval 0 22 v0 rfl rfl) h0 (hval 1 36 v1 rfl rfl) h1 (hval 2 24 v2 rfl rfl) h2).mono fun e W' ⟨he, bel0⟩ => ?_
  have bel : Below W.heap.size W W' := bel0
  subst he
  exact ⟨_, rfl, _, _, _, [], _, [], hW', trodAll_mk1 (shut_bool Try.underlying4 _), (trodAll_cons_mk (Below.trod laidOut (by kernel_rfl) (of_decide_eq_true (by kernel_rfl)) h0 bel lt0) (trodAll_cons_mk (Below.trod laidOut (by kernel_rfl) (of_decide_eq_true (by kernel_rfl)) h1 bel lt1) (trodAll_cons_mk (Below.trod laidOut (by kernel_rfl) (of_decide_eq_true (by kernel_rfl)) h2 bel lt2) trodAll_mk0))), rfl, bel.frame _, fun h => by cases h⟩
theorem over : Rows.extentHoleRow.holds Try.pinned (OpenSpec.ofChange Rows.extentHoleSpec) :=
  OpenClaim.holds_of_wide 5 Try.f5 rfl rfl rfl rfl rfl rfl rfl ⟨rfl, rfl, rfl, rfl, rfl⟩ rfl rfl rfl rfl rfl (by kernel_rfl) Try.func5 (by kernel_rfl)
    (of_decide_eq_true (by kernel_rfl)) (by unfold Func.isWrapper; first | (rw [if_pos (by decide +kernel)]; kernel_rfl) | (rw [if_neg (by decide +kernel)]; exact ⟨rfl, rfl⟩))
    (fun os started H enc _ => lifted os started H enc)
theorem proved : Rows.ExtentHoleSaid := over
#print axioms proved
end extentHole
end Go.Proofs.Ytmebmkkllhnmlaa
