/- Both charts' tiles, side by side: the walk of what ranges over them, and of Between. Conditions: the lists are not too long. -/
import Derived.Test.YtahmhcmfeloclaaDf4
namespace Go.Proofs.Ytahmhcmfeloclaa
open Go.RowKit
set_option linter.unusedVariables false
set_option linter.unusedSimpArgs false
theorem gboth_fn (A : Option Addr) (n c : Nat) (B : Option Addr) (m d : Nat) : Fn Try.prog 31 [chV A n c, chV B m d] [] fun v H' => ∃ ga gb, v = .func (.func 41) #[] #[ptr ga 0, ptr gb 0] ∧ H' = [.own gb 29 [.slice B m d], .own ga 29 [.slice A n c]] := by
  refine Fn.enter (N := 6) Try.func31 rfl (by kernel_rfl) rfl (fun w0 => ?_)

  refine awp_seq_region (fun Z hZ => ?_)
  refine sx_box rfl rfl rfl (fun g1 => ?_)
  refine sx_box rfl rfl rfl (fun g2 => ?_)
  refine sx_assign rfl rfl ?_
  refine sx_nil (hZ _ _ ?_)
  refine awp_forget [(2, _), (3, _)] (Kn.cons rfl (Kn.cons rfl (Kn.nil))) ?_
  refine awp_seq_region (fun Z hZ => ?_)
  refine sx_makeFunc rfl rfl ?_
  refine sx_assign rfl rfl ?_
  refine sx_nil (hZ _ _ ?_)
  refine awp_forget [(4, _)] (Kn.cons rfl (Kn.nil)) ?_
  refine awp_ret ?_
  repeat (with_reducible (first | refine nx_then_ret ?_ | refine nx_block_ret ?_ | refine nx_scope_ret ?_))
  exact nx_ret1h _ rfl rfl (HLe.refl _) ⟨g1, g2, rfl, rfl⟩
/-- A row that is left when so many are taken. -/
def Suf (A : Option Addr) (i n size : Nat) (X : Option Addr) : Prop := i < n → ∃ g o, A = some ⟨g, o, none⟩ ∧ X = some ⟨g, o + i * size, none⟩
theorem Suf.next {g o i n size : Nat} {X' : Option Addr} (h : TailA (some ⟨g, o + i * size, none⟩) 1 size X' (n - i - 1)) : Suf (some ⟨g, o, none⟩) (i + 1) n size X' := fun hi => by
  obtain ⟨o', h1, h2⟩ := h.2 g (o + i * size) rfl
  have := h2 (by omega)
  subst this
  exact ⟨g, o, rfl, by rw [h1, Nat.add_mul, Nat.add_assoc]⟩
theorem both_nil {a b : List It} (h : bothQ a b = []) : a = [] ∧ b = [] := by
  match a, b, h with
  | [], [], _ => exact ⟨rfl, rfl⟩
  | x :: xs, [], h => unfold bothQ at h; cases h
  | [], y :: ys, h => unfold bothQ at h; cases h
  | x :: xs, y :: ys, h =>
    unfold bothQ at h
    split at h
    · cases h
    · split at h <;> cases h
theorem both_x (x : It) (xs : List It) : bothQ (x :: xs) [] = ⟨x.id, x.tx, []⟩ :: bothQ xs [] := by rw [bothQ]
theorem both_y (y : It) (ys : List It) : bothQ [] (y :: ys) = ⟨y.id, [], y.tx⟩ :: bothQ [] ys := by rw [bothQ]
theorem both_lt {x y : It} {xs ys : List It} (h : x.id < y.id) : bothQ (x :: xs) (y :: ys) = ⟨x.id, x.tx, []⟩ :: bothQ xs (y :: ys) := by rw [bothQ, if_pos h]
theorem both_gt {x y : It} {xs ys : List It} (h : y.id < x.id) : bothQ (x :: xs) (y :: ys) = ⟨y.id, [], y.tx⟩ :: bothQ (x :: xs) ys := by rw [bothQ, if_neg (by omega), if_pos h]
theorem both_eq {x y : It} {xs ys : List It} (h : x.id = y.id) : bothQ (x :: xs) (y :: ys) = ⟨x.id, x.tx, y.tx⟩ :: bothQ xs ys := by rw [bothQ, if_neg (by omega), if_neg (by omega)]
theorem drop_itAt {L : List It} {i : Nat} (h : i < L.length) : L.drop i = itAt L i :: L.drop (i + 1) := by
  rw [List.drop_eq_getElem_cons h]
  congr 1
  simp [itAt, List.getElem?_eq_getElem h]
theorem both_it (ga gb : Nat) (A : Option Addr) (c : Nat) (L : List It) (B : Option Addr) (d : Nat) (M : List It) (hA : SlIn A L.length c) (hB : SlIn B M.length d) (hL : L.length ≤ 100000) (hM : M.length ≤ 100000) :
    Iter Try.prog 41 [ptr ga 0, ptr gb 0] (.ro ga 0 [.slice A L.length c] :: .ro gb 0 [.slice B M.length d] :: (roE A (icells L) ++ roE B (icells M))) ((bothQ L M).map fun e => [e.val]) := by
  intro l J Jr S hJ hS hJr hY T0 hT0
  have hlen : ((bothQ L M).map fun e => [e.val]).length = (bothQ L M).length := by simp
  rw [hlen]
  refine Fn.enter (N := 95) Try.func41 rfl (by kernel_rfl) rfl (fun w0 => ?_)

  refine awp_heap (.ro ga 0 [.slice A L.length c] :: .ro gb 0 [.slice B M.length d] :: ((roE A (icells L) ++ roE B (icells M)) ++ (T0 ++ Jr))) (HLe.refl _) ?_
  refine aww_seq_region _ [(0, true), (1, false), (2, true), (3, false), (4, true), (5, true)] mixed (by kernel_rfl) (HLe.pick [0, 1] (by simp) (by simp only [pick, List.filterMap_cons, List.filterMap_nil, List.getElem?_cons_succ, List.getElem?_cons_zero]; rfl)) (fun Z hZ => ?_)
  refine tw_p rfl ?_
  refine sv_loadRo 0 rfl rfl 0 rfl tyA29 tyS29 rfl rfl ?_
  refine sv_nil ?_
  refine tw_g rfl ?_
  refine sx_itemsE L hA (.cons _ (.cons _ ((List.sublist_append_left _ _).trans (List.sublist_append_left _ _)))) hL rfl rfl (fun A5 c5 hA5 => ?_)
  refine sx_nil ⟨HLe.pick [0, 1] (by simp) rfl, ?_⟩
  refine tw_p rfl ?_
  refine sv_loadRo 1 rfl rfl 0 rfl tyA29 tyS29 rfl rfl ?_
  refine sv_nil ?_
  refine tw_g rfl ?_
  refine sx_itemsE M hB (.cons _ (.cons _ (((List.sublist_append_right _ _).trans (List.sublist_append_left _ _)).trans (List.sublist_append_left _ _)))) hM rfl rfl (fun B5 d5 hB5 => ?_)
  refine sx_nil ⟨HLe.pick [0, 1] (by simp) rfl, ?_⟩
  refine tw_p rfl ?_
  refine sv_assign rfl rfl ?_
  refine sv_nil ?_
  refine tw_p rfl ?_
  refine sv_assign rfl rfl ?_
  refine sv_nil ?_
  refine tw_nil (hZ _ _ ?_)
  refine awp_forget [(0, _), (4, _), (5, _)] (Kn.cons rfl (Kn.cons rfl (Kn.cons rfl (Kn.nil)))) ?_
  refine awp_heap ((roE A5 (icells L) ++ roE B5 (icells M)) ++ (T0 ++ Jr)) (fun _ _ _ hw => (hw.sub (.cons _ (.cons _ (List.Sublist.append (List.Sublist.append (List.sublist_append_right _ _) (List.Sublist.refl _)) (List.Sublist.refl _))))).perm (by rw [List.append_assoc]; exact List.perm_append_comm)) ?_

  refine awp_block ?_
  refine awp_loop (ι := (Nat × Option Addr × Nat) × (Nat × Option Addr × Nat) × Nat × Heap) (fun s => [(0, .func (.yield l) #[] #[]), (4, .slice s.1.2.1 (L.length - s.1.1) s.1.2.2), (5, .slice s.2.1.2.1 (M.length - s.2.1.1) s.2.1.2.2)]) (fun s => (roE A5 (icells L) ++ roE B5 (icells M)) ++ (s.2.2.2 ++ Jr))
    (fun s => s.1.1 ≤ L.length ∧ s.2.1.1 ≤ M.length ∧ SlIn s.1.2.1 (L.length - s.1.1) s.1.2.2 ∧ SlIn s.2.1.2.1 (M.length - s.2.1.1) s.2.1.2.2 ∧ Suf A5 s.1.1 L.length 2 s.1.2.1 ∧ Suf B5 s.2.1.1 M.length 2 s.2.1.2.1 ∧ (bothQ L M).drop s.2.2.1 = bothQ (L.drop s.1.1) (M.drop s.2.1.1) ∧ s.2.2.1 ≤ (bothQ L M).length ∧ J s.2.2.1 s.2.2.2)
    (fun s => (L.length - s.1.1) + (M.length - s.2.1.1)) ((0, A5, c5), (0, B5, d5), 0, T0) ⟨by simp, by simp, hA5, hB5, fun h => by obtain ⟨g, o, e⟩ := hA5.arg h; exact ⟨g, o, e, by rw [e]; simp⟩, fun h => by obtain ⟨g, o, e⟩ := hB5.arg h; exact ⟨g, o, e, by rw [e]; simp⟩, rfl, Nat.zero_le _, hT0⟩ (Kn.cons rfl (Kn.cons rfl (Kn.cons rfl Kn.nil))) (HLe.refl _) ?_
  rintro ⟨⟨i, X, cx⟩, ⟨j, Y, cy⟩, k, T3⟩ ⟨hi, hj, hX, hY2, hSX, hSY, hq, hk, hT3⟩
  simp only at hi hj hX hY2 hSX hSY hq hk hT3
  refine awp_seq ?_
  refine awp_seq_region (fun Z hZ => ?_)
  refine sx_move rfl rfl ?_
  first | refine sx_len Try.underlying27 rfl rfl ?_ | refine sx_lenS Try.underlying27 rfl rfl ?_
  refine sx_move rfl rfl ?_
  first | refine sx_len Try.underlying27 rfl rfl ?_ | refine sx_lenS Try.underlying27 rfl rfl ?_
  refine sx_add rfl rfl (((L.length - i : Nat) : Int) + ((M.length - j : Nat) : Int)) (by rw [IntWalk.i64_in _ (by omega)]) rfl ?_
  first | refine sx_gtr rfl rfl rfl ?_ | refine sx_sgtr rfl rfl rfl ?_
  refine sx_nil (hZ _ _ ?_)
  refine awp_forget [(0, _), (4, _), (5, _), (16, _)] (Kn.cons rfl (Kn.cons rfl (Kn.cons rfl (Kn.cons rfl (Kn.nil))))) ?_
  first | refine awp_cond rfl (fun hh => ?_) (fun hh => ?_) | refine awp_seq (awp_cond rfl (fun hh => ?_) (fun hh => ?_))
  · have hpos : 0 < (L.length - i) + (M.length - j) := by simp at hh; omega
    refine awp_skip ?_
    repeat (with_reducible (first | refine nx_block_normal ?_ | refine nx_scope_normal ?_))
    with_reducible first | refine nx_normal ?_ | refine nx_normalM ?_
    refine awp_block ?_
    refine awp_seq_region (fun Z hZ => ?_)
    refine sx_alloc tyZ53 rfl (fun g1 => ?_)
    refine sx_nil (hZ _ _ ?_)
    refine awp_forget [(0, _), (4, _), (5, _), (6, _)] (Kn.cons rfl (Kn.cons rfl (Kn.cons rfl (Kn.cons rfl (Kn.nil))))) ?_
    refine awp_cut (ι := Chg × (Nat × Option Addr × Nat) × (Nat × Option Addr × Nat)) (fun s => [(0, .func (.yield l) #[] #[]), (4, .slice s.2.1.2.1 (L.length - s.2.1.1) s.2.1.2.2), (5, .slice s.2.2.2.1 (M.length - s.2.2.1) s.2.2.2.2), (6, ptr g1 0)]) (fun s => .own g1 53 s.1.cells :: ((roE A5 (icells L) ++ roE B5 (icells M)) ++ (T3 ++ Jr)))
      (fun s => s.2.1.1 ≤ L.length ∧ s.2.2.1 ≤ M.length ∧ SlIn s.2.1.2.1 (L.length - s.2.1.1) s.2.1.2.2 ∧ SlIn s.2.2.2.1 (M.length - s.2.2.1) s.2.2.2.2 ∧ Suf A5 s.2.1.1 L.length 2 s.2.1.2.1 ∧ Suf B5 s.2.2.1 M.length 2 s.2.2.2.1 ∧ i + j < s.2.1.1 + s.2.2.1 ∧ (bothQ L M).drop k = s.1 :: bothQ (L.drop s.2.1.1) (M.drop s.2.2.1)) ?_ ?_
    · refine awp_block ?_
      by_cases hx : i < L.length
      · have hxa := itAt_at hx
        have hdx := drop_itAt hx
        obtain ⟨x, hxe⟩ : ∃ x, itAt L i = x := ⟨_, rfl⟩
        rw [hxe] at hxa hdx
        obtain ⟨gx, ox, rfl, rfl⟩ := hSX hx
        by_cases hy : j < M.length
        · have hya := itAt_at hy
          have hdy := drop_itAt hy
          obtain ⟨y, hye⟩ : ∃ y, itAt M j = y := ⟨_, rfl⟩
          rw [hye] at hya hdy
          obtain ⟨gy, oy, rfl, rfl⟩ := hSY hy
          refine awp_heap (.own g1 53 [uq 0, .string (str []), .string (str [])] :: .ro gx ox (icells L) :: .ro gy oy (icells M) :: (T3 ++ Jr)) (HLe.refl _) ?_

          by_cases hlt : x.id < y.id
          · have hb := both_lt (x := x) (y := y) (xs := L.drop (i + 1)) (ys := M.drop (j + 1)) hlt
            rw [← hdx, ← hdy] at hb
            refine awq_seq_meet [(0, .func (.yield l) #[] #[]), (4, .slice (some ⟨gx, ox + i * 2, none⟩) (L.length - i) cx), (5, .slice (some ⟨gy, oy + j * 2, none⟩) (M.length - j) cy), (6, ptr g1 0), (34, .bool true)] (.own g1 53 [uq 0, .string (str []), .string (str [])] :: .ro gx ox (icells L) :: .ro gy oy (icells M) :: (T3 ++ Jr)) mixed (by kernel_rfl) (fun Z hZ => ?_) ?_
            · refine sq_move rfl rfl ?_
              first | refine sq_len Try.underlying27 rfl rfl ?_ | refine sq_lenS Try.underlying27 rfl rfl ?_
              first | refine sq_eql rfl rfl rfl ?_ | refine sq_seql rfl rfl rfl ?_
              refine sq_move rfl rfl ?_
              refine sq_force 38 rfl false (by first | rfl | (simp; done) | (simp; omega)) ?_
              refine sq_on rfl rfl rfl ?_
              refine sq_move rfl rfl ?_
              refine sq_on rfl rfl rfl ?_
              first | refine sq_len Try.underlying27 rfl rfl ?_ | refine sq_lenS Try.underlying27 rfl rfl ?_
              refine sq_on rfl rfl rfl ?_
              first | refine sq_gtr rfl rfl rfl ?_ | refine sq_sgtr rfl rfl rfl ?_
              refine sq_on rfl rfl rfl ?_
              refine sq_move rfl rfl ?_
              refine sq_force 42 rfl true (by first | rfl | (simp; done) | (simp; omega)) ?_
              refine sq_on rfl rfl rfl ?_
              refine sq_move rfl rfl ?_
              refine sq_on rfl rfl rfl ?_
              refine sq_indexAddr (ox + i * 2) Try.underlying27 tyS60 rfl rfl (by first | omega | (simp; omega)) (by simp) rfl ?_
              refine sq_on rfl rfl rfl ?_
              refine sq_fieldAddr rfl tyF60_0 (by first | (simp only [Nat.reduceAdd, Nat.add_zero, Nat.zero_add]; first | done | rfl) | rfl) rfl ?_
              refine sq_on rfl rfl rfl ?_
              refine sq_loadRo 1 rfl rfl (i * 2) rfl tyA51 tyS51 (icells_id hxa) rfl ?_
              refine sq_on rfl rfl rfl ?_
              refine sq_move rfl rfl ?_
              refine sq_on rfl rfl rfl ?_
              refine sq_indexAddr (oy + j * 2) Try.underlying27 tyS60 rfl rfl (by first | omega | (simp; omega)) (by simp) rfl ?_
              refine sq_on rfl rfl rfl ?_
              refine sq_fieldAddr rfl tyF60_0 (by first | (simp only [Nat.reduceAdd, Nat.add_zero, Nat.zero_add]; first | done | rfl) | rfl) rfl ?_
              refine sq_on rfl rfl rfl ?_
              refine sq_loadRo 2 rfl rfl (j * 2) rfl tyA51 tyS51 (icells_id hya) rfl ?_
              refine sq_on rfl rfl rfl ?_
              first | refine sq_lss rfl rfl rfl ?_ | refine sq_slss rfl rfl rfl ?_
              refine sq_on rfl rfl rfl ?_
              refine sq_pick rfl rfl rfl ?_
              refine sq_pick rfl rfl rfl ?_
              refine sq_assign rfl rfl ?_
              refine sq_nil (hZ _ _ ?_ ?_)
              · exact Kn.cons rfl (Kn.cons rfl (Kn.cons rfl (Kn.cons rfl (Kn.cons (congrArg some (congrArg Value.bool (by first | rfl | (simp; omega)))) Kn.nil))))
              · exact HLe.refl _
            first | refine awp_cond rfl (fun h1 => ?_) (fun h1 => ?_) | refine awp_seq (awp_cond rfl (fun h1 => ?_) (fun h1 => ?_))
            · refine aww_region _ [(0, true), (1, true), (2, true), (3, true), (4, true), (5, true), (6, true), (7, true), (8, true), (9, true), (10, true), (11, false), (12, true)] mixed (by kernel_rfl) (HLe.pick [1] (by simp) (by simp only [pick, List.filterMap_cons, List.filterMap_nil, List.getElem?_cons_succ, List.getElem?_cons_zero]; rfl)) (fun Z hZ => ?_)
              refine tw_p rfl ?_
              refine sv_move rfl rfl ?_
              refine sv_nil ?_
              refine tw_p rfl ?_
              refine sv_indexAddr (ox + i * 2) Try.underlying27 tyS60 rfl rfl (by first | omega | (simp; omega)) (by simp) rfl ?_
              refine sv_nil ?_
              refine tw_p rfl ?_
              refine sv_fieldAddr rfl tyF60_0 (by first | (simp only [Nat.reduceAdd, Nat.add_zero, Nat.zero_add]; first | done | rfl) | rfl) rfl ?_
              refine sv_nil ?_
              refine tw_p rfl ?_
              refine sv_loadRo 0 rfl rfl (i * 2) rfl tyA51 tyS51 (icells_id hxa) rfl ?_
              refine sv_nil ?_
              refine tw_p rfl ?_
              refine sv_move rfl rfl ?_
              refine sv_nil ?_
              refine tw_p rfl ?_
              refine sv_indexAddr (ox + i * 2) Try.underlying27 tyS60 rfl rfl (by first | omega | (simp; omega)) (by simp) rfl ?_
              refine sv_nil ?_
              refine tw_p rfl ?_
              refine sv_fieldAddr rfl tyF60_1 (by first | (simp only [Nat.reduceAdd, Nat.add_zero, Nat.zero_add]; first | done | rfl) | rfl) rfl ?_
              refine sv_nil ?_
              refine tw_p rfl ?_
              refine sv_loadRo 0 rfl rfl (i * 2 + 1) rfl tyA9 tyS9 (icells_tx hxa) rfl ?_
              refine sv_nil ?_
              refine tw_p rfl ?_
              refine sv_build tyZ53 tyP53 rfl rfl (by first | (simp only [List.take_succ_cons, List.take_zero, List.drop_succ_cons, List.drop_zero, List.cons_append, List.nil_append, List.append_nil, List.length_cons, List.length_nil, Nat.reduceAdd, Nat.zero_add, Nat.add_zero, Value.cells, wrV, zrep_one, List.replicate_succ, List.replicate_zero, Nat.reduceMul, Nat.zero_mul]; first | done | rfl) | rfl) rfl ?_
              refine sv_nil ?_
              refine tw_p rfl ?_
              refine sv_move rfl rfl ?_
              refine sv_nil ?_
              refine tw_p rfl ?_
              refine sv_part (i := 1) (j := L.length - i) Try.underlying27 tyS60 hX rfl rfl rfl (by omega) hX.cap rfl (fun X2 hX2 htX2 => ?_)
              refine sv_nil ?_
              refine tw_g rfl ?_
              first | refine sx_store 0 rfl rfl rfl tyS53 (by first | (simp only [Value.cells]; first | done | rfl) | rfl) rfl rfl (by first | (simp only [List.length_cons, List.length_nil, Nat.reduceAdd, Nat.zero_add, Nat.add_zero]; first | done | rfl) | rfl) (by first | (simp only [List.take_succ_cons, List.take_zero, List.drop_succ_cons, List.drop_zero, List.cons_append, List.nil_append, List.append_nil, List.length_cons, List.length_nil, Nat.reduceAdd, Nat.zero_add, Nat.add_zero, Value.cells, wrV]; first | done | rfl) | rfl) (by first | (simp only [List.set_cons_succ, List.set_cons_zero]; first | done | rfl) | rfl) ?_ | refine sx_store 1 rfl rfl rfl tyS53 (by first | (simp only [Value.cells]; first | done | rfl) | rfl) rfl rfl (by first | (simp only [List.length_cons, List.length_nil, Nat.reduceAdd, Nat.zero_add, Nat.add_zero]; first | done | rfl) | rfl) (by first | (simp only [List.take_succ_cons, List.take_zero, List.drop_succ_cons, List.drop_zero, List.cons_append, List.nil_append, List.append_nil, List.length_cons, List.length_nil, Nat.reduceAdd, Nat.zero_add, Nat.add_zero, Value.cells, wrV]; first | done | rfl) | rfl) (by first | (simp only [List.set_cons_succ, List.set_cons_zero]; first | done | rfl) | rfl) ?_ | refine sx_store 2 rfl rfl rfl tyS53 (by first | (simp only [Value.cells]; first | done | rfl) | rfl) rfl rfl (by first | (simp only [List.length_cons, List.length_nil, Nat.reduceAdd, Nat.zero_add, Nat.add_zero]; first | done | rfl) | rfl) (by first | (simp only [List.take_succ_cons, List.take_zero, List.drop_succ_cons, List.drop_zero, List.cons_append, List.nil_append, List.append_nil, List.length_cons, List.length_nil, Nat.reduceAdd, Nat.zero_add, Nat.add_zero, Value.cells, wrV]; first | done | rfl) | rfl) (by first | (simp only [List.set_cons_succ, List.set_cons_zero]; first | done | rfl) | rfl) ?_
              refine sx_nil ⟨HLe.pick [1] (by simp) rfl, ?_⟩
              refine tw_p rfl ?_
              refine sv_assign rfl rfl ?_
              refine sv_nil ?_
              refine tw_nil (hZ _ _ ?_)
              refine nx_forget [(0, _), (4, _), (5, _), (6, _)] (Kn.cons rfl (Kn.cons rfl (Kn.cons rfl (Kn.cons rfl (Kn.nil))))) ?_
              repeat (with_reducible (first | refine nx_block_normal ?_ | refine nx_scope_normal ?_))
              exact nx_cut (⟨x.id, x.tx, []⟩, (i + 1, X2, cx - 1), (j, some ⟨gy, oy + j * 2, none⟩, cy)) ⟨hx, hj, by rw [show L.length - (i + 1) = L.length - i - 1 by omega]; exact hX2, hY2, Suf.next htX2, hSY, by first | (simp; done) | (simp; omega), hq.trans hb⟩ (Kn.cons rfl (Kn.cons rfl (Kn.cons rfl (Kn.cons rfl Kn.nil)))) (HLe.refl _)
            · cases h1
          refine awq_seq_meet [(0, .func (.yield l) #[] #[]), (4, .slice (some ⟨gx, ox + i * 2, none⟩) (L.length - i) cx), (5, .slice (some ⟨gy, oy + j * 2, none⟩) (M.length - j) cy), (6, ptr g1 0), (34, .bool false)] (.own g1 53 [uq 0, .string (str []), .string (str [])] :: .ro gx ox (icells L) :: .ro gy oy (icells M) :: (T3 ++ Jr)) mixed (by kernel_rfl) (fun Z hZ => ?_) ?_
          · refine sq_move rfl rfl ?_
            first | refine sq_len Try.underlying27 rfl rfl ?_ | refine sq_lenS Try.underlying27 rfl rfl ?_
            first | refine sq_eql rfl rfl rfl ?_ | refine sq_seql rfl rfl rfl ?_
            refine sq_move rfl rfl ?_
            refine sq_force 38 rfl false (by first | rfl | (simp; done) | (simp; omega)) ?_
            refine sq_on rfl rfl rfl ?_
            refine sq_move rfl rfl ?_
            refine sq_on rfl rfl rfl ?_
            first | refine sq_len Try.underlying27 rfl rfl ?_ | refine sq_lenS Try.underlying27 rfl rfl ?_
            refine sq_on rfl rfl rfl ?_
            first | refine sq_gtr rfl rfl rfl ?_ | refine sq_sgtr rfl rfl rfl ?_
            refine sq_on rfl rfl rfl ?_
            refine sq_move rfl rfl ?_
            refine sq_force 42 rfl true (by first | rfl | (simp; done) | (simp; omega)) ?_
            refine sq_on rfl rfl rfl ?_
            refine sq_move rfl rfl ?_
            refine sq_on rfl rfl rfl ?_
            refine sq_indexAddr (ox + i * 2) Try.underlying27 tyS60 rfl rfl (by first | omega | (simp; omega)) (by simp) rfl ?_
            refine sq_on rfl rfl rfl ?_
            refine sq_fieldAddr rfl tyF60_0 (by first | (simp only [Nat.reduceAdd, Nat.add_zero, Nat.zero_add]; first | done | rfl) | rfl) rfl ?_
            refine sq_on rfl rfl rfl ?_
            refine sq_loadRo 1 rfl rfl (i * 2) rfl tyA51 tyS51 (icells_id hxa) rfl ?_
            refine sq_on rfl rfl rfl ?_
            refine sq_move rfl rfl ?_
            refine sq_on rfl rfl rfl ?_
            refine sq_indexAddr (oy + j * 2) Try.underlying27 tyS60 rfl rfl (by first | omega | (simp; omega)) (by simp) rfl ?_
            refine sq_on rfl rfl rfl ?_
            refine sq_fieldAddr rfl tyF60_0 (by first | (simp only [Nat.reduceAdd, Nat.add_zero, Nat.zero_add]; first | done | rfl) | rfl) rfl ?_
            refine sq_on rfl rfl rfl ?_
            refine sq_loadRo 2 rfl rfl (j * 2) rfl tyA51 tyS51 (icells_id hya) rfl ?_
            refine sq_on rfl rfl rfl ?_
            first | refine sq_lss rfl rfl rfl ?_ | refine sq_slss rfl rfl rfl ?_
            refine sq_on rfl rfl rfl ?_
            refine sq_pick rfl rfl rfl ?_
            refine sq_pick rfl rfl rfl ?_
            refine sq_assign rfl rfl ?_
            refine sq_nil (hZ _ _ ?_ ?_)
            · exact Kn.cons rfl (Kn.cons rfl (Kn.cons rfl (Kn.cons rfl (Kn.cons (congrArg some (congrArg Value.bool (by first | rfl | (simp; omega)))) Kn.nil))))
            · exact HLe.refl _
          first | refine awp_cond rfl (fun h1 => ?_) (fun h1 => ?_) | refine awp_seq (awp_cond rfl (fun h1 => ?_) (fun h1 => ?_))
          · cases h1
          by_cases hgt : y.id < x.id
          · have hb := both_gt (x := x) (y := y) (xs := L.drop (i + 1)) (ys := M.drop (j + 1)) hgt
            rw [← hdx, ← hdy] at hb
            refine awq_seq_meet [(0, .func (.yield l) #[] #[]), (4, .slice (some ⟨gx, ox + i * 2, none⟩) (L.length - i) cx), (5, .slice (some ⟨gy, oy + j * 2, none⟩) (M.length - j) cy), (6, ptr g1 0), (65, .bool true)] (.own g1 53 [uq 0, .string (str []), .string (str [])] :: .ro gx ox (icells L) :: .ro gy oy (icells M) :: (T3 ++ Jr)) mixed (by kernel_rfl) (fun Z hZ => ?_) ?_
            · refine sq_move rfl rfl ?_
              first | refine sq_len Try.underlying27 rfl rfl ?_ | refine sq_lenS Try.underlying27 rfl rfl ?_
              first | refine sq_eql rfl rfl rfl ?_ | refine sq_seql rfl rfl rfl ?_
              refine sq_move rfl rfl ?_
              refine sq_force 69 rfl false (by first | rfl | (simp; done) | (simp; omega)) ?_
              refine sq_on rfl rfl rfl ?_
              refine sq_move rfl rfl ?_
              refine sq_on rfl rfl rfl ?_
              refine sq_indexAddr (oy + j * 2) Try.underlying27 tyS60 rfl rfl (by first | omega | (simp; omega)) (by simp) rfl ?_
              refine sq_on rfl rfl rfl ?_
              refine sq_fieldAddr rfl tyF60_0 (by first | (simp only [Nat.reduceAdd, Nat.add_zero, Nat.zero_add]; first | done | rfl) | rfl) rfl ?_
              refine sq_on rfl rfl rfl ?_
              refine sq_loadRo 2 rfl rfl (j * 2) rfl tyA51 tyS51 (icells_id hya) rfl ?_
              refine sq_on rfl rfl rfl ?_
              refine sq_move rfl rfl ?_
              refine sq_on rfl rfl rfl ?_
              refine sq_indexAddr (ox + i * 2) Try.underlying27 tyS60 rfl rfl (by first | omega | (simp; omega)) (by simp) rfl ?_
              refine sq_on rfl rfl rfl ?_
              refine sq_fieldAddr rfl tyF60_0 (by first | (simp only [Nat.reduceAdd, Nat.add_zero, Nat.zero_add]; first | done | rfl) | rfl) rfl ?_
              refine sq_on rfl rfl rfl ?_
              refine sq_loadRo 1 rfl rfl (i * 2) rfl tyA51 tyS51 (icells_id hxa) rfl ?_
              refine sq_on rfl rfl rfl ?_
              first | refine sq_lss rfl rfl rfl ?_ | refine sq_slss rfl rfl rfl ?_
              refine sq_pick rfl rfl rfl ?_
              refine sq_assign rfl rfl ?_
              refine sq_nil (hZ _ _ ?_ ?_)
              · exact Kn.cons rfl (Kn.cons rfl (Kn.cons rfl (Kn.cons rfl (Kn.cons (congrArg some (congrArg Value.bool (by first | rfl | (simp; omega)))) Kn.nil))))
              · exact HLe.refl _
            first | refine awp_cond rfl (fun h2 => ?_) (fun h2 => ?_) | refine awp_seq (awp_cond rfl (fun h2 => ?_) (fun h2 => ?_))
            · refine aww_region _ [(0, true), (1, true), (2, true), (3, true), (4, true), (5, true), (6, true), (7, true), (8, true), (9, true), (10, true), (11, false), (12, true)] mixed (by kernel_rfl) (HLe.pick [2] (by simp) (by simp only [pick, List.filterMap_cons, List.filterMap_nil, List.getElem?_cons_succ, List.getElem?_cons_zero]; rfl)) (fun Z hZ => ?_)
              refine tw_p rfl ?_
              refine sv_move rfl rfl ?_
              refine sv_nil ?_
              refine tw_p rfl ?_
              refine sv_indexAddr (oy + j * 2) Try.underlying27 tyS60 rfl rfl (by first | omega | (simp; omega)) (by simp) rfl ?_
              refine sv_nil ?_
              refine tw_p rfl ?_
              refine sv_fieldAddr rfl tyF60_0 (by first | (simp only [Nat.reduceAdd, Nat.add_zero, Nat.zero_add]; first | done | rfl) | rfl) rfl ?_
              refine sv_nil ?_
              refine tw_p rfl ?_
              refine sv_loadRo 0 rfl rfl (j * 2) rfl tyA51 tyS51 (icells_id hya) rfl ?_
              refine sv_nil ?_
              refine tw_p rfl ?_
              refine sv_move rfl rfl ?_
              refine sv_nil ?_
              refine tw_p rfl ?_
              refine sv_indexAddr (oy + j * 2) Try.underlying27 tyS60 rfl rfl (by first | omega | (simp; omega)) (by simp) rfl ?_
              refine sv_nil ?_
              refine tw_p rfl ?_
              refine sv_fieldAddr rfl tyF60_1 (by first | (simp only [Nat.reduceAdd, Nat.add_zero, Nat.zero_add]; first | done | rfl) | rfl) rfl ?_
              refine sv_nil ?_
              refine tw_p rfl ?_
              refine sv_loadRo 0 rfl rfl (j * 2 + 1) rfl tyA9 tyS9 (icells_tx hya) rfl ?_
              refine sv_nil ?_
              refine tw_p rfl ?_
              refine sv_build tyZ53 tyP53 rfl rfl (by first | (simp only [List.take_succ_cons, List.take_zero, List.drop_succ_cons, List.drop_zero, List.cons_append, List.nil_append, List.append_nil, List.length_cons, List.length_nil, Nat.reduceAdd, Nat.zero_add, Nat.add_zero, Value.cells, wrV, zrep_one, List.replicate_succ, List.replicate_zero, Nat.reduceMul, Nat.zero_mul]; first | done | rfl) | rfl) rfl ?_
              refine sv_nil ?_
              refine tw_p rfl ?_
              refine sv_move rfl rfl ?_
              refine sv_nil ?_
              refine tw_p rfl ?_
              refine sv_part (i := 1) (j := M.length - j) Try.underlying27 tyS60 hY2 rfl rfl rfl (by omega) hY2.cap rfl (fun Y2 hY3 htY2 => ?_)
              refine sv_nil ?_
              refine tw_g rfl ?_
              first | refine sx_store 0 rfl rfl rfl tyS53 (by first | (simp only [Value.cells]; first | done | rfl) | rfl) rfl rfl (by first | (simp only [List.length_cons, List.length_nil, Nat.reduceAdd, Nat.zero_add, Nat.add_zero]; first | done | rfl) | rfl) (by first | (simp only [List.take_succ_cons, List.take_zero, List.drop_succ_cons, List.drop_zero, List.cons_append, List.nil_append, List.append_nil, List.length_cons, List.length_nil, Nat.reduceAdd, Nat.zero_add, Nat.add_zero, Value.cells, wrV]; first | done | rfl) | rfl) (by first | (simp only [List.set_cons_succ, List.set_cons_zero]; first | done | rfl) | rfl) ?_ | refine sx_store 1 rfl rfl rfl tyS53 (by first | (simp only [Value.cells]; first | done | rfl) | rfl) rfl rfl (by first | (simp only [List.length_cons, List.length_nil, Nat.reduceAdd, Nat.zero_add, Nat.add_zero]; first | done | rfl) | rfl) (by first | (simp only [List.take_succ_cons, List.take_zero, List.drop_succ_cons, List.drop_zero, List.cons_append, List.nil_append, List.append_nil, List.length_cons, List.length_nil, Nat.reduceAdd, Nat.zero_add, Nat.add_zero, Value.cells, wrV]; first | done | rfl) | rfl) (by first | (simp only [List.set_cons_succ, List.set_cons_zero]; first | done | rfl) | rfl) ?_ | refine sx_store 2 rfl rfl rfl tyS53 (by first | (simp only [Value.cells]; first | done | rfl) | rfl) rfl rfl (by first | (simp only [List.length_cons, List.length_nil, Nat.reduceAdd, Nat.zero_add, Nat.add_zero]; first | done | rfl) | rfl) (by first | (simp only [List.take_succ_cons, List.take_zero, List.drop_succ_cons, List.drop_zero, List.cons_append, List.nil_append, List.append_nil, List.length_cons, List.length_nil, Nat.reduceAdd, Nat.zero_add, Nat.add_zero, Value.cells, wrV]; first | done | rfl) | rfl) (by first | (simp only [List.set_cons_succ, List.set_cons_zero]; first | done | rfl) | rfl) ?_
              refine sx_nil ⟨HLe.pick [2] (by simp) rfl, ?_⟩
              refine tw_p rfl ?_
              refine sv_assign rfl rfl ?_
              refine sv_nil ?_
              refine tw_nil (hZ _ _ ?_)
              refine nx_forget [(0, _), (4, _), (5, _), (6, _)] (Kn.cons rfl (Kn.cons rfl (Kn.cons rfl (Kn.cons rfl (Kn.nil))))) ?_
              repeat (with_reducible (first | refine nx_block_normal ?_ | refine nx_scope_normal ?_))
              exact nx_cut (⟨y.id, [], y.tx⟩, (i, some ⟨gx, ox + i * 2, none⟩, cx), (j + 1, Y2, cy - 1)) ⟨hi, hy, hX, by rw [show M.length - (j + 1) = M.length - j - 1 by omega]; exact hY3, hSX, Suf.next htY2, by first | (simp; done) | (simp; omega), hq.trans hb⟩ (Kn.cons rfl (Kn.cons rfl (Kn.cons rfl (Kn.cons rfl Kn.nil)))) (HLe.refl _)
            · cases h2
          have hxy : x.id = y.id := by omega
          have hb := both_eq (x := x) (y := y) (xs := L.drop (i + 1)) (ys := M.drop (j + 1)) hxy
          rw [← hdx, ← hdy] at hb
          refine awq_seq_meet [(0, .func (.yield l) #[] #[]), (4, .slice (some ⟨gx, ox + i * 2, none⟩) (L.length - i) cx), (5, .slice (some ⟨gy, oy + j * 2, none⟩) (M.length - j) cy), (6, ptr g1 0), (65, .bool false)] (.own g1 53 [uq 0, .string (str []), .string (str [])] :: .ro gx ox (icells L) :: .ro gy oy (icells M) :: (T3 ++ Jr)) mixed (by kernel_rfl) (fun Z hZ => ?_) ?_
          · refine sq_move rfl rfl ?_
            first | refine sq_len Try.underlying27 rfl rfl ?_ | refine sq_lenS Try.underlying27 rfl rfl ?_
            first | refine sq_eql rfl rfl rfl ?_ | refine sq_seql rfl rfl rfl ?_
            refine sq_move rfl rfl ?_
            refine sq_force 69 rfl false (by first | rfl | (simp; done) | (simp; omega)) ?_
            refine sq_on rfl rfl rfl ?_
            refine sq_move rfl rfl ?_
            refine sq_on rfl rfl rfl ?_
            refine sq_indexAddr (oy + j * 2) Try.underlying27 tyS60 rfl rfl (by first | omega | (simp; omega)) (by simp) rfl ?_
            refine sq_on rfl rfl rfl ?_
            refine sq_fieldAddr rfl tyF60_0 (by first | (simp only [Nat.reduceAdd, Nat.add_zero, Nat.zero_add]; first | done | rfl) | rfl) rfl ?_
            refine sq_on rfl rfl rfl ?_
            refine sq_loadRo 2 rfl rfl (j * 2) rfl tyA51 tyS51 (icells_id hya) rfl ?_
            refine sq_on rfl rfl rfl ?_
            refine sq_move rfl rfl ?_
            refine sq_on rfl rfl rfl ?_
            refine sq_indexAddr (ox + i * 2) Try.underlying27 tyS60 rfl rfl (by first | omega | (simp; omega)) (by simp) rfl ?_
            refine sq_on rfl rfl rfl ?_
            refine sq_fieldAddr rfl tyF60_0 (by first | (simp only [Nat.reduceAdd, Nat.add_zero, Nat.zero_add]; first | done | rfl) | rfl) rfl ?_
            refine sq_on rfl rfl rfl ?_
            refine sq_loadRo 1 rfl rfl (i * 2) rfl tyA51 tyS51 (icells_id hxa) rfl ?_
            refine sq_on rfl rfl rfl ?_
            first | refine sq_lss rfl rfl rfl ?_ | refine sq_slss rfl rfl rfl ?_
            refine sq_pick rfl rfl rfl ?_
            refine sq_assign rfl rfl ?_
            refine sq_nil (hZ _ _ ?_ ?_)
            · exact Kn.cons rfl (Kn.cons rfl (Kn.cons rfl (Kn.cons rfl (Kn.cons (congrArg some (congrArg Value.bool (by first | rfl | (simp; omega)))) Kn.nil))))
            · exact HLe.refl _
          first | refine awp_cond rfl (fun h2 => ?_) (fun h2 => ?_) | refine awp_seq (awp_cond rfl (fun h2 => ?_) (fun h2 => ?_))
          · cases h2
          refine aww_region _ [(0, true), (1, true), (2, true), (3, true), (4, true), (5, true), (6, true), (7, true), (8, true), (9, true), (10, true), (11, true), (12, true), (13, true), (14, true), (15, true), (16, true), (17, false), (18, true), (19, true)] mixed (by kernel_rfl) (HLe.pick [1, 2] (by simp) (by simp only [pick, List.filterMap_cons, List.filterMap_nil, List.getElem?_cons_succ, List.getElem?_cons_zero]; rfl)) (fun Z hZ => ?_)
          refine tw_p rfl ?_
          refine sv_move rfl rfl ?_
          refine sv_nil ?_
          refine tw_p rfl ?_
          refine sv_indexAddr (ox + i * 2) Try.underlying27 tyS60 rfl rfl (by first | omega | (simp; omega)) (by simp) rfl ?_
          refine sv_nil ?_
          refine tw_p rfl ?_
          refine sv_fieldAddr rfl tyF60_0 (by first | (simp only [Nat.reduceAdd, Nat.add_zero, Nat.zero_add]; first | done | rfl) | rfl) rfl ?_
          refine sv_nil ?_
          refine tw_p rfl ?_
          refine sv_loadRo 0 rfl rfl (i * 2) rfl tyA51 tyS51 (icells_id hxa) rfl ?_
          refine sv_nil ?_
          refine tw_p rfl ?_
          refine sv_move rfl rfl ?_
          refine sv_nil ?_
          refine tw_p rfl ?_
          refine sv_indexAddr (ox + i * 2) Try.underlying27 tyS60 rfl rfl (by first | omega | (simp; omega)) (by simp) rfl ?_
          refine sv_nil ?_
          refine tw_p rfl ?_
          refine sv_fieldAddr rfl tyF60_1 (by first | (simp only [Nat.reduceAdd, Nat.add_zero, Nat.zero_add]; first | done | rfl) | rfl) rfl ?_
          refine sv_nil ?_
          refine tw_p rfl ?_
          refine sv_loadRo 0 rfl rfl (i * 2 + 1) rfl tyA9 tyS9 (icells_tx hxa) rfl ?_
          refine sv_nil ?_
          refine tw_p rfl ?_
          refine sv_move rfl rfl ?_
          refine sv_nil ?_
          refine tw_p rfl ?_
          refine sv_indexAddr (oy + j * 2) Try.underlying27 tyS60 rfl rfl (by first | omega | (simp; omega)) (by simp) rfl ?_
          refine sv_nil ?_
          refine tw_p rfl ?_
          refine sv_fieldAddr rfl tyF60_1 (by first | (simp only [Nat.reduceAdd, Nat.add_zero, Nat.zero_add]; first | done | rfl) | rfl) rfl ?_
          refine sv_nil ?_
          refine tw_p rfl ?_
          refine sv_loadRo 1 rfl rfl (j * 2 + 1) rfl tyA9 tyS9 (icells_tx hya) rfl ?_
          refine sv_nil ?_
          refine tw_p rfl ?_
          refine sv_build tyZ53 tyP53 rfl rfl (by first | (simp only [List.take_succ_cons, List.take_zero, List.drop_succ_cons, List.drop_zero, List.cons_append, List.nil_append, List.append_nil, List.length_cons, List.length_nil, Nat.reduceAdd, Nat.zero_add, Nat.add_zero, Value.cells, wrV, zrep_one, List.replicate_succ, List.replicate_zero, Nat.reduceMul, Nat.zero_mul]; first | done | rfl) | rfl) rfl ?_
          refine sv_nil ?_
          refine tw_p rfl ?_
          refine sv_move rfl rfl ?_
          refine sv_nil ?_
          refine tw_p rfl ?_
          refine sv_part (i := 1) (j := L.length - i) Try.underlying27 tyS60 hX rfl rfl rfl (by omega) hX.cap rfl (fun X2 hX2 htX2 => ?_)
          refine sv_nil ?_
          refine tw_p rfl ?_
          refine sv_move rfl rfl ?_
          refine sv_nil ?_
          refine tw_p rfl ?_
          refine sv_part (i := 1) (j := M.length - j) Try.underlying27 tyS60 hY2 rfl rfl rfl (by omega) hY2.cap rfl (fun Y2 hY3 htY2 => ?_)
          refine sv_nil ?_
          refine tw_g rfl ?_
          first | refine sx_store 0 rfl rfl rfl tyS53 (by first | (simp only [Value.cells]; first | done | rfl) | rfl) rfl rfl (by first | (simp only [List.length_cons, List.length_nil, Nat.reduceAdd, Nat.zero_add, Nat.add_zero]; first | done | rfl) | rfl) (by first | (simp only [List.take_succ_cons, List.take_zero, List.drop_succ_cons, List.drop_zero, List.cons_append, List.nil_append, List.append_nil, List.length_cons, List.length_nil, Nat.reduceAdd, Nat.zero_add, Nat.add_zero, Value.cells, wrV]; first | done | rfl) | rfl) (by first | (simp only [List.set_cons_succ, List.set_cons_zero]; first | done | rfl) | rfl) ?_ | refine sx_store 1 rfl rfl rfl tyS53 (by first | (simp only [Value.cells]; first | done | rfl) | rfl) rfl rfl (by first | (simp only [List.length_cons, List.length_nil, Nat.reduceAdd, Nat.zero_add, Nat.add_zero]; first | done | rfl) | rfl) (by first | (simp only [List.take_succ_cons, List.take_zero, List.drop_succ_cons, List.drop_zero, List.cons_append, List.nil_append, List.append_nil, List.length_cons, List.length_nil, Nat.reduceAdd, Nat.zero_add, Nat.add_zero, Value.cells, wrV]; first | done | rfl) | rfl) (by first | (simp only [List.set_cons_succ, List.set_cons_zero]; first | done | rfl) | rfl) ?_ | refine sx_store 2 rfl rfl rfl tyS53 (by first | (simp only [Value.cells]; first | done | rfl) | rfl) rfl rfl (by first | (simp only [List.length_cons, List.length_nil, Nat.reduceAdd, Nat.zero_add, Nat.add_zero]; first | done | rfl) | rfl) (by first | (simp only [List.take_succ_cons, List.take_zero, List.drop_succ_cons, List.drop_zero, List.cons_append, List.nil_append, List.append_nil, List.length_cons, List.length_nil, Nat.reduceAdd, Nat.zero_add, Nat.add_zero, Value.cells, wrV]; first | done | rfl) | rfl) (by first | (simp only [List.set_cons_succ, List.set_cons_zero]; first | done | rfl) | rfl) ?_
          refine sx_nil ⟨HLe.pick [1, 2] (by simp) rfl, ?_⟩
          refine tw_p rfl ?_
          refine sv_assign rfl rfl ?_
          refine sv_nil ?_
          refine tw_p rfl ?_
          refine sv_assign rfl rfl ?_
          refine sv_nil ?_
          refine tw_nil (hZ _ _ ?_)
          refine nx_forget [(0, _), (4, _), (5, _), (6, _)] (Kn.cons rfl (Kn.cons rfl (Kn.cons rfl (Kn.cons rfl (Kn.nil))))) ?_
          repeat (with_reducible (first | refine nx_block_normal ?_ | refine nx_scope_normal ?_))
          exact nx_cut (⟨x.id, x.tx, y.tx⟩, (i + 1, X2, cx - 1), (j + 1, Y2, cy - 1)) ⟨hx, hy, by rw [show L.length - (i + 1) = L.length - i - 1 by omega]; exact hX2, by rw [show M.length - (j + 1) = M.length - j - 1 by omega]; exact hY3, Suf.next htX2, Suf.next htY2, by first | (simp; done) | (simp; omega), hq.trans hb⟩ (Kn.cons rfl (Kn.cons rfl (Kn.cons rfl (Kn.cons rfl Kn.nil)))) (HLe.refl _)
        · have hj0 : M.length - j = 0 := by omega
          have hdy : M.drop j = [] := List.drop_eq_nil_of_le (by omega)
          have hb := both_x x (L.drop (i + 1))
          rw [← hdx, ← hdy] at hb
          refine awp_heap (.own g1 53 [uq 0, .string (str []), .string (str [])] :: .ro gx ox (icells L) :: (roE B5 (icells M) ++ (T3 ++ Jr))) (by rw [List.append_assoc]; exact HLe.refl _) ?_

          refine awq_seq_meet [(0, .func (.yield l) #[] #[]), (4, .slice (some ⟨gx, ox + i * 2, none⟩) (L.length - i) cx), (5, .slice Y (M.length - j) cy), (6, ptr g1 0), (34, .bool true)] (.own g1 53 [uq 0, .string (str []), .string (str [])] :: .ro gx ox (icells L) :: (roE B5 (icells M) ++ (T3 ++ Jr))) mixed (by kernel_rfl) (fun Z hZ => ?_) ?_
          · refine sq_move rfl rfl ?_
            first | refine sq_len Try.underlying27 rfl rfl ?_ | refine sq_lenS Try.underlying27 rfl rfl ?_
            first | refine sq_eql rfl rfl rfl ?_ | refine sq_seql rfl rfl rfl ?_
            refine sq_move rfl rfl ?_
            refine sq_force 38 rfl true (by simp; omega) ?_
            refine sq_off rfl rfl rfl rfl rfl ?_
            refine sq_off rfl rfl rfl rfl rfl ?_
            refine sq_off rfl rfl rfl rfl rfl ?_
            refine sq_off rfl rfl rfl rfl rfl ?_
            refine sq_offU rfl rfl rfl rfl ?_
            refine sq_offU rfl rfl rfl rfl ?_
            refine sq_offU rfl rfl rfl rfl ?_
            refine sq_offU rfl rfl rfl rfl ?_
            refine sq_offU rfl rfl rfl rfl ?_
            refine sq_offU rfl rfl rfl rfl ?_
            refine sq_offU rfl rfl rfl rfl ?_
            refine sq_offU rfl rfl rfl rfl ?_
            refine sq_offU rfl rfl rfl rfl ?_
            refine sq_off rfl rfl rfl rfl rfl ?_
            refine sq_pick rfl rfl rfl ?_
            refine sq_assign rfl rfl ?_
            refine sq_nil (hZ _ _ ?_ ?_)
            · exact Kn.cons rfl (Kn.cons rfl (Kn.cons rfl (Kn.cons rfl (Kn.cons (congrArg some (congrArg Value.bool (by first | rfl | (simp; omega)))) Kn.nil))))
            · exact HLe.refl _
          first | refine awp_cond rfl (fun h1 => ?_) (fun h1 => ?_) | refine awp_seq (awp_cond rfl (fun h1 => ?_) (fun h1 => ?_))
          · refine aww_region _ [(0, true), (1, true), (2, true), (3, true), (4, true), (5, true), (6, true), (7, true), (8, true), (9, true), (10, true), (11, false), (12, true)] mixed (by kernel_rfl) (HLe.pick [1] (by simp) (by simp only [pick, List.filterMap_cons, List.filterMap_nil, List.getElem?_cons_succ, List.getElem?_cons_zero]; rfl)) (fun Z hZ => ?_)
            refine tw_p rfl ?_
            refine sv_move rfl rfl ?_
            refine sv_nil ?_
            refine tw_p rfl ?_
            refine sv_indexAddr (ox + i * 2) Try.underlying27 tyS60 rfl rfl (by first | omega | (simp; omega)) (by simp) rfl ?_
            refine sv_nil ?_
            refine tw_p rfl ?_
            refine sv_fieldAddr rfl tyF60_0 (by first | (simp only [Nat.reduceAdd, Nat.add_zero, Nat.zero_add]; first | done | rfl) | rfl) rfl ?_
            refine sv_nil ?_
            refine tw_p rfl ?_
            refine sv_loadRo 0 rfl rfl (i * 2) rfl tyA51 tyS51 (icells_id hxa) rfl ?_
            refine sv_nil ?_
            refine tw_p rfl ?_
            refine sv_move rfl rfl ?_
            refine sv_nil ?_
            refine tw_p rfl ?_
            refine sv_indexAddr (ox + i * 2) Try.underlying27 tyS60 rfl rfl (by first | omega | (simp; omega)) (by simp) rfl ?_
            refine sv_nil ?_
            refine tw_p rfl ?_
            refine sv_fieldAddr rfl tyF60_1 (by first | (simp only [Nat.reduceAdd, Nat.add_zero, Nat.zero_add]; first | done | rfl) | rfl) rfl ?_
            refine sv_nil ?_
            refine tw_p rfl ?_
            refine sv_loadRo 0 rfl rfl (i * 2 + 1) rfl tyA9 tyS9 (icells_tx hxa) rfl ?_
            refine sv_nil ?_
            refine tw_p rfl ?_
            refine sv_build tyZ53 tyP53 rfl rfl (by first | (simp only [List.take_succ_cons, List.take_zero, List.drop_succ_cons, List.drop_zero, List.cons_append, List.nil_append, List.append_nil, List.length_cons, List.length_nil, Nat.reduceAdd, Nat.zero_add, Nat.add_zero, Value.cells, wrV, zrep_one, List.replicate_succ, List.replicate_zero, Nat.reduceMul, Nat.zero_mul]; first | done | rfl) | rfl) rfl ?_
            refine sv_nil ?_
            refine tw_p rfl ?_
            refine sv_move rfl rfl ?_
            refine sv_nil ?_
            refine tw_p rfl ?_
            refine sv_part (i := 1) (j := L.length - i) Try.underlying27 tyS60 hX rfl rfl rfl (by omega) hX.cap rfl (fun X2 hX2 htX2 => ?_)
            refine sv_nil ?_
            refine tw_g rfl ?_
            first | refine sx_store 0 rfl rfl rfl tyS53 (by first | (simp only [Value.cells]; first | done | rfl) | rfl) rfl rfl (by first | (simp only [List.length_cons, List.length_nil, Nat.reduceAdd, Nat.zero_add, Nat.add_zero]; first | done | rfl) | rfl) (by first | (simp only [List.take_succ_cons, List.take_zero, List.drop_succ_cons, List.drop_zero, List.cons_append, List.nil_append, List.append_nil, List.length_cons, List.length_nil, Nat.reduceAdd, Nat.zero_add, Nat.add_zero, Value.cells, wrV]; first | done | rfl) | rfl) (by first | (simp only [List.set_cons_succ, List.set_cons_zero]; first | done | rfl) | rfl) ?_ | refine sx_store 1 rfl rfl rfl tyS53 (by first | (simp only [Value.cells]; first | done | rfl) | rfl) rfl rfl (by first | (simp only [List.length_cons, List.length_nil, Nat.reduceAdd, Nat.zero_add, Nat.add_zero]; first | done | rfl) | rfl) (by first | (simp only [List.take_succ_cons, List.take_zero, List.drop_succ_cons, List.drop_zero, List.cons_append, List.nil_append, List.append_nil, List.length_cons, List.length_nil, Nat.reduceAdd, Nat.zero_add, Nat.add_zero, Value.cells, wrV]; first | done | rfl) | rfl) (by first | (simp only [List.set_cons_succ, List.set_cons_zero]; first | done | rfl) | rfl) ?_
            refine sx_nil ⟨HLe.pick [1] (by simp) rfl, ?_⟩
            refine tw_p rfl ?_
            refine sv_assign rfl rfl ?_
            refine sv_nil ?_
            refine tw_nil (hZ _ _ ?_)
            refine nx_forget [(0, _), (4, _), (5, _), (6, _)] (Kn.cons rfl (Kn.cons rfl (Kn.cons rfl (Kn.cons rfl (Kn.nil))))) ?_
            repeat (with_reducible (first | refine nx_block_normal ?_ | refine nx_scope_normal ?_))
            exact nx_cut (⟨x.id, x.tx, []⟩, (i + 1, X2, cx - 1), (j, Y, cy)) ⟨hx, hj, by rw [show L.length - (i + 1) = L.length - i - 1 by omega]; exact hX2, hY2, Suf.next htX2, hSY, by first | (simp; done) | (simp; omega), hq.trans hb⟩ (Kn.cons rfl (Kn.cons rfl (Kn.cons rfl (Kn.cons rfl Kn.nil)))) (by rw [List.append_assoc]; exact HLe.refl _)
          · cases h1
      · have hy : j < M.length := by omega
        have hya := itAt_at hy
        have hdy := drop_itAt hy
        obtain ⟨y, hye⟩ : ∃ y, itAt M j = y := ⟨_, rfl⟩
        rw [hye] at hya hdy
        obtain ⟨gy, oy, rfl, rfl⟩ := hSY hy
        have hi0 : L.length - i = 0 := by omega
        have hdx : L.drop i = [] := List.drop_eq_nil_of_le (by omega)
        have hb := both_y y (M.drop (j + 1))
        rw [← hdy, ← hdx] at hb
        refine awp_heap (.own g1 53 [uq 0, .string (str []), .string (str [])] :: .ro gy oy (icells M) :: (roE A5 (icells L) ++ (T3 ++ Jr))) (by rw [List.append_assoc]; exact fun _ _ _ hw => hw.perm (List.Perm.cons _ (List.perm_append_comm_assoc (roE A5 (icells L)) [.ro gy oy (icells M)] (T3 ++ Jr)))) ?_

        refine awq_seq_meet [(0, .func (.yield l) #[] #[]), (4, .slice X (L.length - i) cx), (5, .slice (some ⟨gy, oy + j * 2, none⟩) (M.length - j) cy), (6, ptr g1 0), (34, .bool false)] (.own g1 53 [uq 0, .string (str []), .string (str [])] :: .ro gy oy (icells M) :: (roE A5 (icells L) ++ (T3 ++ Jr))) mixed (by kernel_rfl) (fun Z hZ => ?_) ?_
        · refine sq_move rfl rfl ?_
          first | refine sq_len Try.underlying27 rfl rfl ?_ | refine sq_lenS Try.underlying27 rfl rfl ?_
          first | refine sq_eql rfl rfl rfl ?_ | refine sq_seql rfl rfl rfl ?_
          refine sq_move rfl rfl ?_
          refine sq_force 38 rfl false (by first | rfl | (simp; done) | (simp; omega)) ?_
          refine sq_on rfl rfl rfl ?_
          refine sq_move rfl rfl ?_
          refine sq_on rfl rfl rfl ?_
          first | refine sq_len Try.underlying27 rfl rfl ?_ | refine sq_lenS Try.underlying27 rfl rfl ?_
          refine sq_on rfl rfl rfl ?_
          first | refine sq_gtr rfl rfl rfl ?_ | refine sq_sgtr rfl rfl rfl ?_
          refine sq_on rfl rfl rfl ?_
          refine sq_move rfl rfl ?_
          refine sq_force 42 rfl false (by simp; omega) ?_
          refine sq_off rfl rfl rfl rfl rfl ?_
          refine sq_off rfl rfl rfl rfl rfl ?_
          refine sq_off rfl rfl rfl rfl rfl ?_
          refine sq_off rfl rfl rfl rfl rfl ?_
          refine sq_off rfl rfl rfl rfl rfl ?_
          refine sq_off rfl rfl rfl rfl rfl ?_
          refine sq_off rfl rfl rfl rfl rfl ?_
          refine sq_off rfl rfl rfl rfl rfl ?_
          refine sq_off rfl rfl rfl rfl rfl ?_
          refine sq_on rfl rfl rfl ?_
          refine sq_pick rfl rfl rfl ?_
          refine sq_pick rfl rfl rfl ?_
          refine sq_assign rfl rfl ?_
          refine sq_nil (hZ _ _ ?_ ?_)
          · exact Kn.cons rfl (Kn.cons rfl (Kn.cons rfl (Kn.cons rfl (Kn.cons (congrArg some (congrArg Value.bool (by first | rfl | (simp; omega)))) Kn.nil))))
          · exact HLe.refl _
        first | refine awp_cond rfl (fun h1 => ?_) (fun h1 => ?_) | refine awp_seq (awp_cond rfl (fun h1 => ?_) (fun h1 => ?_))
        · cases h1
        refine awq_seq_meet [(0, .func (.yield l) #[] #[]), (4, .slice X (L.length - i) cx), (5, .slice (some ⟨gy, oy + j * 2, none⟩) (M.length - j) cy), (6, ptr g1 0), (65, .bool true)] (.own g1 53 [uq 0, .string (str []), .string (str [])] :: .ro gy oy (icells M) :: (roE A5 (icells L) ++ (T3 ++ Jr))) mixed (by kernel_rfl) (fun Z hZ => ?_) ?_
        · refine sq_move rfl rfl ?_
          first | refine sq_len Try.underlying27 rfl rfl ?_ | refine sq_lenS Try.underlying27 rfl rfl ?_
          first | refine sq_eql rfl rfl rfl ?_ | refine sq_seql rfl rfl rfl ?_
          refine sq_move rfl rfl ?_
          refine sq_force 69 rfl true (by simp; omega) ?_
          refine sq_off rfl rfl rfl rfl rfl ?_
          refine sq_off rfl rfl rfl rfl rfl ?_
          refine sq_off rfl rfl rfl rfl rfl ?_
          refine sq_off rfl rfl rfl rfl rfl ?_
          refine sq_off rfl rfl rfl rfl rfl ?_
          refine sq_off rfl rfl rfl rfl rfl ?_
          refine sq_off rfl rfl rfl rfl rfl ?_
          refine sq_off rfl rfl rfl rfl rfl ?_
          refine sq_off rfl rfl rfl rfl rfl ?_
          refine sq_pick rfl rfl rfl ?_
          refine sq_assign rfl rfl ?_
          refine sq_nil (hZ _ _ ?_ ?_)
          · exact Kn.cons rfl (Kn.cons rfl (Kn.cons rfl (Kn.cons rfl (Kn.cons (congrArg some (congrArg Value.bool (by first | rfl | (simp; omega)))) Kn.nil))))
          · exact HLe.refl _
        first | refine awp_cond rfl (fun h2 => ?_) (fun h2 => ?_) | refine awp_seq (awp_cond rfl (fun h2 => ?_) (fun h2 => ?_))
        · refine aww_region _ [(0, true), (1, true), (2, true), (3, true), (4, true), (5, true), (6, true), (7, true), (8, true), (9, true), (10, true), (11, false), (12, true)] mixed (by kernel_rfl) (HLe.pick [1] (by simp) (by simp only [pick, List.filterMap_cons, List.filterMap_nil, List.getElem?_cons_succ, List.getElem?_cons_zero]; rfl)) (fun Z hZ => ?_)
          refine tw_p rfl ?_
          refine sv_move rfl rfl ?_
          refine sv_nil ?_
          refine tw_p rfl ?_
          refine sv_indexAddr (oy + j * 2) Try.underlying27 tyS60 rfl rfl (by first | omega | (simp; omega)) (by simp) rfl ?_
          refine sv_nil ?_
          refine tw_p rfl ?_
          refine sv_fieldAddr rfl tyF60_0 (by first | (simp only [Nat.reduceAdd, Nat.add_zero, Nat.zero_add]; first | done | rfl) | rfl) rfl ?_
          refine sv_nil ?_
          refine tw_p rfl ?_
          refine sv_loadRo 0 rfl rfl (j * 2) rfl tyA51 tyS51 (icells_id hya) rfl ?_
          refine sv_nil ?_
          refine tw_p rfl ?_
          refine sv_move rfl rfl ?_
          refine sv_nil ?_
          refine tw_p rfl ?_
          refine sv_indexAddr (oy + j * 2) Try.underlying27 tyS60 rfl rfl (by first | omega | (simp; omega)) (by simp) rfl ?_
          refine sv_nil ?_
          refine tw_p rfl ?_
          refine sv_fieldAddr rfl tyF60_1 (by first | (simp only [Nat.reduceAdd, Nat.add_zero, Nat.zero_add]; first | done | rfl) | rfl) rfl ?_
          refine sv_nil ?_
          refine tw_p rfl ?_
          refine sv_loadRo 0 rfl rfl (j * 2 + 1) rfl tyA9 tyS9 (icells_tx hya) rfl ?_
          refine sv_nil ?_
          refine tw_p rfl ?_
          refine sv_build tyZ53 tyP53 rfl rfl (by first | (simp only [List.take_succ_cons, List.take_zero, List.drop_succ_cons, List.drop_zero, List.cons_append, List.nil_append, List.append_nil, List.length_cons, List.length_nil, Nat.reduceAdd, Nat.zero_add, Nat.add_zero, Value.cells, wrV, zrep_one, List.replicate_succ, List.replicate_zero, Nat.reduceMul, Nat.zero_mul]; first | done | rfl) | rfl) rfl ?_
          refine sv_nil ?_
          refine tw_p rfl ?_
          refine sv_move rfl rfl ?_
          refine sv_nil ?_
          refine tw_p rfl ?_
          refine sv_part (i := 1) (j := M.length - j) Try.underlying27 tyS60 hY2 rfl rfl rfl (by omega) hY2.cap rfl (fun Y2 hY3 htY2 => ?_)
          refine sv_nil ?_
          refine tw_g rfl ?_
          first | refine sx_store 0 rfl rfl rfl tyS53 (by first | (simp only [Value.cells]; first | done | rfl) | rfl) rfl rfl (by first | (simp only [List.length_cons, List.length_nil, Nat.reduceAdd, Nat.zero_add, Nat.add_zero]; first | done | rfl) | rfl) (by first | (simp only [List.take_succ_cons, List.take_zero, List.drop_succ_cons, List.drop_zero, List.cons_append, List.nil_append, List.append_nil, List.length_cons, List.length_nil, Nat.reduceAdd, Nat.zero_add, Nat.add_zero, Value.cells, wrV]; first | done | rfl) | rfl) (by first | (simp only [List.set_cons_succ, List.set_cons_zero]; first | done | rfl) | rfl) ?_ | refine sx_store 1 rfl rfl rfl tyS53 (by first | (simp only [Value.cells]; first | done | rfl) | rfl) rfl rfl (by first | (simp only [List.length_cons, List.length_nil, Nat.reduceAdd, Nat.zero_add, Nat.add_zero]; first | done | rfl) | rfl) (by first | (simp only [List.take_succ_cons, List.take_zero, List.drop_succ_cons, List.drop_zero, List.cons_append, List.nil_append, List.append_nil, List.length_cons, List.length_nil, Nat.reduceAdd, Nat.zero_add, Nat.add_zero, Value.cells, wrV]; first | done | rfl) | rfl) (by first | (simp only [List.set_cons_succ, List.set_cons_zero]; first | done | rfl) | rfl) ?_
          refine sx_nil ⟨HLe.pick [1] (by simp) rfl, ?_⟩
          refine tw_p rfl ?_
          refine sv_assign rfl rfl ?_
          refine sv_nil ?_
          refine tw_nil (hZ _ _ ?_)
          refine nx_forget [(0, _), (4, _), (5, _), (6, _)] (Kn.cons rfl (Kn.cons rfl (Kn.cons rfl (Kn.cons rfl (Kn.nil))))) ?_
          repeat (with_reducible (first | refine nx_block_normal ?_ | refine nx_scope_normal ?_))
          exact nx_cut (⟨y.id, [], y.tx⟩, (i, X, cx), (j + 1, Y2, cy - 1)) ⟨hi, hy, hX, by rw [show M.length - (j + 1) = M.length - j - 1 by omega]; exact hY3, hSX, Suf.next htY2, by first | (simp; done) | (simp; omega), hq.trans hb⟩ (Kn.cons rfl (Kn.cons rfl (Kn.cons rfl (Kn.cons rfl Kn.nil)))) (by rw [List.append_assoc]; exact fun _ _ _ hw => hw.perm (List.Perm.cons _ (List.perm_append_comm_assoc [.ro gy oy (icells M)] (roE A5 (icells L)) (T3 ++ Jr))))
        · cases h2
    rintro ⟨ch, ⟨i2, X2, cx2⟩, ⟨j2, Y2, cy2⟩⟩ ⟨p1, p2, p3, p4, p5, p6, p7, p8⟩
    simp only at p1 p2 p3 p4 p5 p6 p7 p8
    have hka : (bothQ L M)[k]? = some ch := by
      have := congrArg (fun l => l[0]?) p8
      simpa using this
    have hkl : k < (bothQ L M).length := (List.getElem?_eq_some_iff.1 hka).1
    have hq2 : (bothQ L M).drop (k + 1) = bothQ (L.drop i2) (M.drop j2) := by
      have := congrArg List.tail p8
      simpa using this

    refine awy_seq_region (fun Z hZ => ?_)
    refine sy_x rfl ?_
    refine sx_move rfl rfl ?_
    refine sx_nil ?_
    refine sy_x rfl ?_
    first | refine sx_loadA 0 rfl rfl tyA53 tyS53 (by first | (simp only [List.length_cons, List.length_nil, Nat.reduceAdd, Nat.zero_add, Nat.add_zero]; first | done | rfl) | rfl) (by first | (simp only [List.take_succ_cons, List.take_zero, List.drop_succ_cons, List.drop_zero, List.cons_append, List.nil_append, List.append_nil, List.length_cons, List.length_nil, Nat.reduceAdd, Nat.zero_add, Nat.add_zero, Value.cells, wrV]; first | done | rfl) | rfl) rfl ?_
    refine sx_nil ?_
    refine sy_yield (.own g1 53 ch.cells :: (roE A5 (icells L) ++ roE B5 (icells M))) T3 Jr Jr (hY k _ T3 (by simp [hka]) hT3) rfl rfl rfl (List.Sublist.refl _) hJr rfl ?_
    rintro v T4 ⟨b, rfl, hb1, hb2⟩
    refine sy_x rfl ?_
    refine sx_not rfl rfl ?_
    refine sx_nil ?_
    refine sy_nil (hZ _ _ ?_)
    refine awp_forget [(0, _), (4, _), (5, _), (94, _)] (Kn.cons rfl (Kn.cons rfl (Kn.cons rfl (Kn.cons rfl (Kn.nil))))) ?_
    first | refine awp_cond rfl (fun h3 => ?_) (fun h3 => ?_) | refine awp_seq (awp_cond rfl (fun h3 => ?_) (fun h3 => ?_))
    · have hb : b = false := by simpa using h3
      refine awp_ret ?_
      repeat (with_reducible (first | refine nx_then_ret ?_ | refine nx_block_ret ?_ | refine nx_scope_ret ?_))
      exact nx_ret0h T4 rfl (wrs_fltc (A := .own g1 53 ch.cells :: (roE A5 (icells L) ++ roE B5 (icells M))) (hS T4 (hb2 hb))) (.inr (hb2 hb))
    have hb : b = true := by simpa using h3
    have hT4 := hb1 hb
    rw [(hJ _ T4 hT4).filter]
    refine awp_skip ?_
    repeat (with_reducible (first | refine nx_block_normal ?_ | refine nx_scope_normal ?_))
    exact nx_round ((i2, X2, cx2), (j2, Y2, cy2), k + 1, T4) ⟨p1, p2, p3, p4, p5, p6, hq2, hkl, hT4⟩ (by simp; omega) (Kn.cons rfl (Kn.cons rfl (Kn.cons rfl Kn.nil))) (HLe.drop 1 rfl)
  · have h0 : L.length - i = 0 ∧ M.length - j = 0 := by simp at hh; omega
    have hdx : L.drop i = [] := List.drop_eq_nil_of_le (by omega)
    have hdy : M.drop j = [] := List.drop_eq_nil_of_le (by omega)
    rw [hdx, hdy, bothQ] at hq
    have hke : k = (bothQ L M).length := by
      have := congrArg List.length hq
      simp at this
      omega
    subst hke
    refine awp_exit ?_
    repeat (with_reducible (first | refine nx_then_exit ?_ | refine nx_block_other (by decide) ?_ | refine nx_scope_exit ?_))
    with_reducible refine nx_block_exit ?_
    repeat (with_reducible (first | refine nx_block_normal ?_ | refine nx_scope_normal ?_))
    exact nx_end0h T3 rfl (HLe.sub ((List.sublist_append_left T3 Jr).trans (List.sublist_append_right _ _))) (.inl hT3)
end Go.Proofs.Ytahmhcmfeloclaa
