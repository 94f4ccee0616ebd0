/- The walks of mask's Or, And, Not, Less, Within, Zoom. Conditions: the lists are not too long. -/
import Derived.Test.YtbldhokgbcljjaaMw1
namespace Go.Proofs.Ytbldhokgbcljjaa
open Go.RowKit
set_option linter.unusedVariables false
set_option linter.unusedSimpArgs false
set_option maxRecDepth 100000
theorem HLe.twoS {T U H : Heap} (h1 : T.Sublist H) (h2 : U.Sublist H) (hU : Ro U) : HLe (T ++ U) H := (HLe.sub (List.Sublist.append_right h1 U)).trans (HLe.dup h2 hU)
theorem mmeet_fn (s t : Sp) : Fn Try.prog 59 [s.val, t.val] [] fun v _ => v = .tuple #[(meetQ s t).val, .bool (decide ((meetQ s t).a ≤ (meetQ s t).b))] := by
  refine Fn.enter (N := 24) Try.func59 rfl (by kernel_rfl) rfl (fun w0 => ?_)

  refine awp_seq_region (fun Z hZ => ?_)
  refine sx_box rfl rfl rfl (fun g1 => ?_)
  refine sx_box rfl rfl rfl (fun g2 => ?_)
  refine sx_alloc tyZ43 rfl (fun g3 => ?_)
  refine sx_assign rfl rfl ?_
  refine sx_nil (hZ _ _ ?_)
  refine awp_forget [(2, _), (3, _), (4, _)] (Kn.cons rfl (Kn.cons rfl (Kn.cons rfl (Kn.nil)))) ?_

  refine awp_seq_region (fun Z hZ => ?_)
  refine sx_fieldAddr rfl tyF43_0 (by first | (simp only [Nat.reduceAdd, Nat.add_zero, Nat.zero_add]; first | done | rfl) | rfl) rfl ?_
  refine sx_load 2 rfl rfl tyA36 tyS36 rfl rfl ?_
  refine sx_fieldAddr rfl tyF43_0 (by first | (simp only [Nat.reduceAdd, Nat.add_zero, Nat.zero_add]; first | done | rfl) | rfl) rfl ?_
  refine sx_load 1 rfl rfl tyA36 tyS36 rfl rfl ?_
  refine sx_max rfl rfl ((max s.a t.a : Nat) : Int) (by omega) rfl ?_
  refine sx_fieldAddr rfl tyF43_1 (by first | (simp only [Nat.reduceAdd, Nat.add_zero, Nat.zero_add]; first | done | rfl) | rfl) rfl ?_
  refine sx_load 2 rfl rfl tyA36 tyS36 rfl rfl ?_
  refine sx_fieldAddr rfl tyF43_1 (by first | (simp only [Nat.reduceAdd, Nat.add_zero, Nat.zero_add]; first | done | rfl) | rfl) rfl ?_
  refine sx_load 1 rfl rfl tyA36 tyS36 rfl rfl ?_
  refine sx_min rfl rfl ((min s.b t.b : Nat) : Int) (by omega) rfl ?_
  refine sx_build tyZ43 tyP43 rfl rfl (by first | (simp only [List.take_succ_cons, List.take_zero, List.drop_succ_cons, List.drop_zero, List.cons_append, List.nil_append, List.append_nil, List.length_cons, List.length_nil, Nat.reduceAdd, Nat.zero_add, Nat.add_zero, Value.cells, wrV, zrep_one, List.replicate_succ, List.replicate_zero, Nat.reduceMul, Nat.zero_mul]; first | done | rfl) | rfl) rfl ?_
  refine sx_alloc tyZ43 rfl (fun g4 => ?_)
  refine sx_store 0 rfl rfl rfl tyS43 (by first | (simp only [Value.cells]; first | done | rfl) | rfl) rfl rfl (by first | (simp only [List.length_cons, List.length_nil, Nat.reduceAdd, Nat.zero_add, Nat.add_zero]; first | done | rfl) | rfl) (by first | (simp only [List.take_succ_cons, List.take_zero, List.drop_succ_cons, List.drop_zero, List.cons_append, List.nil_append, List.append_nil, List.length_cons, List.length_nil, Nat.reduceAdd, Nat.zero_add, Nat.add_zero, Value.cells, wrV]; first | done | rfl) | rfl) (by first | (simp only [List.set_cons_succ, List.set_cons_zero]; first | done | rfl) | rfl) ?_
  refine sx_nil (hZ _ _ ?_)
  refine awp_forget [(4, _), (6, _)] (Kn.cons rfl (Kn.cons rfl (Kn.nil))) ?_

  refine aww_seq_region _ [(0, true), (1, true), (2, true), (3, true), (4, true), (5, true), (6, false), (7, true)] mixed (by kernel_rfl) (HLe.pick [0] (by simp) (by simp only [pick, List.filterMap_cons, List.filterMap_nil, List.getElem?_cons_succ, List.getElem?_cons_zero]; rfl)) (fun Z hZ => ?_)
  refine tw_p rfl ?_
  first | refine sv_loadA 0 rfl rfl tyA43 tyS43 (by first | (simp only [List.length_cons, List.length_nil, Nat.reduceAdd, Nat.zero_add, Nat.add_zero]; first | done | rfl) | rfl) (by first | (simp only [List.take_succ_cons, List.take_zero, List.drop_succ_cons, List.drop_zero, List.cons_append, List.nil_append, List.append_nil, List.length_cons, List.length_nil, Nat.reduceAdd, Nat.zero_add, Nat.add_zero, Value.cells, wrV]; first | done | rfl) | rfl) rfl ?_
  refine sv_nil ?_
  refine tw_p rfl ?_
  refine sv_fieldAddr rfl tyF43_0 (by first | (simp only [Nat.reduceAdd, Nat.add_zero, Nat.zero_add]; first | done | rfl) | rfl) rfl ?_
  refine sv_nil ?_
  refine tw_p rfl ?_
  first | refine sv_load 0 rfl rfl tyA36 tyS36 rfl rfl ?_
  refine sv_nil ?_
  refine tw_p rfl ?_
  refine sv_fieldAddr rfl tyF43_1 (by first | (simp only [Nat.reduceAdd, Nat.add_zero, Nat.zero_add]; first | done | rfl) | rfl) rfl ?_
  refine sv_nil ?_
  refine tw_p rfl ?_
  first | refine sv_load 0 rfl rfl tyA36 tyS36 rfl rfl ?_
  refine sv_nil ?_
  refine tw_p rfl ?_
  refine sv_leq rfl rfl rfl ?_
  refine sv_nil ?_
  refine tw_g rfl ?_
  refine sx_store 1 rfl rfl rfl tyS43 (by first | (simp only [Value.cells]; first | done | rfl) | rfl) rfl rfl (by first | (simp only [List.length_cons, List.length_nil, Nat.reduceAdd, Nat.zero_add, Nat.add_zero]; first | done | rfl) | rfl) (by first | (simp only [List.take_succ_cons, List.take_zero, List.drop_succ_cons, List.drop_zero, List.cons_append, List.nil_append, List.append_nil, List.length_cons, List.length_nil, Nat.reduceAdd, Nat.zero_add, Nat.add_zero, Value.cells, wrV]; first | done | rfl) | rfl) (by first | (simp only [List.set_cons_succ, List.set_cons_zero]; first | done | rfl) | rfl) ?_
  refine sx_nil ⟨HLe.pick [0] (by simp) rfl, ?_⟩
  refine tw_p rfl ?_
  refine sv_assign rfl rfl ?_
  refine sv_nil ?_
  refine tw_nil (hZ _ _ ?_)
  refine awp_forget [(4, _), (5, _)] (Kn.cons rfl (Kn.cons rfl (Kn.nil))) ?_
  refine awp_ret ?_
  exact nx_ret2 rfl (ResOk.cell 1 rfl rfl tyA43 tyS43 rfl) rfl (congrArg (fun b : Bool => Value.tuple #[(meetQ s t).val, .bool b]) (by rw [Bool.eq_iff_iff, decide_eq_true_iff, decide_eq_true_iff]; show _ ↔ max s.a t.a ≤ min s.b t.b; omega))
theorem mor_fn (A : Option Addr) (c : Nat) (L : List Sp) (T : Heap) (hA : ArgOk A L.length) (hT : 0 < L.length → T = roE A (scells L)) (hro : Ro T) (hL : L.length ≤ 30000) (ho : SpsOk L)
    (B : Option Addr) (c2 : Nat) (M : List Sp) (U : Heap) (hB : ArgOk B M.length) (hU : 0 < M.length → U = roE B (scells M)) (hroU : Ro U) (hM : M.length ≤ 30000) (hoM : SpsOk M) :
    Fn Try.prog 16 [.slice A L.length c, .slice B M.length c2] (T ++ U) fun v H' => RowOk v (orQ L M).length ∧ H' = rowE v 43 2 (scells (orQ L M)) := by
  have h1 := plain_len L
  have h2 := plain_len M
  refine Fn.enter (N := 10) Try.func16 rfl (by kernel_rfl) rfl (fun w0 => ?_)

  refine awp_seq_region (fun Z hZ => ?_)
  refine sx_assign rfl rfl ?_
  refine sx_nil (hZ _ _ ?_)
  refine awp_forget [(0, _), (1, _)] (Kn.cons rfl (Kn.cons rfl (Kn.nil))) ?_
  refine awp_seq_region (fun Z hZ => ?_)
  refine sx_move rfl rfl ?_
  refine sx_callIE T (mplain_fn A c L T hA hT hro (by omega) ho) rfl (HLe.sub (List.sublist_append_left _ _)) hro rfl (fun A1 c1 hA1 => ?_)
  refine sx_move rfl rfl ?_
  refine sx_callIE U (mplain_fn B c2 M U hB hU hroU (by omega) hoM) rfl (HLe.sub ((List.sublist_append_right T U).trans (List.sublist_append_left _ _))) hroU rfl (fun A2 c3 hA2 => ?_)
  refine sx_callVU (roE A1 (scells (plainQ L)) ++ roE A2 (scells (plainQ M))) (union_fn A1 A2 c1 c3 _ _ hA1 hA2 (by omega) (by omega) (below_sps (plain_plain L) (plain_below L)) (below_sps (plain_plain M) (plain_below M))) rfl (HLe.twoS (by repeat (first | exact List.Sublist.refl _ | exact List.nil_sublist _ | exact List.sublist_append_right _ _ | refine List.Sublist.trans ?_ (List.sublist_append_left _ _) | exact List.Sublist.cons_cons _ (List.nil_sublist _) | refine List.Sublist.cons _ ?_)) (by repeat (first | exact List.Sublist.refl _ | exact List.nil_sublist _ | exact List.sublist_append_right _ _ | refine List.Sublist.trans ?_ (List.sublist_append_left _ _) | exact List.Sublist.cons_cons _ (List.nil_sublist _) | refine List.Sublist.cons _ ?_)) (Ro.roE _ _)) ((Ro.roE _ _).append (Ro.roE _ _)) rfl ?_
  rintro v H' ⟨hv, rfl⟩
  rw [rowE_flt]
  refine sx_assign rfl rfl ?_
  refine sx_nil (hZ _ _ ?_)
  refine awp_forget [(4, _)] (Kn.cons rfl (Kn.nil)) ?_
  refine awp_ret ?_
  exact nx_ret1h _ rfl rfl (HLe.sub (List.sublist_append_left _ _)) ⟨hv, rfl⟩
theorem SpsOk.tail {s : Sp} {L : List Sp} (h : SpsOk (s :: L)) : SpsOk L := fun x hx => h x (List.mem_cons_of_mem _ hx)
theorem mand_fn (A : Option Addr) (c : Nat) (L : List Sp) (T : Heap) (hA : ArgOk A L.length) (hT : 0 < L.length → T = roE A (scells L)) (hro : Ro T) (hL : L.length ≤ 15000) (ho : SpsOk L)
    (B : Option Addr) (c2 : Nat) (M : List Sp) (U : Heap) (hB : ArgOk B M.length) (hU : 0 < M.length → U = roE B (scells M)) (hroU : Ro U) (hM : M.length ≤ 26000) (hoM : SpsOk M) :
    Fn Try.prog 18 [.slice A L.length c, .slice B M.length c2] (T ++ U) fun v H' => RowOk v (andQ L M).length ∧ H' = rowE v 43 2 (scells (andQ L M)) := by
  have h1 := plain_len L
  have h2 := plain_len M
  refine Fn.enter (N := 52) Try.func18 rfl (by kernel_rfl) rfl (fun w0 => ?_)

  refine awp_seq_region (fun Z hZ => ?_)
  refine sx_assign rfl rfl ?_
  refine sx_nil (hZ _ _ ?_)
  refine awp_forget [(0, _), (1, _)] (Kn.cons rfl (Kn.cons rfl (Kn.nil))) ?_
  refine awp_seq_region (fun Z hZ => ?_)
  refine sx_move rfl rfl ?_
  refine sx_callIE T (mplain_fn A c L T hA hT hro (by omega) ho) rfl (HLe.sub (List.sublist_append_left _ _)) hro rfl (fun A1 c1 hA1 => ?_)
  refine sx_move rfl rfl ?_
  refine sx_callIE U (mplain_fn B c2 M U hB hU hroU (by omega) hoM) rfl (HLe.sub ((List.sublist_append_right T U).trans (List.sublist_append_left _ _))) hroU rfl (fun A2 c3 hA2 => ?_)
  refine sx_assign rfl rfl ?_
  refine sx_assign rfl rfl ?_
  refine sx_nil (hZ _ _ ?_)
  refine awp_forget [(5, _), (6, _)] (Kn.cons rfl (Kn.cons rfl (Kn.nil))) ?_
  refine awp_heap (roE A1 (scells (plainQ L)) ++ roE A2 (scells (plainQ M))) (HLe.sub (List.Sublist.append_right (List.sublist_append_right _ _) _)) ?_
  refine awp_seq_region (fun Z hZ => ?_)
  refine sx_assign rfl rfl ?_
  refine sx_nil (hZ _ _ ?_)
  refine awp_forget [(5, _), (6, _), (7, _)] (Kn.cons rfl (Kn.cons rfl (Kn.cons rfl (Kn.nil)))) ?_
  refine awp_cut (ι := Value × List Sp) (fun i => [(7, i.1)]) (fun i => rowE i.1 43 2 (scells i.2)) (fun i => RowOk i.1 i.2.length ∧ SpsOk i.2 ∧ i.2.length ≤ 41000 ∧ unQ i.2 [] = andQ L M) ?_ ?_
  · refine awp_block ?_
    refine awp_loop (ι := (Option Addr × Nat × List Sp) × (Option Addr × Nat × List Sp) × Value × List Sp) (fun i => [(5, .slice i.1.1 i.1.2.2.length i.1.2.1), (6, .slice i.2.1.1 i.2.1.2.2.length i.2.1.2.1), (7, i.2.2.1)]) (fun i => (roE i.1.1 (scells i.1.2.2) ++ roE i.2.1.1 (scells i.2.1.2.2)) ++ rowE i.2.2.1 43 2 (scells i.2.2.2))
      (fun i => (SlIn i.1.1 i.1.2.2.length i.1.2.1 ∧ Plain i.1.2.2 ∧ SpsOk i.1.2.2) ∧ (SlIn i.2.1.1 i.2.1.2.2.length i.2.1.2.1 ∧ Plain i.2.1.2.2 ∧ SpsOk i.2.1.2.2) ∧ RowOk i.2.2.1 i.2.2.2.length ∧ SpsOk i.2.2.2 ∧ i.2.2.2.length + i.1.2.2.length + i.2.1.2.2.length ≤ 41000 ∧ InvA (plainQ L) (plainQ M) i.1.2.2 i.2.1.2.2 i.2.2.2)
      (fun i => i.1.2.2.length + i.2.1.2.2.length) ((A1, c1, plainQ L), (A2, c3, plainQ M), .slice none 0 0, [])
      ⟨⟨hA1, plain_plain L, below_sps (plain_plain L) (plain_below L)⟩, ⟨hA2, plain_plain M, below_sps (plain_plain M) (plain_below M)⟩, RowOk.nil, (fun s hs => by cases hs), by show 0 + (plainQ L).length + (plainQ M).length ≤ 41000; omega, fun k => ⟨fun hh => hh.elim (fun hh => absurd hh (inS_nil k)) id, .inr⟩⟩ (Kn.cons rfl (Kn.cons rfl (Kn.cons rfl Kn.nil))) (by simp [rowE]; exact HLe.refl _) ?_
    rintro ⟨⟨Ax, cx, x⟩, ⟨Ay, cy, y⟩, v, out⟩ ⟨⟨hAx, hpx, hox⟩, ⟨hAy, hpy, hoy⟩, hv, hoo, hlen, hinv⟩
    simp only at hAx hpx hox hAy hpy hoy hv hoo hlen hinv
    refine awp_seq ?_
    refine awp_seq_meet [(5, .slice Ax x.length cx), (6, .slice Ay y.length cy), (7, v), (21, .bool (decide (0 < x.length ∧ 0 < y.length)))] ((roE Ax (scells x) ++ roE Ay (scells y)) ++ rowE v 43 2 (scells out)) (fun Z hZ => ?_) ?_
    · refine sx_move rfl rfl ?_
      refine sx_len Try.underlying24 rfl rfl ?_
      refine sx_gtr rfl rfl rfl ?_
      refine sx_move rfl rfl ?_
      refine sx_split 17 rfl (fun hb3 => ?_) (fun hb3 => ?_)
      · refine sx_on rfl rfl rfl ?_
        refine sx_move rfl rfl ?_
        refine sx_on rfl rfl rfl ?_
        refine sx_len Try.underlying24 rfl rfl ?_
        refine sx_on rfl rfl rfl ?_
        refine sx_gtr rfl rfl rfl ?_
        refine sx_pick rfl rfl rfl ?_
        refine sx_nil (hZ _ _ ?_ ?_)
        · exact Kn.cons rfl (Kn.cons rfl (Kn.cons rfl (Kn.cons (congrArg some (congrArg Value.bool (by first | (rw [Bool.eq_iff_iff]; simp only [decide_eq_true_eq, decide_eq_false_iff_not, Bool.false_eq_true, false_iff] at hb3 ⊢; omega) | (simp at *; done) | (simp at *; omega) | (rw [Bool.eq_iff_iff]; simp at *; omega)))) Kn.nil)))
        · exact HLe.refl _
      · refine sx_off rfl rfl rfl rfl rfl ?_
        refine sx_off rfl rfl rfl rfl rfl ?_
        refine sx_off rfl rfl rfl rfl rfl ?_
        refine sx_pick rfl rfl rfl ?_
        refine sx_nil (hZ _ _ ?_ ?_)
        · exact Kn.cons rfl (Kn.cons rfl (Kn.cons rfl (Kn.cons (congrArg some (congrArg Value.bool (by first | (rw [Bool.eq_iff_iff]; simp only [decide_eq_true_eq, decide_eq_false_iff_not, Bool.false_eq_true, false_iff] at hb3 ⊢; omega) | (simp at *; done) | (simp at *; omega) | (rw [Bool.eq_iff_iff]; simp at *; omega)))) Kn.nil)))
        · exact HLe.refl _
    refine awp_cond rfl (fun h => ?_) (fun h => ?_)
    · have h' : 0 < x.length ∧ 0 < y.length := by simpa using h
      cases x with
      | nil => simp at h'
      | cons s x =>
      cases y with
      | nil => simp at h'
      | cons t y =>
      obtain ⟨g, o, rfl⟩ := slIn_pos2 hAx (by simp)
      obtain ⟨g', o', rfl⟩ := slIn_pos2 hAy (by simp)
      have hso := hox s List.mem_cons_self
      have hto := hoy t List.mem_cons_self
      have hm1 := addA_len out (meetQ s t)
      simp only [List.length_cons] at hlen
      refine awp_heap (.ro g o (scells (s :: x)) :: .ro g' o' (scells (t :: y)) :: rowE v 43 2 (scells out)) (HLe.refl _) ?_
      refine awp_skip ?_
      with_reducible refine nx_normal ?_
      refine awp_block ?_
      refine awp_cut (ι := Value) (fun v => [(5, .slice (some ⟨g, o, none⟩) (s :: x).length cx), (6, .slice (some ⟨g', o', none⟩) (t :: y).length cy), (7, v)]) (fun v => .ro g o (scells (s :: x)) :: .ro g' o' (scells (t :: y)) :: rowE v 43 2 (scells (addA out (meetQ s t)))) (fun v => RowOk v (addA out (meetQ s t)).length) ?_ ?_
      · skip
        refine awk_seq_region (fun g8 : Nat => [(5, .slice (some ⟨g, o, none⟩) (s :: x).length cx), (6, .slice (some ⟨g', o', none⟩) (t :: y).length cy), (7, v), (8, ptr g8 0), (9, .bool (decide ((meetQ s t).a ≤ (meetQ s t).b)))]) (fun g8 => .own g8 43 (meetQ s t).cells :: .ro g o (scells (s :: x)) :: .ro g' o' (scells (t :: y)) :: rowE v 43 2 (scells out)) (fun _ => True) _ [6, 10, 11] [(0, true), (1, true), (2, true), (3, true), (4, true), (5, true), (6, false), (7, true), (8, true), (9, true), (10, false), (11, false), (12, true)] [(0, true), (1, true), (2, true), (3, true), (4, true), (5, true), (10, false), (6, false), (7, true), (8, true), (9, true), (11, false), (12, true)] mixed (by kernel_rfl) (HLe.pick [0, 1] (by simp) (by simp only [pick, List.filterMap_cons, List.filterMap_nil, List.getElem?_cons_succ, List.getElem?_cons_zero]; rfl)) ?_ ?_ ?_
        · refine tw_p rfl ?_
          refine sv_move rfl rfl ?_
          refine sv_nil ?_
          refine tw_p rfl ?_
          refine sv_indexAddr (o + 0) Try.underlying24 tyS43 rfl rfl (by simp) (by simp) rfl ?_
          refine sv_nil ?_
          refine tw_p rfl ?_
          refine sv_loadRo 0 rfl rfl 0 rfl tyA43 tyS43 rfl rfl ?_
          refine sv_nil ?_
          refine tw_p rfl ?_
          refine sv_move rfl rfl ?_
          refine sv_nil ?_
          refine tw_p rfl ?_
          refine sv_indexAddr (o' + 0) Try.underlying24 tyS43 rfl rfl (by simp) (by simp) rfl ?_
          refine sv_nil ?_
          refine tw_p rfl ?_
          refine sv_loadRo 1 rfl rfl 0 rfl tyA43 tyS43 rfl rfl ?_
          refine sv_nil ?_
          refine tw_g rfl ?_
          refine sx_callP (mmeet_fn s t) rfl rfl ?_
          refine sx_nil ⟨HLe.pick [0, 1] (by simp) rfl, ?_⟩
          refine tw_p rfl ?_
          refine sv_move rfl rfl ?_
          refine sv_nil ?_
          refine tw_p rfl ?_
          refine sv_extract rfl rfl rfl ?_
          refine sv_nil ?_
          refine tw_p rfl ?_
          refine sv_extract rfl rfl rfl ?_
          refine sv_nil ?_
          refine tw_g rfl ?_
          refine sx_alloc tyZ43 rfl (fun g1 => ?_)
          refine sx_nil ⟨HLe.pick [1, 2] (by simp) rfl, ?_⟩
          refine tw_g rfl ?_
          refine sx_store 0 rfl rfl rfl tyS43 (by first | (simp only [Value.cells]; first | done | rfl) | rfl) rfl rfl (by first | (simp only [List.length_cons, List.length_nil, Nat.reduceAdd, Nat.zero_add, Nat.add_zero]; first | done | rfl) | rfl) (by first | (simp only [List.take_succ_cons, List.take_zero, List.drop_succ_cons, List.drop_zero, List.cons_append, List.nil_append, List.append_nil, List.length_cons, List.length_nil, Nat.reduceAdd, Nat.zero_add, Nat.add_zero, Value.cells, wrV]; first | done | rfl) | rfl) (by first | (simp only [List.set_cons_succ, List.set_cons_zero]; first | done | rfl) | rfl) ?_
          refine sx_nil ⟨HLe.pick [1, 2] (by simp) rfl, ?_⟩
          refine tw_p rfl ?_
          refine sv_assign rfl rfl ?_
          refine sv_nil ?_
          refine tw_nil ?_
          exact ⟨g1, trivial, Kn.cons rfl (Kn.cons rfl (Kn.cons rfl (Kn.cons rfl (Kn.cons rfl Kn.nil)))), HLe.refl _⟩
        · refine tw_p rfl ?_
          refine sv_move rfl rfl ?_
          refine sv_nil ?_
          refine tw_p rfl ?_
          refine sv_indexAddr (o + 0) Try.underlying24 tyS43 rfl rfl (by simp) (by simp) rfl ?_
          refine sv_nil ?_
          refine tw_p rfl ?_
          refine sv_loadRo 0 rfl rfl 0 rfl tyA43 tyS43 rfl rfl ?_
          refine sv_nil ?_
          refine tw_p rfl ?_
          refine sv_move rfl rfl ?_
          refine sv_nil ?_
          refine tw_p rfl ?_
          refine sv_indexAddr (o' + 0) Try.underlying24 tyS43 rfl rfl (by simp) (by simp) rfl ?_
          refine sv_nil ?_
          refine tw_p rfl ?_
          refine sv_loadRo 1 rfl rfl 0 rfl tyA43 tyS43 rfl rfl ?_
          refine sv_nil ?_
          refine tw_g rfl ?_
          refine sx_alloc tyZ43 rfl (fun g1 => ?_)
          refine sx_nil ⟨HLe.pick [1, 2] (by simp) rfl, ?_⟩
          refine tw_g rfl ?_
          refine sx_callP (mmeet_fn s t) rfl rfl ?_
          refine sx_nil ⟨HLe.pick [1, 2] (by simp) rfl, ?_⟩
          refine tw_p rfl ?_
          refine sv_move rfl rfl ?_
          refine sv_nil ?_
          refine tw_p rfl ?_
          refine sv_extract rfl rfl rfl ?_
          refine sv_nil ?_
          refine tw_p rfl ?_
          refine sv_extract rfl rfl rfl ?_
          refine sv_nil ?_
          refine tw_g rfl ?_
          refine sx_store 0 rfl rfl rfl tyS43 (by first | (simp only [Value.cells]; first | done | rfl) | rfl) rfl rfl (by first | (simp only [List.length_cons, List.length_nil, Nat.reduceAdd, Nat.zero_add, Nat.add_zero]; first | done | rfl) | rfl) (by first | (simp only [List.take_succ_cons, List.take_zero, List.drop_succ_cons, List.drop_zero, List.cons_append, List.nil_append, List.append_nil, List.length_cons, List.length_nil, Nat.reduceAdd, Nat.zero_add, Nat.add_zero, Value.cells, wrV]; first | done | rfl) | rfl) (by first | (simp only [List.set_cons_succ, List.set_cons_zero]; first | done | rfl) | rfl) ?_
          refine sx_nil ⟨HLe.pick [1, 2] (by simp) rfl, ?_⟩
          refine tw_p rfl ?_
          refine sv_assign rfl rfl ?_
          refine sv_nil ?_
          refine tw_nil ?_
          exact ⟨g1, trivial, Kn.cons rfl (Kn.cons rfl (Kn.cons rfl (Kn.cons rfl (Kn.cons rfl Kn.nil)))), HLe.refl _⟩
        rintro g8 -

        refine awp_seq_region (fun Z hZ => ?_)
        refine sx_move rfl rfl ?_
        refine sx_nil (hZ _ _ ?_)
        refine awp_forget [(5, _), (6, _), (7, _), (8, _), (32, _)] (Kn.cons rfl (Kn.cons rfl (Kn.cons rfl (Kn.cons rfl (Kn.cons rfl (Kn.nil)))))) ?_
        refine awp_cond rfl (fun h5 => ?_) (fun h5 => ?_)
        · have h5' : (meetQ s t).a ≤ (meetQ s t).b := by simpa using h5
          have hadd : addA out (meetQ s t) = out ++ [meetQ s t] := by unfold addA; rw [if_pos h5']
          rw [hadd]
          refine awp_region (fun Z hZ => ?_)
          refine sx_move rfl rfl ?_
          refine sx_loadA 0 rfl rfl tyA43 tyS43 (by first | (simp only [List.length_cons, List.length_nil, Nat.reduceAdd, Nat.zero_add, Nat.add_zero]; first | done | rfl) | rfl) (by first | (simp only [List.take_succ_cons, List.take_zero, List.drop_succ_cons, List.drop_zero, List.cons_append, List.nil_append, List.append_nil, List.length_cons, List.length_nil, Nat.reduceAdd, Nat.zero_add, Nat.add_zero, Value.cells, wrV]; first | done | rfl) | rfl) rfl ?_
          refine sx_buildSlice Try.underlying24 tyS43 tyZ43 rfl rfl rfl rfl (by first | (simp only [List.take_succ_cons, List.take_zero, List.drop_succ_cons, List.drop_zero, List.cons_append, List.nil_append, List.append_nil, List.length_cons, List.length_nil, Nat.reduceAdd, Nat.zero_add, Nat.add_zero, Value.cells, wrV, zrep_one, List.replicate_succ, List.replicate_zero, Nat.reduceMul, Nat.zero_mul]; first | done | rfl) | rfl) rfl (fun g2 => ?_)
          refine sx_appendE (xs := scells out) [_, _, _, _] elemSp rfl hv (by rw [scells_len]) rfl (fun w hw => rd_own (i := 0) (xs := (meetQ s t).cells) rfl rfl hw) rfl (by show _ ≤ 9223372036854775807; omega) (by omega) (HLe.refl _) rfl (fun v2 hv2 => ?_)
          refine sx_assign rfl rfl ?_
          refine sx_nil (hZ _ _ ?_)
          refine nx_forget [(5, _), (6, _), (7, _)] (Kn.cons rfl (Kn.cons rfl (Kn.cons rfl (Kn.nil)))) ?_
          refine nx_cut v2 (by rw [List.length_append]; exact hv2) (Kn.cons rfl (Kn.cons rfl (Kn.cons rfl Kn.nil))) ?_
          rw [scells_app]
          exact HLe.drop 2 rfl
        · have h5' : ¬ (meetQ s t).a ≤ (meetQ s t).b := by simpa using h5
          have hadd : addA out (meetQ s t) = out := by unfold addA; rw [if_neg h5']
          rw [hadd]
          refine awp_skip ?_
          exact nx_cut v hv (Kn.cons rfl (Kn.cons rfl (Kn.cons rfl Kn.nil))) (HLe.drop 1 rfl)
      intro v hv
      have hmo : SpsOk (addA out (meetQ s t)) := fun z hz => by
        unfold addA at hz
        split at hz
        · rcases List.mem_append.1 hz with hz | hz
          · exact hoo z hz
          · rw [List.mem_singleton.1 hz]; exact ⟨by show max s.a t.a < _; omega, by show min s.b t.b < _; omega⟩
        · exact hoo z hz

      refine awq_seq_region mixed (by kernel_rfl) (fun Z hZ => ?_)
      refine sq_move rfl rfl ?_
      refine sq_indexAddr (o + 0) Try.underlying24 tyS43 rfl rfl (by simp) (by simp) rfl ?_
      refine sq_fieldAddr rfl tyF43_1 (by first | (simp only [Nat.reduceAdd, Nat.add_zero, Nat.zero_add]; first | done | rfl) | rfl) rfl ?_
      refine sq_loadRo 0 rfl rfl 1 rfl tyA36 tyS36 rfl rfl ?_
      refine sq_move rfl rfl ?_
      refine sq_indexAddr (o' + 0) Try.underlying24 tyS43 rfl rfl (by simp) (by simp) rfl ?_
      refine sq_fieldAddr rfl tyF43_1 (by first | (simp only [Nat.reduceAdd, Nat.add_zero, Nat.zero_add]; first | done | rfl) | rfl) rfl ?_
      refine sq_loadRo 1 rfl rfl 1 rfl tyA36 tyS36 rfl rfl ?_
      refine sq_lss rfl rfl rfl ?_
      refine sq_nil (hZ _ _ ?_)
      refine awp_forget [(5, _), (6, _), (7, _), (45, _)] (Kn.cons rfl (Kn.cons rfl (Kn.cons rfl (Kn.cons rfl (Kn.nil))))) ?_
      refine awp_cond rfl (fun h7 => ?_) (fun h7 => ?_)
      · have h7' : s.b < t.b := by simp at h7; omega
        refine awp_region (fun Z hZ => ?_)
        refine sx_move rfl rfl ?_
        refine sx_part (i := 1) (j := x.length + 1) Try.underlying24 tyS43 hAx rfl rfl rfl (by omega) (by have := hAx.cap; simpa using this) rfl (fun A3 hA3 ht3 => ?_)
        rw [Nat.add_sub_cancel] at hA3 ht3
        rw [Nat.add_sub_cancel]
        refine sx_assign rfl rfl ?_
        refine sx_nil (hZ _ _ ?_)
        refine nx_forget [(5, _), (6, _), (7, _)] (Kn.cons rfl (Kn.cons rfl (Kn.cons rfl (Kn.nil)))) ?_
        refine nx_block_normal ?_
        exact nx_round ((A3, cx - 1, x), (some ⟨g', o', none⟩, cy, t :: y), v, addA out (meetQ s t)) ⟨⟨hA3, hpx.tail, hox.tail⟩, ⟨hAy, hpy, hoy⟩, hv, hmo, by simp only [List.length_cons]; omega, hinv.left hpy h7'⟩ (by simp only [List.length_cons]; omega) (Kn.cons rfl (Kn.cons rfl (Kn.cons rfl Kn.nil))) (by show HLe ((roE A3 (scells x) ++ [Ent.ro g' o' (scells (t :: y))]) ++ rowE v 43 2 (scells (addA out (meetQ s t)))) _; rw [List.append_assoc]; exact tail_ro (.ro g' o' (scells (t :: y)) :: rowE v 43 2 (scells (addA out (meetQ s t)))) hA3 ht3)
      · have h7' : t.b ≤ s.b := by simp at h7; omega
        refine awp_region (fun Z hZ => ?_)
        refine sx_move rfl rfl ?_
        refine sx_part (i := 1) (j := y.length + 1) Try.underlying24 tyS43 hAy rfl rfl rfl (by omega) (by have := hAy.cap; simpa using this) rfl (fun A3 hA3 ht3 => ?_)
        rw [Nat.add_sub_cancel] at hA3 ht3
        rw [Nat.add_sub_cancel]
        refine sx_assign rfl rfl ?_
        refine sx_nil (hZ _ _ ?_)
        refine nx_forget [(5, _), (6, _), (7, _)] (Kn.cons rfl (Kn.cons rfl (Kn.cons rfl (Kn.nil)))) ?_
        refine nx_block_normal ?_
        exact nx_round ((some ⟨g, o, none⟩, cx, s :: x), (A3, cy - 1, y), v, addA out (meetQ s t)) ⟨⟨hAx, hpx, hox⟩, ⟨hA3, hpy.tail, hoy.tail⟩, hv, hmo, by simp only [List.length_cons]; omega, hinv.right hpx h7'⟩ (by simp only [List.length_cons]; omega) (Kn.cons rfl (Kn.cons rfl (Kn.cons rfl Kn.nil))) (by show HLe (Ent.ro g o (scells (s :: x)) :: (roE A3 (scells y) ++ rowE v 43 2 (scells (addA out (meetQ s t))))) _; exact (HLe.permS List.perm_middle).trans ((tail_ro (Ent.ro g o (scells (s :: x)) :: rowE v 43 2 (scells (addA out (meetQ s t)))) hA3 ht3).trans (HLe.permS (List.Perm.swap _ _ _))))
    · refine awp_exit ?_
      repeat (with_reducible refine nx_then_exit ?_)
      with_reducible refine nx_block_exit ?_
      have h' : x = [] ∨ y = [] := by
        simp at h
        by_cases hx : x = []
        · exact .inl hx
        · exact .inr (List.length_eq_zero_iff.1 (by have := List.length_pos_iff.2 hx; have := h; simp_all))
      exact nx_cut (v, out) ⟨hv, hoo, by show out.length ≤ 41000; omega, hinv.done h'⟩ (Kn.cons rfl Kn.nil) (HLe.sub (List.sublist_append_right _ _))
  rintro ⟨v, out⟩ ⟨hv, hoo, hlo, heq⟩
  simp only at hv hoo hlo heq
  refine awp_heap (rowE v 43 2 (scells out) ++ []) (by rw [List.append_nil]; exact HLe.refl _) ?_
  refine awp_seq_region (fun Z hZ => ?_)
  refine sx_move rfl rfl ?_
  refine sx_toRoE (fun u => (50, u) :: _) hv (fun A1 c1 hA1 => ?_)
  refine sx_callO (roE A1 (scells out) ++ roE none (scells [])) [] (union_fn A1 none c1 0 out [] hA1 slIn_nil (by omega) (by simp) hoo (fun s hs => by cases hs)) rfl (by rw [List.nil_append, List.append_nil]; show HLe (roE A1 (scells out) ++ []) _; rw [List.append_nil]; exact HLe.refl _) rfl ?_
  rintro v2 H2 ⟨hv2, rfl⟩
  rw [rowE_flt, List.append_nil, heq]
  rw [heq] at hv2
  refine sx_assign rfl rfl ?_
  refine sx_nil (hZ _ _ ?_)
  refine awp_forget [(4, _)] (Kn.cons rfl (Kn.nil)) ?_
  refine awp_ret ?_
  exact nx_ret1h _ rfl rfl (HLe.refl _) ⟨hv2, rfl⟩
end Go.Proofs.Ytbldhokgbcljjaa
