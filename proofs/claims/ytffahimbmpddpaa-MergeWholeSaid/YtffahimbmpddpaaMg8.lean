/- The walk of merge.Rows. Conditions: the chart is one. -/
import Derived.Test.YtffahimbmpddpaaMg7
namespace Go.Proofs.Ytffahimbmpddpaa.V
open Go.RowKit
set_option linter.unusedVariables false
set_option linter.unusedSimpArgs false
set_option maxRecDepth 100000
theorem le_rows (a b c d e : Ent) (X T : Heap) : HLe ((b :: c :: d :: X) ++ (a :: T)) (a :: b :: c :: d :: e :: (X ++ T)) :=
  HLe.trans (HLe.perm (List.perm_middle (l₁ := b :: c :: d :: X)).symm) (HLe.sub (List.Sublist.cons_cons a (List.Sublist.cons_cons b (List.Sublist.cons_cons c (List.Sublist.cons_cons d (List.sublist_cons_self e (X ++ T)))))))
theorem le_done (d a b c : Ent) (R X K : Heap) : HLe (d :: a :: b :: (X ++ R)) (d :: ((a :: b :: c :: (R ++ X)) ++ K)) :=
  (HLe.perm (A := d :: a :: b :: (X ++ R)) (B := d :: a :: b :: (R ++ X)) (List.Perm.cons d (List.Perm.cons a (List.Perm.cons b List.perm_append_comm)))).trans (HLe.sub (List.Sublist.cons_cons d (List.Sublist.cons_cons a (List.Sublist.cons_cons b (List.Sublist.cons c (List.sublist_append_left (R ++ X) K))))))
theorem put1_nil (e : En) : put1 [] e = [e] := rfl
theorem put1_some {out : List En} {a e : En} (h : out[out.length - 1]? = some a) : put1 out e = if oneQ a e then out.set (out.length - 1) { a with run := a.run + 1 } else out ++ [e] := by
  unfold put1
  rw [h]
theorem mrows_fn (A : Option Addr) (c : Nat) (L : List It) (T : Heap) (hA : ArgOk A L.length) (hT : 0 < L.length → T = roE A (icells L)) (hro : Ro T) (hok : ChOk L) :
    Fn Try.prog 17 [chV A L.length c] T fun v H' => ∃ u, v = .tuple #[u, .string (str (rowsS L).2.flatten)] ∧ RowOk u (rowsS L).1.length ∧ H' = rowE u 63 4 (ecells (rowsS L).1) := by
  have hlen := hok.len
  refine Fn.enterM (n := 63) Try.func17 rfl (by kernel_rfl) rfl (fun w0 => ?_)

  refine awp_seq_region (fun Z hZ => ?_)
  refine sx_box rfl rfl rfl (fun g1 => ?_)
  refine sx_assign rfl rfl ?_
  refine sx_assign rfl rfl ?_
  refine sx_nil (hZ _ _ ?_)
  refine awp_forget [(1, _)] (Kn.cons rfl (Kn.nil)) ?_

  refine awp_seq_region (fun Z hZ => ?_)
  refine sx_alloc tyZ73 rfl (fun g2 => ?_)
  refine sx_store1 0 rfl rfl rfl tyS73 rfl (by first | (simp only [List.length_cons, List.length_nil, Nat.reduceAdd, Nat.zero_add, Nat.add_zero]; first | done | rfl) | rfl) (by first | (simp only [List.set_cons_succ, List.set_cons_zero, Nat.reduceAdd, Nat.add_zero, Nat.zero_add]; first | done | rfl) | rfl) (by first | (simp only [List.set_cons_succ, List.set_cons_zero]; first | done | rfl) | rfl) ?_
  refine sx_nil (hZ _ _ ?_)
  refine awp_forget [(1, _), (4, _)] (Kn.cons rfl (Kn.cons rfl (Kn.nil))) ?_

  refine awp_seq_region (fun Z hZ => ?_)
  refine sx_callO [] _ pnew_fn rfl (HLe.refl _) rfl ?_
  rintro v X0 ⟨gp, rfl, hP0⟩
  rw [hP0.wrs.filter]
  refine sx_heap _ (HLe.comm3 X0 [_, _] T) ?_
  refine sx_alloc tyZ78 rfl (fun g3 => ?_)
  refine sx_store1 0 rfl rfl rfl tyS78 rfl (by first | (simp only [List.length_cons, List.length_nil, Nat.reduceAdd, Nat.zero_add, Nat.add_zero]; first | done | rfl) | rfl) (by first | (simp only [List.set_cons_succ, List.set_cons_zero, Nat.reduceAdd, Nat.add_zero, Nat.zero_add]; first | done | rfl) | rfl) (by first | (simp only [List.set_cons_succ, List.set_cons_zero]; first | done | rfl) | rfl) ?_
  refine sx_nil (hZ _ _ ?_)
  refine awp_forget [(1, _), (4, _), (5, _)] (Kn.cons rfl (Kn.cons rfl (Kn.cons rfl (Kn.nil)))) ?_

  refine awp_seq_region (fun Z hZ => ?_)
  refine sx_alloc tyZ24 rfl (fun g4 => ?_)
  refine sx_nil (hZ _ _ ?_)
  refine awp_forget [(1, _), (4, _), (5, _), (6, _)] (Kn.cons rfl (Kn.cons rfl (Kn.cons rfl (Kn.cons rfl (Kn.nil))))) ?_

  refine awp_seq ?_
  refine awp_seq_region (fun Z hZ => ?_)
  refine sx_loadA 3 rfl rfl tyA28 tyS28 (by first | (simp only [List.length_cons, List.length_nil, Nat.reduceAdd, Nat.zero_add, Nat.add_zero]; first | done | rfl) | rfl) (by first | (simp only [List.take_succ_cons, List.take_zero, List.drop_succ_cons, List.drop_zero, List.cons_append, List.nil_append, List.append_nil, List.length_cons, List.length_nil, Nat.reduceAdd, Nat.zero_add, Nat.add_zero, Value.cells, wrV]; first | done | rfl) | rfl) rfl ?_
  refine sx_callO [] _ (ceach_fn A L.length c) rfl (HLe.refl _) rfl ?_
  rintro v H' ⟨ge, rfl, rfl⟩
  refine sx_nil (hZ _ _ ?_)
  refine awp_forget [(4, _), (5, _), (6, _), (16, _)] (Kn.cons rfl (Kn.cons rfl (Kn.cons rfl (Kn.cons rfl (Kn.nil))))) ?_
  refine awp_block ?_
  refine awp_range (fun k H => ∃ v X, RowOk v (rowsS (L.take k)).1.length ∧ PoolIs gp (rowsS (L.take k)).2 X ∧ H = .own g4 24 [v] :: .own g3 78 [ptr gp 0] :: .own g2 73 [.func (.func 35) #[] #[]] :: (rowE v 63 4 (ecells (rowsS (L.take k)).1) ++ X)) [] (fun _ _ => False) (.own g4 24 [nilS] :: .own g3 78 [ptr gp 0] :: .own g2 73 [.func (.func 35) #[] #[]] :: X0)
    (ceach_it ge A c L T hA hT (by omega)) rfl (fun k H h => by obtain ⟨v, X, _, hX, rfl⟩ := h; exact Wrs.cons rfl (Wrs.cons rfl (Wrs.cons rfl ((rowE_wrs _ _ _ _).append hX.wrs)))) (fun _ _ h => h.elim) Ro.nil (fun x hx => by rcases List.mem_cons.1 hx with rfl | hx; rfl; exact hro x hx) (fun k vs h => by rw [List.getElem?_map] at h; cases hk : L[k]? with | none => rw [hk] at h; cases h | some x => rw [hk] at h; obtain rfl := Option.some.inj h; rfl) rfl
    ⟨nilS, X0, by simpa [rowsS] using RowOk.nil, by simpa [rowsS] using hP0, rfl⟩ (by rw [List.append_nil]; exact (HLe.toRo (_ :: _ :: _ :: X0) T).trans (le_rows _ _ _ _ _ X0 T)) rfl ?_ ?_ (fun _ _ _ h => h.elim)
  · rintro k vs H hk ⟨v, X, hv, hX, rfl⟩ l w1
    rw [List.getElem?_map] at hk
    cases hkx : L[k]? with
    | none => rw [hkx] at hk; cases hk
    | some x =>
      rw [hkx] at hk
      obtain rfl := Option.some.inj hk
      have hkl := (List.getElem?_eq_some_iff.1 hkx).1
      have hxm := List.mem_of_getElem? hkx
      have hrs := rows_ok hok k (by omega)
      rw [rows_snoc hkx]
      obtain ⟨s, hs⟩ : ∃ s, rowsS (L.take k) = s := ⟨_, rfl⟩
      rw [hs] at hv hX hrs ⊢
      obtain ⟨out, ts⟩ := s
      simp only [rwS] at hv hX ⊢
      obtain ⟨t1, t2⟩ := hok.tx x hxm
      have hxl := hok.lt x hxm
      obtain ⟨r1, r2, r3, r4, r5⟩ := hrs
      simp only at r1 r2 r3 r4 r5
      have hadd := add_fn hX x.tx r1 (by omega) (by omega) t1 t2
      obtain ⟨c1, c2⟩ := addC_le ts x.tx
      obtain ⟨cc, hcc⟩ : ∃ cc, addC ts x.tx = cc := ⟨_, rfl⟩
      have hen : enOf ts x = ⟨x.id, cc.1, cc.2, 1⟩ := by unfold enOf; rw [hcc]
      rw [hcc] at hadd c1 c2
      rw [hen]

      refine awp_seq_region (fun Z hZ => ?_)
      refine sx_assign rfl rfl ?_
      refine sx_nil (hZ _ _ ?_)
      refine awp_forget [(4, _), (5, _), (6, _), (7, _), (18, _)] (Kn.cons rfl (Kn.cons rfl (Kn.cons rfl (Kn.cons rfl (Kn.cons rfl (Kn.nil)))))) ?_
      refine awp_region (fun Z hZ => ?_)
      refine sx_assign rfl rfl ?_
      refine sx_nil (hZ _ _ ?_)
      refine nx_forget [(4, _), (5, _), (6, _), (7, _), (8, _)] (Kn.cons rfl (Kn.cons rfl (Kn.cons rfl (Kn.cons rfl (Kn.cons rfl (Kn.nil)))))) ?_
      refine nx_assign [] Wrs.nil (HLe.refl _) fun w2 => ?_
      refine awp_heap (.own g4 24 [v] :: .own g3 78 [ptr gp 0] :: .own g2 73 [.func (.func 35) #[] #[]] :: (rowE v 63 4 (ecells out) ++ X)) (by simp only [List.nil_append, List.append_nil]; exact HLe.refl _) ?_
      refine awp_block ?_
      refine awp_seq_region (fun Z hZ => ?_)
      refine sx_load 1 rfl rfl tyA78 tyS78 rfl rfl ?_
      refine sx_move rfl rfl ?_
      refine sx_callO X (_ :: _ :: _ :: rowE v 63 4 (ecells out)) hadd rfl (HLe.swap (_ :: _ :: _ :: rowE v 63 4 (ecells out)) X) rfl ?_
      rintro u X2 ⟨⟨b, rfl⟩, hX2⟩
      rw [hX2.wrs.filter]
      refine sx_heap _ (HLe.swap X2 (_ :: _ :: _ :: rowE v 63 4 (ecells out))) ?_
      refine sx_move rfl rfl ?_
      refine sx_extract rfl rfl rfl ?_
      refine sx_extract rfl rfl rfl ?_
      refine sx_extract rfl rfl rfl ?_
      refine sx_alloc tyZ84 rfl (fun g5 => ?_)
      refine sx_store 0 rfl rfl rfl tyS84 (by first | (simp only [Value.cells]; first | done | rfl) | rfl) rfl rfl (by first | (simp only [List.length_cons, List.length_nil, Nat.reduceAdd, Nat.zero_add, Nat.add_zero]; first | done | rfl) | rfl) (by first | (simp only [List.take_succ_cons, List.take_zero, List.drop_succ_cons, List.drop_zero, List.cons_append, List.nil_append, List.append_nil, List.length_cons, List.length_nil, Nat.reduceAdd, Nat.zero_add, Nat.add_zero, Value.cells, wrV]; first | done | rfl) | rfl) (by first | (simp only [List.set_cons_succ, List.set_cons_zero]; first | done | rfl) | rfl) ?_
      refine sx_assign rfl rfl ?_
      refine sx_assign rfl rfl ?_
      refine sx_nil (hZ _ _ ?_)
      refine awp_forget [(4, _), (6, _), (7, _), (9, _)] (Kn.cons rfl (Kn.cons rfl (Kn.cons rfl (Kn.cons rfl (Kn.nil))))) ?_

      refine awp_seq_region (fun Z hZ => ?_)
      refine sx_move rfl rfl ?_
      refine sx_fieldAddr rfl tyF84_0 (by first | (simp only [Nat.reduceAdd, Nat.add_zero, Nat.zero_add]; first | done | rfl) | rfl) rfl ?_
      refine sx_load 0 rfl rfl tyA46 tyS46 rfl rfl ?_
      refine sx_fieldAddr rfl tyF84_1 (by first | (simp only [Nat.reduceAdd, Nat.add_zero, Nat.zero_add]; first | done | rfl) | rfl) rfl ?_
      refine sx_load 0 rfl rfl tyA61 tyS61 rfl rfl ?_
      refine sx_build tyZ63 tyP63 rfl rfl (by first | (simp only [List.take_succ_cons, List.take_zero, List.drop_succ_cons, List.drop_zero, List.cons_append, List.nil_append, List.append_nil, List.length_cons, List.length_nil, Nat.reduceAdd, Nat.zero_add, Nat.add_zero, Value.cells, wrV, zrep_one, List.replicate_succ, List.replicate_zero, Nat.reduceMul, Nat.zero_mul]; first | done | rfl) | rfl) rfl ?_
      refine sx_alloc tyZ63 rfl (fun g6 => ?_)
      refine sx_store 0 rfl rfl rfl tyS63 (by first | (simp only [Value.cells]; first | done | rfl) | rfl) rfl rfl (by first | (simp only [List.length_cons, List.length_nil, Nat.reduceAdd, Nat.zero_add, Nat.add_zero]; first | done | rfl) | rfl) (by first | (simp only [List.take_succ_cons, List.take_zero, List.drop_succ_cons, List.drop_zero, List.cons_append, List.nil_append, List.append_nil, List.length_cons, List.length_nil, Nat.reduceAdd, Nat.zero_add, Nat.add_zero, Value.cells, wrV]; first | done | rfl) | rfl) (by first | (simp only [List.set_cons_succ, List.set_cons_zero]; first | done | rfl) | rfl) ?_
      refine sx_nil (hZ _ _ ?_)
      refine awp_forget [(4, _), (6, _), (12, _)] (Kn.cons rfl (Kn.cons rfl (Kn.cons rfl (Kn.nil)))) ?_
      obtain ⟨Av, cv, rfl, hAv⟩ := hv.form
      rcases Nat.eq_zero_or_pos out.length with h0 | h0
      · obtain rfl := List.eq_nil_of_length_eq_zero h0
        rw [put1_nil]

        refine awp_seq ?_
        refine awp_seq_region (fun Z hZ => ?_)
        refine sx_load 2 rfl rfl tyA24 tyS24 rfl rfl ?_
        refine sx_len Try.underlying24 rfl rfl ?_
        refine sx_sub rfl rfl (-1 : Int) (by show IntKind.i64.wrap (((([] : List En).length : Nat) : Int) - 1) = -1; rfl) rfl ?_
        refine sx_assign rfl rfl ?_
        refine sx_nil (hZ _ _ ?_)
        refine awp_forget [(4, _), (6, _), (12, _), (13, _)] (Kn.cons rfl (Kn.cons rfl (Kn.cons rfl (Kn.cons rfl (Kn.nil))))) ?_
        refine awq_seq_meet [(6, ptr g4 0), (12, ptr g6 0), (13, iq (-1)), (47, .bool false)] (.own g6 63 (⟨x.id, cc.1, cc.2, 1⟩ : En).cells :: .own g5 84 (ctC cc) :: .own g4 24 [.slice Av ([] : List En).length cv] :: .own g3 78 [ptr gp 0] :: .own g2 73 [.func (.func 35) #[] #[]] :: (rowE (.slice Av ([] : List En).length cv) 63 4 (ecells []) ++ X2)) mixed (by kernel_rfl) (fun Z hZ => ?_) ?_
        · refine sq_move rfl rfl ?_
          refine sq_geq rfl rfl rfl ?_
          refine sq_move rfl rfl ?_
          refine sq_force 37 rfl false (by rfl) ?_
          refine sq_off rfl rfl rfl rfl rfl ?_
          refine sq_off rfl rfl rfl rfl rfl ?_
          refine sq_off rfl rfl rfl rfl rfl ?_
          refine sq_off rfl rfl rfl rfl rfl ?_
          refine sq_off rfl rfl rfl rfl rfl ?_
          refine sq_off rfl rfl rfl rfl rfl ?_
          refine sq_off rfl rfl rfl rfl rfl ?_
          refine sq_off rfl rfl rfl rfl rfl ?_
          refine sq_off rfl rfl rfl rfl rfl ?_
          refine sq_pick rfl rfl rfl ?_
          refine sq_nil (hZ _ _ ?_ ?_)
          · exact Kn.cons rfl (Kn.cons rfl (Kn.cons rfl (Kn.cons rfl Kn.nil)))
          · exact HLe.refl _
        refine awp_cond rfl (fun h9 => ?_) (fun h9 => ?_)
        · cases h9
        refine awp_skip ?_
        with_reducible refine nx_normal ?_
        refine awp_region (fun Z hZ => ?_)
        refine sx_load 2 rfl rfl tyA24 tyS24 rfl rfl ?_
        refine sx_loadA 0 rfl rfl tyA63 tyS63 (by first | (simp only [List.length_cons, List.length_nil, Nat.reduceAdd, Nat.zero_add, Nat.add_zero]; first | done | rfl) | rfl) (by first | (simp only [List.take_succ_cons, List.take_zero, List.drop_succ_cons, List.drop_zero, List.cons_append, List.nil_append, List.append_nil, List.length_cons, List.length_nil, Nat.reduceAdd, Nat.zero_add, Nat.add_zero, Value.cells, wrV]; first | done | rfl) | rfl) rfl ?_
        refine sx_buildSlice Try.underlying24 tyS63 tyZ63 rfl rfl rfl rfl (by first | (simp only [List.take_succ_cons, List.take_zero, List.drop_succ_cons, List.drop_zero, List.cons_append, List.nil_append, List.append_nil, List.length_cons, List.length_nil, Nat.reduceAdd, Nat.zero_add, Nat.add_zero, Value.cells, wrV, zrep_one, List.replicate_succ, List.replicate_zero, Nat.reduceMul, Nat.zero_mul]; first | done | rfl) | rfl) rfl (fun g7 => ?_)
        refine sx_appendE (xs := ecells []) (_ :: _ :: _ :: _ :: _ :: _ :: X2) elemEn rfl hv rfl rfl (fun w hw => rd_own (i := 0) (xs := (⟨x.id, cc.1, cc.2, 1⟩ : En).cells) rfl rfl hw) rfl (by decide) (by decide) (le_fst (X := [_, _, _, _, _, _])) rfl (fun v2 hv2 => ?_)
        obtain ⟨gv2, cv2, rfl⟩ := hv2.some (by omega)
        refine sx_store1 3 rfl rfl rfl tyS24 rfl (by first | (simp only [List.length_cons, List.length_nil, Nat.reduceAdd, Nat.zero_add, Nat.add_zero]; first | done | rfl) | rfl) (by first | (simp only [List.set_cons_succ, List.set_cons_zero, Nat.reduceAdd, Nat.add_zero, Nat.zero_add]; first | done | rfl) | rfl) (by first | (simp only [List.set_cons_succ, List.set_cons_zero]; first | done | rfl) | rfl) ?_
        refine sx_nil (hZ _ _ ?_)
        refine nx_forget [] (Kn.nil) ?_
        refine nx_block_normal ?_
        refine nx_next (.own g4 24 [.slice (some ⟨gv2, 0, none⟩) (0 + 1) cv2] :: .own g3 78 [ptr gp 0] :: .own g2 73 [.func (.func 35) #[] #[]] :: (rowE (.slice (some ⟨gv2, 0, none⟩) (0 + 1) cv2) 63 4 (ecells [⟨x.id, cc.1, cc.2, 1⟩]) ++ X2)) ⟨_, X2, hv2, hX2, rfl⟩ ?_
        exact (HLe.drop 3 rfl).trans (le_fstB (X := [_, _, _, _, _, _]))
      · obtain ⟨m, hm⟩ : ∃ m, out.length = m + 1 := ⟨out.length - 1, by omega⟩
        have hml : m < out.length := by omega
        obtain ⟨a, ha⟩ : ∃ a, out[m]? = some a := ⟨_, List.getElem?_eq_getElem hml⟩
        obtain ⟨hao, har⟩ := r5 a (List.mem_of_getElem? ha)
        have hp1 : put1 out ⟨x.id, cc.1, cc.2, 1⟩ = if oneQ a ⟨x.id, cc.1, cc.2, 1⟩ then out.set m { a with run := a.run + 1 } else out ++ [⟨x.id, cc.1, cc.2, 1⟩] := by rw [put1_some (a := a) (by rw [hm, Nat.add_sub_cancel]; exact ha), hm, Nat.add_sub_cancel]
        rw [hp1]
        obtain ⟨gv, cv', hev⟩ := hv.some (by omega)
        injection hev with he1 _ he2
        subst he1; subst he2
        have hgo := goes_fn a ⟨x.id, cc.1, cc.2, 1⟩ hao
        obtain ⟨q, hq⟩ : ∃ q, oneQ a ⟨x.id, cc.1, cc.2, 1⟩ = q := ⟨_, rfl⟩
        rw [hq] at hgo ⊢
        refine awp_heap (.own g6 63 (⟨x.id, cc.1, cc.2, 1⟩ : En).cells :: .own g5 84 (ctC cc) :: .own g4 24 [.slice (some ⟨gv, 0, none⟩) out.length cv] :: .own g3 78 [ptr gp 0] :: .own g2 73 [.func (.func 35) #[] #[]] :: .ob gv (RowP 63 4 out.length cv (ecells out)) :: X2) (HLe.refl _) ?_

        refine awp_seq ?_
        refine awp_seq_region (fun Z hZ => ?_)
        refine sx_load 2 rfl rfl tyA24 tyS24 rfl rfl ?_
        refine sx_len Try.underlying24 rfl rfl ?_
        refine sx_sub rfl rfl ((m : Nat) : Int) (by rw [IntWalk.i64_in _ (by omega)]; omega) rfl ?_
        refine sx_assign rfl rfl ?_
        refine sx_nil (hZ _ _ ?_)
        refine awp_forget [(4, _), (6, _), (12, _), (13, _)] (Kn.cons rfl (Kn.cons rfl (Kn.cons rfl (Kn.cons rfl (Kn.nil))))) ?_
        refine awq_seq_meet [(6, ptr g4 0), (12, ptr g6 0), (13, iq (m : Nat)), (47, .bool q)] (.own g6 63 (⟨x.id, cc.1, cc.2, 1⟩ : En).cells :: .own g5 84 (ctC cc) :: .own g4 24 [.slice (some ⟨gv, 0, none⟩) out.length cv] :: .own g3 78 [ptr gp 0] :: .own g2 73 [.func (.func 35) #[] #[]] :: .ob gv (RowP 63 4 out.length cv (ecells out)) :: X2) mixed (by kernel_rfl) (fun Z hZ => ?_) ?_
        · refine sq_move rfl rfl ?_
          refine sq_geq rfl rfl rfl ?_
          refine sq_move rfl rfl ?_
          refine sq_force 37 rfl true (by simp) ?_
          refine sq_on rfl rfl rfl ?_
          refine sq_load 4 rfl rfl tyA73 tyS73 rfl rfl ?_
          refine sq_on rfl rfl rfl ?_
          refine sq_load 2 rfl rfl tyA24 tyS24 rfl rfl ?_
          refine sq_on rfl rfl rfl ?_
          refine sq_move rfl rfl ?_
          refine sq_on rfl rfl rfl ?_
          refine sq_indexAddr (0 + m * 4) Try.underlying24 tyS63 rfl rfl (by omega) (by simp) rfl ?_
          refine sq_on rfl rfl rfl ?_
          refine sq_loadRd (m * 4) rfl rfl (fun w hw => rd_row (i := 5) rfl hw) (by omega) tyA63 tyS63 (ecells_all ha) rfl ?_
          refine sq_on rfl rfl rfl ?_
          refine sq_build tyZ76 tyP76 rfl rfl (by first | (simp only [List.take_succ_cons, List.take_zero, List.drop_succ_cons, List.drop_zero, List.cons_append, List.nil_append, List.append_nil, List.length_cons, List.length_nil, Nat.reduceAdd, Nat.zero_add, Nat.add_zero, Value.cells, wrV, zrep_one, List.replicate_succ, List.replicate_zero, Nat.reduceMul, Nat.zero_mul]; first | done | rfl) | rfl) rfl ?_
          refine sq_on rfl rfl rfl ?_
          refine sq_loadA 0 rfl rfl tyA63 tyS63 (by first | (simp only [List.length_cons, List.length_nil, Nat.reduceAdd, Nat.zero_add, Nat.add_zero]; first | done | rfl) | rfl) (by first | (simp only [List.take_succ_cons, List.take_zero, List.drop_succ_cons, List.drop_zero, List.cons_append, List.nil_append, List.append_nil, List.length_cons, List.length_nil, Nat.reduceAdd, Nat.zero_add, Nat.add_zero, Value.cells, wrV]; first | done | rfl) | rfl) rfl ?_
          refine sq_on rfl rfl rfl ?_
          refine sq_build tyZ76 tyP76 rfl rfl (by first | (simp only [List.take_succ_cons, List.take_zero, List.drop_succ_cons, List.drop_zero, List.cons_append, List.nil_append, List.append_nil, List.length_cons, List.length_nil, Nat.reduceAdd, Nat.zero_add, Nat.add_zero, Value.cells, wrV, zrep_one, List.replicate_succ, List.replicate_zero, Nat.reduceMul, Nat.zero_mul]; first | done | rfl) | rfl) rfl ?_
          refine sq_on rfl rfl rfl ?_
          refine sq_callFP hgo rfl rfl rfl ?_
          refine sq_pick rfl rfl rfl ?_
          refine sq_nil (hZ _ _ ?_ ?_)
          · exact Kn.cons rfl (Kn.cons rfl (Kn.cons rfl (Kn.cons rfl Kn.nil)))
          · exact HLe.refl _
        refine awp_cond rfl (fun h9 => ?_) (fun h9 => ?_)
        · rw [if_pos h9]
          refine awp_seq_region (fun Z hZ => ?_)
          refine sx_load 2 rfl rfl tyA24 tyS24 rfl rfl ?_
          refine sx_move rfl rfl ?_
          refine sx_indexAddr (0 + m * 4) Try.underlying24 tyS63 rfl rfl (by omega) (by simp) rfl ?_
          refine sx_fieldAddr rfl tyF63_3 (by first | (simp only [Nat.reduceAdd, Nat.add_zero, Nat.zero_add]; first | done | rfl) | rfl) rfl ?_
          refine sx_loadRd (m * 4 + 3) rfl (by omega) (fun w hw => rd_row (i := 5) rfl hw) (by omega) tyA61 tyS61 (ecells_run ha) rfl ?_
          refine sx_add rfl rfl ((a.run + 1 : Nat) : Int) (by rw [IntWalk.u32_in _ (by omega)]; omega) rfl ?_
          refine sx_indexAddr (0 + m * 4) Try.underlying24 tyS63 rfl rfl (by omega) (by simp) rfl ?_
          refine sx_fieldAddr rfl tyF63_3 (by first | (simp only [Nat.reduceAdd, Nat.add_zero, Nat.zero_add]; first | done | rfl) | rfl) rfl ?_
          refine sx_storeRw (o := m * 4 + 3) 5 rfl rfl rfl tyS61 rfl (by omega) (mset_run ha (a.run + 1)) rfl ?_
          refine sx_nil (hZ _ _ ?_)
          refine awp_forget [] (Kn.nil) ?_
          refine awp_exit ?_
          repeat (with_reducible refine nx_then_exit ?_)
          with_reducible refine nx_block_exit ?_
          refine nx_next (.own g4 24 [.slice (some ⟨gv, 0, none⟩) out.length cv] :: .own g3 78 [ptr gp 0] :: .own g2 73 [.func (.func 35) #[] #[]] :: (rowE (.slice (some ⟨gv, 0, none⟩) out.length cv) 63 4 (ecells (out.set m { a with run := a.run + 1 })) ++ X2)) ⟨_, X2, by rw [List.length_set]; exact hv, hX2, rfl⟩ (HLe.drop 2 rfl)
        rw [if_neg (by rw [h9]; simp)]
        refine awp_skip ?_
        with_reducible refine nx_normal ?_
        refine awp_region (fun Z hZ => ?_)
        refine sx_load 2 rfl rfl tyA24 tyS24 rfl rfl ?_
        refine sx_loadA 0 rfl rfl tyA63 tyS63 (by first | (simp only [List.length_cons, List.length_nil, Nat.reduceAdd, Nat.zero_add, Nat.add_zero]; first | done | rfl) | rfl) (by first | (simp only [List.take_succ_cons, List.take_zero, List.drop_succ_cons, List.drop_zero, List.cons_append, List.nil_append, List.append_nil, List.length_cons, List.length_nil, Nat.reduceAdd, Nat.zero_add, Nat.add_zero, Value.cells, wrV]; first | done | rfl) | rfl) rfl ?_
        refine sx_buildSlice Try.underlying24 tyS63 tyZ63 rfl rfl rfl rfl (by first | (simp only [List.take_succ_cons, List.take_zero, List.drop_succ_cons, List.drop_zero, List.cons_append, List.nil_append, List.append_nil, List.length_cons, List.length_nil, Nat.reduceAdd, Nat.zero_add, Nat.add_zero, Value.cells, wrV, zrep_one, List.replicate_succ, List.replicate_zero, Nat.reduceMul, Nat.zero_mul]; first | done | rfl) | rfl) rfl (fun g8 => ?_)
        refine sx_appendE (xs := ecells out) (_ :: _ :: _ :: _ :: _ :: _ :: X2) elemEn rfl hv (by rw [ecells_len]) rfl (fun w hw => rd_own (i := 0) (xs := (⟨x.id, cc.1, cc.2, 1⟩ : En).cells) rfl rfl hw) rfl (by show _ ≤ 9223372036854775807; omega) (by omega) (le_fst (X := [_, _, _, _, _, _]) (T := rowE (.slice (some ⟨gv, 0, none⟩) out.length cv) 63 4 (ecells out))) rfl (fun v2 hv2 => ?_)
        obtain ⟨gv2, cv2, rfl⟩ := hv2.some (by omega)
        refine sx_store1 3 rfl rfl rfl tyS24 rfl (by first | (simp only [List.length_cons, List.length_nil, Nat.reduceAdd, Nat.zero_add, Nat.add_zero]; first | done | rfl) | rfl) (by first | (simp only [List.set_cons_succ, List.set_cons_zero, Nat.reduceAdd, Nat.add_zero, Nat.zero_add]; first | done | rfl) | rfl) (by first | (simp only [List.set_cons_succ, List.set_cons_zero]; first | done | rfl) | rfl) ?_
        refine sx_nil (hZ _ _ ?_)
        refine nx_forget [] (Kn.nil) ?_
        refine nx_block_normal ?_
        refine nx_next (.own g4 24 [.slice (some ⟨gv2, 0, none⟩) (out.length + 1) cv2] :: .own g3 78 [ptr gp 0] :: .own g2 73 [.func (.func 35) #[] #[]] :: (rowE (.slice (some ⟨gv2, 0, none⟩) (out.length + 1) cv2) 63 4 (ecells (out ++ [⟨x.id, cc.1, cc.2, 1⟩])) ++ X2)) ⟨_, X2, by rw [List.length_append]; exact hv2, hX2, rfl⟩ ?_
        rw [show ecells (out ++ [⟨x.id, cc.1, cc.2, 1⟩]) = ecells out ++ (⟨x.id, cc.1, cc.2, 1⟩ : En).cells by simp [ecells]]
        exact (HLe.drop 3 rfl).trans (le_fstB (X := [_, _, _, _, _, _]))
  · rintro D H ⟨v, X, hv, hX, rfl⟩
    rw [List.length_map, List.take_length] at hv hX
    rw [List.length_map, List.take_length]
    have hrs := rows_ok hok L.length (Nat.le_refl _)
    rw [List.take_length] at hrs
    refine nx_block_normal ?_
    with_reducible refine nx_normalM ?_
    have htx := text_fn hX (by have := hrs.fl; omega)
    obtain ⟨Av, cv, rfl, hAv⟩ := hv.form
    refine awp_heap (.ob D isDef :: .own g4 24 [.slice Av (rowsS L).1.length cv] :: .own g3 78 [ptr gp 0] :: (X ++ rowE (.slice Av (rowsS L).1.length cv) 63 4 (ecells (rowsS L).1))) ?_ ?_
    · exact le_done _ _ _ _ _ X _

    refine aww_seq_region _ [(0, true), (1, true), (2, false), (3, true), (4, true)] mixed (by kernel_rfl) (HLe.pick [1, 2] (by simp) (by simp only [pick, List.filterMap_cons, List.filterMap_nil, List.getElem?_cons_succ, List.getElem?_cons_zero]; rfl)) (fun Z hZ => ?_)
    refine tw_p rfl ?_
    refine sv_load 0 rfl rfl tyA24 tyS24 rfl rfl ?_
    refine sv_nil ?_
    refine tw_p rfl ?_
    refine sv_load 1 rfl rfl tyA78 tyS78 rfl rfl ?_
    refine sv_nil ?_
    refine tw_g rfl ?_
    refine sx_callO X (_ :: _ :: _ :: rowE (.slice Av (rowsS L).1.length cv) 63 4 (ecells (rowsS L).1)) htx rfl (HLe.comm3 [_, _, _] X _) rfl ?_
    rintro u X3 ⟨rfl, rfl⟩
    rw [hX.wrs.filter]
    refine sx_heap _ (HLe.swap X3 (_ :: _ :: _ :: rowE (.slice Av (rowsS L).1.length cv) 63 4 (ecells (rowsS L).1))) ?_
    refine sx_nil ⟨HLe.pick [1, 2] (by simp) rfl, ?_⟩
    refine tw_p rfl ?_
    refine sv_assign rfl rfl ?_
    refine sv_nil ?_
    refine tw_p rfl ?_
    refine sv_assign rfl rfl ?_
    refine sv_nil ?_
    refine tw_nil (hZ _ _ ?_)
    refine awp_forget [(2, _), (3, _)] (Kn.cons rfl (Kn.cons rfl (Kn.nil))) ?_
    refine awp_ret ?_
    exact nx_unmark [0] ⟨rfl, trivial⟩ (nx_ret2h (rowE (.slice Av (rowsS L).1.length cv) 63 4 (ecells (rowsS L).1)) rfl rfl rfl (HLe.trans (HLe.sub (List.sublist_append_left _ X3)) (HLe.drop 2 rfl)) ⟨_, rfl, hv, rfl⟩)
end Go.Proofs.Ytffahimbmpddpaa.V
