/- The walk of the laws' helper step of shelf. No conditions but of lengths. -/
import Derived.Test.YtjelakmndcecoaaShO
import Derived.Test.YtjelakmndcecoaaSxRw
namespace Go.Proofs.Ytjelakmndcecoaa
open Go.RowKit
set_option linter.unusedVariables false
set_option linter.unusedSimpArgs false
set_option maxRecDepth 100000
/-- The document's items behind a call. -/
def stepX (most d : Nat) (X : List Item) (k : Ky) (t : List UInt8) : List Item :=
  if d % 3 = 0 then keepX most X k t else if d % 3 = 1 then rGetL X k else []
/-- A shelf behind a call, and the document's. -/
structure StepT (most : Nat) (S S' : Sh) (A' : Option Addr) (X' : List Item) (W T1 T : Heap) : Prop where
  wrs : Wrs W
  turn : Turn W T1
  is : ShIs most S' X' (T1 ++ T)
  sub : (roE A' (tcells X')).Sublist (T1 ++ T)
  ok : SlOk A' X'.length
  nx : S'.nx ≤ S.nx + 1
  hi : S'.hi ≤ S.hi + 1
  mi : S'.mi ≤ S.mi + 1
theorem shH_wrs (B : Bk) (most : Nat) (S : Sh) : Wrs (shH B most S) := List.filter_eq_self.1 rfl
theorem ShIs.more {most : Nat} {S : Sh} {X : List Item} {T T' : Heap} (h : ShIs most S X T) (hT : ∀ r, Has T r → Has T' r) : ShIs most S X T' := by
  obtain ⟨L, tx, h⟩ := h
  exact ⟨L, tx, h.rep, h.val, h.len, h.row, fun n r hn => ⟨hT r (h.has n r hn).1, (h.has n r hn).2⟩, h.one, h.mn⟩
theorem ShIs.xlen {most : Nat} {S : Sh} {X : List Item} {T : Heap} (h : ShIs most S X T) : X.length ≤ most := by
  obtain ⟨L, tx, h⟩ := h
  rw [h.xlen]; exact h.len
theorem keep_le (R W S G T : Heap) : HLe (S ++ (G ++ (R ++ (W ++ T)))) ((R ++ (W ++ S)) ++ (G ++ T)) := fun _ _ _ hw => hw.perm (by
  have h1 : ((R ++ (W ++ S)) ++ (G ++ T)).Perm ((S ++ (R ++ W)) ++ (G ++ T)) := by
    rw [← List.append_assoc R W S]
    exact List.Perm.append_right _ List.perm_append_comm
  have h2 : ((S ++ (R ++ W)) ++ (G ++ T)).Perm (S ++ (G ++ ((R ++ W) ++ T))) := by
    rw [List.append_assoc]
    exact List.Perm.append_left S (List.perm_append_comm_assoc (R ++ W) G T)
  rw [← List.append_assoc R W T]
  exact h1.trans h2)
theorem step_le (P4 G3 G2 G1 : Ent) (U W2 S V Z : Heap) : HLe (P4 :: G3 :: (V ++ (U ++ (S ++ (W2 ++ Z))))) (P4 :: ((U ++ W2) ++ (S ++ (G3 :: G2 :: G1 :: (V ++ Z))))) := by
  refine HLe.trans (b := P4 :: ((U ++ W2) ++ (S ++ (G3 :: (V ++ Z))))) (fun _ _ _ hw => hw.perm (List.Perm.cons _ ?_)) (HLe.sub (.cons_cons _ (List.Sublist.append_left (List.Sublist.append_left (.cons_cons _ (.cons _ (.cons _ (List.Sublist.refl _)))) _) _)))
  have h1 := List.perm_append_comm_assoc ((U ++ W2) ++ S) ([G3] ++ V) Z
  have h2 := List.Perm.append_left U (List.perm_append_comm_assoc W2 S Z)
  simp only [List.append_assoc, List.cons_append, List.nil_append] at h1 h2 ⊢
  exact h1.trans (List.Perm.cons _ (List.Perm.append_left V h2))
/-- A row of one's own, seen. -/
theorem row_seen {A : Option Addr} {n c : Nat} (hle : ∀ (X Y : Heap) (t : TypeId) (size : Nat) (xs : List Value), HLe (X ++ (roE A xs ++ Y)) (X ++ (rowE (.slice A n c) t size xs ++ Y))) (X Y : Heap) (t : TypeId) (size : Nat) (xs : List Value) : HLe (roE A xs) (X ++ (rowE (.slice A n c) t size xs ++ Y)) :=
  (HLe.sub ((List.sublist_append_left (roE A xs) Y).trans (List.sublist_append_right X _))).trans (hle X Y t size xs)
theorem step_ok {most : Nat} {S S1 : Sh} {A A' : Option Addr} {X X' : List Item} {W1 W2 T1 T2 T : Heap} (hF : FreshT A A' X X' W2 T2) (hW1 : Wrs W1) (hT1 : Turn W1 T1) (hAT : (roE A (tcells X)).Sublist T) (hS1 : ShIs most S1 X' (T1 ++ T)) (h1 : S1.nx ≤ S.nx + 1) (h2 : S1.hi ≤ S.hi + 1) (h3 : S1.mi ≤ S.mi + 1) : StepT most S S1 A' X' (W2 ++ W1) (T2 ++ T1) T :=
  ⟨Wrs.append hF.wrs hW1, hT1.append hF.turn, hS1.more (fun r h => by rw [List.append_assoc]; exact h.more T2), by rw [List.append_assoc]; exact hF.sub.trans (List.Sublist.append_left (hAT.trans (List.sublist_append_right _ _)) _), hF.ok, h1, h2, h3⟩
theorem step_okL {most : Nat} {S S1 : Sh} {A A' : Option Addr} {X X' : List Item} {W2 T2 T : Heap} (hF : FreshT A A' X X' W2 T2) (hAT : (roE A (tcells X)).Sublist T) (hS1 : ShIs most S1 X' T) (h1 : S1.nx ≤ S.nx + 1) (h2 : S1.hi ≤ S.hi + 1) (h3 : S1.mi ≤ S.mi + 1) : StepT most S S1 A' X' W2 T2 T :=
  ⟨hF.wrs, hF.turn, hS1.more (fun r h => h.more T2), hF.sub.trans (List.Sublist.append_left hAT _), hF.ok, h1, h2, h3⟩
theorem step_fn (B : Bk) (most : Nat) (S : Sh) (X : List Item) (T : Heap) (A : Option Addr) (c d : Nat) (k : Ky) (t : List UInt8) (hT : Ro T) (hS : ShIs most S X T) (hA : SlOk A X.length) (hAT : (roE A (tcells X)).Sublist T)
    (hm : most ≤ 64) (hd : d < 256) (ht : t.length ≤ 400) (hb : S.nx ≤ 100000 ∧ S.hi ≤ 100000 ∧ S.mi ≤ 100000) (hX : ∀ k', (valK X k').length ≤ 400) :
    Fn Try.prog 10 [ptr B.g 0, .agg (rsV most A X.length c S.hi S.mi).toArray, .agg #[.int .u8 (d : Int), uq k.1, uq k.2, .string (str t)]] (shH B most S ++ T)
    fun v H' => ∃ S' A' c' W T1, v = .tuple #[.agg (rsV most A' (stepX most d X k t).length c' S'.hi S'.mi).toArray, .bool true] ∧ H' = shH B most S' ++ W ∧ StepT most S S' A' (stepX most d X k t) W T1 T := by
  have hxl := hS.xlen
  obtain ⟨d1, d2, d3, d4⟩ := decQ_ok t
  obtain ⟨X', hX'⟩ : ∃ X', stepX most d X k t = X' := ⟨_, rfl⟩
  rw [hX']
  unfold stepX at hX'
  refine Fn.enter (N := 109) Try.func10 rfl (by kernel_rfl) rfl (fun w0 => ?_)

  refine awp_seq_region (fun Z hZ => ?_)
  refine sx_box rfl rfl rfl (fun g1 => ?_)
  refine sx_box rfl rfl rfl (fun g2 => ?_)
  refine sx_alloc tyZ32 rfl (fun g3 => ?_)
  refine sx_assign rfl rfl ?_
  refine sx_nil (hZ _ _ ?_)
  refine awp_forget [(0, _), (4, _), (5, _), (6, _)] (Kn.cons rfl (Kn.cons rfl (Kn.cons rfl (Kn.cons rfl (Kn.nil))))) ?_
  refine awp_heap (shH B most S ++ (.own g3 32 (rsV 0 none 0 0 0 0) :: .own g2 39 [.int .u8 (d : Int), uq k.1, uq k.2, .string (str t)] :: .own g1 32 (rsV most A X.length c S.hi S.mi) :: T)) (fun _ _ _ hw => hw.perm (List.Perm.append_right _ (List.perm_append_comm (l₁ := [_, _, _]) (l₂ := [_, _, _, _])))) ?_

  refine awp_seq ?_
  refine awp_seq_region (fun Z hZ => ?_)
  refine sx_fieldAddr rfl tyF39_0 (by first | (simp only [Nat.reduceAdd, Nat.add_zero, Nat.zero_add]; first | done | rfl) | rfl) rfl ?_
  refine sx_load 5 rfl rfl tyA5 tyS5 rfl rfl ?_
  refine sx_rem rfl rfl (by decide) ((d % 3 : Nat) : Int) rfl rfl ?_
  refine sx_nil (hZ _ _ ?_)
  refine awp_forget [(0, _), (4, _), (5, _), (6, _), (24, _)] (Kn.cons rfl (Kn.cons rfl (Kn.cons rfl (Kn.cons rfl (Kn.cons rfl (Kn.nil)))))) ?_
  refine awp_block ?_
  refine awp_seq_region (fun Z hZ => ?_)
  refine sx_eql rfl rfl rfl ?_
  refine sx_assign rfl rfl ?_
  refine sx_nil (hZ _ _ ?_)
  refine awp_forget [(0, _), (4, _), (5, _), (6, _), (24, _), (25, _)] (Kn.cons rfl (Kn.cons rfl (Kn.cons rfl (Kn.cons rfl (Kn.cons rfl (Kn.cons rfl (Kn.nil))))))) ?_
  refine awp_cond rfl (fun h => ?_) (fun h => ?_)
  · have hd0 : d % 3 = 0 := by simp at h; omega
    rw [if_pos hd0] at hX'
    subst hX'
    have hkp := shkeep_fn B most S X T k t hS hm (by omega) (by omega)
    have hrk := rskeep_fn A c most S.hi S.mi X k t hA (by omega) (by omega)
    obtain ⟨D, hDl⟩ : ∃ D, decL t = D := ⟨_, rfl⟩
    have hDl' : (decQ t).1 = D := hDl
    rw [hDl'] at d1
    obtain ⟨e, he⟩ : ∃ e, (decQ t).2.2 = e := ⟨_, rfl⟩
    rw [hDl, he] at hkp hrk
    refine awp_seq_region (fun Z hZ => ?_)
    refine sx_move rfl rfl ?_
    refine sx_fieldAddr rfl tyF39_1 (by first | (simp only [Nat.reduceAdd, Nat.add_zero, Nat.zero_add]; first | done | rfl) | rfl) rfl ?_
    refine sx_loadA 5 rfl rfl tyA37 tyS37 (by first | (simp only [List.length_cons, List.length_nil, Nat.reduceAdd, Nat.zero_add, Nat.add_zero]; first | done | rfl) | rfl) (by first | (simp only [List.take_succ_cons, List.take_zero, List.drop_succ_cons, List.drop_zero, List.cons_append, List.nil_append, List.append_nil, List.length_cons, List.length_nil, Nat.reduceAdd, Nat.zero_add, Nat.add_zero, Value.cells, wrV]; first | done | rfl) | rfl) rfl ?_
    refine sx_fieldAddr rfl tyF39_2 (by first | (simp only [Nat.reduceAdd, Nat.add_zero, Nat.zero_add]; first | done | rfl) | rfl) rfl ?_
    refine sx_load 5 rfl rfl tyA9 tyS9 rfl rfl ?_
    refine sx_callA (shH B most S) [] (_ :: _ :: _ :: T) (by rw [List.append_nil]; exact hkp) rfl (HLe.refl _) (List.nil_sublist _) Ro.nil rfl ?_
    rintro v H' ⟨v1, S1, W1, T1, rfl, hv1, rfl, hW1, hro1, htu1, hS1, hn1, hh1, hi1⟩
    rw [(Wrs.append (rowE_wrs v1 65 4 (ecells D)) (Wrs.append hW1 (shH_wrs B most S1))).filter]
    refine sx_heap (shH B most S1 ++ (_ :: _ :: _ :: (rowE v1 65 4 (ecells D) ++ (W1 ++ T)))) (keep_le _ W1 (shH B most S1) [_, _, _] T) ?_
    refine sx_move rfl rfl ?_
    refine sx_extract rfl rfl rfl ?_
    refine sx_extract rfl rfl rfl ?_
    refine sx_assign rfl rfl ?_
    refine sx_assign rfl rfl ?_
    refine sx_nil (hZ _ _ ?_)
    refine awp_forget [(4, _), (5, _), (6, _), (8, _), (9, _)] (Kn.cons rfl (Kn.cons rfl (Kn.cons rfl (Kn.cons rfl (Kn.cons rfl (Kn.nil)))))) ?_

    refine awp_seq_region (fun Z hZ => ?_)
    refine sx_loadA 6 rfl rfl tyA32 tyS32 (by first | (simp only [List.length_cons, List.length_nil, Nat.reduceAdd, Nat.zero_add, Nat.add_zero]; first | done | rfl) | rfl) (by first | (simp only [List.take_succ_cons, List.take_zero, List.drop_succ_cons, List.drop_zero, List.cons_append, List.nil_append, List.append_nil, List.length_cons, List.length_nil, Nat.reduceAdd, Nat.zero_add, Nat.add_zero, Value.cells, wrV]; first | done | rfl) | rfl) rfl ?_
    refine sx_fieldAddr rfl tyF39_1 (by first | (simp only [Nat.reduceAdd, Nat.add_zero, Nat.zero_add]; first | done | rfl) | rfl) rfl ?_
    refine sx_loadA 5 rfl rfl tyA37 tyS37 (by first | (simp only [List.length_cons, List.length_nil, Nat.reduceAdd, Nat.zero_add, Nat.add_zero]; first | done | rfl) | rfl) (by first | (simp only [List.take_succ_cons, List.take_zero, List.drop_succ_cons, List.drop_zero, List.cons_append, List.nil_append, List.append_nil, List.length_cons, List.length_nil, Nat.reduceAdd, Nat.zero_add, Nat.add_zero, Value.cells, wrV]; first | done | rfl) | rfl) rfl ?_
    refine sx_fieldAddr rfl tyF39_2 (by first | (simp only [Nat.reduceAdd, Nat.add_zero, Nat.zero_add]; first | done | rfl) | rfl) rfl ?_
    refine sx_load 5 rfl rfl tyA9 tyS9 rfl rfl ?_
    refine sx_callVU (roE A (tcells X)) hrk rfl (HLe.sub (hAT.trans ((List.sublist_append_right W1 T).trans ((List.sublist_append_right _ _).trans (List.sublist_append_right [_, _, _, _, _, _, _] _))))) (Ro.roE _ _) rfl ?_
    rintro v H' ⟨A', c', u, W2, T2, rfl, hu, rfl, hF⟩
    rw [(Wrs.append (rowE_wrs u 98 4 (ecells D)) hF.wrs).filter]
    refine sx_move rfl rfl ?_
    refine sx_extract rfl rfl rfl ?_
    refine sx_extract rfl rfl rfl ?_
    refine sx_extract rfl rfl rfl ?_
    refine sx_alloc tyZ32 rfl (fun g4 => ?_)
    refine sx_store 0 rfl rfl rfl tyS32 (by first | (simp only [Value.cells]; first | done | rfl) | rfl) rfl rfl (by first | (simp only [List.length_cons, List.length_nil, Nat.reduceAdd, Nat.zero_add, Nat.add_zero]; first | done | rfl) | rfl) (by first | (simp only [List.take_succ_cons, List.take_zero, List.drop_succ_cons, List.drop_zero, List.cons_append, List.nil_append, List.append_nil, List.length_cons, List.length_nil, Nat.reduceAdd, Nat.zero_add, Nat.add_zero, Value.cells, wrV]; first | done | rfl) | rfl) (by first | (simp only [List.set_cons_succ, List.set_cons_zero]; first | done | rfl) | rfl) ?_
    refine sx_assign rfl rfl ?_
    refine sx_assign rfl rfl ?_
    refine sx_nil (hZ _ _ ?_)
    refine awp_forget [(6, _), (8, _), (9, _), (10, _), (11, _), (12, _)] (Kn.cons rfl (Kn.cons rfl (Kn.cons rfl (Kn.cons rfl (Kn.cons rfl (Kn.cons rfl (Kn.nil))))))) ?_
    obtain ⟨Au, cu, rfl, hAu, hleu⟩ := hu.ro
    obtain ⟨A1, c1, rfl, hA1, hle1⟩ := hv1.ro
    refine awp_heap (.own g4 32 (rsV most A' (keepX most X k t).length c' S.hi S.mi) :: .own g3 32 (rsV 0 none 0 0 0 0) :: (rowE (.slice A1 D.length c1) 65 4 (ecells D) ++ (roE Au (ecells D) ++ (shH B most S1 ++ (W2 ++ (W1 ++ T)))))) ((step_le _ _ _ _ (roE Au (ecells D)) W2 (shH B most S1) _ (W1 ++ T)).trans (by rw [List.append_assoc (roE Au (ecells D)) W2, List.append_assoc (rowE _ _ _ _) W2]; exact hleu [_] _ _ _ _)) ?_

    refine awp_seq_meet [(6, ptr g3 0), (8, .slice A1 D.length c1), (10, ptr g4 0), (13, .bool true)] (.own g4 32 (rsV most A' (keepX most X k t).length c' S.hi S.mi) :: .own g3 32 (rsV 0 none 0 0 0 0) :: (rowE (.slice A1 D.length c1) 65 4 (ecells D) ++ (roE Au (ecells D) ++ (shH B most S1 ++ (W2 ++ (W1 ++ T)))))) (fun Z hZ => ?_) ?_
    · refine sx_move rfl rfl ?_
      refine sx_callVU (roE A1 (ecells D)) (eback_fn A1 c1 D _ hA1.arg (fun _ => rfl) (Ro.roE _ _) (by omega)) rfl (row_seen hle1 [_, _] _ 65 4 _) (Ro.roE _ _) rfl ?_
      rintro v H' ⟨hv3, rfl⟩
      rw [rowE_flt]
      obtain ⟨A3, c3, rfl, hA3, hle3⟩ := hv3.ro
      refine sx_heap (roE A3 (ecells D) ++ (_ :: _ :: (rowE (.slice A1 D.length c1) 65 4 (ecells D) ++ (roE Au (ecells D) ++ (shH B most S1 ++ (W2 ++ (W1 ++ T))))))) (hle3 [] _ _ _ _) ?_
      refine sx_move rfl rfl ?_
      refine sx_callPT (roE A3 (ecells D) ++ roE Au (ecells D)) (rsame_fn A3 c3 D _ hA3.arg (fun _ => rfl) (by show _ ≤ 9223372036854775807; omega) Au cu D _ hAu.arg (fun _ => rfl) (by show _ ≤ 9223372036854775807; omega)) rfl (List.Sublist.append_left ((List.sublist_append_left _ _).trans ((List.sublist_append_right _ _).trans (List.sublist_append_right [_, _] _))) _) ((Ro.roE _ _).append (Ro.roE _ _)) rfl ?_
      rw [show sameL D D = true from sameL_iff.2 rfl]
      refine sx_move rfl rfl ?_
      refine sx_force 50 rfl true (by first | rfl | (simp; done)) ?_
      refine sx_on rfl rfl rfl ?_
      refine sx_move rfl rfl ?_
      refine sx_on rfl rfl rfl ?_
      refine sx_move rfl rfl ?_
      refine sx_on rfl rfl rfl ?_
      refine sx_eql rfl rfl rfl ?_
      refine sx_pick rfl rfl rfl ?_
      refine sx_assign rfl rfl ?_
      refine sx_nil (hZ _ _ ?_ ?_)
      · exact Kn.cons rfl (Kn.cons rfl (Kn.cons rfl (Kn.cons (congrArg some (congrArg Value.bool (by simp))) Kn.nil)))
      · exact HLe.sub (List.sublist_append_right _ _)
    refine awp_cut (ι := Unit) (fun _ => [(6, ptr g3 0), (10, ptr g4 0), (13, .bool true)]) (fun _ => .own g4 32 (rsV most A' (keepX most X k t).length c' S.hi S.mi) :: .own g3 32 (rsV 0 none 0 0 0 0) :: (shH B most S1 ++ (W2 ++ W1))) (fun _ => True) ?_ ?_
    · skip
      refine awp_seq_region (fun Z hZ => ?_)
      refine sx_assign rfl rfl ?_
      refine sx_nil (hZ _ _ ?_)
      refine awp_forget [(6, _), (8, _), (10, _), (13, _), (14, _)] (Kn.cons rfl (Kn.cons rfl (Kn.cons rfl (Kn.cons rfl (Kn.cons rfl (Kn.nil)))))) ?_
      refine awp_block ?_
      refine awp_loop (ι := Nat × List Value) (fun i => [(6, ptr g3 0), (8, .slice A1 D.length c1), (10, ptr g4 0), (13, .bool true), (14, iq (i.1 : Nat))]) (fun i => .own g4 32 (rsV most A' (keepX most X k t).length c' S.hi S.mi) :: .own g3 32 (rsV 0 none 0 0 0 0) :: (rowE (.slice A1 D.length c1) 65 4 i.2 ++ (roE Au (ecells D) ++ (shH B most S1 ++ (W2 ++ (W1 ++ T))))))
        (fun i => i.1 ≤ D.length) (fun i => D.length - i.1) (0, ecells D) (Nat.zero_le _) (Kn.cons rfl (Kn.cons rfl (Kn.cons rfl (Kn.cons rfl (Kn.cons rfl Kn.nil))))) (HLe.refl _) ?_
      rintro ⟨i, xs⟩ hi
      simp only at hi

      refine awp_seq ?_
      refine awp_seq_region (fun Z hZ => ?_)
      refine sx_move rfl rfl ?_
      refine sx_move rfl rfl ?_
      refine sx_len Try.underlying44 rfl rfl ?_
      refine sx_lss rfl rfl rfl ?_
      refine sx_nil (hZ _ _ ?_)
      refine awp_forget [(6, _), (8, _), (10, _), (13, _), (14, _), (58, _)] (Kn.cons rfl (Kn.cons rfl (Kn.cons rfl (Kn.cons rfl (Kn.cons rfl (Kn.cons rfl (Kn.nil))))))) ?_
      refine awp_cond rfl (fun h => ?_) (fun h => ?_)
      · have hlt : i < D.length := by simpa using h
        obtain ⟨g, c9, h9⟩ := hv1.some (by omega)
        injection h9 with h10 _ h11
        subst h10
        refine awp_skip ?_
        with_reducible refine nx_normal ?_
        refine awp_seq (awp_block ?_)

        refine awp_region (fun Z hZ => ?_)
        refine sx_move rfl rfl ?_
        refine sx_move rfl rfl ?_
        refine sx_indexAddr (0 + i * 4) Try.underlying44 tyS65 rfl rfl (by omega) (by simp) rfl ?_
        refine sx_fieldAddr rfl tyF65_2 (by first | (simp only [Nat.reduceAdd, Nat.add_zero, Nat.zero_add]; first | done | rfl) | rfl) rfl ?_
        refine sx_storeRw (o := i * 4 + 2) (ys := xs.set (i * 4 + 2) (.int .u32 77)) 2 rfl rfl rfl tyS63 rfl (by omega) rfl rfl ?_
        refine sx_nil (hZ _ _ ?_)
        refine nx_forget [(6, _), (8, _), (10, _), (13, _), (14, _)] (Kn.cons rfl (Kn.cons rfl (Kn.cons rfl (Kn.cons rfl (Kn.cons rfl (Kn.nil)))))) ?_
        repeat (with_reducible refine nx_block_normal ?_)
        with_reducible refine nx_normal ?_
        refine awp_region (fun Z hZ => ?_)
        refine sx_move rfl rfl ?_
        refine sx_add rfl rfl ((i + 1 : Nat) : Int) (by rw [IntWalk.i64_in _ (by omega)]; omega) rfl ?_
        refine sx_assign rfl rfl ?_
        refine sx_nil (hZ _ _ ?_)
        refine nx_forget [(6, _), (8, _), (10, _), (13, _), (14, _)] (Kn.cons rfl (Kn.cons rfl (Kn.cons rfl (Kn.cons rfl (Kn.cons rfl (Kn.nil)))))) ?_
        exact nx_round (i + 1, xs.set (i * 4 + 2) (.int .u32 77)) (by show i + 1 ≤ _; omega) (by simp; omega) (Kn.cons rfl (Kn.cons rfl (Kn.cons rfl (Kn.cons rfl (Kn.cons rfl Kn.nil))))) (HLe.refl _)
      · refine awp_exit ?_
        repeat (with_reducible refine nx_then_exit ?_)
        with_reducible refine nx_block_exit ?_
        exact nx_cut () trivial (Kn.cons rfl (Kn.cons rfl (Kn.cons rfl Kn.nil))) (HLe.sub (.cons_cons _ (.cons_cons _ ((List.Sublist.append_left (List.Sublist.append_left (List.sublist_append_left W1 T) _) _).trans ((List.sublist_append_right _ _).trans (List.sublist_append_right _ _))))))
    rintro - -

    refine awp_seq_region (fun Z hZ => ?_)
    refine sx_loadA 0 rfl rfl tyA32 tyS32 (by first | (simp only [List.length_cons, List.length_nil, Nat.reduceAdd, Nat.zero_add, Nat.add_zero]; first | done | rfl) | rfl) (by first | (simp only [List.take_succ_cons, List.take_zero, List.drop_succ_cons, List.drop_zero, List.cons_append, List.nil_append, List.append_nil, List.length_cons, List.length_nil, Nat.reduceAdd, Nat.zero_add, Nat.add_zero, Value.cells, wrV]; first | done | rfl) | rfl) rfl ?_
    refine sx_move rfl rfl ?_
    refine sx_store 1 rfl rfl rfl tyS32 (by first | (simp only [Value.cells]; first | done | rfl) | rfl) rfl rfl (by first | (simp only [List.length_cons, List.length_nil, Nat.reduceAdd, Nat.zero_add, Nat.add_zero]; first | done | rfl) | rfl) (by first | (simp only [List.take_succ_cons, List.take_zero, List.drop_succ_cons, List.drop_zero, List.cons_append, List.nil_append, List.append_nil, List.length_cons, List.length_nil, Nat.reduceAdd, Nat.zero_add, Nat.add_zero, Value.cells, wrV]; first | done | rfl) | rfl) (by first | (simp only [List.set_cons_succ, List.set_cons_zero]; first | done | rfl) | rfl) ?_
    refine sx_assign rfl rfl ?_
    refine sx_nil (hZ _ _ ?_)
    refine awp_forget [(6, _), (7, _)] (Kn.cons rfl (Kn.cons rfl (Kn.nil))) ?_
    refine awp_ret ?_
    repeat (with_reducible (first | refine nx_then_ret ?_ | refine nx_block_ret ?_))
    exact nx_ret2h (shH B most S1 ++ (W2 ++ W1)) rfl (ResOk.cell 1 rfl rfl tyA32 tyS32 rfl) rfl (HLe.drop 2 rfl) ⟨S1, A', c', W2 ++ W1, T2 ++ T1, by rw [hh1, hi1]; rfl, rfl, step_ok hF hW1 ⟨hro1, htu1⟩ hAT hS1 hn1 (by omega) (by omega)⟩
  have hd0 : ¬ d % 3 = 0 := by simp at h; omega
  rw [if_neg hd0] at hX'

  refine awp_seq_region (fun Z hZ => ?_)
  refine sx_eql rfl rfl rfl ?_
  refine sx_assign rfl rfl ?_
  refine sx_nil (hZ _ _ ?_)
  refine awp_forget [(0, _), (4, _), (5, _), (6, _), (67, _)] (Kn.cons rfl (Kn.cons rfl (Kn.cons rfl (Kn.cons rfl (Kn.cons rfl (Kn.nil)))))) ?_
  refine awp_cond rfl (fun h => ?_) (fun h => ?_)
  · have hd1 : d % 3 = 1 := by simp at h; omega
    rw [if_pos hd1] at hX'
    subst hX'
    have hlk := shlook_fn B most S X T k hT hS (by omega)
    have hv400 := hX k
    have hrk := rslook_fn A c most S.hi S.mi X k hA (by omega) (by omega) (by omega)
    obtain ⟨D, hDl⟩ : ∃ D, lookL X k = D := ⟨_, rfl⟩
    have d1 : D.length ≤ 4096 := by
      rw [← hDl]
      unfold lookL
      split
      · exact (decQ_ok _).1
      · simp
    obtain ⟨hi', hhi⟩ : ∃ n, (if hasK X k = true then S.hi + 1 else S.hi) = n := ⟨_, rfl⟩
    obtain ⟨mi', hmi⟩ : ∃ n, (if hasK X k = true then S.mi else S.mi + 1) = n := ⟨_, rfl⟩
    have hsp : lookS S X k = (hi', mi') := by
      rw [← hhi, ← hmi]
      unfold lookS
      cases hasK X k <;> rfl
    obtain ⟨hb9, hhb⟩ : ∃ b, hasK X k = b := ⟨_, rfl⟩
    rw [hDl, hsp, hhb] at hlk
    rw [hDl, hhi, hmi, hhb] at hrk
    refine awp_seq_region (fun Z hZ => ?_)
    refine sx_move rfl rfl ?_
    refine sx_fieldAddr rfl tyF39_1 (by first | (simp only [Nat.reduceAdd, Nat.add_zero, Nat.zero_add]; first | done | rfl) | rfl) rfl ?_
    refine sx_loadA 5 rfl rfl tyA37 tyS37 (by first | (simp only [List.length_cons, List.length_nil, Nat.reduceAdd, Nat.zero_add, Nat.add_zero]; first | done | rfl) | rfl) (by first | (simp only [List.take_succ_cons, List.take_zero, List.drop_succ_cons, List.drop_zero, List.cons_append, List.nil_append, List.append_nil, List.length_cons, List.length_nil, Nat.reduceAdd, Nat.zero_add, Nat.add_zero, Value.cells, wrV]; first | done | rfl) | rfl) rfl ?_
    refine sx_callA (shH B most S) T (_ :: _ :: _ :: T) hlk rfl (HLe.refl _) (List.sublist_append_right [_, _, _] _) hT rfl ?_
    rintro v H' ⟨v1, S1, rfl, hv1, rfl, hS1, hn1, hhm⟩
    rw [(Wrs.append (rowE_wrs v1 65 4 (ecells D)) (shH_wrs B most S1)).filter]
    refine sx_heap (shH B most S1 ++ (_ :: _ :: _ :: (rowE v1 65 4 (ecells D) ++ T))) (keep_le _ [] (shH B most S1) [_, _, _] T) ?_
    refine sx_move rfl rfl ?_
    refine sx_extract rfl rfl rfl ?_
    refine sx_extract rfl rfl rfl ?_
    refine sx_assign rfl rfl ?_
    refine sx_assign rfl rfl ?_
    refine sx_nil (hZ _ _ ?_)
    refine awp_forget [(4, _), (5, _), (6, _), (15, _), (16, _)] (Kn.cons rfl (Kn.cons rfl (Kn.cons rfl (Kn.cons rfl (Kn.cons rfl (Kn.nil)))))) ?_
    have eh : S1.hi = hi' := congrArg Prod.fst hhm
    have em : S1.mi = mi' := congrArg Prod.snd hhm

    refine awp_seq_region (fun Z hZ => ?_)
    refine sx_loadA 6 rfl rfl tyA32 tyS32 (by first | (simp only [List.length_cons, List.length_nil, Nat.reduceAdd, Nat.zero_add, Nat.add_zero]; first | done | rfl) | rfl) (by first | (simp only [List.take_succ_cons, List.take_zero, List.drop_succ_cons, List.drop_zero, List.cons_append, List.nil_append, List.append_nil, List.length_cons, List.length_nil, Nat.reduceAdd, Nat.zero_add, Nat.add_zero, Value.cells, wrV]; first | done | rfl) | rfl) rfl ?_
    refine sx_fieldAddr rfl tyF39_1 (by first | (simp only [Nat.reduceAdd, Nat.add_zero, Nat.zero_add]; first | done | rfl) | rfl) rfl ?_
    refine sx_loadA 5 rfl rfl tyA37 tyS37 (by first | (simp only [List.length_cons, List.length_nil, Nat.reduceAdd, Nat.zero_add, Nat.add_zero]; first | done | rfl) | rfl) (by first | (simp only [List.take_succ_cons, List.take_zero, List.drop_succ_cons, List.drop_zero, List.cons_append, List.nil_append, List.append_nil, List.length_cons, List.length_nil, Nat.reduceAdd, Nat.zero_add, Nat.add_zero, Value.cells, wrV]; first | done | rfl) | rfl) rfl ?_
    refine sx_callVU (roE A (tcells X)) hrk rfl (HLe.sub (hAT.trans ((List.sublist_append_right _ _).trans (List.sublist_append_right [_, _, _, _, _, _, _] _)))) (Ro.roE _ _) rfl ?_
    rintro v H' ⟨A', c', u, W2, T2, rfl, hu, rfl, hF⟩
    rw [(Wrs.append (rowE_wrs u 98 4 (ecells D)) hF.wrs).filter]
    refine sx_move rfl rfl ?_
    refine sx_extract rfl rfl rfl ?_
    refine sx_extract rfl rfl rfl ?_
    refine sx_extract rfl rfl rfl ?_
    refine sx_alloc tyZ32 rfl (fun g5 => ?_)
    refine sx_store 0 rfl rfl rfl tyS32 (by first | (simp only [Value.cells]; first | done | rfl) | rfl) rfl rfl (by first | (simp only [List.length_cons, List.length_nil, Nat.reduceAdd, Nat.zero_add, Nat.add_zero]; first | done | rfl) | rfl) (by first | (simp only [List.take_succ_cons, List.take_zero, List.drop_succ_cons, List.drop_zero, List.cons_append, List.nil_append, List.append_nil, List.length_cons, List.length_nil, Nat.reduceAdd, Nat.zero_add, Nat.add_zero, Value.cells, wrV]; first | done | rfl) | rfl) (by first | (simp only [List.set_cons_succ, List.set_cons_zero]; first | done | rfl) | rfl) ?_
    refine sx_assign rfl rfl ?_
    refine sx_assign rfl rfl ?_
    refine sx_nil (hZ _ _ ?_)
    refine awp_forget [(6, _), (15, _), (16, _), (17, _), (18, _), (19, _)] (Kn.cons rfl (Kn.cons rfl (Kn.cons rfl (Kn.cons rfl (Kn.cons rfl (Kn.cons rfl (Kn.nil))))))) ?_
    obtain ⟨Au, cu, rfl, hAu, hleu⟩ := hu.ro
    obtain ⟨A1, c1, rfl, hA1, hle1⟩ := hv1.ro
    refine awp_heap (.own g5 32 (rsV most A' (rGetL X k).length c' hi' mi') :: .own g3 32 (rsV 0 none 0 0 0 0) :: (rowE (.slice A1 D.length c1) 65 4 (ecells D) ++ (roE Au (ecells D) ++ (shH B most S1 ++ (W2 ++ T))))) ((step_le _ _ _ _ (roE Au (ecells D)) W2 (shH B most S1) _ T).trans (by rw [List.append_assoc (roE Au (ecells D)) W2, List.append_assoc (rowE _ _ _ _) W2]; exact hleu [_] _ _ _ _)) ?_

    refine awp_seq_meet [(6, ptr g3 0), (15, .slice A1 D.length c1), (17, ptr g5 0), (20, .bool true)] (.own g5 32 (rsV most A' (rGetL X k).length c' hi' mi') :: .own g3 32 (rsV 0 none 0 0 0 0) :: (rowE (.slice A1 D.length c1) 65 4 (ecells D) ++ (roE Au (ecells D) ++ (shH B most S1 ++ (W2 ++ T))))) (fun Z hZ => ?_) ?_
    · refine sx_move rfl rfl ?_
      refine sx_callVU (roE A1 (ecells D)) (eback_fn A1 c1 D _ hA1.arg (fun _ => rfl) (Ro.roE _ _) (by omega)) rfl (row_seen hle1 [_, _] _ 65 4 _) (Ro.roE _ _) rfl ?_
      rintro v H' ⟨hv3, rfl⟩
      rw [rowE_flt]
      obtain ⟨A3, c3, rfl, hA3, hle3⟩ := hv3.ro
      refine sx_heap (roE A3 (ecells D) ++ (_ :: _ :: (rowE (.slice A1 D.length c1) 65 4 (ecells D) ++ (roE Au (ecells D) ++ (shH B most S1 ++ (W2 ++ T)))))) (hle3 [] _ _ _ _) ?_
      refine sx_move rfl rfl ?_
      refine sx_callPT (roE A3 (ecells D) ++ roE Au (ecells D)) (rsame_fn A3 c3 D _ hA3.arg (fun _ => rfl) (by show _ ≤ 9223372036854775807; omega) Au cu D _ hAu.arg (fun _ => rfl) (by show _ ≤ 9223372036854775807; omega)) rfl (List.Sublist.append_left ((List.sublist_append_left _ _).trans ((List.sublist_append_right _ _).trans (List.sublist_append_right [_, _] _))) _) ((Ro.roE _ _).append (Ro.roE _ _)) rfl ?_
      rw [show sameL D D = true from sameL_iff.2 rfl]
      refine sx_move rfl rfl ?_
      refine sx_force 88 rfl true (by first | rfl | (simp; done)) ?_
      refine sx_on rfl rfl rfl ?_
      refine sx_move rfl rfl ?_
      refine sx_on rfl rfl rfl ?_
      refine sx_move rfl rfl ?_
      refine sx_on rfl rfl rfl ?_
      refine sx_beql Try.underlying4 rfl rfl rfl ?_
      refine sx_pick rfl rfl rfl ?_
      refine sx_assign rfl rfl ?_
      refine sx_nil (hZ _ _ ?_ ?_)
      · exact Kn.cons rfl (Kn.cons rfl (Kn.cons rfl (Kn.cons (congrArg some (congrArg Value.bool (by simp))) Kn.nil)))
      · exact HLe.sub (List.sublist_append_right _ _)
    refine awp_cut (ι := Unit) (fun _ => [(6, ptr g3 0), (17, ptr g5 0), (20, .bool true)]) (fun _ => .own g5 32 (rsV most A' (rGetL X k).length c' hi' mi') :: .own g3 32 (rsV 0 none 0 0 0 0) :: (shH B most S1 ++ W2)) (fun _ => True) ?_ ?_
    · skip
      refine awp_seq_region (fun Z hZ => ?_)
      refine sx_assign rfl rfl ?_
      refine sx_nil (hZ _ _ ?_)
      refine awp_forget [(6, _), (15, _), (17, _), (20, _), (21, _)] (Kn.cons rfl (Kn.cons rfl (Kn.cons rfl (Kn.cons rfl (Kn.cons rfl (Kn.nil)))))) ?_
      refine awp_block ?_
      refine awp_loop (ι := Nat × List Value) (fun i => [(6, ptr g3 0), (15, .slice A1 D.length c1), (17, ptr g5 0), (20, .bool true), (21, iq (i.1 : Nat))]) (fun i => .own g5 32 (rsV most A' (rGetL X k).length c' hi' mi') :: .own g3 32 (rsV 0 none 0 0 0 0) :: (rowE (.slice A1 D.length c1) 65 4 i.2 ++ (roE Au (ecells D) ++ (shH B most S1 ++ (W2 ++ T)))))
        (fun i => i.1 ≤ D.length) (fun i => D.length - i.1) (0, ecells D) (Nat.zero_le _) (Kn.cons rfl (Kn.cons rfl (Kn.cons rfl (Kn.cons rfl (Kn.cons rfl Kn.nil))))) (HLe.refl _) ?_
      rintro ⟨i, xs⟩ hi
      simp only at hi

      refine awp_seq ?_
      refine awp_seq_region (fun Z hZ => ?_)
      refine sx_move rfl rfl ?_
      refine sx_move rfl rfl ?_
      refine sx_len Try.underlying44 rfl rfl ?_
      refine sx_lss rfl rfl rfl ?_
      refine sx_nil (hZ _ _ ?_)
      refine awp_forget [(6, _), (15, _), (17, _), (20, _), (21, _), (96, _)] (Kn.cons rfl (Kn.cons rfl (Kn.cons rfl (Kn.cons rfl (Kn.cons rfl (Kn.cons rfl (Kn.nil))))))) ?_
      refine awp_cond rfl (fun h => ?_) (fun h => ?_)
      · have hlt : i < D.length := by simpa using h
        obtain ⟨g, c9, h9⟩ := hv1.some (by omega)
        injection h9 with h10 _ h11
        subst h10
        refine awp_skip ?_
        with_reducible refine nx_normal ?_
        refine awp_seq (awp_block ?_)

        refine awp_region (fun Z hZ => ?_)
        refine sx_move rfl rfl ?_
        refine sx_move rfl rfl ?_
        refine sx_indexAddr (0 + i * 4) Try.underlying44 tyS65 rfl rfl (by omega) (by simp) rfl ?_
        refine sx_fieldAddr rfl tyF65_0 (by first | (simp only [Nat.reduceAdd, Nat.add_zero, Nat.zero_add]; first | done | rfl) | rfl) rfl ?_
        refine sx_storeRw (o := i * 4) (ys := xs.set (i * 4) (.int .u64 77)) 2 rfl rfl rfl tyS35 rfl (by omega) rfl rfl ?_
        refine sx_nil (hZ _ _ ?_)
        refine nx_forget [(6, _), (15, _), (17, _), (20, _), (21, _)] (Kn.cons rfl (Kn.cons rfl (Kn.cons rfl (Kn.cons rfl (Kn.cons rfl (Kn.nil)))))) ?_
        repeat (with_reducible refine nx_block_normal ?_)
        with_reducible refine nx_normal ?_
        refine awp_region (fun Z hZ => ?_)
        refine sx_move rfl rfl ?_
        refine sx_add rfl rfl ((i + 1 : Nat) : Int) (by rw [IntWalk.i64_in _ (by omega)]; omega) rfl ?_
        refine sx_assign rfl rfl ?_
        refine sx_nil (hZ _ _ ?_)
        refine nx_forget [(6, _), (15, _), (17, _), (20, _), (21, _)] (Kn.cons rfl (Kn.cons rfl (Kn.cons rfl (Kn.cons rfl (Kn.cons rfl (Kn.nil)))))) ?_
        exact nx_round (i + 1, xs.set (i * 4) (.int .u64 77)) (by show i + 1 ≤ _; omega) (by simp; omega) (Kn.cons rfl (Kn.cons rfl (Kn.cons rfl (Kn.cons rfl (Kn.cons rfl Kn.nil))))) (HLe.refl _)
      · refine awp_exit ?_
        repeat (with_reducible refine nx_then_exit ?_)
        with_reducible refine nx_block_exit ?_
        exact nx_cut () trivial (Kn.cons rfl (Kn.cons rfl (Kn.cons rfl Kn.nil))) (HLe.sub (.cons_cons _ (.cons_cons _ ((List.Sublist.append_left (List.sublist_append_left W2 T) _).trans ((List.sublist_append_right _ _).trans (List.sublist_append_right _ _))))))
    rintro - -

    refine awp_seq_region (fun Z hZ => ?_)
    refine sx_loadA 0 rfl rfl tyA32 tyS32 (by first | (simp only [List.length_cons, List.length_nil, Nat.reduceAdd, Nat.zero_add, Nat.add_zero]; first | done | rfl) | rfl) (by first | (simp only [List.take_succ_cons, List.take_zero, List.drop_succ_cons, List.drop_zero, List.cons_append, List.nil_append, List.append_nil, List.length_cons, List.length_nil, Nat.reduceAdd, Nat.zero_add, Nat.add_zero, Value.cells, wrV]; first | done | rfl) | rfl) rfl ?_
    refine sx_move rfl rfl ?_
    refine sx_store 1 rfl rfl rfl tyS32 (by first | (simp only [Value.cells]; first | done | rfl) | rfl) rfl rfl (by first | (simp only [List.length_cons, List.length_nil, Nat.reduceAdd, Nat.zero_add, Nat.add_zero]; first | done | rfl) | rfl) (by first | (simp only [List.take_succ_cons, List.take_zero, List.drop_succ_cons, List.drop_zero, List.cons_append, List.nil_append, List.append_nil, List.length_cons, List.length_nil, Nat.reduceAdd, Nat.zero_add, Nat.add_zero, Value.cells, wrV]; first | done | rfl) | rfl) (by first | (simp only [List.set_cons_succ, List.set_cons_zero]; first | done | rfl) | rfl) ?_
    refine sx_assign rfl rfl ?_
    refine sx_nil (hZ _ _ ?_)
    refine awp_forget [(6, _), (7, _)] (Kn.cons rfl (Kn.cons rfl (Kn.nil))) ?_
    refine awp_ret ?_
    repeat (with_reducible (first | refine nx_then_ret ?_ | refine nx_block_ret ?_))
    exact nx_ret2h (shH B most S1 ++ W2) rfl (ResOk.cell 1 rfl rfl tyA32 tyS32 rfl) rfl (HLe.drop 2 rfl) ⟨S1, A', c', W2, T2, by rw [eh, em]; rfl, rfl, step_okL hF hAT hS1 (by omega) (by rw [eh, ← hhi]; split <;> omega) (by rw [em, ← hmi]; split <;> omega)⟩
  have hd1 : ¬ d % 3 = 1 := by simp at h; omega
  rw [if_neg hd1] at hX'
  subst hX'
  refine awp_skip ?_

  refine awp_seq_region (fun Z hZ => ?_)
  refine sx_move rfl rfl ?_
  refine sx_callA (shH B most S) [] (_ :: _ :: _ :: T) (by rw [List.append_nil]; exact shclear_fn B most S X T hS hm) rfl (HLe.refl _) (List.nil_sublist _) Ro.nil rfl ?_
  rintro v H' ⟨S1, rfl, rfl, hS1, hn1, hh1, hi1⟩
  refine sx_heap (shH B most S1 ++ (_ :: _ :: _ :: T)) (HLe.refl _) ?_
  refine sx_nil (hZ _ _ ?_)
  refine awp_forget [(4, _), (6, _)] (Kn.cons rfl (Kn.cons rfl (Kn.nil))) ?_
  refine awp_seq_region (fun Z hZ => ?_)
  refine sx_fieldAddr rfl tyF32_1 (by first | (simp only [Nat.reduceAdd, Nat.add_zero, Nat.zero_add]; first | done | rfl) | rfl) rfl ?_
  refine sx_store1 6 rfl rfl rfl tyS30 rfl (by first | (simp only [List.length_cons, List.length_nil, Nat.reduceAdd, Nat.zero_add, Nat.add_zero]; first | done | rfl) | rfl) (by first | (simp only [List.set_cons_succ, List.set_cons_zero, Nat.reduceAdd, Nat.add_zero, Nat.zero_add]; first | done | rfl) | rfl) (by first | (simp only [List.set_cons_succ, List.set_cons_zero]; first | done | rfl) | rfl) ?_
  refine sx_nil (hZ _ _ ?_)
  refine awp_forget [(4, _), (6, _)] (Kn.cons rfl (Kn.cons rfl (Kn.nil))) ?_
  refine awp_seq_region (fun Z hZ => ?_)
  refine sx_loadA 6 rfl rfl tyA32 tyS32 (by first | (simp only [List.length_cons, List.length_nil, Nat.reduceAdd, Nat.zero_add, Nat.add_zero]; first | done | rfl) | rfl) (by first | (simp only [List.take_succ_cons, List.take_zero, List.drop_succ_cons, List.drop_zero, List.cons_append, List.nil_append, List.append_nil, List.length_cons, List.length_nil, Nat.reduceAdd, Nat.zero_add, Nat.add_zero, Value.cells, wrV]; first | done | rfl) | rfl) rfl ?_
  refine sx_store 4 rfl rfl rfl tyS32 (by first | (simp only [Value.cells]; first | done | rfl) | rfl) rfl rfl (by first | (simp only [List.length_cons, List.length_nil, Nat.reduceAdd, Nat.zero_add, Nat.add_zero]; first | done | rfl) | rfl) (by first | (simp only [List.take_succ_cons, List.take_zero, List.drop_succ_cons, List.drop_zero, List.cons_append, List.nil_append, List.append_nil, List.length_cons, List.length_nil, Nat.reduceAdd, Nat.zero_add, Nat.add_zero, Value.cells, wrV]; first | done | rfl) | rfl) (by first | (simp only [List.set_cons_succ, List.set_cons_zero]; first | done | rfl) | rfl) ?_
  refine sx_assign rfl rfl ?_
  refine sx_nil (hZ _ _ ?_)
  refine awp_forget [(6, _), (7, _)] (Kn.cons rfl (Kn.cons rfl (Kn.nil))) ?_
  refine awp_ret ?_
  exact nx_ret2h (shH B most S1) rfl (ResOk.cell 4 rfl rfl tyA32 tyS32 rfl) rfl (HLe.sub (List.sublist_append_left [_, _, _, _] _)) ⟨S1, none, 0, [], [], by rw [hh1, hi1]; rfl, rfl, Wrs.nil, Turn.nil, hS1.more (fun r hr => ⟨hr.1, hr.2.trans (List.nil_sublist _)⟩), List.nil_sublist _, .inl ⟨rfl, rfl⟩, by omega, by omega, by omega⟩
end Go.Proofs.Ytjelakmndcecoaa
