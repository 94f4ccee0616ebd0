/- MergeWhole. No conditions. -/
import Derived.Test.YtffahimbmpddpaaMp6
import Derived.Test.YtffahimbmpddpaaMg13
namespace Go.Proofs.Ytffahimbmpddpaa.V
open Go.RowKit
set_option linter.unusedVariables false
set_option linter.unusedSimpArgs false
set_option maxRecDepth 100000
abbrev sumE (b : Nat) (M : TxM) : Ent := mapE (fun s : Tx => .string (str s)) (fun n : Nat => iq (n : Nat)) b M
theorem mwhole_fn (A : Option Addr) (c : Nat) (L : List It) (T : Heap) (hA : ArgOk A L.length) (hT : 0 < L.length → T = roE A (icells L)) (hro : Ro T) (hL : L.length ≤ maxLen) (hE : ItsTx L) (id : Nat) :
    Fn Try.prog 6 [.slice A L.length c, uq id] T fun v _ => v = .bool true := by
  have o1 := over_fn A c L T hA hT hro hL hE 60 3000 (by decide) (by decide)
  refine Fn.enter (N := 149) Try.func6 rfl (by kernel_rfl) rfl (fun w0 => ?_)

  refine awp_seq_region (fun Z hZ => ?_)
  refine sx_assign rfl rfl ?_
  refine sx_nil (hZ _ _ ?_)
  refine awp_forget [(0, _), (1, _)] (Kn.cons rfl (Kn.cons rfl (Kn.nil))) ?_
  refine awp_seq ?_
  refine awp_seq_region (fun Z hZ => ?_)
  refine sx_move rfl rfl ?_
  refine sx_callPT T o1 rfl (List.Sublist.refl _) hro rfl ?_
  refine sx_nil (hZ _ _ ?_)
  refine awp_forget [(0, _), (1, _), (20, _)] (Kn.cons rfl (Kn.cons rfl (Kn.cons rfl (Kn.nil)))) ?_
  refine awp_cond rfl (fun h => ?_) (fun h => ?_)
  · refine awp_seq_region (fun Z hZ => ?_)
    refine sx_callP mwake_fn rfl rfl ?_
    refine sx_assign rfl rfl ?_
    refine sx_nil (hZ _ _ ?_)
    refine awp_forget [(4, _)] (Kn.cons rfl (Kn.nil)) ?_
    refine awp_ret ?_
    repeat (with_reducible refine nx_then_ret ?_)
    exact nx_ret1 rfl rfl rfl
  have n1 : cBytes L ≤ 3000 ∧ L.length ≤ 60 := by simp at h; omega
  have hok := ownQ_ok L
  have hob := own_bytes L
  refine awp_skip ?_
  with_reducible refine nx_normal ?_
  refine awp_seq_region (fun Z hZ => ?_)
  refine sx_move rfl rfl ?_
  refine sx_ownE L T hA hT hro (List.Sublist.refl _) (by omega) rfl rfl (fun A1 c1 A2 c2 hA1 hA2 => ?_)
  refine sx_move rfl rfl ?_
  refine sx_extract rfl rfl rfl ?_
  refine sx_extract rfl rfl rfl ?_
  refine sx_alloc tyZ28 rfl (fun g1 => ?_)
  first | refine sx_store 0 rfl rfl rfl tyS28 (by first | (simp only [Value.cells]; first | done | rfl) | rfl) rfl rfl (by first | (simp only [List.length_cons, List.length_nil, Nat.reduceAdd, Nat.zero_add, Nat.add_zero]; first | done | rfl) | rfl) (by first | (simp only [List.take_succ_cons, List.take_zero, List.drop_succ_cons, List.drop_zero, List.cons_append, List.nil_append, List.append_nil, List.length_cons, List.length_nil, Nat.reduceAdd, Nat.zero_add, Nat.add_zero, Value.cells, wrV]; first | done | rfl) | rfl) (by first | (simp only [List.set_cons_succ, List.set_cons_zero]; first | done | rfl) | rfl) ?_
  refine sx_assign rfl rfl ?_
  refine sx_nil (hZ _ _ ?_)
  refine awp_forget [(1, _), (5, _)] (Kn.cons rfl (Kn.cons rfl (Kn.nil))) ?_
  obtain ⟨C, hC⟩ : ∃ O, ownQ L = O := ⟨_, rfl⟩
  rw [hC] at hok hob hA1 hA2 ⊢
  have hol := hok.len
  have hwh := wh_ok hok
  have hback := hwh.back hok
  have hRe := hwh.ens
  have hRn := hwh.no
  have hrow := hwh.row
  have hleast := hwh.least
  have hcnt := hwh.cnt
  have hend := hwh.end_
  have hcts := hwh.cts
  have hhas := hwh.has hok id
  have hts : (rowsS C).2 = tsS C := by rw [hwh.eq]
  have hfl := tsS_fl6 C []
  have hDl : (rowsS C).2.flatten.length ≤ 3000 := by rw [hts]; unfold tsS; simp only [List.flatten_nil, List.length_nil, Nat.zero_add] at hfl; omega
  refine awp_heap (.own g1 28 [.slice A1 C.length c1] :: roE A1 (icells C)) (HLe.sub (.cons_cons _ ((List.sublist_append_right T _).trans (List.sublist_append_left _ _)))) ?_

  refine awp_seq_region (fun Z hZ => ?_)
  first | refine sx_loadA 0 rfl rfl tyA28 tyS28 (by first | (simp only [List.length_cons, List.length_nil, Nat.reduceAdd, Nat.zero_add, Nat.add_zero]; first | done | rfl) | rfl) (by first | (simp only [List.take_succ_cons, List.take_zero, List.drop_succ_cons, List.drop_zero, List.cons_append, List.nil_append, List.append_nil, List.length_cons, List.length_nil, Nat.reduceAdd, Nat.zero_add, Nat.add_zero, Value.cells, wrV]; first | done | rfl) | rfl) rfl ?_
  refine sx_mrowsE C hA1 (by repeat (first | exact List.Sublist.refl _ | exact List.nil_sublist _ | exact List.sublist_append_right _ _ | refine List.Sublist.trans ?_ (List.sublist_append_left _ _) | exact List.Sublist.cons_cons _ (List.nil_sublist _) | refine List.Sublist.cons _ ?_)) hok rfl rfl (fun A3 c3 hA3 => ?_)
  refine sx_move rfl rfl ?_
  refine sx_extract rfl rfl rfl ?_
  refine sx_extract rfl rfl rfl ?_
  refine sx_assign rfl rfl ?_
  refine sx_assign rfl rfl ?_
  refine sx_nil (hZ _ _ ?_)
  refine awp_forget [(1, _), (5, _), (7, _), (8, _)] (Kn.cons rfl (Kn.cons rfl (Kn.cons rfl (Kn.cons rfl (Kn.nil))))) ?_
  obtain ⟨R, hR⟩ : ∃ R, (rowsS C).1 = R := ⟨_, rfl⟩
  obtain ⟨D, hD⟩ : ∃ D, (rowsS C).2.flatten = D := ⟨_, rfl⟩
  have hfD : (tsS C).flatten = D := by rw [← hts]; exact hD
  rw [hR] at hRe hRn hrow hleast hcnt hend hcts hhas hA3
  rw [hD] at hDl hend
  rw [hR, hD] at hback
  rw [hR, hD]
  refine awp_seq_region (fun Z hZ => ?_)
  refine sx_move rfl rfl ?_
  refine sx_move rfl rfl ?_
  refine sx_mbackE R D hA3 (by repeat (first | exact List.Sublist.refl _ | exact List.nil_sublist _ | exact List.sublist_append_right _ _ | refine List.Sublist.trans ?_ (List.sublist_append_left _ _) | exact List.Sublist.cons_cons _ (List.nil_sublist _) | refine List.Sublist.cons _ ?_)) (by show _ ≤ 9223372036854775807; omega) hRe (by omega) rfl rfl (fun A4 c4 hA4 => ?_)
  rw [hback] at hA4 ⊢
  refine sx_move rfl rfl ?_
  refine sx_extract rfl rfl rfl ?_
  refine sx_extract rfl rfl rfl ?_
  refine sx_alloc tyZ28 rfl (fun g2 => ?_)
  refine sx_store 0 rfl rfl rfl tyS28 (by first | (simp only [Value.cells]; first | done | rfl) | rfl) rfl rfl (by first | (simp only [List.length_cons, List.length_nil, Nat.reduceAdd, Nat.zero_add, Nat.add_zero]; first | done | rfl) | rfl) (by first | (simp only [List.take_succ_cons, List.take_zero, List.drop_succ_cons, List.drop_zero, List.cons_append, List.nil_append, List.append_nil, List.length_cons, List.length_nil, Nat.reduceAdd, Nat.zero_add, Nat.add_zero, Value.cells, wrV]; first | done | rfl) | rfl) (by first | (simp only [List.set_cons_succ, List.set_cons_zero]; first | done | rfl) | rfl) ?_
  refine sx_assign rfl rfl ?_
  refine sx_nil (hZ _ _ ?_)
  refine awp_forget [(1, _), (5, _), (7, _), (8, _), (9, _), (10, _)] (Kn.cons rfl (Kn.cons rfl (Kn.cons rfl (Kn.cons rfl (Kn.cons rfl (Kn.cons rfl (Kn.nil))))))) ?_

  refine awp_seq ?_
  refine awq_seq_meet [(1, uq id), (5, ptr g1 0), (7, .slice A3 R.length c3), (8, .string (str D)), (71, .bool false)] (.own g1 28 [.slice A1 C.length c1] :: (roE A1 (icells C) ++ roE A3 (ecells R))) mixed (by kernel_rfl) (fun Z hZ => ?_) ?_
  · refine sq_move rfl rfl ?_
    refine sq_neq rfl rfl rfl ?_
    refine sq_move rfl rfl ?_
    refine sq_force 40 rfl false (by first | rfl | (simp; done) | (simp; omega)) ?_
    refine sq_on rfl rfl rfl ?_
    refine sq_loadA 1 rfl rfl tyA28 tyS28 (by first | (simp only [List.length_cons, List.length_nil, Nat.reduceAdd, Nat.zero_add, Nat.add_zero]; first | done | rfl) | rfl) (by first | (simp only [List.take_succ_cons, List.take_zero, List.drop_succ_cons, List.drop_zero, List.cons_append, List.nil_append, List.append_nil, List.length_cons, List.length_nil, Nat.reduceAdd, Nat.zero_add, Nat.add_zero, Value.cells, wrV]; first | done | rfl) | rfl) rfl ?_
    refine sq_on rfl rfl rfl ?_
    refine sq_loadA 0 rfl rfl tyA28 tyS28 (by first | (simp only [List.length_cons, List.length_nil, Nat.reduceAdd, Nat.zero_add, Nat.add_zero]; first | done | rfl) | rfl) (by first | (simp only [List.take_succ_cons, List.take_zero, List.drop_succ_cons, List.drop_zero, List.cons_append, List.nil_append, List.append_nil, List.length_cons, List.length_nil, Nat.reduceAdd, Nat.zero_add, Nat.add_zero, Value.cells, wrV]; first | done | rfl) | rfl) rfl ?_
    refine sq_on rfl rfl rfl ?_
    refine sq_callV (roE A1 (icells C) ++ roE A4 (icells C)) (csame_fn A1 c1 C _ hA1.arg (fun _ => rfl) (Ro.roE _ _) (by show _ ≤ 9223372036854775807; omega) A4 c4 C _ hA4.arg (fun _ => rfl) (Ro.roE _ _) (by show _ ≤ 9223372036854775807; omega)) rfl (HLe.two (by repeat (first | exact List.Sublist.refl _ | exact List.nil_sublist _ | exact List.sublist_append_right _ _ | refine List.Sublist.trans ?_ (List.sublist_append_left _ _) | exact List.Sublist.cons_cons _ (List.nil_sublist _) | refine List.Sublist.cons _ ?_)) (by repeat (first | exact List.Sublist.refl _ | exact List.nil_sublist _ | exact List.sublist_append_right _ _ | refine List.Sublist.trans ?_ (List.sublist_append_left _ _) | exact List.Sublist.cons_cons _ (List.nil_sublist _) | refine List.Sublist.cons _ ?_)) (Ro.roE _ _)) ((Ro.roE _ _).append (Ro.roE _ _)) rfl ?_
    rw [show sameI C C = true from sameI_iff.2 rfl]
    refine sq_on rfl rfl rfl ?_
    refine sq_not rfl rfl ?_
    refine sq_pick rfl rfl rfl ?_
    refine sq_move rfl rfl ?_
    refine sq_force 46 rfl false (by first | rfl | (simp; done) | (simp; omega)) ?_
    refine sq_on rfl rfl rfl ?_
    refine sq_move rfl rfl ?_
    refine sq_on rfl rfl rfl ?_
    refine sq_callV (roE A3 (ecells R)) (erow_fn A3 c3 R _ hA3.arg (fun _ => rfl) (Ro.roE _ _) (by show _ ≤ 9223372036854775807; omega) hRe) rfl (HLe.sub (by repeat (first | exact List.Sublist.refl _ | exact List.nil_sublist _ | exact List.sublist_append_right _ _ | refine List.Sublist.trans ?_ (List.sublist_append_left _ _) | exact List.Sublist.cons_cons _ (List.nil_sublist _) | refine List.Sublist.cons _ ?_))) (Ro.roE _ _) rfl ?_
    rw [hrow]
    refine sq_on rfl rfl rfl ?_
    refine sq_neq rfl rfl rfl ?_
    refine sq_pick rfl rfl rfl ?_
    refine sq_move rfl rfl ?_
    refine sq_force 51 rfl false (by first | rfl | (simp; done) | (simp; omega)) ?_
    refine sq_on rfl rfl rfl ?_
    refine sq_move rfl rfl ?_
    refine sq_on rfl rfl rfl ?_
    refine sq_callV (roE A3 (ecells R)) (least_fn A3 c3 R _ hA3.arg (fun _ => rfl) (Ro.roE _ _) (by show _ ≤ 9223372036854775807; omega) hRe) rfl (HLe.sub (by repeat (first | exact List.Sublist.refl _ | exact List.nil_sublist _ | exact List.sublist_append_right _ _ | refine List.Sublist.trans ?_ (List.sublist_append_left _ _) | exact List.Sublist.cons_cons _ (List.nil_sublist _) | refine List.Sublist.cons _ ?_))) (Ro.roE _ _) rfl ?_
    rw [hleast]
    refine sq_on rfl rfl rfl ?_
    refine sq_not rfl rfl ?_
    refine sq_pick rfl rfl rfl ?_
    refine sq_move rfl rfl ?_
    refine sq_force 56 rfl false (by first | rfl | (simp; done) | (simp; omega)) ?_
    refine sq_on rfl rfl rfl ?_
    refine sq_move rfl rfl ?_
    refine sq_on rfl rfl rfl ?_
    refine sq_callV (roE A3 (ecells R)) (count_fn A3 c3 R _ hA3.arg (fun _ => rfl) (by omega) hRe) rfl (HLe.sub (by repeat (first | exact List.Sublist.refl _ | exact List.nil_sublist _ | exact List.sublist_append_right _ _ | refine List.Sublist.trans ?_ (List.sublist_append_left _ _) | exact List.Sublist.cons_cons _ (List.nil_sublist _) | refine List.Sublist.cons _ ?_))) (Ro.roE _ _) rfl ?_
    rw [hcnt]
    refine sq_on rfl rfl rfl ?_
    refine sq_loadA 1 rfl rfl tyA28 tyS28 (by first | (simp only [List.length_cons, List.length_nil, Nat.reduceAdd, Nat.zero_add, Nat.add_zero]; first | done | rfl) | rfl) (by first | (simp only [List.take_succ_cons, List.take_zero, List.drop_succ_cons, List.drop_zero, List.cons_append, List.nil_append, List.append_nil, List.length_cons, List.length_nil, Nat.reduceAdd, Nat.zero_add, Nat.add_zero, Value.cells, wrV]; first | done | rfl) | rfl) rfl ?_
    refine sq_on rfl rfl rfl ?_
    refine sq_callP (len_fn A1 C.length c1) rfl rfl ?_
    refine sq_on rfl rfl rfl ?_
    refine sq_conv Try.underlying3 Try.underlying46 rfl ((C.length : Nat) : Int) (by rw [IntWalk.u64_in _ (by omega)]) rfl ?_
    refine sq_on rfl rfl rfl ?_
    refine sq_neq rfl rfl rfl ?_
    refine sq_pick rfl rfl rfl ?_
    refine sq_move rfl rfl ?_
    refine sq_force 64 rfl false (by first | rfl | (simp; done) | (simp; omega)) ?_
    refine sq_on rfl rfl rfl ?_
    refine sq_move rfl rfl ?_
    refine sq_on rfl rfl rfl ?_
    refine sq_callV (roE A3 (ecells R)) (end_fn A3 c3 R _ hA3.arg (fun _ => rfl) (by omega) hRe) rfl (HLe.sub (by repeat (first | exact List.Sublist.refl _ | exact List.nil_sublist _ | exact List.sublist_append_right _ _ | refine List.Sublist.trans ?_ (List.sublist_append_left _ _) | exact List.Sublist.cons_cons _ (List.nil_sublist _) | refine List.Sublist.cons _ ?_))) (Ro.roE _ _) rfl ?_
    rw [hend]
    refine sq_on rfl rfl rfl ?_
    refine sq_move rfl rfl ?_
    refine sq_on rfl rfl rfl ?_
    refine sq_lenS Try.underlying9 rfl rfl ?_
    refine sq_on rfl rfl rfl ?_
    refine sq_conv Try.underlying3 Try.underlying46 rfl ((D.length : Nat) : Int) (by rw [IntWalk.u64_in _ (by omega)]) rfl ?_
    refine sq_on rfl rfl rfl ?_
    refine sq_neq rfl rfl rfl ?_
    refine sq_pick rfl rfl rfl ?_
    refine sq_nil (hZ _ _ ?_ ?_)
    · exact Kn.cons rfl (Kn.cons rfl (Kn.cons rfl (Kn.cons rfl (Kn.cons (congrArg some (congrArg Value.bool (by simp))) Kn.nil))))
    · exact HLe.sub (.cons _ (.cons_cons _ (List.sublist_append_left _ _)))
  refine awp_cond rfl (fun h3 => ?_) (fun h3 => ?_)
  · cases h3
  refine awp_skip ?_
  with_reducible refine nx_normal ?_

  refine awp_seq_region (fun Z hZ => ?_)
  refine sx_makeMap rfl (fun s : Tx => .string (str s)) (fun n : Nat => iq n) (fun b => ?_)
  refine sx_assign rfl rfl ?_
  refine sx_nil (hZ _ _ ?_)
  refine awp_forget [(1, _), (5, _), (7, _), (8, _), (11, _)] (Kn.cons rfl (Kn.cons rfl (Kn.cons rfl (Kn.cons rfl (Kn.cons rfl (Kn.nil)))))) ?_
  refine awp_seq_region (fun Z hZ => ?_)
  refine sx_assign rfl rfl ?_
  refine sx_nil (hZ _ _ ?_)
  refine awp_forget [(1, _), (5, _), (7, _), (8, _), (11, _), (12, _)] (Kn.cons rfl (Kn.cons rfl (Kn.cons rfl (Kn.cons rfl (Kn.cons rfl (Kn.cons rfl (Kn.nil))))))) ?_

  refine awp_seq_region (fun Z hZ => ?_)
  refine sx_loadA 1 rfl rfl tyA28 tyS28 (by first | (simp only [List.length_cons, List.length_nil, Nat.reduceAdd, Nat.zero_add, Nat.add_zero]; first | done | rfl) | rfl) (by first | (simp only [List.take_succ_cons, List.take_zero, List.drop_succ_cons, List.drop_zero, List.cons_append, List.nil_append, List.append_nil, List.length_cons, List.length_nil, Nat.reduceAdd, Nat.zero_add, Nat.add_zero, Value.cells, wrV]; first | done | rfl) | rfl) rfl ?_
  refine sx_itemsE C hA1 (by repeat (first | exact List.Sublist.refl _ | exact List.nil_sublist _ | exact List.sublist_append_right _ _ | refine List.Sublist.trans ?_ (List.sublist_append_left _ _) | exact List.Sublist.cons_cons _ (List.nil_sublist _) | refine List.Sublist.cons _ ?_)) (by omega) rfl rfl (fun A5 c5 hA5 => ?_)
  refine sx_assign rfl rfl ?_
  refine sx_nil (hZ _ _ ?_)
  refine awp_forget [(1, _), (5, _), (7, _), (8, _), (11, _), (12, _), (13, _)] (Kn.cons rfl (Kn.cons rfl (Kn.cons rfl (Kn.cons rfl (Kn.cons rfl (Kn.cons rfl (Kn.cons rfl (Kn.nil)))))))) ?_
  refine awp_seq ?_
  refine awp_seq_region (fun Z hZ => ?_)
  refine sx_assign rfl rfl ?_
  refine sx_nil (hZ _ _ ?_)
  refine awp_forget [(1, _), (5, _), (7, _), (8, _), (11, _), (12, _), (13, _), (14, _)] (Kn.cons rfl (Kn.cons rfl (Kn.cons rfl (Kn.cons rfl (Kn.cons rfl (Kn.cons rfl (Kn.cons rfl (Kn.cons rfl (Kn.nil))))))))) ?_
  refine awp_block ?_
  refine awp_loop (ι := Nat) (fun i => [(1, uq id), (5, ptr g1 0), (7, .slice A3 R.length c3), (8, .string (str D)), (11, .map (some b)), (12, iq ((tsS (C.take i)).flatten.length : Nat)), (13, .slice A5 C.length c5), (14, iq (i : Nat))])
    (fun i => sumE b (tallyM (C.take i)) :: .own g1 28 [.slice A1 C.length c1] :: (roE A1 (icells C) ++ roE A3 (ecells R) ++ roE A5 (icells C))) (fun i => i ≤ C.length) (fun i => C.length - i) 0 (by simp) (Kn.cons rfl (Kn.cons rfl (Kn.cons rfl (Kn.cons rfl (Kn.cons rfl (Kn.cons rfl (Kn.cons rfl (Kn.cons rfl Kn.nil)))))))) (HLe.refl _) ?_
  rintro i hi
  refine awp_seq ?_
  refine awp_seq_region (fun Z hZ => ?_)
  refine sx_move rfl rfl ?_
  refine sx_move rfl rfl ?_
  refine sx_len Try.underlying26 rfl rfl ?_
  refine sx_lss rfl rfl rfl ?_
  refine sx_nil (hZ _ _ ?_)
  refine awp_forget [(1, _), (5, _), (7, _), (8, _), (11, _), (12, _), (13, _), (14, _), (78, _)] (Kn.cons rfl (Kn.cons rfl (Kn.cons rfl (Kn.cons rfl (Kn.cons rfl (Kn.cons rfl (Kn.cons rfl (Kn.cons rfl (Kn.cons rfl (Kn.nil)))))))))) ?_
  refine awp_cond rfl (fun h4 => ?_) (fun h4 => ?_)
  · have hlt : i < C.length := by simpa using h4
    obtain ⟨x, hx⟩ : ∃ x, C[i]? = some x := ⟨_, List.getElem?_eq_getElem hlt⟩
    have hsn := tally_snoc hx
    have htn := tsS_snoc hx
    have hf1 := tsS_fl6 (C.take i) []
    have hf2 := cBytes_le C i
    have hf3 := (addT_fl (tsS (C.take i)) x.tx).2
    have hxl := (hok.tx x (List.mem_of_getElem? hx)).2
    obtain ⟨n, hn, hni, hn0⟩ := tally_get hi x.tx
    obtain ⟨M, hM⟩ : ∃ M, tallyM (C.take i) = M := ⟨_, rfl⟩
    obtain ⟨ts, hts2⟩ : ∃ M, tsS (C.take i) = M := ⟨_, rfl⟩
    have hf4 : ts.flatten.length ≤ cBytes (C.take i) := by rw [← hts2]; unfold tsS; simp only [List.flatten_nil, List.length_nil, Nat.zero_add] at hf1; omega
    rw [hM] at hsn hn ⊢
    rw [hts2] at htn hn0 ⊢
    have hget : (if false = true then Value.tuple #[((aget M x.tx).map fun n : Nat => iq n).getD (iq (0 : Nat)), .bool (aget M x.tx).isSome] else ((aget M x.tx).map fun n : Nat => iq n).getD (iq (0 : Nat))) = iq (n : Nat) := by
      rw [← hn]
      cases aget M x.tx <;> rfl
    have hput : tally M x = aput M x.tx (n + 1) := by unfold tally; rw [hn]
    rw [hput] at hsn
    obtain ⟨g, o, rfl⟩ := slIn_pos hA5 (by omega)
    refine awp_heap (sumE b M :: .ro g o (icells C) :: .own g1 28 [.slice A1 C.length c1] :: (roE A1 (icells C) ++ roE A3 (ecells R))) ((HLe.perm (List.Perm.cons _ (List.perm_append_singleton (Ent.ro g o (icells C)) (.own g1 28 [.slice A1 C.length c1] :: (roE A1 (icells C) ++ roE A3 (ecells R))))))) ?_
    refine awp_skip ?_
    with_reducible refine nx_normal ?_
    refine awp_seq (awp_block ?_)

    refine awp_cut (ι := Unit) (fun _ => [(1, uq id), (5, ptr g1 0), (7, .slice A3 R.length c3), (8, .string (str D)), (11, .map (some b)), (12, iq ((addT ts x.tx).flatten.length : Nat)), (13, .slice (some ⟨g, o, none⟩) C.length c5), (14, iq (i : Nat))]) (fun _ => sumE b M :: .ro g o (icells C) :: .own g1 28 [.slice A1 C.length c1] :: (roE A1 (icells C) ++ roE A3 (ecells R))) (fun _ => True) ?_ ?_
    · refine awp_seq_region (fun Z hZ => ?_)
      refine sx_move rfl rfl ?_
      refine sx_move rfl rfl ?_
      refine sx_move rfl rfl ?_
      refine sx_indexAddr (o + i * 2) Try.underlying26 tyS59 rfl rfl (by omega) (by simp) rfl ?_
      refine sx_fieldAddr rfl tyF59_1 (by first | (simp only [Nat.reduceAdd, Nat.add_zero, Nat.zero_add]; first | done | rfl) | rfl) rfl ?_
      refine sx_loadRo 1 rfl rfl (i * 2 + 1) (by omega) tyA9 tyS9 (icells_tx hx) rfl ?_
      refine sx_lookup 0 keyT Try.underlying57 zeroI x.tx _ rfl rfl rfl hget rfl ?_
      refine sx_eql rfl rfl rfl ?_
      refine sx_nil (hZ _ _ ?_)
      refine awp_forget [(1, _), (5, _), (7, _), (8, _), (11, _), (12, _), (13, _), (14, _), (88, _)] (Kn.cons rfl (Kn.cons rfl (Kn.cons rfl (Kn.cons rfl (Kn.cons rfl (Kn.cons rfl (Kn.cons rfl (Kn.cons rfl (Kn.cons rfl (Kn.nil)))))))))) ?_
      refine awp_cond rfl (fun h5 => ?_) (fun h5 => ?_)
      · have hz : n = 0 := by simp at h5; omega
        have hat : addT ts x.tx = ts ++ [x.tx] := by unfold addT; rw [if_neg (hn0.1 hz)]
        rw [hat]
        refine awp_region (fun Z hZ => ?_)
        refine sx_move rfl rfl ?_
        refine sx_move rfl rfl ?_
        refine sx_move rfl rfl ?_
        refine sx_indexAddr (o + i * 2) Try.underlying26 tyS59 rfl rfl (by omega) (by simp) rfl ?_
        refine sx_fieldAddr rfl tyF59_1 (by first | (simp only [Nat.reduceAdd, Nat.add_zero, Nat.zero_add]; first | done | rfl) | rfl) rfl ?_
        refine sx_loadRo 1 rfl rfl (i * 2 + 1) (by omega) tyA9 tyS9 (icells_tx hx) rfl ?_
        refine sx_lenS Try.underlying9 rfl rfl ?_
        refine sx_add rfl rfl (((ts ++ [x.tx]).flatten.length : Nat) : Int) (by rw [IntWalk.i64_in _ (by omega)]; simp) rfl ?_
        refine sx_assign rfl rfl ?_
        refine sx_nil (hZ _ _ ?_)
        refine nx_forget [(1, _), (5, _), (7, _), (8, _), (11, _), (12, _), (13, _), (14, _)] (Kn.cons rfl (Kn.cons rfl (Kn.cons rfl (Kn.cons rfl (Kn.cons rfl (Kn.cons rfl (Kn.cons rfl (Kn.cons rfl (Kn.nil))))))))) ?_
        exact nx_cut () trivial (Kn.cons rfl (Kn.cons rfl (Kn.cons rfl (Kn.cons rfl (Kn.cons rfl (Kn.cons rfl (Kn.cons rfl (Kn.cons rfl Kn.nil)))))))) (HLe.refl _)
      · have hz : n ≠ 0 := by simp at h5; omega
        have hat : addT ts x.tx = ts := by unfold addT; rw [if_pos (Classical.byContradiction fun hc => hz (hn0.2 hc))]
        rw [hat]
        refine awp_skip ?_
        exact nx_cut () trivial (Kn.cons rfl (Kn.cons rfl (Kn.cons rfl (Kn.cons rfl (Kn.cons rfl (Kn.cons rfl (Kn.cons rfl (Kn.cons rfl Kn.nil)))))))) (HLe.refl _)
    rintro ⟨⟩ -

    refine awp_region (fun Z hZ => ?_)
    refine sx_move rfl rfl ?_
    refine sx_move rfl rfl ?_
    refine sx_move rfl rfl ?_
    refine sx_indexAddr (o + i * 2) Try.underlying26 tyS59 rfl rfl (by omega) (by simp) rfl ?_
    refine sx_fieldAddr rfl tyF59_1 (by first | (simp only [Nat.reduceAdd, Nat.add_zero, Nat.zero_add]; first | done | rfl) | rfl) rfl ?_
    refine sx_loadRo 1 rfl rfl (i * 2 + 1) (by omega) tyA9 tyS9 (icells_tx hx) rfl ?_
    refine sx_lookup 0 keyT Try.underlying57 zeroI x.tx _ rfl rfl rfl hget rfl ?_
    refine sx_add rfl rfl ((n + 1 : Nat) : Int) (by rw [IntWalk.i64_in _ (by omega)]; omega) rfl ?_
    refine sx_mapUpdate 0 keyT Try.underlying57 x.tx (n + 1) rfl rfl rfl rfl rfl ?_
    refine sx_nil (hZ _ _ ?_)
    refine nx_forget [(1, _), (5, _), (7, _), (8, _), (11, _), (12, _), (13, _), (14, _)] (Kn.cons rfl (Kn.cons rfl (Kn.cons rfl (Kn.cons rfl (Kn.cons rfl (Kn.cons rfl (Kn.cons rfl (Kn.cons rfl (Kn.nil))))))))) ?_
    repeat (with_reducible refine nx_block_normal ?_)
    with_reducible refine nx_normal ?_
    refine awp_region (fun Z hZ => ?_)
    refine sx_move rfl rfl ?_
    refine sx_add rfl rfl ((i + 1 : Nat) : Int) (by rw [IntWalk.i64_in _ (by omega)]; omega) rfl ?_
    refine sx_assign rfl rfl ?_
    refine sx_nil (hZ _ _ ?_)
    refine nx_forget [(1, _), (5, _), (7, _), (8, _), (11, _), (12, _), (13, _), (14, _)] (Kn.cons rfl (Kn.cons rfl (Kn.cons rfl (Kn.cons rfl (Kn.cons rfl (Kn.cons rfl (Kn.cons rfl (Kn.cons rfl (Kn.nil))))))))) ?_
    refine nx_round (i + 1) hlt (by omega) (Kn.cons rfl (Kn.cons rfl (Kn.cons rfl (Kn.cons rfl (Kn.cons rfl (Kn.cons (by rw [htn]; rfl) (Kn.cons rfl (Kn.cons rfl Kn.nil)))))))) ?_
    rw [hsn]
    exact (HLe.perm (List.Perm.cons _ (List.perm_append_singleton (Ent.ro g o (icells C)) (.own g1 28 [.slice A1 C.length c1] :: (roE A1 (icells C) ++ roE A3 (ecells R)))).symm))
  refine awp_exit ?_
  repeat (with_reducible refine nx_then_exit ?_)
  with_reducible refine nx_block_exit ?_
  with_reducible refine nx_normal ?_
  have hke : i = C.length := by simp at h4; omega
  subst hke
  rw [List.take_length, hfD]
  refine awp_heap (sumE b (tallyM C) :: .own g1 28 [.slice A1 C.length c1] :: (roE A1 (icells C) ++ roE A3 (ecells R))) (HLe.sub (.cons_cons _ (.cons_cons _ (List.sublist_append_left _ _)))) ?_

  refine awp_seq_region (fun Z hZ => ?_)
  refine sx_assign rfl rfl ?_
  refine sx_nil (hZ _ _ ?_)
  refine awp_forget [(1, _), (5, _), (7, _), (8, _), (11, _), (12, _), (15, _)] (Kn.cons rfl (Kn.cons rfl (Kn.cons rfl (Kn.cons rfl (Kn.cons rfl (Kn.cons rfl (Kn.cons rfl (Kn.nil)))))))) ?_
  refine awp_seq ?_
  refine awp_seq_region (fun Z hZ => ?_)
  refine sx_assign rfl rfl ?_
  refine sx_nil (hZ _ _ ?_)
  refine awp_forget [(1, _), (5, _), (7, _), (8, _), (11, _), (12, _), (15, _), (16, _)] (Kn.cons rfl (Kn.cons rfl (Kn.cons rfl (Kn.cons rfl (Kn.cons rfl (Kn.cons rfl (Kn.cons rfl (Kn.cons rfl (Kn.nil))))))))) ?_
  refine awp_block ?_
  refine awp_loop (ι := Nat) (fun i => [(1, uq id), (5, ptr g1 0), (7, .slice A3 R.length c3), (8, .string (str D)), (11, .map (some b)), (12, iq (D.length : Nat)), (15, iq (hasN (R.take i) id : Nat)), (16, iq (i : Nat))])
    (fun _ => sumE b (tallyM C) :: .own g1 28 [.slice A1 C.length c1] :: (roE A1 (icells C) ++ roE A3 (ecells R))) (fun i => i ≤ R.length) (fun i => R.length - i) 0 (by simp) (Kn.cons rfl (Kn.cons rfl (Kn.cons rfl (Kn.cons rfl (Kn.cons rfl (Kn.cons rfl (Kn.cons rfl (Kn.cons rfl Kn.nil)))))))) (HLe.refl _) ?_
  rintro i hi
  refine awp_seq ?_
  refine awp_seq_region (fun Z hZ => ?_)
  refine sx_move rfl rfl ?_
  refine sx_move rfl rfl ?_
  refine sx_len Try.underlying24 rfl rfl ?_
  refine sx_lss rfl rfl rfl ?_
  refine sx_nil (hZ _ _ ?_)
  refine awp_forget [(1, _), (5, _), (7, _), (8, _), (11, _), (12, _), (15, _), (16, _), (108, _)] (Kn.cons rfl (Kn.cons rfl (Kn.cons rfl (Kn.cons rfl (Kn.cons rfl (Kn.cons rfl (Kn.cons rfl (Kn.cons rfl (Kn.cons rfl (Kn.nil)))))))))) ?_
  refine awp_cond rfl (fun h6 => ?_) (fun h6 => ?_)
  · have hlt : i < R.length := by simpa using h6
    obtain ⟨x, hx⟩ : ∃ x, R[i]? = some x := ⟨_, List.getElem?_eq_getElem hlt⟩
    have hxo := hRe x (List.mem_of_getElem? hx)
    have hsn := hasN_snoc hx id
    have hle := hasN_le (R.take i) id
    rw [List.length_take] at hle
    obtain ⟨m, hm⟩ : ∃ m, hasN (R.take i) id = m := ⟨_, rfl⟩
    rw [hm] at hsn hle ⊢
    obtain ⟨g, o, rfl⟩ := slIn_pos hA3 (by omega)
    refine awp_heap (.ro g o (ecells R) :: sumE b (tallyM C) :: .own g1 28 [.slice A1 C.length c1] :: roE A1 (icells C)) (HLe.perm (List.perm_append_singleton (Ent.ro g o (ecells R)) (sumE b (tallyM C) :: .own g1 28 [.slice A1 C.length c1] :: roE A1 (icells C)))) ?_
    refine awp_skip ?_
    with_reducible refine nx_normal ?_
    refine awp_seq (awp_block ?_)

    refine awp_seq_region (fun Z hZ => ?_)
    refine sx_move rfl rfl ?_
    refine sx_move rfl rfl ?_
    refine sx_indexAddr (o + i * 4) Try.underlying24 tyS63 rfl rfl (by omega) (by simp) rfl ?_
    refine sx_loadRo 0 rfl rfl (i * 4) rfl tyA63 tyS63 (ecells_all hx) rfl ?_
    refine sx_move rfl rfl ?_
    refine sx_callP (mhas_fn x hxo id) rfl rfl ?_
    refine sx_nil (hZ _ _ ?_)
    refine awp_forget [(1, _), (5, _), (7, _), (8, _), (11, _), (12, _), (15, _), (16, _), (116, _)] (Kn.cons rfl (Kn.cons rfl (Kn.cons rfl (Kn.cons rfl (Kn.cons rfl (Kn.cons rfl (Kn.cons rfl (Kn.cons rfl (Kn.cons rfl (Kn.nil)))))))))) ?_
    refine awp_cond rfl (fun h7 => ?_) (fun h7 => ?_)
    · rw [if_pos h7] at hsn
      refine awp_region (fun Z hZ => ?_)
      refine sx_move rfl rfl ?_
      refine sx_add rfl rfl ((m + 1 : Nat) : Int) (by rw [IntWalk.i64_in _ (by omega)]; omega) rfl ?_
      refine sx_assign rfl rfl ?_
      refine sx_nil (hZ _ _ ?_)
      refine nx_forget [(1, _), (5, _), (7, _), (8, _), (11, _), (12, _), (15, _), (16, _)] (Kn.cons rfl (Kn.cons rfl (Kn.cons rfl (Kn.cons rfl (Kn.cons rfl (Kn.cons rfl (Kn.cons rfl (Kn.cons rfl (Kn.nil))))))))) ?_
      repeat (with_reducible refine nx_block_normal ?_)
      with_reducible refine nx_normal ?_
      refine awp_region (fun Z hZ => ?_)
      refine sx_move rfl rfl ?_
      refine sx_add rfl rfl ((i + 1 : Nat) : Int) (by rw [IntWalk.i64_in _ (by omega)]; omega) rfl ?_
      refine sx_assign rfl rfl ?_
      refine sx_nil (hZ _ _ ?_)
      refine nx_forget [(1, _), (5, _), (7, _), (8, _), (11, _), (12, _), (15, _), (16, _)] (Kn.cons rfl (Kn.cons rfl (Kn.cons rfl (Kn.cons rfl (Kn.cons rfl (Kn.cons rfl (Kn.cons rfl (Kn.cons rfl (Kn.nil))))))))) ?_
      exact nx_round (i + 1) hlt (by omega) (Kn.cons rfl (Kn.cons rfl (Kn.cons rfl (Kn.cons rfl (Kn.cons rfl (Kn.cons rfl (Kn.cons (by rw [hsn]; rfl) (Kn.cons rfl Kn.nil)))))))) (HLe.perm (List.perm_append_singleton (Ent.ro g o (ecells R)) (sumE b (tallyM C) :: .own g1 28 [.slice A1 C.length c1] :: roE A1 (icells C))).symm)
    · rw [if_neg (by rw [h7]; simp)] at hsn
      refine awp_skip ?_
      repeat (with_reducible refine nx_block_normal ?_)
      with_reducible refine nx_normal ?_
      refine awp_region (fun Z hZ => ?_)
      refine sx_move rfl rfl ?_
      refine sx_add rfl rfl ((i + 1 : Nat) : Int) (by rw [IntWalk.i64_in _ (by omega)]; omega) rfl ?_
      refine sx_assign rfl rfl ?_
      refine sx_nil (hZ _ _ ?_)
      refine nx_forget [(1, _), (5, _), (7, _), (8, _), (11, _), (12, _), (15, _), (16, _)] (Kn.cons rfl (Kn.cons rfl (Kn.cons rfl (Kn.cons rfl (Kn.cons rfl (Kn.cons rfl (Kn.cons rfl (Kn.cons rfl (Kn.nil))))))))) ?_
      exact nx_round (i + 1) hlt (by omega) (Kn.cons rfl (Kn.cons rfl (Kn.cons rfl (Kn.cons rfl (Kn.cons rfl (Kn.cons rfl (Kn.cons (by rw [hsn]; rfl) (Kn.cons rfl Kn.nil)))))))) (HLe.perm (List.perm_append_singleton (Ent.ro g o (ecells R)) (sumE b (tallyM C) :: .own g1 28 [.slice A1 C.length c1] :: roE A1 (icells C))).symm)
  refine awp_exit ?_
  repeat (with_reducible refine nx_then_exit ?_)
  with_reducible refine nx_block_exit ?_
  with_reducible refine nx_normal ?_
  have hke : i = R.length := by simp at h6; omega
  subst hke
  rw [List.take_length]
  obtain ⟨m, hm⟩ : ∃ m, hasN R id = m := ⟨_, rfl⟩
  rw [hm] at hhas ⊢
  have htl := tallyM_len C

  refine awp_seq_region (fun Z hZ => ?_)
  refine sx_loadA 1 rfl rfl tyA28 tyS28 (by first | (simp only [List.length_cons, List.length_nil, Nat.reduceAdd, Nat.zero_add, Nat.add_zero]; first | done | rfl) | rfl) (by first | (simp only [List.take_succ_cons, List.take_zero, List.drop_succ_cons, List.drop_zero, List.cons_append, List.nil_append, List.append_nil, List.length_cons, List.length_nil, Nat.reduceAdd, Nat.zero_add, Nat.add_zero, Value.cells, wrV]; first | done | rfl) | rfl) rfl ?_
  refine sx_move rfl rfl ?_
  refine sx_cget C id hA1 (by repeat (first | exact List.Sublist.refl _ | exact List.nil_sublist _ | exact List.sublist_append_right _ _ | refine List.Sublist.trans ?_ (List.sublist_append_left _ _) | exact List.Sublist.cons_cons _ (List.nil_sublist _) | refine List.Sublist.cons _ ?_)) hok rfl rfl ?_
  refine sx_move rfl rfl ?_
  refine sx_extract rfl rfl rfl ?_
  refine sx_extract rfl rfl rfl ?_
  refine sx_assign rfl rfl ?_
  refine sx_assign rfl rfl ?_
  refine sx_nil (hZ _ _ ?_)
  refine awp_forget [(7, _), (8, _), (11, _), (12, _), (15, _), (18, _)] (Kn.cons rfl (Kn.cons rfl (Kn.cons rfl (Kn.cons rfl (Kn.cons rfl (Kn.cons rfl (Kn.nil))))))) ?_
  obtain ⟨q, hq⟩ : ∃ q, cHas id C = q := ⟨_, rfl⟩
  rw [hq] at hhas ⊢
  have hm1 : m = bif q then 1 else 0 := by rw [hhas]; cases q <;> rfl
  subst hm1
  refine awp_seq_meet [(4, .bool true)] [] (fun Z hZ => ?_) ?_
  · refine sx_move rfl rfl ?_
    refine sx_move rfl rfl ?_
    refine sx_lenS Try.underlying9 rfl rfl ?_
    refine sx_eql rfl rfl rfl ?_
    refine sx_move rfl rfl ?_
    refine sx_force 129 rfl true (by first | rfl | (simp; done) | (simp; omega) | (cases q <;> rfl) | (cases q <;> simp; done)) ?_
    refine sx_on rfl rfl rfl ?_
    refine sx_move rfl rfl ?_
    refine sx_on rfl rfl rfl ?_
    refine sx_callPT (roE A3 (ecells R)) (contents_fn A3 c3 R _ hA3.arg (fun _ => rfl) (by omega) hRe) rfl (by repeat (first | exact List.Sublist.refl _ | exact List.nil_sublist _ | exact List.sublist_append_right _ _ | refine List.Sublist.trans ?_ (List.sublist_append_left _ _) | exact List.Sublist.cons_cons _ (List.nil_sublist _) | refine List.Sublist.cons _ ?_)) (Ro.roE _ _) rfl ?_
    refine sx_on rfl rfl rfl ?_
    refine sx_move rfl rfl ?_
    refine sx_on rfl rfl rfl ?_
    refine sx_lenM 0 Try.underlying57 rfl rfl rfl ?_
    refine sx_on rfl rfl rfl ?_
    refine sx_eql rfl rfl rfl ?_
    refine sx_pick rfl rfl rfl ?_
    refine sx_move rfl rfl ?_
    refine sx_force 136 rfl true (by first | rfl | (simp; done) | (simp; omega) | (cases q <;> rfl) | (cases q <;> simp; done)) ?_
    refine sx_on rfl rfl rfl ?_
    refine sx_move rfl rfl ?_
    refine sx_on rfl rfl rfl ?_
    refine sx_eql rfl rfl rfl ?_
    refine sx_on rfl rfl rfl ?_
    refine sx_move rfl rfl ?_
    refine sx_on rfl rfl rfl ?_
    refine sx_beql Try.underlying4 rfl rfl rfl ?_
    refine sx_pick rfl rfl rfl ?_
    refine sx_move rfl rfl ?_
    refine sx_force 142 rfl true (by first | rfl | (simp; done) | (simp; omega) | (cases q <;> rfl) | (cases q <;> simp; done)) ?_
    refine sx_on rfl rfl rfl ?_
    refine sx_move rfl rfl ?_
    refine sx_on rfl rfl rfl ?_
    refine sx_leq rfl rfl rfl ?_
    refine sx_pick rfl rfl rfl ?_
    refine sx_move rfl rfl ?_
    refine sx_force 146 rfl true (by first | rfl | (simp; done) | (simp; omega) | (cases q <;> rfl) | (cases q <;> simp; done)) ?_
    refine sx_on rfl rfl rfl ?_
    refine sx_callP mwake_fn rfl rfl ?_
    refine sx_pick rfl rfl rfl ?_
    refine sx_assign rfl rfl ?_
    refine sx_nil (hZ _ _ ?_ ?_)
    · exact Kn.cons rfl Kn.nil
    · exact HLe.sub (List.nil_sublist _)
  refine awp_ret ?_
  exact nx_ret1 rfl rfl rfl
theorem MergeWhole_read {H : Type} {enc : TypeId × Value → H} (w : World) {base : Nat} {v0 v1 : Value} {d0 d1 : DataW H} {p0 p1 : List MemPlace}
    (k0 : Value.okWide Try.prog w .any base 32 v0) (h0 : DataW.Trod enc Try.prog w 0 (fun _ => true) true 32 v0 d0 p0)
    (k1 : Value.okWide Try.prog w .any base 46 v1) (h1 : DataW.Trod enc Try.prog w 0 (fun _ => true) true 46 v1 d1 p1) :
    Calls Try.prog 6 #[v0, v1] w fun e w' => e = .returned (.bool true) ∧ Bel w w' := by
  obtain ⟨A, c, L, T, rfl, hA, hL, hE, hT, hro, hS, _⟩ := open_its k0 h0
  obtain ⟨b, rfl, _, _, hb⟩ := ChangeShapes.open_int Try.underlying46 k1 h1
  obtain ⟨b1, b2⟩ := wf_u64 hb
  obtain ⟨x, rfl⟩ := Int.eq_ofNat_of_zero_le b1
  exact tail_bel hro hS (mwhole_fn A c L T hA hT hro hL hE x)
end Go.Proofs.Ytffahimbmpddpaa.V
namespace Go.Proofs.Ytffahimbmpddpaa
open Go.RowKit V
namespace mergeWhole
open Go.ChangeShapes Go.WideShapes Go.ChangeAt Go.RowKit
theorem own : ownKnob Try.prog.godebug = none := by kernel_rfl
theorem laidOut : laidOutB Try.prog = true := by kernel_rfl
set_option maxRecDepth 100000 in
theorem lifted (os : Os) (started : os.Started) (H : Type) (enc : TypeId × Value → H) :
    ReturnsInHanded {} Try.checked os 6 .any (Rows.mergeWholeSpec.pre6 enc Try.prog Try.f6 Rows.mergeWholeRow.domain false) (Rows.mergeWholeSpec.post enc Try.prog Try.f6 false true false false) := by
  refine returnsInHanded_of_change (C := Try.checked) own started (by kernel_rfl) Try.func6
    (ChangeSpec.witness6 (enc := enc) (C := Try.checked) false ⟨#[], #[.slice none 0 0, .int .u64 0], []⟩ 8 (by kernel_rfl) (by kernel_rfl) (by kernel_rfl) (by kernel_rfl)) ?_
  intro W base args ds gs before hval0 hW hcnd _
  have hval : ∀ (j : Nat) t v, Try.f6.params[j]? = some t → args[j]? = some v → Value.okWide Try.prog W .any base t v := hval0
  have hW' := hW
  obtain ⟨p, q, hA0, hV, rfl, hfz, hnd⟩ := hW
  have hA : DataW.TrodAll enc Try.prog W 0 (fun _ => true) true Try.f6.params.toList args.toList ds p := hA0
  rw [Try.params6] at hA hval
  obtain ⟨v0, vs0, d0, ds0, p0, q0, hargs, rfl, rfl, h0, r0⟩ := trodAll_cons hA
  obtain ⟨v1, vs1, d1, ds1, p1, q1, rfl, rfl, rfl, h1, r1⟩ := trodAll_cons r0
  obtain ⟨rfl, rfl, rfl⟩ := trodAll_nil r1
  obtain rfl : args = #[v0, v1] := by cases args; simp_all
  obtain ⟨rfl, rfl⟩ := trodVars_none hV
  have lt0 : ∀ x ∈ p0, x.block < W.heap.size := by obtain ⟨m, hm⟩ := h0; exact DataW.trod_lt m _ _ _ hm
  have lt1 : ∀ x ∈ p1, x.block < W.heap.size := by obtain ⟨m, hm⟩ := h1; exact DataW.trod_lt m _ _ _ hm
  refine (MergeWhole_read W (hval 0 32 v0 rfl rfl) h0 (hval 1 46 v1 rfl rfl) h1).mono fun e W' ⟨he, bel0⟩ => ?_
  have bel : Below W.heap.size W W' := bel0
  subst he
  exact ⟨_, rfl, _, _, _, [], _, [], hW', trodAll_mk1 (shut_bool Try.underlying4 _), (trodAll_cons_mk (Below.trod laidOut (by kernel_rfl) (of_decide_eq_true (by kernel_rfl)) h0 bel lt0) (trodAll_cons_mk (Below.trod laidOut (by kernel_rfl) (of_decide_eq_true (by kernel_rfl)) h1 bel lt1) trodAll_mk0)), rfl, bel.frame _, fun h => by cases h⟩
theorem over : Rows.mergeWholeRow.holds Try.pinned (OpenSpec.ofChange Rows.mergeWholeSpec) :=
  OpenClaim.holds_of_wide 6 Try.f6 rfl rfl rfl rfl rfl rfl rfl ⟨rfl, rfl, rfl, rfl, rfl⟩ rfl rfl rfl rfl rfl (by kernel_rfl) Try.func6 (by kernel_rfl)
    (of_decide_eq_true (by kernel_rfl)) (by unfold Func.isWrapper; first | (rw [if_pos (by decide +kernel)]; kernel_rfl) | (rw [if_neg (by decide +kernel)]; exact ⟨rfl, rfl⟩))
    (fun os started H enc _ => lifted os started H enc)
theorem proved : Rows.MergeWholeSaid := over
#print axioms proved
end mergeWhole
end Go.Proofs.Ytffahimbmpddpaa
