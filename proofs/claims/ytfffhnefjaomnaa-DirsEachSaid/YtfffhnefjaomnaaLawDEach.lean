/- DirsEach. No conditions. -/
import Derived.Test.YtfffhnefjaomnaaGdr3
import Derived.Test.YtfffhnefjaomnaaLayRep
namespace Go.Proofs.Ytfffhnefjaomnaa
open Go.RowKit
set_option linter.unusedVariables false
set_option linter.unusedSimpArgs false
set_option maxRecDepth 100000
/-- The marks that ranges have left. -/
def mks (ds : List Nat) : Heap := ds.map fun D => .ob D isDef
theorem mks_wrs (ds : List Nat) : Wrs (mks ds) := fun e he => by
  obtain ⟨D, _, rfl⟩ := List.mem_map.1 he
  rfl
theorem perm_mid (M R P Q : Heap) : (M ++ (R ++ (P ++ Q))).Perm (P ++ (M ++ (R ++ Q))) :=
  (List.Perm.append_left M (List.perm_append_comm_assoc R P Q)).trans (List.perm_append_comm_assoc M P (R ++ Q))
theorem mid_le (X M R P Q : Heap) : HLe (X ++ (P ++ (M ++ (R ++ Q)))) (X ++ (M ++ (R ++ (P ++ Q)))) := fun _ _ _ hw => hw.perm (List.Perm.append_left X (perm_mid M R P Q))
theorem back_le (a b c : Ent) (M R P Q : Heap) : HLe (c :: a :: (M ++ (R ++ (P ++ Q)))) (a :: b :: c :: (P ++ (M ++ (R ++ Q)))) := fun _ _ _ hw =>
  (hw.sub (List.Sublist.cons_cons a (List.Sublist.cons b (List.Sublist.refl _)))).perm ((List.Perm.swap c a _).trans (((perm_mid M R P Q).symm.cons a).cons c))
theorem deach_fn (s : List UInt8) (most : Nat) (hm : most < 256) :
    Fn Try.prog 7 [.string (str s), .int .u8 most] [] fun v _ => v = .bool true := by
  refine Fn.enterM (n := 106) Try.func7 rfl (by kernel_rfl) rfl (fun w0 => ?_)

  refine awp_seq_region (fun Z hZ => ?_)
  refine sx_box rfl rfl rfl (fun g1 => ?_)
  refine sx_alloc tyZ4 rfl (fun g2 => ?_)
  refine sx_nil (hZ _ _ ?_)
  refine awp_forget [(0, _), (3, _), (4, _)] (Kn.cons rfl (Kn.cons rfl (Kn.cons rfl (Kn.nil)))) ?_

  refine awp_seq ?_
  refine awp_seq_region (fun Z hZ => ?_)
  refine sx_move rfl rfl ?_
  first | refine sx_len Try.underlying9 rfl rfl ?_ | refine sx_lenS Try.underlying9 rfl rfl ?_
  first | refine sx_gtr rfl rfl rfl ?_ | refine sx_sgtr rfl rfl rfl ?_
  refine sx_nil (hZ _ _ ?_)
  refine awp_forget [(0, _), (3, _), (4, _), (18, _)] (Kn.cons rfl (Kn.cons rfl (Kn.cons rfl (Kn.cons rfl (Kn.nil))))) ?_
  first | refine awp_cond rfl (fun h => ?_) (fun h => ?_) | refine awp_seq (awp_cond rfl (fun h => ?_) (fun h => ?_))
  · refine awp_seq_region (fun Z hZ => ?_)
    refine sx_callP awake_fn rfl rfl ?_
    first | refine sx_store1 0 rfl rfl rfl tyS4 rfl (by first | (simp only [List.length_cons, List.length_nil, Nat.reduceAdd, Nat.zero_add, Nat.add_zero]; first | done | rfl) | rfl) (by first | (simp only [List.set_cons_succ, List.set_cons_zero, Nat.reduceAdd, Nat.add_zero, Nat.zero_add]; first | done | rfl) | rfl) (by first | (simp only [List.set_cons_succ, List.set_cons_zero]; first | done | rfl) | rfl) ?_ | refine sx_store1 1 rfl rfl rfl tyS4 rfl (by first | (simp only [List.length_cons, List.length_nil, Nat.reduceAdd, Nat.zero_add, Nat.add_zero]; first | done | rfl) | rfl) (by first | (simp only [List.set_cons_succ, List.set_cons_zero, Nat.reduceAdd, Nat.add_zero, Nat.zero_add]; first | done | rfl) | rfl) (by first | (simp only [List.set_cons_succ, List.set_cons_zero]; first | done | rfl) | rfl) ?_
    refine sx_nil (hZ _ _ ?_)
    refine awp_forget [(4, _)] (Kn.cons rfl (Kn.nil)) ?_
    refine awp_ret ?_
    repeat (with_reducible (first | refine nx_then_ret ?_ | refine nx_block_ret ?_ | refine nx_scope_ret ?_))
    exact nx_unmark [] trivial (nx_ret1 rfl (ResOk.cell 0 rfl rfl tyA4 tyS4 rfl) rfl)
  have h3 : s.length ≤ 1500 := by simp at h; omega
  refine awp_skip ?_
  repeat (with_reducible (first | refine nx_block_normal ?_ | refine nx_scope_normal ?_))
  with_reducible first | refine nx_normal ?_ | refine nx_normalM ?_
  obtain ⟨d1, d2, d3, d4⟩ := decQ_ok s
  have hD := ddecode_fn s (by omega)
  have hEa := each_fn s (by omega)
  obtain ⟨L, hL⟩ : ∃ L, (decQ s).1 = L := ⟨_, rfl⟩
  obtain ⟨p, hp⟩ : ∃ p, (decQ s).2.1 = p := ⟨_, rfl⟩
  obtain ⟨f, hf⟩ : ∃ f, (decQ s).2.2 = f := ⟨_, rfl⟩
  have hall : decQ s = (L, p, f) := by rw [← hL, ← hp, ← hf]
  rw [hall] at hD hEa d1 d2 d3 d4
  simp only at hD hEa d1 d2 d3 d4
  have hbig : decQ (s ++ Lib.repeatL [0] (65537 - s.length)) = ([], 0, 5) := by
    unfold decQ
    rw [if_pos (by rw [List.length_append, Lib.repeatL_length]; simp; omega)]
  have hDb := ddecode_fn (s ++ Lib.repeatL [0] (65537 - s.length)) (by rw [List.length_append, Lib.repeatL_length]; simp; omega)
  rw [hbig] at hDb
  have hrep := rep_fn [0] (65537 - s.length) (by simp; omega) (by omega)
  refine awp_seq_region (fun Z hZ => ?_)
  refine sx_move rfl rfl ?_
  refine sx_callO [] [_, _] hD rfl (HLe.refl _) rfl ?_
  rintro v H' ⟨u, rfl, hu, rfl⟩
  rw [rowE_flt]
  obtain ⟨A1, c1, rfl, hA1, hle1⟩ := hu.ro
  refine sx_heap ([_, _] ++ roE A1 (ecells L)) ((HLe.swap _ _).trans (hle1 [] [_, _] 51 4 (ecells L))) ?_
  refine sx_move rfl rfl ?_
  refine sx_extract rfl rfl rfl ?_
  refine sx_extract rfl rfl rfl ?_
  refine sx_extract rfl rfl rfl ?_
  refine sx_alloc tyZ27 rfl (fun g3 => ?_)
  first | refine sx_store1 0 rfl rfl rfl tyS27 rfl (by first | (simp only [List.length_cons, List.length_nil, Nat.reduceAdd, Nat.zero_add, Nat.add_zero]; first | done | rfl) | rfl) (by first | (simp only [List.set_cons_succ, List.set_cons_zero, Nat.reduceAdd, Nat.add_zero, Nat.zero_add]; first | done | rfl) | rfl) (by first | (simp only [List.set_cons_succ, List.set_cons_zero]; first | done | rfl) | rfl) ?_ | refine sx_store1 1 rfl rfl rfl tyS27 rfl (by first | (simp only [List.length_cons, List.length_nil, Nat.reduceAdd, Nat.zero_add, Nat.add_zero]; first | done | rfl) | rfl) (by first | (simp only [List.set_cons_succ, List.set_cons_zero, Nat.reduceAdd, Nat.add_zero, Nat.zero_add]; first | done | rfl) | rfl) (by first | (simp only [List.set_cons_succ, List.set_cons_zero]; first | done | rfl) | rfl) ?_ | refine sx_store1 2 rfl rfl rfl tyS27 rfl (by first | (simp only [List.length_cons, List.length_nil, Nat.reduceAdd, Nat.zero_add, Nat.add_zero]; first | done | rfl) | rfl) (by first | (simp only [List.set_cons_succ, List.set_cons_zero, Nat.reduceAdd, Nat.add_zero, Nat.zero_add]; first | done | rfl) | rfl) (by first | (simp only [List.set_cons_succ, List.set_cons_zero]; first | done | rfl) | rfl) ?_
  refine sx_assign rfl rfl ?_
  refine sx_assign rfl rfl ?_
  refine sx_nil (hZ _ _ ?_)
  refine awp_forget [(0, _), (3, _), (4, _), (5, _), (7, _)] (Kn.cons rfl (Kn.cons rfl (Kn.cons rfl (Kn.cons rfl (Kn.cons rfl (Kn.nil)))))) ?_
  have hJro : Ro (.ro g3 0 [.slice A1 L.length c1] :: .ro g1 0 [.int .u8 (most : Int)] :: roE A1 (ecells L)) := fun x hx => by
    rcases List.mem_cons.1 hx with rfl | hx
    · rfl
    rcases List.mem_cons.1 hx with rfl | hx
    · rfl
    exact Ro.roE _ _ x hx
  refine awp_heap ([.own g2 4 [.bool false]] ++ (.ro g3 0 [.slice A1 L.length c1] :: .ro g1 0 [.int .u8 (most : Int)] :: roE A1 (ecells L))) ((HLe.comm3 [.ro g3 0 [.slice A1 L.length c1]] [.own g2 4 [.bool false]] (.ro g1 0 [.int .u8 (most : Int)] :: roE A1 (ecells L))).trans ((HLe.toRo [.ro g3 0 [.slice A1 L.length c1], .own g2 4 [.bool false]] (roE A1 (ecells L))).trans (HLe.toRo [] (.own g2 4 [.bool false] :: .own g1 5 [.int .u8 (most : Int)] :: roE A1 (ecells L))))) ?_
  refine awp_seq_region (fun Z hZ => ?_)
  refine sx_move rfl rfl ?_
  refine sx_callO [] (.own g2 4 [.bool false] :: .ro g3 0 [.slice A1 L.length c1] :: .ro g1 0 [.int .u8 (most : Int)] :: roE A1 (ecells L)) hEa rfl (HLe.refl _) rfl ?_
  rintro v H' ⟨gE, u, hu, rfl, rfl⟩
  rw [List.filter_cons_of_pos rfl, rowE_flt]
  obtain ⟨A2, c2, rfl, hA2, hle2⟩ := hu.ro
  refine sx_heap ([.own g2 4 [.bool false]] ++ ((.ro gE 0 [.slice A2 L.length c2] :: roE A2 (ecells L)) ++ (.ro g3 0 [.slice A1 L.length c1] :: .ro g1 0 [.int .u8 (most : Int)] :: roE A1 (ecells L)))) ((HLe.comm3 (.ro gE 0 [.slice A2 L.length c2] :: roE A2 (ecells L)) [.own g2 4 [.bool false]] (.ro g3 0 [.slice A1 L.length c1] :: .ro g1 0 [.int .u8 (most : Int)] :: roE A1 (ecells L))).trans ((hle2 [.ro gE 0 [.slice A2 L.length c2]] (.own g2 4 [.bool false] :: .ro g3 0 [.slice A1 L.length c1] :: .ro g1 0 [.int .u8 (most : Int)] :: roE A1 (ecells L)) 51 4 (ecells L)).trans (HLe.toRo [] (rowE (.slice A2 L.length c2) 51 4 (ecells L) ++ (.own g2 4 [.bool false] :: .ro g3 0 [.slice A1 L.length c1] :: .ro g1 0 [.int .u8 (most : Int)] :: roE A1 (ecells L)))))) ?_
  refine sx_assign rfl rfl ?_
  refine sx_nil (hZ _ _ ?_)
  refine awp_forget [(0, _), (3, _), (4, _), (5, _), (7, _), (8, _)] (Kn.cons rfl (Kn.cons rfl (Kn.cons rfl (Kn.cons rfl (Kn.cons rfl (Kn.cons rfl (Kn.nil))))))) ?_
  refine awp_seq ?_
  refine awp_seq_region (fun Z hZ => ?_)
  refine sx_move rfl rfl ?_
  refine sx_funcEqNil Try.underlying46 rfl rfl ?_
  refine sx_nil (hZ _ _ ?_)
  refine awp_forget [(0, _), (3, _), (4, _), (5, _), (7, _), (8, _), (29, _)] (Kn.cons rfl (Kn.cons rfl (Kn.cons rfl (Kn.cons rfl (Kn.cons rfl (Kn.cons rfl (Kn.cons rfl (Kn.nil)))))))) ?_
  first | refine awp_cond rfl (fun h => ?_) (fun h => ?_) | refine awp_seq (awp_cond rfl (fun h => ?_) (fun h => ?_))
  · cases h
  refine awp_skip ?_
  repeat (with_reducible (first | refine nx_block_normal ?_ | refine nx_scope_normal ?_))
  with_reducible first | refine nx_normal ?_ | refine nx_normalM ?_
  obtain ⟨Jr, hJr⟩ : ∃ Jr, Jr = (.ro g3 0 [.slice A1 L.length c1] :: .ro g1 0 [.int .u8 (most : Int)] :: roE A1 (ecells L)) := ⟨_, rfl⟩
  obtain ⟨RO, hRO⟩ : ∃ RO, RO = (.ro gE 0 [.slice A2 L.length c2] :: roE A2 (ecells L)) := ⟨_, rfl⟩
  rw [← hJr] at hJro ⊢
  have hit := each_it gE A2 c2 L _ hA2.arg (fun _ => rfl) (by omega)
  rw [← hRO] at hit ⊢
  have hROro : Ro RO := fun x hx => by
    rw [hRO] at hx
    rcases List.mem_cons.1 hx with rfl | hx
    · rfl
    exact Ro.roE _ _ x hx

  refine awp_seq ?_
  refine awp_seq_region (fun Z hZ => ?_)
  refine sx_assign rfl rfl ?_
  refine sx_nil (hZ _ _ ?_)
  refine awp_forget [(0, _), (3, _), (4, _), (5, _), (7, _), (8, _), (9, _)] (Kn.cons rfl (Kn.cons rfl (Kn.cons rfl (Kn.cons rfl (Kn.cons rfl (Kn.cons rfl (Kn.cons rfl (Kn.nil)))))))) ?_
  refine awp_block ?_
  refine awp_loopM (ι := List Nat) (fun ds => ds) (fun ds => [(0, .string (str s)), (3, ptr g1 0), (4, ptr g2 0), (5, ptr g3 0), (7, iq f), (8, .func (.func 33) #[] #[ptr gE 0]), (9, iq (ds.length : Nat))]) (fun ds => .own g2 4 [.bool false] :: (mks ds ++ (RO ++ Jr)))
    (fun ds => ds.length ≤ 2) (fun ds => 2 - ds.length) [] (by simp) rfl (Kn.cons rfl (Kn.cons rfl (Kn.cons rfl (Kn.cons rfl (Kn.cons rfl (Kn.cons rfl (Kn.cons rfl Kn.nil))))))) (HLe.refl _) ?_
  intro ds hds
  refine awp_seq ?_
  refine awp_seq_region (fun Z hZ => ?_)
  refine sx_move rfl rfl ?_
  first | refine sx_lss rfl rfl rfl ?_ | refine sx_slss rfl rfl rfl ?_
  refine sx_nil (hZ _ _ ?_)
  refine awp_forget [(0, _), (3, _), (4, _), (5, _), (7, _), (8, _), (9, _), (31, _)] (Kn.cons rfl (Kn.cons rfl (Kn.cons rfl (Kn.cons rfl (Kn.cons rfl (Kn.cons rfl (Kn.cons rfl (Kn.cons rfl (Kn.nil))))))))) ?_
  first | refine awp_cond rfl (fun h => ?_) (fun h => ?_) | refine awp_seq (awp_cond rfl (fun h => ?_) (fun h => ?_))
  · have hlt : ds.length < 2 := by simp at h; omega
    refine awp_skip ?_
    repeat (with_reducible (first | refine nx_block_normal ?_ | refine nx_scope_normal ?_))
    with_reducible first | refine nx_normal ?_ | refine nx_normalM ?_
    refine awp_seq (awp_block ?_)
    refine awp_seq_region (fun Z hZ => ?_)
    refine sx_alloc tyZ3 rfl (fun g4 => ?_)
    first | refine sx_store1 0 rfl rfl rfl tyS3 rfl (by first | (simp only [List.length_cons, List.length_nil, Nat.reduceAdd, Nat.zero_add, Nat.add_zero]; first | done | rfl) | rfl) (by first | (simp only [List.set_cons_succ, List.set_cons_zero, Nat.reduceAdd, Nat.add_zero, Nat.zero_add]; first | done | rfl) | rfl) (by first | (simp only [List.set_cons_succ, List.set_cons_zero]; first | done | rfl) | rfl) ?_ | refine sx_store1 1 rfl rfl rfl tyS3 rfl (by first | (simp only [List.length_cons, List.length_nil, Nat.reduceAdd, Nat.zero_add, Nat.add_zero]; first | done | rfl) | rfl) (by first | (simp only [List.set_cons_succ, List.set_cons_zero, Nat.reduceAdd, Nat.add_zero, Nat.zero_add]; first | done | rfl) | rfl) (by first | (simp only [List.set_cons_succ, List.set_cons_zero]; first | done | rfl) | rfl) ?_
    refine sx_nil (hZ _ _ ?_)
    refine awp_forget [(0, _), (3, _), (4, _), (5, _), (7, _), (8, _), (9, _), (10, _)] (Kn.cons rfl (Kn.cons rfl (Kn.cons rfl (Kn.cons rfl (Kn.cons rfl (Kn.cons rfl (Kn.cons rfl (Kn.cons rfl (Kn.nil))))))))) ?_

    refine awp_seq ?_
    refine awp_seq_region (fun Z hZ => ?_)
    refine sx_move rfl rfl ?_
    refine sx_nil (hZ _ _ ?_)
    refine awp_forget [(0, _), (3, _), (4, _), (5, _), (7, _), (8, _), (9, _), (10, _), (34, _)] (Kn.cons rfl (Kn.cons rfl (Kn.cons rfl (Kn.cons rfl (Kn.cons rfl (Kn.cons rfl (Kn.cons rfl (Kn.cons rfl (Kn.cons rfl (Kn.nil)))))))))) ?_
    refine awp_block ?_
    refine awp_range (fun k H => H = .own g4 3 [iq (k : Nat)] :: .own g2 4 [.bool false] :: mks ds) Jr (fun c H => c = .exit 2 ∧ most ≤ L.length ∧ H = .own g4 3 [iq (most : Nat)] :: .own g2 4 [.bool false] :: mks ds) (.own g4 3 [iq (0 : Nat)] :: .own g2 4 [.bool false] :: mks ds) hit rfl (fun k H h => by subst h; exact .cons rfl (.cons rfl (mks_wrs ds))) (fun c H h => by obtain ⟨_, _, rfl⟩ := h; exact .cons rfl (.cons rfl (mks_wrs ds))) hJro hROro (fun k vs h => by rw [List.getElem?_map] at h; cases hk : (List.range L.length)[k]? with | none => rw [hk] at h; cases h | some x => rw [hk] at h; obtain rfl := Option.some.inj h; rfl) rfl rfl (HLe.refl _) rfl ?_ ?_ ?_
    · intro k vs H hk hH l w1
      subst hH
      rw [List.getElem?_map] at hk
      cases hkx : (List.range L.length)[k]? with
      | none => rw [hkx] at hk; cases hk
      | some x =>
        rw [hkx] at hk
        obtain rfl := Option.some.inj hk
        obtain ⟨hkl, hxe⟩ := List.getElem?_eq_some_iff.1 hkx
        rw [List.getElem_range] at hxe
        subst hxe
        have hkl : k < L.length := by simpa using hkl
        have hat := atE_at hkl
        obtain ⟨ga, o, rfl⟩ := hA1.some (by omega)

        refine awp_seq_region (fun Z hZ => ?_)
        refine sx_assign rfl rfl ?_
        refine sx_nil (hZ _ _ ?_)
        refine awp_forget [(3, _), (4, _), (5, _), (10, _), (11, _), (36, _)] (Kn.cons rfl (Kn.cons rfl (Kn.cons rfl (Kn.cons rfl (Kn.cons rfl (Kn.cons rfl (Kn.nil))))))) ?_
        refine awp_region (fun Z hZ => ?_)
        refine sx_alloc tyZ51 rfl (fun g5 => ?_)
        first | refine sx_store 0 rfl rfl rfl tyS51 (by first | (simp only [Value.cells]; first | done | rfl) | rfl) rfl rfl (by first | (simp only [List.length_cons, List.length_nil, Nat.reduceAdd, Nat.zero_add, Nat.add_zero]; first | done | rfl) | rfl) (by first | (simp only [List.take_succ_cons, List.take_zero, List.drop_succ_cons, List.drop_zero, List.cons_append, List.nil_append, List.append_nil, List.length_cons, List.length_nil, Nat.reduceAdd, Nat.zero_add, Nat.add_zero, Value.cells, wrV]; first | done | rfl) | rfl) (by first | (simp only [List.set_cons_succ, List.set_cons_zero]; first | done | rfl) | rfl) ?_ | refine sx_store 1 rfl rfl rfl tyS51 (by first | (simp only [Value.cells]; first | done | rfl) | rfl) rfl rfl (by first | (simp only [List.length_cons, List.length_nil, Nat.reduceAdd, Nat.zero_add, Nat.add_zero]; first | done | rfl) | rfl) (by first | (simp only [List.take_succ_cons, List.take_zero, List.drop_succ_cons, List.drop_zero, List.cons_append, List.nil_append, List.append_nil, List.length_cons, List.length_nil, Nat.reduceAdd, Nat.zero_add, Nat.add_zero, Value.cells, wrV]; first | done | rfl) | rfl) (by first | (simp only [List.set_cons_succ, List.set_cons_zero]; first | done | rfl) | rfl) ?_ | refine sx_store 2 rfl rfl rfl tyS51 (by first | (simp only [Value.cells]; first | done | rfl) | rfl) rfl rfl (by first | (simp only [List.length_cons, List.length_nil, Nat.reduceAdd, Nat.zero_add, Nat.add_zero]; first | done | rfl) | rfl) (by first | (simp only [List.take_succ_cons, List.take_zero, List.drop_succ_cons, List.drop_zero, List.cons_append, List.nil_append, List.append_nil, List.length_cons, List.length_nil, Nat.reduceAdd, Nat.zero_add, Nat.add_zero, Value.cells, wrV]; first | done | rfl) | rfl) (by first | (simp only [List.set_cons_succ, List.set_cons_zero]; first | done | rfl) | rfl) ?_
        refine sx_nil (hZ _ _ ?_)
        refine nx_forget [(3, _), (4, _), (5, _), (10, _), (11, _), (12, _)] (Kn.cons rfl (Kn.cons rfl (Kn.cons rfl (Kn.cons rfl (Kn.cons rfl (Kn.cons rfl (Kn.nil))))))) ?_
        refine nx_assign [_] (.cons rfl .nil) (HLe.refl _) fun w2 => ?_
        refine awp_block ?_
        refine awp_heap ([.own g5 51 (atE L k).cells, .own g4 3 [iq (k : Nat)], .own g2 4 [.bool false], .ro g3 0 [.slice (some ⟨ga, o, none⟩) L.length c1], .ro g1 0 [.int .u8 (most : Int)], .ro ga o (ecells L)] ++ mks ds) (by subst hJr; exact fun _ _ _ hw => hw.perm (List.Perm.append_left [_, _, _] (List.perm_append_comm (l₁ := mks ds) (l₂ := [_, _, _])))) ?_

        refine awp_seq ?_
        refine awq_seq_meet [(3, ptr g1 0), (4, ptr g2 0), (10, ptr g4 0), (54, .bool false)] ([.own g5 51 (atE L k).cells, .own g4 3 [iq (k : Nat)], .own g2 4 [.bool false], .ro g3 0 [.slice (some ⟨ga, o, none⟩) L.length c1], .ro g1 0 [.int .u8 (most : Int)], .ro ga o (ecells L)] ++ mks ds) mixed (by kernel_rfl) (fun Z hZ => ?_) ?_
        · first | refine sq_load 0 rfl rfl tyA3 tyS3 rfl rfl ?_ | refine sq_load 1 rfl rfl tyA3 tyS3 rfl rfl ?_ | refine sq_load 2 rfl rfl tyA3 tyS3 rfl rfl ?_ | refine sq_load 3 rfl rfl tyA3 tyS3 rfl rfl ?_ | refine sq_load 4 rfl rfl tyA3 tyS3 rfl rfl ?_ | refine sq_load 5 rfl rfl tyA3 tyS3 rfl rfl ?_
          refine sq_loadRo 3 rfl rfl 0 rfl tyA27 tyS27 rfl rfl ?_
          first | refine sq_len Try.underlying27 rfl rfl ?_ | refine sq_lenS Try.underlying27 rfl rfl ?_
          first | refine sq_geq rfl rfl rfl ?_ | refine sq_sgeq rfl rfl rfl ?_
          refine sq_move rfl rfl ?_
          refine sq_force 41 rfl false (by first | rfl | (simp; done) | (simp; omega)) ?_
          refine sq_on rfl rfl rfl ?_
          refine sq_move rfl rfl ?_
          refine sq_on rfl rfl rfl ?_
          first | refine sq_load 0 rfl rfl tyA3 tyS3 rfl rfl ?_ | refine sq_load 1 rfl rfl tyA3 tyS3 rfl rfl ?_ | refine sq_load 2 rfl rfl tyA3 tyS3 rfl rfl ?_ | refine sq_load 3 rfl rfl tyA3 tyS3 rfl rfl ?_ | refine sq_load 4 rfl rfl tyA3 tyS3 rfl rfl ?_ | refine sq_load 5 rfl rfl tyA3 tyS3 rfl rfl ?_
          refine sq_on rfl rfl rfl ?_
          refine sq_conv Try.underlying3 Try.underlying48 rfl ((k : Nat) : Int) (by rw [IntWalk.u64_in _ (by omega)]) rfl ?_
          refine sq_on rfl rfl rfl ?_
          first | refine sq_neq rfl rfl rfl ?_ | refine sq_sneq rfl rfl rfl ?_
          refine sq_pick rfl rfl rfl ?_
          refine sq_move rfl rfl ?_
          refine sq_force 47 rfl false (by first | rfl | (simp; done) | (simp; omega)) ?_
          refine sq_on rfl rfl rfl ?_
          first | refine sq_loadA 0 rfl rfl tyA51 tyS51 (by first | (simp only [List.length_cons, List.length_nil, Nat.reduceAdd, Nat.zero_add, Nat.add_zero]; first | done | rfl) | rfl) (by first | (simp only [List.take_succ_cons, List.take_zero, List.drop_succ_cons, List.drop_zero, List.cons_append, List.nil_append, List.append_nil, List.length_cons, List.length_nil, Nat.reduceAdd, Nat.zero_add, Nat.add_zero, Value.cells, wrV]; first | done | rfl) | rfl) rfl ?_ | refine sq_loadA 1 rfl rfl tyA51 tyS51 (by first | (simp only [List.length_cons, List.length_nil, Nat.reduceAdd, Nat.zero_add, Nat.add_zero]; first | done | rfl) | rfl) (by first | (simp only [List.take_succ_cons, List.take_zero, List.drop_succ_cons, List.drop_zero, List.cons_append, List.nil_append, List.append_nil, List.length_cons, List.length_nil, Nat.reduceAdd, Nat.zero_add, Nat.add_zero, Value.cells, wrV]; first | done | rfl) | rfl) rfl ?_ | refine sq_loadA 2 rfl rfl tyA51 tyS51 (by first | (simp only [List.length_cons, List.length_nil, Nat.reduceAdd, Nat.zero_add, Nat.add_zero]; first | done | rfl) | rfl) (by first | (simp only [List.take_succ_cons, List.take_zero, List.drop_succ_cons, List.drop_zero, List.cons_append, List.nil_append, List.append_nil, List.length_cons, List.length_nil, Nat.reduceAdd, Nat.zero_add, Nat.add_zero, Value.cells, wrV]; first | done | rfl) | rfl) rfl ?_ | refine sq_loadA 3 rfl rfl tyA51 tyS51 (by first | (simp only [List.length_cons, List.length_nil, Nat.reduceAdd, Nat.zero_add, Nat.add_zero]; first | done | rfl) | rfl) (by first | (simp only [List.take_succ_cons, List.take_zero, List.drop_succ_cons, List.drop_zero, List.cons_append, List.nil_append, List.append_nil, List.length_cons, List.length_nil, Nat.reduceAdd, Nat.zero_add, Nat.add_zero, Value.cells, wrV]; first | done | rfl) | rfl) rfl ?_ | refine sq_loadA 4 rfl rfl tyA51 tyS51 (by first | (simp only [List.length_cons, List.length_nil, Nat.reduceAdd, Nat.zero_add, Nat.add_zero]; first | done | rfl) | rfl) (by first | (simp only [List.take_succ_cons, List.take_zero, List.drop_succ_cons, List.drop_zero, List.cons_append, List.nil_append, List.append_nil, List.length_cons, List.length_nil, Nat.reduceAdd, Nat.zero_add, Nat.add_zero, Value.cells, wrV]; first | done | rfl) | rfl) rfl ?_ | refine sq_loadA 5 rfl rfl tyA51 tyS51 (by first | (simp only [List.length_cons, List.length_nil, Nat.reduceAdd, Nat.zero_add, Nat.add_zero]; first | done | rfl) | rfl) (by first | (simp only [List.take_succ_cons, List.take_zero, List.drop_succ_cons, List.drop_zero, List.cons_append, List.nil_append, List.append_nil, List.length_cons, List.length_nil, Nat.reduceAdd, Nat.zero_add, Nat.add_zero, Value.cells, wrV]; first | done | rfl) | rfl) rfl ?_
          refine sq_on rfl rfl rfl ?_
          refine sq_loadRo 3 rfl rfl 0 rfl tyA27 tyS27 rfl rfl ?_
          refine sq_on rfl rfl rfl ?_
          first | refine sq_load 0 rfl rfl tyA3 tyS3 rfl rfl ?_ | refine sq_load 1 rfl rfl tyA3 tyS3 rfl rfl ?_ | refine sq_load 2 rfl rfl tyA3 tyS3 rfl rfl ?_ | refine sq_load 3 rfl rfl tyA3 tyS3 rfl rfl ?_ | refine sq_load 4 rfl rfl tyA3 tyS3 rfl rfl ?_ | refine sq_load 5 rfl rfl tyA3 tyS3 rfl rfl ?_
          refine sq_on rfl rfl rfl ?_
          refine sq_indexAddr (o + k * 4) Try.underlying27 tyS51 rfl rfl (by omega) (by simp) rfl ?_
          refine sq_on rfl rfl rfl ?_
          refine sq_loadRo 5 rfl rfl (k * 4) rfl tyA51 tyS51 (ecells_all hat) rfl ?_
          refine sq_on rfl rfl rfl ?_
          refine sq_aneq (en_eq (atE L k) (atE L k)) guard_en rfl rfl rfl ?_
          refine sq_pick rfl rfl rfl ?_
          refine sq_nil (hZ _ _ ?_ ?_)
          · exact Kn.cons rfl (Kn.cons rfl (Kn.cons rfl (Kn.cons (congrArg some (congrArg Value.bool (by rw [enq_iff.2 rfl]; rfl))) Kn.nil)))
          · exact HLe.refl _
        first | refine awp_cond rfl (fun h5 => ?_) (fun h5 => ?_) | refine awp_seq (awp_cond rfl (fun h5 => ?_) (fun h5 => ?_))
        · cases h5
        refine awp_skip ?_
        repeat (with_reducible (first | refine nx_block_normal ?_ | refine nx_scope_normal ?_))
        with_reducible first | refine nx_normal ?_ | refine nx_normalM ?_
        refine awp_seq_region (fun Z hZ => ?_)
        first | refine sx_load 0 rfl rfl tyA3 tyS3 rfl rfl ?_ | refine sx_load 1 rfl rfl tyA3 tyS3 rfl rfl ?_ | refine sx_load 2 rfl rfl tyA3 tyS3 rfl rfl ?_ | refine sx_load 3 rfl rfl tyA3 tyS3 rfl rfl ?_ | refine sx_load 4 rfl rfl tyA3 tyS3 rfl rfl ?_ | refine sx_load 5 rfl rfl tyA3 tyS3 rfl rfl ?_
        refine sx_add rfl rfl ((k + 1 : Nat) : Int) (by rw [IntWalk.i64_in _ (by omega)]; omega) rfl ?_
        first | refine sx_store1 0 rfl rfl rfl tyS3 rfl (by first | (simp only [List.length_cons, List.length_nil, Nat.reduceAdd, Nat.zero_add, Nat.add_zero]; first | done | rfl) | rfl) (by first | (simp only [List.set_cons_succ, List.set_cons_zero, Nat.reduceAdd, Nat.add_zero, Nat.zero_add]; first | done | rfl) | rfl) (by first | (simp only [List.set_cons_succ, List.set_cons_zero]; first | done | rfl) | rfl) ?_ | refine sx_store1 1 rfl rfl rfl tyS3 rfl (by first | (simp only [List.length_cons, List.length_nil, Nat.reduceAdd, Nat.zero_add, Nat.add_zero]; first | done | rfl) | rfl) (by first | (simp only [List.set_cons_succ, List.set_cons_zero, Nat.reduceAdd, Nat.add_zero, Nat.zero_add]; first | done | rfl) | rfl) (by first | (simp only [List.set_cons_succ, List.set_cons_zero]; first | done | rfl) | rfl) ?_ | refine sx_store1 2 rfl rfl rfl tyS3 rfl (by first | (simp only [List.length_cons, List.length_nil, Nat.reduceAdd, Nat.zero_add, Nat.add_zero]; first | done | rfl) | rfl) (by first | (simp only [List.set_cons_succ, List.set_cons_zero, Nat.reduceAdd, Nat.add_zero, Nat.zero_add]; first | done | rfl) | rfl) (by first | (simp only [List.set_cons_succ, List.set_cons_zero]; first | done | rfl) | rfl) ?_ | refine sx_store1 3 rfl rfl rfl tyS3 rfl (by first | (simp only [List.length_cons, List.length_nil, Nat.reduceAdd, Nat.zero_add, Nat.add_zero]; first | done | rfl) | rfl) (by first | (simp only [List.set_cons_succ, List.set_cons_zero, Nat.reduceAdd, Nat.add_zero, Nat.zero_add]; first | done | rfl) | rfl) (by first | (simp only [List.set_cons_succ, List.set_cons_zero]; first | done | rfl) | rfl) ?_ | refine sx_store1 4 rfl rfl rfl tyS3 rfl (by first | (simp only [List.length_cons, List.length_nil, Nat.reduceAdd, Nat.zero_add, Nat.add_zero]; first | done | rfl) | rfl) (by first | (simp only [List.set_cons_succ, List.set_cons_zero, Nat.reduceAdd, Nat.add_zero, Nat.zero_add]; first | done | rfl) | rfl) (by first | (simp only [List.set_cons_succ, List.set_cons_zero]; first | done | rfl) | rfl) ?_ | refine sx_store1 5 rfl rfl rfl tyS3 rfl (by first | (simp only [List.length_cons, List.length_nil, Nat.reduceAdd, Nat.zero_add, Nat.add_zero]; first | done | rfl) | rfl) (by first | (simp only [List.set_cons_succ, List.set_cons_zero, Nat.reduceAdd, Nat.add_zero, Nat.zero_add]; first | done | rfl) | rfl) (by first | (simp only [List.set_cons_succ, List.set_cons_zero]; first | done | rfl) | rfl) ?_
        refine sx_nil (hZ _ _ ?_)
        refine awp_forget [(3, _), (10, _)] (Kn.cons rfl (Kn.cons rfl (Kn.nil))) ?_
        refine awp_seq_region (fun Z hZ => ?_)
        first | refine sx_load 0 rfl rfl tyA3 tyS3 rfl rfl ?_ | refine sx_load 1 rfl rfl tyA3 tyS3 rfl rfl ?_ | refine sx_load 2 rfl rfl tyA3 tyS3 rfl rfl ?_ | refine sx_load 3 rfl rfl tyA3 tyS3 rfl rfl ?_ | refine sx_load 4 rfl rfl tyA3 tyS3 rfl rfl ?_ | refine sx_load 5 rfl rfl tyA3 tyS3 rfl rfl ?_
        refine sx_loadRo 4 rfl rfl 0 rfl tyA5 tyS5 rfl rfl ?_
        refine sx_conv Try.underlying5 Try.underlying3 rfl ((most : Nat) : Int) (by rw [IntWalk.i64_in _ (by omega)]) rfl ?_
        first | refine sx_eql rfl rfl rfl ?_ | refine sx_seql rfl rfl rfl ?_
        refine sx_nil (hZ _ _ ?_)
        refine awp_forget [(60, _)] (Kn.cons rfl (Kn.nil)) ?_
        have hdrop : ∀ v, HLe (.own g4 3 [v] :: .own g2 4 [.bool false] :: mks ds) ([.own g5 51 (atE L k).cells, .own g4 3 [v], .own g2 4 [.bool false], .ro g3 0 [.slice (some ⟨ga, o, none⟩) L.length c1], .ro g1 0 [.int .u8 (most : Int)], .ro ga o (ecells L)] ++ mks ds) := fun v => HLe.sub (List.Sublist.cons _ (List.Sublist.cons_cons _ (List.Sublist.cons_cons _ (List.Sublist.cons _ (List.Sublist.cons _ (List.Sublist.cons _ (List.Sublist.refl _)))))))
        first | refine awp_cond rfl (fun h6 => ?_) (fun h6 => ?_) | refine awp_seq (awp_cond rfl (fun h6 => ?_) (fun h6 => ?_))
        · have hkm : k + 1 = most := by simp at h6; omega
          refine awp_exit ?_
          refine nx_block_other (by decide) ?_
          subst hkm
          exact nx_stopExit _ ⟨rfl, by omega, rfl⟩ (hdrop _)
        · refine awp_skip ?_
          refine nx_block_normal ?_
          exact nx_next _ rfl (hdrop _)
    · intro D H hH
      subst hH
      rw [List.length_map, List.length_range]
      refine nx_block_normal ?_
      repeat (with_reducible (first | refine nx_block_normal ?_ | refine nx_scope_normal ?_))
      with_reducible first | refine nx_normal ?_ | refine nx_normalM ?_
      refine awp_heap (.ob D isDef :: .own g4 3 [iq (L.length : Nat)] :: .own g2 4 [.bool false] :: ([.ro g3 0 [.slice A1 L.length c1], .ro g1 0 [.int .u8 (most : Int)]] ++ (mks ds ++ (RO ++ roE A1 (ecells L))))) (by subst hJr; exact mid_le [.ob D isDef, .own g4 3 [iq (L.length : Nat)], .own g2 4 [.bool false]] (mks ds) RO [.ro g3 0 [.slice A1 L.length c1], .ro g1 0 [.int .u8 (most : Int)]] (roE A1 (ecells L))) ?_

      refine awp_seq_meet [(0, .string (str s)), (3, ptr g1 0), (4, ptr g2 0), (5, ptr g3 0), (7, iq f), (8, .func (.func 33) #[] #[ptr gE 0]), (9, iq (ds.length : Nat)), (76, .bool false)] (.ob D isDef :: .own g4 3 [iq (L.length : Nat)] :: .own g2 4 [.bool false] :: ([.ro g3 0 [.slice A1 L.length c1], .ro g1 0 [.int .u8 (most : Int)]] ++ (mks ds ++ (RO ++ roE A1 (ecells L))))) (fun Z hZ => ?_) ?_
      · first | refine sx_load 0 rfl rfl tyA3 tyS3 rfl rfl ?_ | refine sx_load 1 rfl rfl tyA3 tyS3 rfl rfl ?_ | refine sx_load 2 rfl rfl tyA3 tyS3 rfl rfl ?_ | refine sx_load 3 rfl rfl tyA3 tyS3 rfl rfl ?_ | refine sx_load 4 rfl rfl tyA3 tyS3 rfl rfl ?_
        refine sx_loadRo 3 rfl rfl 0 rfl tyA27 tyS27 rfl rfl ?_
        first | refine sx_len Try.underlying27 rfl rfl ?_ | refine sx_lenS Try.underlying27 rfl rfl ?_
        first | refine sx_neq rfl rfl rfl ?_ | refine sx_sneq rfl rfl rfl ?_
        refine sx_move rfl rfl ?_
        refine sx_split 65 rfl (fun hb4 => ?_) (fun hb4 => ?_)
        · refine sx_on rfl rfl rfl ?_
          first | refine sx_load 0 rfl rfl tyA3 tyS3 rfl rfl ?_ | refine sx_load 1 rfl rfl tyA3 tyS3 rfl rfl ?_ | refine sx_load 2 rfl rfl tyA3 tyS3 rfl rfl ?_ | refine sx_load 3 rfl rfl tyA3 tyS3 rfl rfl ?_ | refine sx_load 4 rfl rfl tyA3 tyS3 rfl rfl ?_
          refine sx_on rfl rfl rfl ?_
          refine sx_loadRo 4 rfl rfl 0 rfl tyA5 tyS5 rfl rfl ?_
          refine sx_on rfl rfl rfl ?_
          refine sx_conv Try.underlying5 Try.underlying3 rfl ((most : Nat) : Int) (by rw [IntWalk.i64_in _ (by omega)]) rfl ?_
          refine sx_on rfl rfl rfl ?_
          first | refine sx_neq rfl rfl rfl ?_ | refine sx_sneq rfl rfl rfl ?_
          refine sx_on rfl rfl rfl ?_
          refine sx_move rfl rfl ?_
          refine sx_split 70 rfl (fun hb9 => ?_) (fun hb9 => ?_)
          · refine sx_off rfl rfl rfl rfl rfl ?_
            refine sx_off rfl rfl rfl rfl rfl ?_
            refine sx_off rfl rfl rfl rfl rfl ?_
            refine sx_off rfl rfl rfl rfl rfl ?_
            refine sx_on rfl rfl rfl ?_
            refine sx_pick rfl rfl rfl ?_
            refine sx_pick rfl rfl rfl ?_
            refine sx_nil (hZ _ _ ?_ ?_)
            · first | (exfalso; simp at *; done) | (exfalso; simp at *; omega) | exact Kn.cons rfl (Kn.cons rfl (Kn.cons rfl (Kn.cons rfl (Kn.cons rfl (Kn.cons rfl (Kn.cons rfl (Kn.cons (congrArg some (congrArg Value.bool (by first | rfl | (simp; done) | (simp; omega)))) Kn.nil)))))))
            · exact HLe.refl _
          · refine sx_on rfl rfl rfl ?_
            first | refine sx_load 0 rfl rfl tyA3 tyS3 rfl rfl ?_ | refine sx_load 1 rfl rfl tyA3 tyS3 rfl rfl ?_ | refine sx_load 2 rfl rfl tyA3 tyS3 rfl rfl ?_ | refine sx_load 3 rfl rfl tyA3 tyS3 rfl rfl ?_ | refine sx_load 4 rfl rfl tyA3 tyS3 rfl rfl ?_
            refine sx_on rfl rfl rfl ?_
            refine sx_loadRo 3 rfl rfl 0 rfl tyA27 tyS27 rfl rfl ?_
            refine sx_on rfl rfl rfl ?_
            first | refine sx_len Try.underlying27 rfl rfl ?_ | refine sx_lenS Try.underlying27 rfl rfl ?_
            refine sx_on rfl rfl rfl ?_
            first | refine sx_gtr rfl rfl rfl ?_ | refine sx_sgtr rfl rfl rfl ?_
            refine sx_on rfl rfl rfl ?_
            refine sx_pick rfl rfl rfl ?_
            refine sx_pick rfl rfl rfl ?_
            refine sx_nil (hZ _ _ ?_ ?_)
            · first | (exfalso; simp at *; done) | (exfalso; simp at *; omega) | exact Kn.cons rfl (Kn.cons rfl (Kn.cons rfl (Kn.cons rfl (Kn.cons rfl (Kn.cons rfl (Kn.cons rfl (Kn.cons (congrArg some (congrArg Value.bool (by first | rfl | (simp; done) | (simp; omega)))) Kn.nil)))))))
            · exact HLe.refl _
        · refine sx_off rfl rfl rfl rfl rfl ?_
          refine sx_off rfl rfl rfl rfl rfl ?_
          refine sx_off rfl rfl rfl rfl rfl ?_
          refine sx_off rfl rfl rfl rfl rfl ?_
          refine sx_off rfl rfl rfl rfl rfl ?_
          refine sx_offU rfl rfl rfl rfl ?_
          refine sx_offU rfl rfl rfl rfl ?_
          refine sx_offU rfl rfl rfl rfl ?_
          refine sx_offU rfl rfl rfl rfl ?_
          refine sx_off rfl rfl rfl rfl rfl ?_
          refine sx_pick rfl rfl rfl ?_
          refine sx_nil (hZ _ _ ?_ ?_)
          · first | (exfalso; simp at *; done) | (exfalso; simp at *; omega) | exact Kn.cons rfl (Kn.cons rfl (Kn.cons rfl (Kn.cons rfl (Kn.cons rfl (Kn.cons rfl (Kn.cons rfl (Kn.cons (congrArg some (congrArg Value.bool (by first | rfl | (simp; done) | (simp; omega)))) Kn.nil)))))))
          · exact HLe.refl _
      first | refine awp_cond rfl (fun h6 => ?_) (fun h6 => ?_) | refine awp_seq (awp_cond rfl (fun h6 => ?_) (fun h6 => ?_))
      · cases h6
      refine awp_skip ?_
      repeat (with_reducible (first | refine nx_block_normal ?_ | refine nx_scope_normal ?_))
      with_reducible first | refine nx_normal ?_ | refine nx_normalM ?_
      refine awp_region (fun Z hZ => ?_)
      refine sx_move rfl rfl ?_
      refine sx_add rfl rfl ((ds.length + 1 : Nat) : Int) (by rw [IntWalk.i64_in _ (by omega)]; omega) rfl ?_
      refine sx_assign rfl rfl ?_
      refine sx_nil (hZ _ _ ?_)
      refine nx_forget [(0, _), (3, _), (4, _), (5, _), (7, _), (8, _), (9, _)] (Kn.cons rfl (Kn.cons rfl (Kn.cons rfl (Kn.cons rfl (Kn.cons rfl (Kn.cons rfl (Kn.cons rfl (Kn.nil)))))))) ?_
      refine nx_roundM (D :: ds) (by simp; omega) (by simp; omega) rfl (Kn.cons rfl (Kn.cons rfl (Kn.cons rfl (Kn.cons rfl (Kn.cons rfl (Kn.cons rfl (Kn.cons rfl Kn.nil))))))) ?_
      subst hJr
      exact back_le _ _ _ (mks ds) RO [.ro g3 0 [.slice A1 L.length c1], .ro g1 0 [.int .u8 (most : Int)]] (roE A1 (ecells L))
    · rintro D c H ⟨rfl, hml, rfl⟩
      refine awp_exit ?_
      refine nx_block_exit ?_
      repeat (with_reducible (first | refine nx_block_normal ?_ | refine nx_scope_normal ?_))
      with_reducible first | refine nx_normal ?_ | refine nx_normalM ?_
      refine awp_heap (.ob D isDef :: .own g4 3 [iq (most : Nat)] :: .own g2 4 [.bool false] :: ([.ro g3 0 [.slice A1 L.length c1], .ro g1 0 [.int .u8 (most : Int)]] ++ (mks ds ++ (RO ++ roE A1 (ecells L))))) (by subst hJr; exact mid_le [.ob D isDef, .own g4 3 [iq (most : Nat)], .own g2 4 [.bool false]] (mks ds) RO [.ro g3 0 [.slice A1 L.length c1], .ro g1 0 [.int .u8 (most : Int)]] (roE A1 (ecells L))) ?_

      refine awp_seq_meet [(0, .string (str s)), (3, ptr g1 0), (4, ptr g2 0), (5, ptr g3 0), (7, iq f), (8, .func (.func 33) #[] #[ptr gE 0]), (9, iq (ds.length : Nat)), (76, .bool false)] (.ob D isDef :: .own g4 3 [iq (most : Nat)] :: .own g2 4 [.bool false] :: ([.ro g3 0 [.slice A1 L.length c1], .ro g1 0 [.int .u8 (most : Int)]] ++ (mks ds ++ (RO ++ roE A1 (ecells L))))) (fun Z hZ => ?_) ?_
      · first | refine sx_load 0 rfl rfl tyA3 tyS3 rfl rfl ?_ | refine sx_load 1 rfl rfl tyA3 tyS3 rfl rfl ?_ | refine sx_load 2 rfl rfl tyA3 tyS3 rfl rfl ?_ | refine sx_load 3 rfl rfl tyA3 tyS3 rfl rfl ?_ | refine sx_load 4 rfl rfl tyA3 tyS3 rfl rfl ?_
        refine sx_loadRo 3 rfl rfl 0 rfl tyA27 tyS27 rfl rfl ?_
        first | refine sx_len Try.underlying27 rfl rfl ?_ | refine sx_lenS Try.underlying27 rfl rfl ?_
        first | refine sx_neq rfl rfl rfl ?_ | refine sx_sneq rfl rfl rfl ?_
        refine sx_move rfl rfl ?_
        refine sx_split 65 rfl (fun hb4 => ?_) (fun hb4 => ?_)
        · refine sx_on rfl rfl rfl ?_
          first | refine sx_load 0 rfl rfl tyA3 tyS3 rfl rfl ?_ | refine sx_load 1 rfl rfl tyA3 tyS3 rfl rfl ?_ | refine sx_load 2 rfl rfl tyA3 tyS3 rfl rfl ?_ | refine sx_load 3 rfl rfl tyA3 tyS3 rfl rfl ?_ | refine sx_load 4 rfl rfl tyA3 tyS3 rfl rfl ?_
          refine sx_on rfl rfl rfl ?_
          refine sx_loadRo 4 rfl rfl 0 rfl tyA5 tyS5 rfl rfl ?_
          refine sx_on rfl rfl rfl ?_
          refine sx_conv Try.underlying5 Try.underlying3 rfl ((most : Nat) : Int) (by rw [IntWalk.i64_in _ (by omega)]) rfl ?_
          refine sx_on rfl rfl rfl ?_
          first | refine sx_neq rfl rfl rfl ?_ | refine sx_sneq rfl rfl rfl ?_
          refine sx_on rfl rfl rfl ?_
          refine sx_move rfl rfl ?_
          refine sx_split 70 rfl (fun hb9 => ?_) (fun hb9 => ?_)
          · refine sx_off rfl rfl rfl rfl rfl ?_
            refine sx_off rfl rfl rfl rfl rfl ?_
            refine sx_off rfl rfl rfl rfl rfl ?_
            refine sx_off rfl rfl rfl rfl rfl ?_
            refine sx_on rfl rfl rfl ?_
            refine sx_pick rfl rfl rfl ?_
            refine sx_pick rfl rfl rfl ?_
            refine sx_nil (hZ _ _ ?_ ?_)
            · first | (exfalso; simp at *; done) | (exfalso; simp at *; omega) | exact Kn.cons rfl (Kn.cons rfl (Kn.cons rfl (Kn.cons rfl (Kn.cons rfl (Kn.cons rfl (Kn.cons rfl (Kn.cons (congrArg some (congrArg Value.bool (by first | rfl | (simp; done) | (simp; omega)))) Kn.nil)))))))
            · exact HLe.refl _
          · refine sx_on rfl rfl rfl ?_
            first | refine sx_load 0 rfl rfl tyA3 tyS3 rfl rfl ?_ | refine sx_load 1 rfl rfl tyA3 tyS3 rfl rfl ?_ | refine sx_load 2 rfl rfl tyA3 tyS3 rfl rfl ?_ | refine sx_load 3 rfl rfl tyA3 tyS3 rfl rfl ?_ | refine sx_load 4 rfl rfl tyA3 tyS3 rfl rfl ?_
            refine sx_on rfl rfl rfl ?_
            refine sx_loadRo 3 rfl rfl 0 rfl tyA27 tyS27 rfl rfl ?_
            refine sx_on rfl rfl rfl ?_
            first | refine sx_len Try.underlying27 rfl rfl ?_ | refine sx_lenS Try.underlying27 rfl rfl ?_
            refine sx_on rfl rfl rfl ?_
            first | refine sx_gtr rfl rfl rfl ?_ | refine sx_sgtr rfl rfl rfl ?_
            refine sx_on rfl rfl rfl ?_
            refine sx_pick rfl rfl rfl ?_
            refine sx_pick rfl rfl rfl ?_
            refine sx_nil (hZ _ _ ?_ ?_)
            · first | (exfalso; simp at *; done) | (exfalso; simp at *; omega) | exact Kn.cons rfl (Kn.cons rfl (Kn.cons rfl (Kn.cons rfl (Kn.cons rfl (Kn.cons rfl (Kn.cons rfl (Kn.cons (congrArg some (congrArg Value.bool (by first | rfl | (simp; done) | (simp; omega)))) Kn.nil)))))))
            · exact HLe.refl _
        · refine sx_off rfl rfl rfl rfl rfl ?_
          refine sx_off rfl rfl rfl rfl rfl ?_
          refine sx_off rfl rfl rfl rfl rfl ?_
          refine sx_off rfl rfl rfl rfl rfl ?_
          refine sx_off rfl rfl rfl rfl rfl ?_
          refine sx_offU rfl rfl rfl rfl ?_
          refine sx_offU rfl rfl rfl rfl ?_
          refine sx_offU rfl rfl rfl rfl ?_
          refine sx_offU rfl rfl rfl rfl ?_
          refine sx_off rfl rfl rfl rfl rfl ?_
          refine sx_pick rfl rfl rfl ?_
          refine sx_nil (hZ _ _ ?_ ?_)
          · first | (exfalso; simp at *; done) | (exfalso; simp at *; omega) | exact Kn.cons rfl (Kn.cons rfl (Kn.cons rfl (Kn.cons rfl (Kn.cons rfl (Kn.cons rfl (Kn.cons rfl (Kn.cons (congrArg some (congrArg Value.bool (by first | rfl | (simp; done) | (simp; omega)))) Kn.nil)))))))
          · exact HLe.refl _
      first | refine awp_cond rfl (fun h6 => ?_) (fun h6 => ?_) | refine awp_seq (awp_cond rfl (fun h6 => ?_) (fun h6 => ?_))
      · cases h6
      refine awp_skip ?_
      repeat (with_reducible (first | refine nx_block_normal ?_ | refine nx_scope_normal ?_))
      with_reducible first | refine nx_normal ?_ | refine nx_normalM ?_
      refine awp_region (fun Z hZ => ?_)
      refine sx_move rfl rfl ?_
      refine sx_add rfl rfl ((ds.length + 1 : Nat) : Int) (by rw [IntWalk.i64_in _ (by omega)]; omega) rfl ?_
      refine sx_assign rfl rfl ?_
      refine sx_nil (hZ _ _ ?_)
      refine nx_forget [(0, _), (3, _), (4, _), (5, _), (7, _), (8, _), (9, _)] (Kn.cons rfl (Kn.cons rfl (Kn.cons rfl (Kn.cons rfl (Kn.cons rfl (Kn.cons rfl (Kn.cons rfl (Kn.nil)))))))) ?_
      refine nx_roundM (D :: ds) (by simp; omega) (by simp; omega) rfl (Kn.cons rfl (Kn.cons rfl (Kn.cons rfl (Kn.cons rfl (Kn.cons rfl (Kn.cons rfl (Kn.cons rfl Kn.nil))))))) ?_
      subst hJr
      exact back_le _ _ _ (mks ds) RO [.ro g3 0 [.slice A1 L.length c1], .ro g1 0 [.int .u8 (most : Int)]] (roE A1 (ecells L))
  · have hd2 : ds.length = 2 := by simp at h; omega
    obtain ⟨Da, Db, rfl⟩ : ∃ a b, ds = [a, b] := by
      match ds, hd2 with
      | [a, b], _ => exact ⟨a, b, rfl⟩
    refine awp_exit ?_
    repeat (with_reducible (first | refine nx_then_exit ?_ | refine nx_block_other (by decide) ?_ | refine nx_scope_exit ?_))
    with_reducible refine nx_block_exit ?_
    repeat (with_reducible (first | refine nx_block_normal ?_ | refine nx_scope_normal ?_))
    with_reducible first | refine nx_normal ?_ | refine nx_normalM ?_
    refine awp_heap (.own g2 4 [.bool false] :: .ob Da isDef :: .ob Db isDef :: .ro g3 0 [.slice A1 L.length c1] :: []) (by subst hJr; exact HLe.sub (List.Sublist.cons_cons _ (List.Sublist.cons_cons _ (List.Sublist.cons_cons _ ((List.Sublist.cons_cons _ (List.nil_sublist _)).trans (List.sublist_append_right RO _)))))) ?_

    refine awp_seq_region (fun Z hZ => ?_)
    refine sx_move rfl rfl ?_
    refine sx_move rfl rfl ?_
    first | refine sx_len Try.underlying9 rfl rfl ?_ | refine sx_lenS Try.underlying9 rfl rfl ?_
    refine sx_sub rfl rfl ((65537 - s.length : Nat) : Int) (by rw [IntWalk.i64_in _ (by omega)]; omega) rfl ?_
    refine sx_callP hrep rfl rfl ?_
    refine sx_cat rfl rfl (by rw [Lib.repeatL_length]; simp; omega) rfl ?_
    refine sx_callO [] [_, _, _, _] hDb rfl (HLe.refl _) rfl ?_
    rintro v H' ⟨u, rfl, hu, rfl⟩
    rw [rowE_flt]
    refine sx_heap [.own g2 4 [.bool false], .ob Da isDef, .ob Db isDef, .ro g3 0 [.slice A1 L.length c1]] (HLe.sub (List.sublist_append_right _ _)) ?_
    obtain ⟨A4, c4, rfl, hA4⟩ := hu.form
    refine sx_move rfl rfl ?_
    refine sx_extract rfl rfl rfl ?_
    refine sx_extract rfl rfl rfl ?_
    refine sx_extract rfl rfl rfl ?_
    refine sx_assign rfl rfl ?_
    refine sx_assign rfl rfl ?_
    refine sx_assign rfl rfl ?_
    refine sx_nil (hZ _ _ ?_)
    refine awp_forget [(4, _), (5, _), (7, _), (14, _), (15, _)] (Kn.cons rfl (Kn.cons rfl (Kn.cons rfl (Kn.cons rfl (Kn.cons rfl (Kn.nil)))))) ?_
    have hor : f = 0 ∨ L = [] := by
      rcases Nat.eq_zero_or_pos f with h0 | h0
      · exact .inl h0
      · exact .inr (d4 (by omega))
    rcases hor with rfl | rfl
    · refine awp_seq_meet [(4, ptr g2 0)] [.own g2 4 [.bool true], .ob Da isDef, .ob Db isDef] (fun Z hZ => ?_) ?_
      · refine sx_move rfl rfl ?_
        first | refine sx_eql rfl rfl rfl ?_ | refine sx_seql rfl rfl rfl ?_
        refine sx_move rfl rfl ?_
        refine sx_split 90 rfl (fun hb2 => ?_) (fun hb2 => ?_)
        · refine sx_off rfl rfl rfl rfl rfl ?_
          refine sx_off rfl rfl rfl rfl rfl ?_
          refine sx_off rfl rfl rfl rfl rfl ?_
          refine sx_pick rfl rfl rfl ?_
          refine sx_move rfl rfl ?_
          refine sx_on rfl rfl rfl ?_
          refine sx_move rfl rfl ?_
          refine sx_on rfl rfl rfl ?_
          first | refine sx_eql rfl rfl rfl ?_ | refine sx_seql rfl rfl rfl ?_
          refine sx_pick rfl rfl rfl ?_
          refine sx_move rfl rfl ?_
          refine sx_split 99 rfl (fun hb11 => ?_) (fun hb11 => ?_)
          · refine sx_on rfl rfl rfl ?_
            refine sx_move rfl rfl ?_
            refine sx_on rfl rfl rfl ?_
            first | refine sx_eql rfl rfl rfl ?_ | refine sx_seql rfl rfl rfl ?_
            refine sx_pick rfl rfl rfl ?_
            refine sx_move rfl rfl ?_
            refine sx_split 103 rfl (fun hb15 => ?_) (fun hb15 => ?_)
            · refine sx_on rfl rfl rfl ?_
              refine sx_callP awake_fn rfl rfl ?_
              refine sx_pick rfl rfl rfl ?_
              first | refine sx_store1 0 rfl rfl rfl tyS4 rfl (by first | (simp only [List.length_cons, List.length_nil, Nat.reduceAdd, Nat.zero_add, Nat.add_zero]; first | done | rfl) | rfl) (by first | (simp only [List.set_cons_succ, List.set_cons_zero, Nat.reduceAdd, Nat.add_zero, Nat.zero_add]; first | done | rfl) | rfl) (by first | (simp only [List.set_cons_succ, List.set_cons_zero]; first | done | rfl) | rfl) ?_ | refine sx_store1 1 rfl rfl rfl tyS4 rfl (by first | (simp only [List.length_cons, List.length_nil, Nat.reduceAdd, Nat.zero_add, Nat.add_zero]; first | done | rfl) | rfl) (by first | (simp only [List.set_cons_succ, List.set_cons_zero, Nat.reduceAdd, Nat.add_zero, Nat.zero_add]; first | done | rfl) | rfl) (by first | (simp only [List.set_cons_succ, List.set_cons_zero]; first | done | rfl) | rfl) ?_ | refine sx_store1 2 rfl rfl rfl tyS4 rfl (by first | (simp only [List.length_cons, List.length_nil, Nat.reduceAdd, Nat.zero_add, Nat.add_zero]; first | done | rfl) | rfl) (by first | (simp only [List.set_cons_succ, List.set_cons_zero, Nat.reduceAdd, Nat.add_zero, Nat.zero_add]; first | done | rfl) | rfl) (by first | (simp only [List.set_cons_succ, List.set_cons_zero]; first | done | rfl) | rfl) ?_ | refine sx_store1 3 rfl rfl rfl tyS4 rfl (by first | (simp only [List.length_cons, List.length_nil, Nat.reduceAdd, Nat.zero_add, Nat.add_zero]; first | done | rfl) | rfl) (by first | (simp only [List.set_cons_succ, List.set_cons_zero, Nat.reduceAdd, Nat.add_zero, Nat.zero_add]; first | done | rfl) | rfl) (by first | (simp only [List.set_cons_succ, List.set_cons_zero]; first | done | rfl) | rfl) ?_
              refine sx_nil (hZ _ _ ?_ ?_)
              · first | (exfalso; simp at *; done) | exact Kn.cons rfl Kn.nil
              · first | (exfalso; simp at *; done) | exact HLe.pick [0, 1, 2] (by simp) rfl
            · refine sx_off rfl rfl rfl rfl rfl ?_
              refine sx_pick rfl rfl rfl ?_
              first | refine sx_store1 0 rfl rfl rfl tyS4 rfl (by first | (simp only [List.length_cons, List.length_nil, Nat.reduceAdd, Nat.zero_add, Nat.add_zero]; first | done | rfl) | rfl) (by first | (simp only [List.set_cons_succ, List.set_cons_zero, Nat.reduceAdd, Nat.add_zero, Nat.zero_add]; first | done | rfl) | rfl) (by first | (simp only [List.set_cons_succ, List.set_cons_zero]; first | done | rfl) | rfl) ?_ | refine sx_store1 1 rfl rfl rfl tyS4 rfl (by first | (simp only [List.length_cons, List.length_nil, Nat.reduceAdd, Nat.zero_add, Nat.add_zero]; first | done | rfl) | rfl) (by first | (simp only [List.set_cons_succ, List.set_cons_zero, Nat.reduceAdd, Nat.add_zero, Nat.zero_add]; first | done | rfl) | rfl) (by first | (simp only [List.set_cons_succ, List.set_cons_zero]; first | done | rfl) | rfl) ?_ | refine sx_store1 2 rfl rfl rfl tyS4 rfl (by first | (simp only [List.length_cons, List.length_nil, Nat.reduceAdd, Nat.zero_add, Nat.add_zero]; first | done | rfl) | rfl) (by first | (simp only [List.set_cons_succ, List.set_cons_zero, Nat.reduceAdd, Nat.add_zero, Nat.zero_add]; first | done | rfl) | rfl) (by first | (simp only [List.set_cons_succ, List.set_cons_zero]; first | done | rfl) | rfl) ?_ | refine sx_store1 3 rfl rfl rfl tyS4 rfl (by first | (simp only [List.length_cons, List.length_nil, Nat.reduceAdd, Nat.zero_add, Nat.add_zero]; first | done | rfl) | rfl) (by first | (simp only [List.set_cons_succ, List.set_cons_zero, Nat.reduceAdd, Nat.add_zero, Nat.zero_add]; first | done | rfl) | rfl) (by first | (simp only [List.set_cons_succ, List.set_cons_zero]; first | done | rfl) | rfl) ?_
              refine sx_nil (hZ _ _ ?_ ?_)
              · first | (exfalso; simp at *; done) | exact Kn.cons rfl Kn.nil
              · first | (exfalso; simp at *; done) | exact HLe.pick [0, 1, 2] (by simp) rfl
          · refine sx_off rfl rfl rfl rfl rfl ?_
            refine sx_off rfl rfl rfl rfl rfl ?_
            refine sx_pick rfl rfl rfl ?_
            refine sx_move rfl rfl ?_
            refine sx_off rfl rfl rfl rfl rfl ?_
            refine sx_pick rfl rfl rfl ?_
            first | refine sx_store1 0 rfl rfl rfl tyS4 rfl (by first | (simp only [List.length_cons, List.length_nil, Nat.reduceAdd, Nat.zero_add, Nat.add_zero]; first | done | rfl) | rfl) (by first | (simp only [List.set_cons_succ, List.set_cons_zero, Nat.reduceAdd, Nat.add_zero, Nat.zero_add]; first | done | rfl) | rfl) (by first | (simp only [List.set_cons_succ, List.set_cons_zero]; first | done | rfl) | rfl) ?_ | refine sx_store1 1 rfl rfl rfl tyS4 rfl (by first | (simp only [List.length_cons, List.length_nil, Nat.reduceAdd, Nat.zero_add, Nat.add_zero]; first | done | rfl) | rfl) (by first | (simp only [List.set_cons_succ, List.set_cons_zero, Nat.reduceAdd, Nat.add_zero, Nat.zero_add]; first | done | rfl) | rfl) (by first | (simp only [List.set_cons_succ, List.set_cons_zero]; first | done | rfl) | rfl) ?_ | refine sx_store1 2 rfl rfl rfl tyS4 rfl (by first | (simp only [List.length_cons, List.length_nil, Nat.reduceAdd, Nat.zero_add, Nat.add_zero]; first | done | rfl) | rfl) (by first | (simp only [List.set_cons_succ, List.set_cons_zero, Nat.reduceAdd, Nat.add_zero, Nat.zero_add]; first | done | rfl) | rfl) (by first | (simp only [List.set_cons_succ, List.set_cons_zero]; first | done | rfl) | rfl) ?_ | refine sx_store1 3 rfl rfl rfl tyS4 rfl (by first | (simp only [List.length_cons, List.length_nil, Nat.reduceAdd, Nat.zero_add, Nat.add_zero]; first | done | rfl) | rfl) (by first | (simp only [List.set_cons_succ, List.set_cons_zero, Nat.reduceAdd, Nat.add_zero, Nat.zero_add]; first | done | rfl) | rfl) (by first | (simp only [List.set_cons_succ, List.set_cons_zero]; first | done | rfl) | rfl) ?_
            refine sx_nil (hZ _ _ ?_ ?_)
            · first | (exfalso; simp at *; done) | exact Kn.cons rfl Kn.nil
            · first | (exfalso; simp at *; done) | exact HLe.pick [0, 1, 2] (by simp) rfl
        · refine sx_on rfl rfl rfl ?_
          refine sx_loadRo 3 rfl rfl 0 rfl tyA27 tyS27 rfl rfl ?_
          refine sx_on rfl rfl rfl ?_
          first | refine sx_len Try.underlying27 rfl rfl ?_ | refine sx_lenS Try.underlying27 rfl rfl ?_
          refine sx_on rfl rfl rfl ?_
          first | refine sx_eql rfl rfl rfl ?_ | refine sx_seql rfl rfl rfl ?_
          refine sx_pick rfl rfl rfl ?_
          refine sx_move rfl rfl ?_
          refine sx_split 95 rfl (fun hb7 => ?_) (fun hb7 => ?_)
          · refine sx_on rfl rfl rfl ?_
            refine sx_move rfl rfl ?_
            refine sx_on rfl rfl rfl ?_
            first | refine sx_eql rfl rfl rfl ?_ | refine sx_seql rfl rfl rfl ?_
            refine sx_pick rfl rfl rfl ?_
            refine sx_move rfl rfl ?_
            refine sx_split 99 rfl (fun hb11 => ?_) (fun hb11 => ?_)
            · refine sx_on rfl rfl rfl ?_
              refine sx_move rfl rfl ?_
              refine sx_on rfl rfl rfl ?_
              first | refine sx_eql rfl rfl rfl ?_ | refine sx_seql rfl rfl rfl ?_
              refine sx_pick rfl rfl rfl ?_
              refine sx_move rfl rfl ?_
              refine sx_split 103 rfl (fun hb15 => ?_) (fun hb15 => ?_)
              · refine sx_on rfl rfl rfl ?_
                refine sx_callP awake_fn rfl rfl ?_
                refine sx_pick rfl rfl rfl ?_
                first | refine sx_store1 0 rfl rfl rfl tyS4 rfl (by first | (simp only [List.length_cons, List.length_nil, Nat.reduceAdd, Nat.zero_add, Nat.add_zero]; first | done | rfl) | rfl) (by first | (simp only [List.set_cons_succ, List.set_cons_zero, Nat.reduceAdd, Nat.add_zero, Nat.zero_add]; first | done | rfl) | rfl) (by first | (simp only [List.set_cons_succ, List.set_cons_zero]; first | done | rfl) | rfl) ?_ | refine sx_store1 1 rfl rfl rfl tyS4 rfl (by first | (simp only [List.length_cons, List.length_nil, Nat.reduceAdd, Nat.zero_add, Nat.add_zero]; first | done | rfl) | rfl) (by first | (simp only [List.set_cons_succ, List.set_cons_zero, Nat.reduceAdd, Nat.add_zero, Nat.zero_add]; first | done | rfl) | rfl) (by first | (simp only [List.set_cons_succ, List.set_cons_zero]; first | done | rfl) | rfl) ?_ | refine sx_store1 2 rfl rfl rfl tyS4 rfl (by first | (simp only [List.length_cons, List.length_nil, Nat.reduceAdd, Nat.zero_add, Nat.add_zero]; first | done | rfl) | rfl) (by first | (simp only [List.set_cons_succ, List.set_cons_zero, Nat.reduceAdd, Nat.add_zero, Nat.zero_add]; first | done | rfl) | rfl) (by first | (simp only [List.set_cons_succ, List.set_cons_zero]; first | done | rfl) | rfl) ?_ | refine sx_store1 3 rfl rfl rfl tyS4 rfl (by first | (simp only [List.length_cons, List.length_nil, Nat.reduceAdd, Nat.zero_add, Nat.add_zero]; first | done | rfl) | rfl) (by first | (simp only [List.set_cons_succ, List.set_cons_zero, Nat.reduceAdd, Nat.add_zero, Nat.zero_add]; first | done | rfl) | rfl) (by first | (simp only [List.set_cons_succ, List.set_cons_zero]; first | done | rfl) | rfl) ?_
                refine sx_nil (hZ _ _ ?_ ?_)
                · first | (exfalso; simp at *; done) | exact Kn.cons rfl Kn.nil
                · first | (exfalso; simp at *; done) | exact HLe.pick [0, 1, 2] (by simp) rfl
              · refine sx_off rfl rfl rfl rfl rfl ?_
                refine sx_pick rfl rfl rfl ?_
                first | refine sx_store1 0 rfl rfl rfl tyS4 rfl (by first | (simp only [List.length_cons, List.length_nil, Nat.reduceAdd, Nat.zero_add, Nat.add_zero]; first | done | rfl) | rfl) (by first | (simp only [List.set_cons_succ, List.set_cons_zero, Nat.reduceAdd, Nat.add_zero, Nat.zero_add]; first | done | rfl) | rfl) (by first | (simp only [List.set_cons_succ, List.set_cons_zero]; first | done | rfl) | rfl) ?_ | refine sx_store1 1 rfl rfl rfl tyS4 rfl (by first | (simp only [List.length_cons, List.length_nil, Nat.reduceAdd, Nat.zero_add, Nat.add_zero]; first | done | rfl) | rfl) (by first | (simp only [List.set_cons_succ, List.set_cons_zero, Nat.reduceAdd, Nat.add_zero, Nat.zero_add]; first | done | rfl) | rfl) (by first | (simp only [List.set_cons_succ, List.set_cons_zero]; first | done | rfl) | rfl) ?_ | refine sx_store1 2 rfl rfl rfl tyS4 rfl (by first | (simp only [List.length_cons, List.length_nil, Nat.reduceAdd, Nat.zero_add, Nat.add_zero]; first | done | rfl) | rfl) (by first | (simp only [List.set_cons_succ, List.set_cons_zero, Nat.reduceAdd, Nat.add_zero, Nat.zero_add]; first | done | rfl) | rfl) (by first | (simp only [List.set_cons_succ, List.set_cons_zero]; first | done | rfl) | rfl) ?_ | refine sx_store1 3 rfl rfl rfl tyS4 rfl (by first | (simp only [List.length_cons, List.length_nil, Nat.reduceAdd, Nat.zero_add, Nat.add_zero]; first | done | rfl) | rfl) (by first | (simp only [List.set_cons_succ, List.set_cons_zero, Nat.reduceAdd, Nat.add_zero, Nat.zero_add]; first | done | rfl) | rfl) (by first | (simp only [List.set_cons_succ, List.set_cons_zero]; first | done | rfl) | rfl) ?_
                refine sx_nil (hZ _ _ ?_ ?_)
                · first | (exfalso; simp at *; done) | exact Kn.cons rfl Kn.nil
                · first | (exfalso; simp at *; done) | exact HLe.pick [0, 1, 2] (by simp) rfl
            · refine sx_off rfl rfl rfl rfl rfl ?_
              refine sx_off rfl rfl rfl rfl rfl ?_
              refine sx_pick rfl rfl rfl ?_
              refine sx_move rfl rfl ?_
              refine sx_off rfl rfl rfl rfl rfl ?_
              refine sx_pick rfl rfl rfl ?_
              first | refine sx_store1 0 rfl rfl rfl tyS4 rfl (by first | (simp only [List.length_cons, List.length_nil, Nat.reduceAdd, Nat.zero_add, Nat.add_zero]; first | done | rfl) | rfl) (by first | (simp only [List.set_cons_succ, List.set_cons_zero, Nat.reduceAdd, Nat.add_zero, Nat.zero_add]; first | done | rfl) | rfl) (by first | (simp only [List.set_cons_succ, List.set_cons_zero]; first | done | rfl) | rfl) ?_ | refine sx_store1 1 rfl rfl rfl tyS4 rfl (by first | (simp only [List.length_cons, List.length_nil, Nat.reduceAdd, Nat.zero_add, Nat.add_zero]; first | done | rfl) | rfl) (by first | (simp only [List.set_cons_succ, List.set_cons_zero, Nat.reduceAdd, Nat.add_zero, Nat.zero_add]; first | done | rfl) | rfl) (by first | (simp only [List.set_cons_succ, List.set_cons_zero]; first | done | rfl) | rfl) ?_ | refine sx_store1 2 rfl rfl rfl tyS4 rfl (by first | (simp only [List.length_cons, List.length_nil, Nat.reduceAdd, Nat.zero_add, Nat.add_zero]; first | done | rfl) | rfl) (by first | (simp only [List.set_cons_succ, List.set_cons_zero, Nat.reduceAdd, Nat.add_zero, Nat.zero_add]; first | done | rfl) | rfl) (by first | (simp only [List.set_cons_succ, List.set_cons_zero]; first | done | rfl) | rfl) ?_ | refine sx_store1 3 rfl rfl rfl tyS4 rfl (by first | (simp only [List.length_cons, List.length_nil, Nat.reduceAdd, Nat.zero_add, Nat.add_zero]; first | done | rfl) | rfl) (by first | (simp only [List.set_cons_succ, List.set_cons_zero, Nat.reduceAdd, Nat.add_zero, Nat.zero_add]; first | done | rfl) | rfl) (by first | (simp only [List.set_cons_succ, List.set_cons_zero]; first | done | rfl) | rfl) ?_
              refine sx_nil (hZ _ _ ?_ ?_)
              · first | (exfalso; simp at *; done) | exact Kn.cons rfl Kn.nil
              · first | (exfalso; simp at *; done) | exact HLe.pick [0, 1, 2] (by simp) rfl
          · refine sx_off rfl rfl rfl rfl rfl ?_
            refine sx_off rfl rfl rfl rfl rfl ?_
            refine sx_pick rfl rfl rfl ?_
            refine sx_move rfl rfl ?_
            refine sx_off rfl rfl rfl rfl rfl ?_
            refine sx_off rfl rfl rfl rfl rfl ?_
            refine sx_pick rfl rfl rfl ?_
            refine sx_move rfl rfl ?_
            refine sx_off rfl rfl rfl rfl rfl ?_
            refine sx_pick rfl rfl rfl ?_
            first | refine sx_store1 0 rfl rfl rfl tyS4 rfl (by first | (simp only [List.length_cons, List.length_nil, Nat.reduceAdd, Nat.zero_add, Nat.add_zero]; first | done | rfl) | rfl) (by first | (simp only [List.set_cons_succ, List.set_cons_zero, Nat.reduceAdd, Nat.add_zero, Nat.zero_add]; first | done | rfl) | rfl) (by first | (simp only [List.set_cons_succ, List.set_cons_zero]; first | done | rfl) | rfl) ?_ | refine sx_store1 1 rfl rfl rfl tyS4 rfl (by first | (simp only [List.length_cons, List.length_nil, Nat.reduceAdd, Nat.zero_add, Nat.add_zero]; first | done | rfl) | rfl) (by first | (simp only [List.set_cons_succ, List.set_cons_zero, Nat.reduceAdd, Nat.add_zero, Nat.zero_add]; first | done | rfl) | rfl) (by first | (simp only [List.set_cons_succ, List.set_cons_zero]; first | done | rfl) | rfl) ?_ | refine sx_store1 2 rfl rfl rfl tyS4 rfl (by first | (simp only [List.length_cons, List.length_nil, Nat.reduceAdd, Nat.zero_add, Nat.add_zero]; first | done | rfl) | rfl) (by first | (simp only [List.set_cons_succ, List.set_cons_zero, Nat.reduceAdd, Nat.add_zero, Nat.zero_add]; first | done | rfl) | rfl) (by first | (simp only [List.set_cons_succ, List.set_cons_zero]; first | done | rfl) | rfl) ?_ | refine sx_store1 3 rfl rfl rfl tyS4 rfl (by first | (simp only [List.length_cons, List.length_nil, Nat.reduceAdd, Nat.zero_add, Nat.add_zero]; first | done | rfl) | rfl) (by first | (simp only [List.set_cons_succ, List.set_cons_zero, Nat.reduceAdd, Nat.add_zero, Nat.zero_add]; first | done | rfl) | rfl) (by first | (simp only [List.set_cons_succ, List.set_cons_zero]; first | done | rfl) | rfl) ?_
            refine sx_nil (hZ _ _ ?_ ?_)
            · first | (exfalso; simp at *; done) | exact Kn.cons rfl Kn.nil
            · first | (exfalso; simp at *; done) | exact HLe.pick [0, 1, 2] (by simp) rfl
      refine awp_ret ?_
      repeat (with_reducible (first | refine nx_then_ret ?_ | refine nx_block_ret ?_ | refine nx_scope_ret ?_))
      exact nx_unmark [1, 1] ⟨rfl, rfl, trivial⟩ (nx_ret1 rfl (ResOk.cell 0 rfl rfl tyA4 tyS4 rfl) rfl)
    · refine awp_seq_meet [(4, ptr g2 0)] [.own g2 4 [.bool true], .ob Da isDef, .ob Db isDef] (fun Z hZ => ?_) ?_
      · refine sx_move rfl rfl ?_
        first | refine sx_eql rfl rfl rfl ?_ | refine sx_seql rfl rfl rfl ?_
        refine sx_move rfl rfl ?_
        refine sx_split 90 rfl (fun hb2 => ?_) (fun hb2 => ?_)
        · refine sx_off rfl rfl rfl rfl rfl ?_
          refine sx_off rfl rfl rfl rfl rfl ?_
          refine sx_off rfl rfl rfl rfl rfl ?_
          refine sx_pick rfl rfl rfl ?_
          refine sx_move rfl rfl ?_
          refine sx_on rfl rfl rfl ?_
          refine sx_move rfl rfl ?_
          refine sx_on rfl rfl rfl ?_
          first | refine sx_eql rfl rfl rfl ?_ | refine sx_seql rfl rfl rfl ?_
          refine sx_pick rfl rfl rfl ?_
          refine sx_move rfl rfl ?_
          refine sx_split 99 rfl (fun hb11 => ?_) (fun hb11 => ?_)
          · refine sx_on rfl rfl rfl ?_
            refine sx_move rfl rfl ?_
            refine sx_on rfl rfl rfl ?_
            first | refine sx_eql rfl rfl rfl ?_ | refine sx_seql rfl rfl rfl ?_
            refine sx_pick rfl rfl rfl ?_
            refine sx_move rfl rfl ?_
            refine sx_split 103 rfl (fun hb15 => ?_) (fun hb15 => ?_)
            · refine sx_on rfl rfl rfl ?_
              refine sx_callP awake_fn rfl rfl ?_
              refine sx_pick rfl rfl rfl ?_
              first | refine sx_store1 0 rfl rfl rfl tyS4 rfl (by first | (simp only [List.length_cons, List.length_nil, Nat.reduceAdd, Nat.zero_add, Nat.add_zero]; first | done | rfl) | rfl) (by first | (simp only [List.set_cons_succ, List.set_cons_zero, Nat.reduceAdd, Nat.add_zero, Nat.zero_add]; first | done | rfl) | rfl) (by first | (simp only [List.set_cons_succ, List.set_cons_zero]; first | done | rfl) | rfl) ?_ | refine sx_store1 1 rfl rfl rfl tyS4 rfl (by first | (simp only [List.length_cons, List.length_nil, Nat.reduceAdd, Nat.zero_add, Nat.add_zero]; first | done | rfl) | rfl) (by first | (simp only [List.set_cons_succ, List.set_cons_zero, Nat.reduceAdd, Nat.add_zero, Nat.zero_add]; first | done | rfl) | rfl) (by first | (simp only [List.set_cons_succ, List.set_cons_zero]; first | done | rfl) | rfl) ?_ | refine sx_store1 2 rfl rfl rfl tyS4 rfl (by first | (simp only [List.length_cons, List.length_nil, Nat.reduceAdd, Nat.zero_add, Nat.add_zero]; first | done | rfl) | rfl) (by first | (simp only [List.set_cons_succ, List.set_cons_zero, Nat.reduceAdd, Nat.add_zero, Nat.zero_add]; first | done | rfl) | rfl) (by first | (simp only [List.set_cons_succ, List.set_cons_zero]; first | done | rfl) | rfl) ?_ | refine sx_store1 3 rfl rfl rfl tyS4 rfl (by first | (simp only [List.length_cons, List.length_nil, Nat.reduceAdd, Nat.zero_add, Nat.add_zero]; first | done | rfl) | rfl) (by first | (simp only [List.set_cons_succ, List.set_cons_zero, Nat.reduceAdd, Nat.add_zero, Nat.zero_add]; first | done | rfl) | rfl) (by first | (simp only [List.set_cons_succ, List.set_cons_zero]; first | done | rfl) | rfl) ?_
              refine sx_nil (hZ _ _ ?_ ?_)
              · first | (exfalso; simp at *; done) | exact Kn.cons rfl Kn.nil
              · first | (exfalso; simp at *; done) | exact HLe.pick [0, 1, 2] (by simp) rfl
            · refine sx_off rfl rfl rfl rfl rfl ?_
              refine sx_pick rfl rfl rfl ?_
              first | refine sx_store1 0 rfl rfl rfl tyS4 rfl (by first | (simp only [List.length_cons, List.length_nil, Nat.reduceAdd, Nat.zero_add, Nat.add_zero]; first | done | rfl) | rfl) (by first | (simp only [List.set_cons_succ, List.set_cons_zero, Nat.reduceAdd, Nat.add_zero, Nat.zero_add]; first | done | rfl) | rfl) (by first | (simp only [List.set_cons_succ, List.set_cons_zero]; first | done | rfl) | rfl) ?_ | refine sx_store1 1 rfl rfl rfl tyS4 rfl (by first | (simp only [List.length_cons, List.length_nil, Nat.reduceAdd, Nat.zero_add, Nat.add_zero]; first | done | rfl) | rfl) (by first | (simp only [List.set_cons_succ, List.set_cons_zero, Nat.reduceAdd, Nat.add_zero, Nat.zero_add]; first | done | rfl) | rfl) (by first | (simp only [List.set_cons_succ, List.set_cons_zero]; first | done | rfl) | rfl) ?_ | refine sx_store1 2 rfl rfl rfl tyS4 rfl (by first | (simp only [List.length_cons, List.length_nil, Nat.reduceAdd, Nat.zero_add, Nat.add_zero]; first | done | rfl) | rfl) (by first | (simp only [List.set_cons_succ, List.set_cons_zero, Nat.reduceAdd, Nat.add_zero, Nat.zero_add]; first | done | rfl) | rfl) (by first | (simp only [List.set_cons_succ, List.set_cons_zero]; first | done | rfl) | rfl) ?_ | refine sx_store1 3 rfl rfl rfl tyS4 rfl (by first | (simp only [List.length_cons, List.length_nil, Nat.reduceAdd, Nat.zero_add, Nat.add_zero]; first | done | rfl) | rfl) (by first | (simp only [List.set_cons_succ, List.set_cons_zero, Nat.reduceAdd, Nat.add_zero, Nat.zero_add]; first | done | rfl) | rfl) (by first | (simp only [List.set_cons_succ, List.set_cons_zero]; first | done | rfl) | rfl) ?_
              refine sx_nil (hZ _ _ ?_ ?_)
              · first | (exfalso; simp at *; done) | exact Kn.cons rfl Kn.nil
              · first | (exfalso; simp at *; done) | exact HLe.pick [0, 1, 2] (by simp) rfl
          · refine sx_off rfl rfl rfl rfl rfl ?_
            refine sx_off rfl rfl rfl rfl rfl ?_
            refine sx_pick rfl rfl rfl ?_
            refine sx_move rfl rfl ?_
            refine sx_off rfl rfl rfl rfl rfl ?_
            refine sx_pick rfl rfl rfl ?_
            first | refine sx_store1 0 rfl rfl rfl tyS4 rfl (by first | (simp only [List.length_cons, List.length_nil, Nat.reduceAdd, Nat.zero_add, Nat.add_zero]; first | done | rfl) | rfl) (by first | (simp only [List.set_cons_succ, List.set_cons_zero, Nat.reduceAdd, Nat.add_zero, Nat.zero_add]; first | done | rfl) | rfl) (by first | (simp only [List.set_cons_succ, List.set_cons_zero]; first | done | rfl) | rfl) ?_ | refine sx_store1 1 rfl rfl rfl tyS4 rfl (by first | (simp only [List.length_cons, List.length_nil, Nat.reduceAdd, Nat.zero_add, Nat.add_zero]; first | done | rfl) | rfl) (by first | (simp only [List.set_cons_succ, List.set_cons_zero, Nat.reduceAdd, Nat.add_zero, Nat.zero_add]; first | done | rfl) | rfl) (by first | (simp only [List.set_cons_succ, List.set_cons_zero]; first | done | rfl) | rfl) ?_ | refine sx_store1 2 rfl rfl rfl tyS4 rfl (by first | (simp only [List.length_cons, List.length_nil, Nat.reduceAdd, Nat.zero_add, Nat.add_zero]; first | done | rfl) | rfl) (by first | (simp only [List.set_cons_succ, List.set_cons_zero, Nat.reduceAdd, Nat.add_zero, Nat.zero_add]; first | done | rfl) | rfl) (by first | (simp only [List.set_cons_succ, List.set_cons_zero]; first | done | rfl) | rfl) ?_ | refine sx_store1 3 rfl rfl rfl tyS4 rfl (by first | (simp only [List.length_cons, List.length_nil, Nat.reduceAdd, Nat.zero_add, Nat.add_zero]; first | done | rfl) | rfl) (by first | (simp only [List.set_cons_succ, List.set_cons_zero, Nat.reduceAdd, Nat.add_zero, Nat.zero_add]; first | done | rfl) | rfl) (by first | (simp only [List.set_cons_succ, List.set_cons_zero]; first | done | rfl) | rfl) ?_
            refine sx_nil (hZ _ _ ?_ ?_)
            · first | (exfalso; simp at *; done) | exact Kn.cons rfl Kn.nil
            · first | (exfalso; simp at *; done) | exact HLe.pick [0, 1, 2] (by simp) rfl
        · refine sx_on rfl rfl rfl ?_
          refine sx_loadRo 3 rfl rfl 0 rfl tyA27 tyS27 rfl rfl ?_
          refine sx_on rfl rfl rfl ?_
          first | refine sx_len Try.underlying27 rfl rfl ?_ | refine sx_lenS Try.underlying27 rfl rfl ?_
          refine sx_on rfl rfl rfl ?_
          first | refine sx_eql rfl rfl rfl ?_ | refine sx_seql rfl rfl rfl ?_
          refine sx_pick rfl rfl rfl ?_
          refine sx_move rfl rfl ?_
          refine sx_split 95 rfl (fun hb7 => ?_) (fun hb7 => ?_)
          · refine sx_on rfl rfl rfl ?_
            refine sx_move rfl rfl ?_
            refine sx_on rfl rfl rfl ?_
            first | refine sx_eql rfl rfl rfl ?_ | refine sx_seql rfl rfl rfl ?_
            refine sx_pick rfl rfl rfl ?_
            refine sx_move rfl rfl ?_
            refine sx_split 99 rfl (fun hb11 => ?_) (fun hb11 => ?_)
            · refine sx_on rfl rfl rfl ?_
              refine sx_move rfl rfl ?_
              refine sx_on rfl rfl rfl ?_
              first | refine sx_eql rfl rfl rfl ?_ | refine sx_seql rfl rfl rfl ?_
              refine sx_pick rfl rfl rfl ?_
              refine sx_move rfl rfl ?_
              refine sx_split 103 rfl (fun hb15 => ?_) (fun hb15 => ?_)
              · refine sx_on rfl rfl rfl ?_
                refine sx_callP awake_fn rfl rfl ?_
                refine sx_pick rfl rfl rfl ?_
                first | refine sx_store1 0 rfl rfl rfl tyS4 rfl (by first | (simp only [List.length_cons, List.length_nil, Nat.reduceAdd, Nat.zero_add, Nat.add_zero]; first | done | rfl) | rfl) (by first | (simp only [List.set_cons_succ, List.set_cons_zero, Nat.reduceAdd, Nat.add_zero, Nat.zero_add]; first | done | rfl) | rfl) (by first | (simp only [List.set_cons_succ, List.set_cons_zero]; first | done | rfl) | rfl) ?_ | refine sx_store1 1 rfl rfl rfl tyS4 rfl (by first | (simp only [List.length_cons, List.length_nil, Nat.reduceAdd, Nat.zero_add, Nat.add_zero]; first | done | rfl) | rfl) (by first | (simp only [List.set_cons_succ, List.set_cons_zero, Nat.reduceAdd, Nat.add_zero, Nat.zero_add]; first | done | rfl) | rfl) (by first | (simp only [List.set_cons_succ, List.set_cons_zero]; first | done | rfl) | rfl) ?_ | refine sx_store1 2 rfl rfl rfl tyS4 rfl (by first | (simp only [List.length_cons, List.length_nil, Nat.reduceAdd, Nat.zero_add, Nat.add_zero]; first | done | rfl) | rfl) (by first | (simp only [List.set_cons_succ, List.set_cons_zero, Nat.reduceAdd, Nat.add_zero, Nat.zero_add]; first | done | rfl) | rfl) (by first | (simp only [List.set_cons_succ, List.set_cons_zero]; first | done | rfl) | rfl) ?_ | refine sx_store1 3 rfl rfl rfl tyS4 rfl (by first | (simp only [List.length_cons, List.length_nil, Nat.reduceAdd, Nat.zero_add, Nat.add_zero]; first | done | rfl) | rfl) (by first | (simp only [List.set_cons_succ, List.set_cons_zero, Nat.reduceAdd, Nat.add_zero, Nat.zero_add]; first | done | rfl) | rfl) (by first | (simp only [List.set_cons_succ, List.set_cons_zero]; first | done | rfl) | rfl) ?_
                refine sx_nil (hZ _ _ ?_ ?_)
                · first | (exfalso; simp at *; done) | exact Kn.cons rfl Kn.nil
                · first | (exfalso; simp at *; done) | exact HLe.pick [0, 1, 2] (by simp) rfl
              · refine sx_off rfl rfl rfl rfl rfl ?_
                refine sx_pick rfl rfl rfl ?_
                first | refine sx_store1 0 rfl rfl rfl tyS4 rfl (by first | (simp only [List.length_cons, List.length_nil, Nat.reduceAdd, Nat.zero_add, Nat.add_zero]; first | done | rfl) | rfl) (by first | (simp only [List.set_cons_succ, List.set_cons_zero, Nat.reduceAdd, Nat.add_zero, Nat.zero_add]; first | done | rfl) | rfl) (by first | (simp only [List.set_cons_succ, List.set_cons_zero]; first | done | rfl) | rfl) ?_ | refine sx_store1 1 rfl rfl rfl tyS4 rfl (by first | (simp only [List.length_cons, List.length_nil, Nat.reduceAdd, Nat.zero_add, Nat.add_zero]; first | done | rfl) | rfl) (by first | (simp only [List.set_cons_succ, List.set_cons_zero, Nat.reduceAdd, Nat.add_zero, Nat.zero_add]; first | done | rfl) | rfl) (by first | (simp only [List.set_cons_succ, List.set_cons_zero]; first | done | rfl) | rfl) ?_ | refine sx_store1 2 rfl rfl rfl tyS4 rfl (by first | (simp only [List.length_cons, List.length_nil, Nat.reduceAdd, Nat.zero_add, Nat.add_zero]; first | done | rfl) | rfl) (by first | (simp only [List.set_cons_succ, List.set_cons_zero, Nat.reduceAdd, Nat.add_zero, Nat.zero_add]; first | done | rfl) | rfl) (by first | (simp only [List.set_cons_succ, List.set_cons_zero]; first | done | rfl) | rfl) ?_ | refine sx_store1 3 rfl rfl rfl tyS4 rfl (by first | (simp only [List.length_cons, List.length_nil, Nat.reduceAdd, Nat.zero_add, Nat.add_zero]; first | done | rfl) | rfl) (by first | (simp only [List.set_cons_succ, List.set_cons_zero, Nat.reduceAdd, Nat.add_zero, Nat.zero_add]; first | done | rfl) | rfl) (by first | (simp only [List.set_cons_succ, List.set_cons_zero]; first | done | rfl) | rfl) ?_
                refine sx_nil (hZ _ _ ?_ ?_)
                · first | (exfalso; simp at *; done) | exact Kn.cons rfl Kn.nil
                · first | (exfalso; simp at *; done) | exact HLe.pick [0, 1, 2] (by simp) rfl
            · refine sx_off rfl rfl rfl rfl rfl ?_
              refine sx_off rfl rfl rfl rfl rfl ?_
              refine sx_pick rfl rfl rfl ?_
              refine sx_move rfl rfl ?_
              refine sx_off rfl rfl rfl rfl rfl ?_
              refine sx_pick rfl rfl rfl ?_
              first | refine sx_store1 0 rfl rfl rfl tyS4 rfl (by first | (simp only [List.length_cons, List.length_nil, Nat.reduceAdd, Nat.zero_add, Nat.add_zero]; first | done | rfl) | rfl) (by first | (simp only [List.set_cons_succ, List.set_cons_zero, Nat.reduceAdd, Nat.add_zero, Nat.zero_add]; first | done | rfl) | rfl) (by first | (simp only [List.set_cons_succ, List.set_cons_zero]; first | done | rfl) | rfl) ?_ | refine sx_store1 1 rfl rfl rfl tyS4 rfl (by first | (simp only [List.length_cons, List.length_nil, Nat.reduceAdd, Nat.zero_add, Nat.add_zero]; first | done | rfl) | rfl) (by first | (simp only [List.set_cons_succ, List.set_cons_zero, Nat.reduceAdd, Nat.add_zero, Nat.zero_add]; first | done | rfl) | rfl) (by first | (simp only [List.set_cons_succ, List.set_cons_zero]; first | done | rfl) | rfl) ?_ | refine sx_store1 2 rfl rfl rfl tyS4 rfl (by first | (simp only [List.length_cons, List.length_nil, Nat.reduceAdd, Nat.zero_add, Nat.add_zero]; first | done | rfl) | rfl) (by first | (simp only [List.set_cons_succ, List.set_cons_zero, Nat.reduceAdd, Nat.add_zero, Nat.zero_add]; first | done | rfl) | rfl) (by first | (simp only [List.set_cons_succ, List.set_cons_zero]; first | done | rfl) | rfl) ?_ | refine sx_store1 3 rfl rfl rfl tyS4 rfl (by first | (simp only [List.length_cons, List.length_nil, Nat.reduceAdd, Nat.zero_add, Nat.add_zero]; first | done | rfl) | rfl) (by first | (simp only [List.set_cons_succ, List.set_cons_zero, Nat.reduceAdd, Nat.add_zero, Nat.zero_add]; first | done | rfl) | rfl) (by first | (simp only [List.set_cons_succ, List.set_cons_zero]; first | done | rfl) | rfl) ?_
              refine sx_nil (hZ _ _ ?_ ?_)
              · first | (exfalso; simp at *; done) | exact Kn.cons rfl Kn.nil
              · first | (exfalso; simp at *; done) | exact HLe.pick [0, 1, 2] (by simp) rfl
          · refine sx_off rfl rfl rfl rfl rfl ?_
            refine sx_off rfl rfl rfl rfl rfl ?_
            refine sx_pick rfl rfl rfl ?_
            refine sx_move rfl rfl ?_
            refine sx_off rfl rfl rfl rfl rfl ?_
            refine sx_off rfl rfl rfl rfl rfl ?_
            refine sx_pick rfl rfl rfl ?_
            refine sx_move rfl rfl ?_
            refine sx_off rfl rfl rfl rfl rfl ?_
            refine sx_pick rfl rfl rfl ?_
            first | refine sx_store1 0 rfl rfl rfl tyS4 rfl (by first | (simp only [List.length_cons, List.length_nil, Nat.reduceAdd, Nat.zero_add, Nat.add_zero]; first | done | rfl) | rfl) (by first | (simp only [List.set_cons_succ, List.set_cons_zero, Nat.reduceAdd, Nat.add_zero, Nat.zero_add]; first | done | rfl) | rfl) (by first | (simp only [List.set_cons_succ, List.set_cons_zero]; first | done | rfl) | rfl) ?_ | refine sx_store1 1 rfl rfl rfl tyS4 rfl (by first | (simp only [List.length_cons, List.length_nil, Nat.reduceAdd, Nat.zero_add, Nat.add_zero]; first | done | rfl) | rfl) (by first | (simp only [List.set_cons_succ, List.set_cons_zero, Nat.reduceAdd, Nat.add_zero, Nat.zero_add]; first | done | rfl) | rfl) (by first | (simp only [List.set_cons_succ, List.set_cons_zero]; first | done | rfl) | rfl) ?_ | refine sx_store1 2 rfl rfl rfl tyS4 rfl (by first | (simp only [List.length_cons, List.length_nil, Nat.reduceAdd, Nat.zero_add, Nat.add_zero]; first | done | rfl) | rfl) (by first | (simp only [List.set_cons_succ, List.set_cons_zero, Nat.reduceAdd, Nat.add_zero, Nat.zero_add]; first | done | rfl) | rfl) (by first | (simp only [List.set_cons_succ, List.set_cons_zero]; first | done | rfl) | rfl) ?_ | refine sx_store1 3 rfl rfl rfl tyS4 rfl (by first | (simp only [List.length_cons, List.length_nil, Nat.reduceAdd, Nat.zero_add, Nat.add_zero]; first | done | rfl) | rfl) (by first | (simp only [List.set_cons_succ, List.set_cons_zero, Nat.reduceAdd, Nat.add_zero, Nat.zero_add]; first | done | rfl) | rfl) (by first | (simp only [List.set_cons_succ, List.set_cons_zero]; first | done | rfl) | rfl) ?_
            refine sx_nil (hZ _ _ ?_ ?_)
            · first | (exfalso; simp at *; done) | exact Kn.cons rfl Kn.nil
            · first | (exfalso; simp at *; done) | exact HLe.pick [0, 1, 2] (by simp) rfl
      refine awp_ret ?_
      repeat (with_reducible (first | refine nx_then_ret ?_ | refine nx_block_ret ?_ | refine nx_scope_ret ?_))
      exact nx_unmark [1, 1] ⟨rfl, rfl, trivial⟩ (nx_ret1 rfl (ResOk.cell 0 rfl rfl tyA4 tyS4 rfl) rfl)
theorem DirsEach_read {H : Type} {enc : TypeId × Value → H} (w : World) {base : Nat} {v0 v1 : Value} {d0 d1 : DataW H} {p0 p1 : List MemPlace}
    (k0 : Value.okWide Try.prog w .any base 9 v0) (h0 : DataW.Trod enc Try.prog w 0 (fun _ => true) true 9 v0 d0 p0)
    (k1 : Value.okWide Try.prog w .any base 5 v1) (h1 : DataW.Trod enc Try.prog w 0 (fun _ => true) true 5 v1 d1 p1) :
    Calls Try.prog 7 #[v0, v1] w fun e w' => e = .returned (.bool true) ∧ Bel w w' := by
  obtain ⟨s, rfl⟩ := open_text k0 h0
  obtain ⟨n, rfl, _, _, hn⟩ := ChangeShapes.open_int Try.underlying5 k1 h1
  have hn := wf_u8 hn
  obtain ⟨a, rfl⟩ : ∃ a : Nat, n = a := ⟨n.toNat, by omega⟩
  exact (deach_fn s a (by omega)).bel w
namespace dirsEach
open Go.ChangeShapes Go.WideShapes Go.ChangeAt Go.RowKit
theorem own : ownKnob Try.prog.godebug = none := by kernel_rfl
theorem laidOut : laidOutB Try.prog = true := by kernel_rfl
set_option maxRecDepth 100000 in
theorem lifted (os : Os) (started : os.Started) (H : Type) (enc : TypeId × Value → H) :
    ReturnsInHanded {} Try.checked os 7 .any (Rows.dirsEachSpec.pre6 enc Try.prog Try.f7 Rows.dirsEachRow.domain false) (Rows.dirsEachSpec.post enc Try.prog Try.f7 false true false false) := by
  refine returnsInHanded_of_change (C := Try.checked) own started (by kernel_rfl) Try.func7
    (ChangeSpec.witness6 (enc := enc) (C := Try.checked) false ⟨#[], #[.string ⟨#[]⟩, .int .u8 0], []⟩ 8 (by kernel_rfl) (by kernel_rfl) (by kernel_rfl) (by kernel_rfl)) ?_
  intro W base args ds gs before hval0 hW hcnd _
  have hval : ∀ (j : Nat) t v, Try.f7.params[j]? = some t → args[j]? = some v → Value.okWide Try.prog W .any base t v := hval0
  have hW' := hW
  obtain ⟨p, q, hA0, hV, rfl, hfz, hnd⟩ := hW
  have hA : DataW.TrodAll enc Try.prog W 0 (fun _ => true) true Try.f7.params.toList args.toList ds p := hA0
  rw [Try.params7] at hA hval
  obtain ⟨v0, vs0, d0, ds0, p0, q0, hargs, rfl, rfl, h0, r0⟩ := trodAll_cons hA
  obtain ⟨v1, vs1, d1, ds1, p1, q1, rfl, rfl, rfl, h1, r1⟩ := trodAll_cons r0
  obtain ⟨rfl, rfl, rfl⟩ := trodAll_nil r1
  obtain rfl : args = #[v0, v1] := by cases args; simp_all
  obtain ⟨rfl, rfl⟩ := trodVars_none hV
  have lt0 : ∀ x ∈ p0, x.block < W.heap.size := by obtain ⟨m, hm⟩ := h0; exact DataW.trod_lt m _ _ _ hm
  have lt1 : ∀ x ∈ p1, x.block < W.heap.size := by obtain ⟨m, hm⟩ := h1; exact DataW.trod_lt m _ _ _ hm
  refine (DirsEach_read W (hval 0 9 v0 rfl rfl) h0 (hval 1 5 v1 rfl rfl) h1).mono fun e W' ⟨he, bel0⟩ => ?_
  have bel : Below W.heap.size W W' := bel0
  subst he
  exact ⟨_, rfl, _, _, _, [], _, [], hW', trodAll_mk1 (shut_bool Try.underlying4 _), (trodAll_cons_mk (Below.trod laidOut (by kernel_rfl) (of_decide_eq_true (by kernel_rfl)) h0 bel lt0) (trodAll_cons_mk (Below.trod laidOut (by kernel_rfl) (of_decide_eq_true (by kernel_rfl)) h1 bel lt1) trodAll_mk0)), rfl, bel.frame _, fun h => by cases h⟩
theorem over : Rows.dirsEachRow.holds Try.pinned (OpenSpec.ofChange Rows.dirsEachSpec) :=
  OpenClaim.holds_of_wide 7 Try.f7 rfl rfl rfl rfl rfl rfl rfl ⟨rfl, rfl, rfl, rfl, rfl⟩ rfl rfl rfl rfl rfl (by kernel_rfl) Try.func7 (by kernel_rfl)
    (of_decide_eq_true (by kernel_rfl)) (by unfold Func.isWrapper; first | (rw [if_pos (by decide +kernel)]; kernel_rfl) | (rw [if_neg (by decide +kernel)]; exact ⟨rfl, rfl⟩))
    (fun os started H enc _ => lifted os started H enc)
theorem proved : Rows.DirsEachSaid := over
#print axioms proved
end dirsEach
end Go.Proofs.Ytfffhnefjaomnaa
