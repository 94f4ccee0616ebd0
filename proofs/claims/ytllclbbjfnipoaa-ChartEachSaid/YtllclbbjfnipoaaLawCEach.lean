/- ChartEach. No conditions. -/
import Derived.Test.YtllclbbjfnipoaaCh17
import Derived.Test.YtllclbbjfnipoaaSxO
namespace Go.Proofs.Ytllclbbjfnipoaa
open Go.RowKit
set_option linter.unusedVariables false
set_option linter.unusedSimpArgs false
set_option maxRecDepth 100000
/-- The marks that ranges have left. -/
def mks (ds : List Nat) : Heap := ds.map fun D => .ob D isDef
theorem mks_wrs (ds : List Nat) : Wrs (mks ds) := fun e he => by
  obtain ⟨D, _, rfl⟩ := List.mem_map.1 he
  rfl
theorem perm_mid (M R P Q : Heap) : (M ++ (R ++ (P ++ Q))).Perm (P ++ (M ++ (R ++ Q))) :=
  (List.Perm.append_left M (List.perm_append_comm_assoc R P Q)).trans (List.perm_append_comm_assoc M P (R ++ Q))
theorem mid_le (X M R P Q : Heap) : HLe (X ++ (P ++ (M ++ (R ++ Q)))) (X ++ (M ++ (R ++ (P ++ Q)))) := fun _ _ _ hw => hw.perm (List.Perm.append_left X (perm_mid M R P Q))
theorem back_le (a b c : Ent) (M R P Q : Heap) : HLe (c :: a :: (M ++ (R ++ (P ++ Q)))) (a :: b :: c :: (P ++ (M ++ (R ++ Q)))) := fun _ _ _ hw =>
  (hw.sub (List.Sublist.cons_cons a (List.Sublist.cons b (List.Sublist.refl _)))).perm ((List.Perm.swap c a _).trans (((perm_mid M R P Q).symm.cons a).cons c))
theorem each_p1 (a b c d e f : Ent) (R S : Heap) : (a :: ((b :: c :: d :: e :: R) ++ S ++ [f])).Perm (c :: f :: a :: b :: d :: e :: (R ++ S)) := by
  classical exact List.perm_iff_count.2 fun x => by simp only [List.count_append, List.count_cons, List.count_nil]; omega
theorem each_p2 (a b c d e f : Ent) (R S : Heap) : (c :: f :: a :: b :: d :: e :: (R ++ S)).Perm ([c] ++ ((f :: R) ++ (a :: b :: d :: e :: S))) := by
  classical exact List.perm_iff_count.2 fun x => by simp only [List.count_append, List.count_cons, List.count_nil]; omega
theorem each_p3 (c p q a b d e f : Ent) (R S : Heap) : (c :: p :: q :: ((f :: R) ++ (a :: b :: d :: e :: S))).Perm ((c :: p :: q :: b :: d :: a :: R) ++ (f :: e :: S)) := by
  classical exact List.perm_iff_count.2 fun x => by simp only [List.count_append, List.count_cons, List.count_nil]; omega
theorem eachlaw_fn (A : Option Addr) (c : Nat) (L : List It) (T : Heap) (hA : ArgOk A L.length) (hT : 0 < L.length → T = roE A (icells L)) (hro : Ro T) (hL : L.length ≤ maxLen) (hE : ItsTx L) (most : Nat) (hm : most < 256) (x : It) (hx : x.tx.length ≤ maxLen) :
    Fn Try.prog 6 [.slice A L.length c, .int .u8 (most : Nat), x.val] T fun v _ => v = .bool true := by
  have o1 := over_fn A c L T hA hT hro hL hE 60 3000 (by decide) (by decide)
  refine Fn.enterM (n := 142) Try.func6 rfl (by kernel_rfl) rfl (fun w0 => ?_)

  refine awp_seq_region (fun Z hZ => ?_)
  refine sx_box rfl rfl rfl (fun g1 => ?_)
  refine sx_box rfl rfl rfl (fun g2 => ?_)
  refine sx_alloc tyZ4 rfl (fun g3 => ?_)
  refine sx_nil (hZ _ _ ?_)
  refine awp_forget [(0, _), (4, _), (5, _), (6, _)] (Kn.cons rfl (Kn.cons rfl (Kn.cons rfl (Kn.cons rfl (Kn.nil))))) ?_

  by_cases hov : (3000 < cBytes L ∨ 60 < L.length) ∨ 300 < x.tx.length
  · refine awp_seq ?_
    refine awp_seq_meet [(6, ptr g3 0), (26, .bool true)] [.own g3 4 [.bool false]] (fun Z hZ => ?_) ?_
    · refine sx_move rfl rfl ?_
      refine sx_callPT T o1 rfl (by repeat (first | exact List.Sublist.refl _ | exact List.nil_sublist _ | exact List.sublist_append_right _ _ | refine List.Sublist.trans ?_ (List.sublist_append_left _ _) | exact List.Sublist.cons_cons _ (List.nil_sublist _) | refine List.Sublist.cons _ ?_)) hro rfl ?_
      refine sx_move rfl rfl ?_
      refine sx_split 21 rfl (fun hb2 => ?_) (fun hb2 => ?_)
      · refine sx_off rfl rfl rfl rfl rfl ?_
        refine sx_off rfl rfl rfl rfl rfl ?_
        refine sx_off rfl rfl rfl rfl rfl ?_
        refine sx_off rfl rfl rfl rfl rfl ?_
        refine sx_pick rfl rfl rfl ?_
        refine sx_nil (hZ _ _ ?_ ?_)
        · exact Kn.cons rfl (Kn.cons (congrArg some (congrArg Value.bool (by first | (simp at *; done) | (simp at *; omega)))) Kn.nil)
        · exact HLe.sub (List.Sublist.cons_cons _ (List.nil_sublist _))
      · refine sx_on rfl rfl rfl ?_
        refine sx_fieldAddr rfl tyF53_1 (by first | (simp only [Nat.reduceAdd, Nat.add_zero, Nat.zero_add]; first | done | rfl) | rfl) rfl ?_
        refine sx_on rfl rfl rfl ?_
        first | refine sx_load 0 rfl rfl tyA9 tyS9 rfl rfl ?_ | refine sx_load 1 rfl rfl tyA9 tyS9 rfl rfl ?_ | refine sx_load 2 rfl rfl tyA9 tyS9 rfl rfl ?_
        refine sx_on rfl rfl rfl ?_
        first | refine sx_len Try.underlying9 rfl rfl ?_ | refine sx_lenS Try.underlying9 rfl rfl ?_
        refine sx_on rfl rfl rfl ?_
        first | refine sx_gtr rfl rfl rfl ?_ | refine sx_sgtr rfl rfl rfl ?_
        refine sx_pick rfl rfl rfl ?_
        refine sx_nil (hZ _ _ ?_ ?_)
        · exact Kn.cons rfl (Kn.cons (congrArg some (congrArg Value.bool (by first | (simp at *; done) | (simp at *; omega)))) Kn.nil)
        · exact HLe.sub (List.Sublist.cons_cons _ (List.nil_sublist _))
    first | refine awp_cond rfl (fun h => ?_) (fun h => ?_) | refine awp_seq (awp_cond rfl (fun h => ?_) (fun h => ?_))
    · skip
      refine awp_seq_region (fun Z hZ => ?_)
      refine sx_callP cawake_fn rfl rfl ?_
      first | refine sx_store1 0 rfl rfl rfl tyS4 rfl (by first | (simp only [List.length_cons, List.length_nil, Nat.reduceAdd, Nat.zero_add, Nat.add_zero]; first | done | rfl) | rfl) (by first | (simp only [List.set_cons_succ, List.set_cons_zero, Nat.reduceAdd, Nat.add_zero, Nat.zero_add]; first | done | rfl) | rfl) (by first | (simp only [List.set_cons_succ, List.set_cons_zero]; first | done | rfl) | rfl) ?_
      refine sx_nil (hZ _ _ ?_)
      refine awp_forget [(6, _)] (Kn.cons rfl (Kn.nil)) ?_
      refine awp_ret ?_
      repeat (with_reducible (first | refine nx_then_ret ?_ | refine nx_block_ret ?_ | refine nx_scope_ret ?_))
      exact nx_unmark [] trivial (nx_ret1 rfl (ResOk.cell 0 rfl rfl tyA4 tyS4 rfl) rfl)
    · cases h
  have n1 : cBytes L ≤ 3000 ∧ L.length ≤ 60 ∧ x.tx.length ≤ 300 := by omega

  refine awp_seq ?_
  refine awp_seq_meet [(0, .slice A L.length c), (4, ptr g1 0), (5, ptr g2 0), (6, ptr g3 0), (26, .bool false)] (.own g3 4 [.bool false] :: .own g2 53 x.cells :: .own g1 5 [.int .u8 (most : Nat)] :: T) (fun Z hZ => ?_) ?_
  · refine sx_move rfl rfl ?_
    refine sx_callPT T o1 rfl (by repeat (first | exact List.Sublist.refl _ | exact List.nil_sublist _ | exact List.sublist_append_right _ _ | refine List.Sublist.trans ?_ (List.sublist_append_left _ _) | exact List.Sublist.cons_cons _ (List.nil_sublist _) | refine List.Sublist.cons _ ?_)) hro rfl ?_
    refine sx_move rfl rfl ?_
    refine sx_force 21 rfl false (by first | rfl | (simp; done) | (simp; omega)) ?_
    refine sx_on rfl rfl rfl ?_
    refine sx_fieldAddr rfl tyF53_1 (by first | (simp only [Nat.reduceAdd, Nat.add_zero, Nat.zero_add]; first | done | rfl) | rfl) rfl ?_
    refine sx_on rfl rfl rfl ?_
    first | refine sx_load 0 rfl rfl tyA9 tyS9 rfl rfl ?_ | refine sx_load 1 rfl rfl tyA9 tyS9 rfl rfl ?_ | refine sx_load 2 rfl rfl tyA9 tyS9 rfl rfl ?_
    refine sx_on rfl rfl rfl ?_
    first | refine sx_len Try.underlying9 rfl rfl ?_ | refine sx_lenS Try.underlying9 rfl rfl ?_
    refine sx_on rfl rfl rfl ?_
    first | refine sx_gtr rfl rfl rfl ?_ | refine sx_sgtr rfl rfl rfl ?_
    refine sx_pick rfl rfl rfl ?_
    refine sx_nil (hZ _ _ ?_ ?_)
    · exact Kn.cons rfl (Kn.cons rfl (Kn.cons rfl (Kn.cons rfl (Kn.cons (congrArg some (congrArg Value.bool (by simp; omega))) Kn.nil))))
    · exact HLe.refl _
  first | refine awp_cond rfl (fun h => ?_) (fun h => ?_) | refine awp_seq (awp_cond rfl (fun h => ?_) (fun h => ?_))
  · cases h
  refine awp_skip ?_
  repeat (with_reducible (first | refine nx_block_normal ?_ | refine nx_scope_normal ?_))
  with_reducible first | refine nx_normal ?_ | refine nx_normalM ?_

  have hok := ownQ_ok L
  refine awp_seq_region (fun Z hZ => ?_)
  refine sx_move rfl rfl ?_
  refine sx_ownE L T hA hT hro (by repeat (first | exact List.Sublist.refl _ | exact List.nil_sublist _ | exact List.sublist_append_right _ _ | refine List.Sublist.trans ?_ (List.sublist_append_left _ _) | exact List.Sublist.cons_cons _ (List.nil_sublist _) | refine List.Sublist.cons _ ?_)) (by omega) rfl rfl (fun A1 c1 A2 c2 hA1 hA2 => ?_)
  refine sx_move rfl rfl ?_
  refine sx_extract rfl rfl rfl ?_
  refine sx_extract rfl rfl rfl ?_
  refine sx_alloc tyZ26 rfl (fun g4 => ?_)
  first | refine sx_store 0 rfl rfl rfl tyS26 (by first | (simp only [Value.cells]; first | done | rfl) | rfl) rfl rfl (by first | (simp only [List.length_cons, List.length_nil, Nat.reduceAdd, Nat.zero_add, Nat.add_zero]; first | done | rfl) | rfl) (by first | (simp only [List.take_succ_cons, List.take_zero, List.drop_succ_cons, List.drop_zero, List.cons_append, List.nil_append, List.append_nil, List.length_cons, List.length_nil, Nat.reduceAdd, Nat.zero_add, Nat.add_zero, Value.cells, wrV]; first | done | rfl) | rfl) (by first | (simp only [List.set_cons_succ, List.set_cons_zero]; first | done | rfl) | rfl) ?_ | refine sx_store 1 rfl rfl rfl tyS26 (by first | (simp only [Value.cells]; first | done | rfl) | rfl) rfl rfl (by first | (simp only [List.length_cons, List.length_nil, Nat.reduceAdd, Nat.zero_add, Nat.add_zero]; first | done | rfl) | rfl) (by first | (simp only [List.take_succ_cons, List.take_zero, List.drop_succ_cons, List.drop_zero, List.cons_append, List.nil_append, List.append_nil, List.length_cons, List.length_nil, Nat.reduceAdd, Nat.zero_add, Nat.add_zero, Value.cells, wrV]; first | done | rfl) | rfl) (by first | (simp only [List.set_cons_succ, List.set_cons_zero]; first | done | rfl) | rfl) ?_ | refine sx_store 2 rfl rfl rfl tyS26 (by first | (simp only [Value.cells]; first | done | rfl) | rfl) rfl rfl (by first | (simp only [List.length_cons, List.length_nil, Nat.reduceAdd, Nat.zero_add, Nat.add_zero]; first | done | rfl) | rfl) (by first | (simp only [List.take_succ_cons, List.take_zero, List.drop_succ_cons, List.drop_zero, List.cons_append, List.nil_append, List.append_nil, List.length_cons, List.length_nil, Nat.reduceAdd, Nat.zero_add, Nat.add_zero, Value.cells, wrV]; first | done | rfl) | rfl) (by first | (simp only [List.set_cons_succ, List.set_cons_zero]; first | done | rfl) | rfl) ?_ | refine sx_store 3 rfl rfl rfl tyS26 (by first | (simp only [Value.cells]; first | done | rfl) | rfl) rfl rfl (by first | (simp only [List.length_cons, List.length_nil, Nat.reduceAdd, Nat.zero_add, Nat.add_zero]; first | done | rfl) | rfl) (by first | (simp only [List.take_succ_cons, List.take_zero, List.drop_succ_cons, List.drop_zero, List.cons_append, List.nil_append, List.append_nil, List.length_cons, List.length_nil, Nat.reduceAdd, Nat.zero_add, Nat.add_zero, Value.cells, wrV]; first | done | rfl) | rfl) (by first | (simp only [List.set_cons_succ, List.set_cons_zero]; first | done | rfl) | rfl) ?_
  refine sx_assign rfl rfl ?_
  refine sx_nil (hZ _ _ ?_)
  refine awp_forget [(4, _), (5, _), (6, _), (7, _)] (Kn.cons rfl (Kn.cons rfl (Kn.cons rfl (Kn.cons rfl (Kn.nil))))) ?_
  obtain ⟨O, hO⟩ : ∃ O, ownQ L = O := ⟨_, rfl⟩
  rw [hO] at hok hA1 hA2 ⊢
  have hll := hok.len
  have m1 : O.length ≤ maxLen := by show _ ≤ 9223372036854775807; omega
  refine awp_heap (.own g4 26 [.slice A1 O.length c1] :: .own g3 4 [.bool false] :: .own g2 53 x.cells :: .own g1 5 [.int .u8 (most : Nat)] :: roE A1 (icells O)) (HLe.sub (.cons_cons _ (.cons_cons _ (.cons_cons _ (.cons_cons _ ((List.sublist_append_right T _).trans (List.sublist_append_left _ _))))))) ?_

  refine awr_seq_region (fun j : Option Addr × Nat × Nat × Nat => [(4, ptr g1 0), (5, ptr g2 0), (6, ptr g3 0), (7, ptr g4 0), (9, ptr j.2.2.2 0), (10, .func (.func 40) #[] #[ptr j.2.2.1 0])]) (fun j => .own j.2.2.2 24 [.slice j.1 O.length j.2.1] :: (((.own g4 26 [.slice A1 O.length c1] :: .own g3 4 [.bool false] :: .own g2 53 x.cells :: .own g1 5 [.int .u8 (most : Nat)] :: roE A1 (icells O)) ++ roE j.1 (icells O)) ++ [.own j.2.2.1 26 [.slice A1 O.length c1]])) (fun j => SlIn j.1 O.length j.2.1) _ [1, 3, 4, 5] (Tr.step (0, true) (Tr.step (2, true) (Tr.fork (Tr.step (1, false) (Tr.fork (Tr.step (3, false) (Tr.step (4, false) (Tr.step (5, false) (Tr.step (6, true) Tr.nil)))) (Tr.step (4, false) (Tr.step (3, false) (Tr.step (5, false) (Tr.step (6, true) Tr.nil)))))) (Tr.step (4, false) (Tr.step (1, false) (Tr.step (3, false) (Tr.step (5, false) (Tr.step (6, true) Tr.nil)))))))) mixed (by kernel_rfl) (HLe.pick [0] (by simp) (by simp only [pick, List.filterMap_cons, List.filterMap_nil, List.getElem?_cons_succ, List.getElem?_cons_zero]; rfl)) ?_ ?_
  · refine tt_p rfl ?_
    first | refine sv_loadA 0 rfl rfl tyA26 tyS26 (by first | (simp only [List.length_cons, List.length_nil, Nat.reduceAdd, Nat.zero_add, Nat.add_zero]; first | done | rfl) | rfl) (by first | (simp only [List.take_succ_cons, List.take_zero, List.drop_succ_cons, List.drop_zero, List.cons_append, List.nil_append, List.append_nil, List.length_cons, List.length_nil, Nat.reduceAdd, Nat.zero_add, Nat.add_zero, Value.cells, wrV]; first | done | rfl) | rfl) rfl ?_
    refine sv_nil ?_
    refine tt_p rfl ?_
    first | refine sv_loadA 0 rfl rfl tyA26 tyS26 (by first | (simp only [List.length_cons, List.length_nil, Nat.reduceAdd, Nat.zero_add, Nat.add_zero]; first | done | rfl) | rfl) (by first | (simp only [List.take_succ_cons, List.take_zero, List.drop_succ_cons, List.drop_zero, List.cons_append, List.nil_append, List.append_nil, List.length_cons, List.length_nil, Nat.reduceAdd, Nat.zero_add, Nat.add_zero, Value.cells, wrV]; first | done | rfl) | rfl) rfl ?_
    refine sv_nil ?_
    refine tt_fork ?_ ?_
    · refine tt_g rfl ?_
      refine sx_itemsE O hA1 (by repeat (first | exact List.Sublist.refl _ | exact List.nil_sublist _ | exact List.sublist_append_right _ _ | refine List.Sublist.trans ?_ (List.sublist_append_left _ _) | exact List.Sublist.cons_cons _ (List.nil_sublist _) | refine List.Sublist.cons _ ?_)) (by omega) rfl rfl (fun A5 c5 hA5 => ?_)
      refine sx_nil ⟨HLe.pick [0] (by simp) rfl, ?_⟩
      refine tt_fork ?_ ?_
      · refine tt_g rfl ?_
        refine sx_callO [] _ (ceach_fn A1 O.length c1) rfl (HLe.refl _) rfl ?_
        rintro v H' ⟨ge, rfl, rfl⟩
        refine sx_heap (_ ++ [.own ge 26 [.slice A1 O.length c1]]) (HLe.swap _ _) ?_
        refine sx_nil ⟨HLe.pick [0] (by simp) rfl, ?_⟩
        refine tt_g rfl ?_
        refine sx_alloc tyZ24 rfl (fun g5 => ?_)
        refine sx_nil ⟨HLe.pick [1] (by simp) rfl, ?_⟩
        refine tt_g rfl ?_
        first | refine sx_store1 0 rfl rfl rfl tyS24 rfl (by first | (simp only [List.length_cons, List.length_nil, Nat.reduceAdd, Nat.zero_add, Nat.add_zero]; first | done | rfl) | rfl) (by first | (simp only [List.set_cons_succ, List.set_cons_zero, Nat.reduceAdd, Nat.add_zero, Nat.zero_add]; first | done | rfl) | rfl) (by first | (simp only [List.set_cons_succ, List.set_cons_zero]; first | done | rfl) | rfl) ?_ | refine sx_store1 1 rfl rfl rfl tyS24 rfl (by first | (simp only [List.length_cons, List.length_nil, Nat.reduceAdd, Nat.zero_add, Nat.add_zero]; first | done | rfl) | rfl) (by first | (simp only [List.set_cons_succ, List.set_cons_zero, Nat.reduceAdd, Nat.add_zero, Nat.zero_add]; first | done | rfl) | rfl) (by first | (simp only [List.set_cons_succ, List.set_cons_zero]; first | done | rfl) | rfl) ?_ | refine sx_store1 2 rfl rfl rfl tyS24 rfl (by first | (simp only [List.length_cons, List.length_nil, Nat.reduceAdd, Nat.zero_add, Nat.add_zero]; first | done | rfl) | rfl) (by first | (simp only [List.set_cons_succ, List.set_cons_zero, Nat.reduceAdd, Nat.add_zero, Nat.zero_add]; first | done | rfl) | rfl) (by first | (simp only [List.set_cons_succ, List.set_cons_zero]; first | done | rfl) | rfl) ?_ | refine sx_store1 3 rfl rfl rfl tyS24 rfl (by first | (simp only [List.length_cons, List.length_nil, Nat.reduceAdd, Nat.zero_add, Nat.add_zero]; first | done | rfl) | rfl) (by first | (simp only [List.set_cons_succ, List.set_cons_zero, Nat.reduceAdd, Nat.add_zero, Nat.zero_add]; first | done | rfl) | rfl) (by first | (simp only [List.set_cons_succ, List.set_cons_zero]; first | done | rfl) | rfl) ?_ | refine sx_store1 4 rfl rfl rfl tyS24 rfl (by first | (simp only [List.length_cons, List.length_nil, Nat.reduceAdd, Nat.zero_add, Nat.add_zero]; first | done | rfl) | rfl) (by first | (simp only [List.set_cons_succ, List.set_cons_zero, Nat.reduceAdd, Nat.add_zero, Nat.zero_add]; first | done | rfl) | rfl) (by first | (simp only [List.set_cons_succ, List.set_cons_zero]; first | done | rfl) | rfl) ?_
        refine sx_nil ⟨HLe.pick [1] (by simp) rfl, ?_⟩
        refine tt_p rfl ?_
        refine sv_assign rfl rfl ?_
        refine sv_nil ?_
        refine tt_nil ?_
        exact ⟨(A5, c5, ge, g5), hA5, Kn.cons rfl (Kn.cons rfl (Kn.cons rfl (Kn.cons rfl (Kn.cons rfl (Kn.cons rfl Kn.nil))))), HLe.refl _⟩
      · refine tt_g rfl ?_
        refine sx_alloc tyZ24 rfl (fun g5 => ?_)
        refine sx_nil ⟨HLe.pick [1] (by simp) rfl, ?_⟩
        refine tt_g rfl ?_
        refine sx_callO [] _ (ceach_fn A1 O.length c1) rfl (HLe.refl _) rfl ?_
        rintro v H' ⟨ge, rfl, rfl⟩
        refine sx_heap (_ ++ [.own ge 26 [.slice A1 O.length c1]]) (HLe.swap _ _) ?_
        refine sx_nil ⟨HLe.pick [1] (by simp) rfl, ?_⟩
        refine tt_g rfl ?_
        first | refine sx_store1 0 rfl rfl rfl tyS24 rfl (by first | (simp only [List.length_cons, List.length_nil, Nat.reduceAdd, Nat.zero_add, Nat.add_zero]; first | done | rfl) | rfl) (by first | (simp only [List.set_cons_succ, List.set_cons_zero, Nat.reduceAdd, Nat.add_zero, Nat.zero_add]; first | done | rfl) | rfl) (by first | (simp only [List.set_cons_succ, List.set_cons_zero]; first | done | rfl) | rfl) ?_ | refine sx_store1 1 rfl rfl rfl tyS24 rfl (by first | (simp only [List.length_cons, List.length_nil, Nat.reduceAdd, Nat.zero_add, Nat.add_zero]; first | done | rfl) | rfl) (by first | (simp only [List.set_cons_succ, List.set_cons_zero, Nat.reduceAdd, Nat.add_zero, Nat.zero_add]; first | done | rfl) | rfl) (by first | (simp only [List.set_cons_succ, List.set_cons_zero]; first | done | rfl) | rfl) ?_ | refine sx_store1 2 rfl rfl rfl tyS24 rfl (by first | (simp only [List.length_cons, List.length_nil, Nat.reduceAdd, Nat.zero_add, Nat.add_zero]; first | done | rfl) | rfl) (by first | (simp only [List.set_cons_succ, List.set_cons_zero, Nat.reduceAdd, Nat.add_zero, Nat.zero_add]; first | done | rfl) | rfl) (by first | (simp only [List.set_cons_succ, List.set_cons_zero]; first | done | rfl) | rfl) ?_ | refine sx_store1 3 rfl rfl rfl tyS24 rfl (by first | (simp only [List.length_cons, List.length_nil, Nat.reduceAdd, Nat.zero_add, Nat.add_zero]; first | done | rfl) | rfl) (by first | (simp only [List.set_cons_succ, List.set_cons_zero, Nat.reduceAdd, Nat.add_zero, Nat.zero_add]; first | done | rfl) | rfl) (by first | (simp only [List.set_cons_succ, List.set_cons_zero]; first | done | rfl) | rfl) ?_ | refine sx_store1 4 rfl rfl rfl tyS24 rfl (by first | (simp only [List.length_cons, List.length_nil, Nat.reduceAdd, Nat.zero_add, Nat.add_zero]; first | done | rfl) | rfl) (by first | (simp only [List.set_cons_succ, List.set_cons_zero, Nat.reduceAdd, Nat.add_zero, Nat.zero_add]; first | done | rfl) | rfl) (by first | (simp only [List.set_cons_succ, List.set_cons_zero]; first | done | rfl) | rfl) ?_
        refine sx_nil ⟨HLe.pick [1] (by simp) rfl, ?_⟩
        refine tt_p rfl ?_
        refine sv_assign rfl rfl ?_
        refine sv_nil ?_
        refine tt_nil ?_
        exact ⟨(A5, c5, ge, g5), hA5, Kn.cons rfl (Kn.cons rfl (Kn.cons rfl (Kn.cons rfl (Kn.cons rfl (Kn.cons rfl Kn.nil))))), HLe.refl _⟩
    · refine tt_g rfl ?_
      refine sx_alloc tyZ24 rfl (fun g5 => ?_)
      refine sx_nil ⟨HLe.pick [1] (by simp) rfl, ?_⟩
      refine tt_g rfl ?_
      refine sx_itemsE O hA1 (by repeat (first | exact List.Sublist.refl _ | exact List.nil_sublist _ | exact List.sublist_append_right _ _ | refine List.Sublist.trans ?_ (List.sublist_append_left _ _) | exact List.Sublist.cons_cons _ (List.nil_sublist _) | refine List.Sublist.cons _ ?_)) (by omega) rfl rfl (fun A5 c5 hA5 => ?_)
      refine sx_nil ⟨HLe.pick [1] (by simp) rfl, ?_⟩
      refine tt_g rfl ?_
      refine sx_callO [] _ (ceach_fn A1 O.length c1) rfl (HLe.refl _) rfl ?_
      rintro v H' ⟨ge, rfl, rfl⟩
      refine sx_heap (_ ++ [.own ge 26 [.slice A1 O.length c1]]) (HLe.swap _ _) ?_
      refine sx_nil ⟨HLe.pick [1] (by simp) rfl, ?_⟩
      refine tt_g rfl ?_
      first | refine sx_store1 0 rfl rfl rfl tyS24 rfl (by first | (simp only [List.length_cons, List.length_nil, Nat.reduceAdd, Nat.zero_add, Nat.add_zero]; first | done | rfl) | rfl) (by first | (simp only [List.set_cons_succ, List.set_cons_zero, Nat.reduceAdd, Nat.add_zero, Nat.zero_add]; first | done | rfl) | rfl) (by first | (simp only [List.set_cons_succ, List.set_cons_zero]; first | done | rfl) | rfl) ?_ | refine sx_store1 1 rfl rfl rfl tyS24 rfl (by first | (simp only [List.length_cons, List.length_nil, Nat.reduceAdd, Nat.zero_add, Nat.add_zero]; first | done | rfl) | rfl) (by first | (simp only [List.set_cons_succ, List.set_cons_zero, Nat.reduceAdd, Nat.add_zero, Nat.zero_add]; first | done | rfl) | rfl) (by first | (simp only [List.set_cons_succ, List.set_cons_zero]; first | done | rfl) | rfl) ?_ | refine sx_store1 2 rfl rfl rfl tyS24 rfl (by first | (simp only [List.length_cons, List.length_nil, Nat.reduceAdd, Nat.zero_add, Nat.add_zero]; first | done | rfl) | rfl) (by first | (simp only [List.set_cons_succ, List.set_cons_zero, Nat.reduceAdd, Nat.add_zero, Nat.zero_add]; first | done | rfl) | rfl) (by first | (simp only [List.set_cons_succ, List.set_cons_zero]; first | done | rfl) | rfl) ?_ | refine sx_store1 3 rfl rfl rfl tyS24 rfl (by first | (simp only [List.length_cons, List.length_nil, Nat.reduceAdd, Nat.zero_add, Nat.add_zero]; first | done | rfl) | rfl) (by first | (simp only [List.set_cons_succ, List.set_cons_zero, Nat.reduceAdd, Nat.add_zero, Nat.zero_add]; first | done | rfl) | rfl) (by first | (simp only [List.set_cons_succ, List.set_cons_zero]; first | done | rfl) | rfl) ?_ | refine sx_store1 4 rfl rfl rfl tyS24 rfl (by first | (simp only [List.length_cons, List.length_nil, Nat.reduceAdd, Nat.zero_add, Nat.add_zero]; first | done | rfl) | rfl) (by first | (simp only [List.set_cons_succ, List.set_cons_zero, Nat.reduceAdd, Nat.add_zero, Nat.zero_add]; first | done | rfl) | rfl) (by first | (simp only [List.set_cons_succ, List.set_cons_zero]; first | done | rfl) | rfl) ?_
      refine sx_nil ⟨HLe.pick [1] (by simp) rfl, ?_⟩
      refine tt_p rfl ?_
      refine sv_assign rfl rfl ?_
      refine sv_nil ?_
      refine tt_nil ?_
      exact ⟨(A5, c5, ge, g5), hA5, Kn.cons rfl (Kn.cons rfl (Kn.cons rfl (Kn.cons rfl (Kn.cons rfl (Kn.cons rfl Kn.nil))))), HLe.refl _⟩
  rintro ⟨A5, c5, gE, g9⟩ hA5
  simp only at hA5
  have hJro : Ro (.ro g9 0 [.slice A5 O.length c5] :: .ro g4 0 [.slice A1 O.length c1] :: .ro g2 0 x.cells :: .ro g1 0 [.int .u8 (most : Int)] :: roE A5 (icells O)) := fun e he => by
    rcases List.mem_cons.1 he with rfl | he
    · rfl
    rcases List.mem_cons.1 he with rfl | he
    · rfl
    rcases List.mem_cons.1 he with rfl | he
    · rfl
    rcases List.mem_cons.1 he with rfl | he
    · rfl
    exact Ro.roE _ _ e he
  refine awp_heap ([.own g3 4 [.bool false]] ++ ((.ro gE 0 [.slice A1 O.length c1] :: roE A1 (icells O)) ++ (.ro g9 0 [.slice A5 O.length c5] :: .ro g4 0 [.slice A1 O.length c1] :: .ro g2 0 x.cells :: .ro g1 0 [.int .u8 (most : Int)] :: roE A5 (icells O)))) (by
    refine HLe.trans (fun _ _ _ hw => hw.perm (each_p2 _ _ _ _ _ _ _ _)) ?_
    refine HLe.trans ?_ (fun _ _ _ hw => hw.perm (each_p1 _ _ _ _ _ _ _ _))
    refine (HLe.toRo (t := 26) [_] _).trans ?_
    refine (HLe.toRo (t := 24) [_, _] _).trans ?_
    refine (HLe.toRo (t := 26) [_, _, _] _).trans ?_
    refine (HLe.toRo (t := 53) [_, _, _, _] _).trans ?_
    exact HLe.toRo (t := 5) [_, _, _, _, _] _) ?_

  refine awp_seq ?_
  refine awp_seq_region (fun Z hZ => ?_)
  refine sx_move rfl rfl ?_
  refine sx_funcEqNil Try.underlying61 rfl rfl ?_
  refine sx_nil (hZ _ _ ?_)
  refine awp_forget [(4, _), (5, _), (6, _), (7, _), (9, _), (10, _), (38, _)] (Kn.cons rfl (Kn.cons rfl (Kn.cons rfl (Kn.cons rfl (Kn.cons rfl (Kn.cons rfl (Kn.cons rfl (Kn.nil)))))))) ?_
  first | refine awp_cond rfl (fun h => ?_) (fun h => ?_) | refine awp_seq (awp_cond rfl (fun h => ?_) (fun h => ?_))
  · cases h
  refine awp_skip ?_
  repeat (with_reducible (first | refine nx_block_normal ?_ | refine nx_scope_normal ?_))
  with_reducible first | refine nx_normal ?_ | refine nx_normalM ?_
  obtain ⟨Jr, hJr⟩ : ∃ Jr, Jr = (.ro g9 0 [.slice A5 O.length c5] :: .ro g4 0 [.slice A1 O.length c1] :: .ro g2 0 x.cells :: .ro g1 0 [.int .u8 (most : Int)] :: roE A5 (icells O)) := ⟨_, rfl⟩
  obtain ⟨RO, hRO⟩ : ∃ RO, RO = (.ro gE 0 [.slice A1 O.length c1] :: roE A1 (icells O)) := ⟨_, rfl⟩
  rw [← hJr] at hJro ⊢
  have hit := ceach_it gE A1 c1 O _ hA1.arg (fun _ => rfl) (by omega)
  rw [← hRO] at hit ⊢
  have hROro : Ro RO := fun e he => by
    rw [hRO] at he
    rcases List.mem_cons.1 he with rfl | he
    · rfl
    exact Ro.roE _ _ e he

  refine awp_seq ?_
  refine awp_seq_region (fun Z hZ => ?_)
  refine sx_assign rfl rfl ?_
  refine sx_nil (hZ _ _ ?_)
  refine awp_forget [(4, _), (5, _), (6, _), (7, _), (9, _), (10, _), (11, _)] (Kn.cons rfl (Kn.cons rfl (Kn.cons rfl (Kn.cons rfl (Kn.cons rfl (Kn.cons rfl (Kn.cons rfl (Kn.nil)))))))) ?_
  refine awp_block ?_
  refine awp_loopM (ι := List Nat) (fun ds => ds) (fun ds => [(4, ptr g1 0), (5, ptr g2 0), (6, ptr g3 0), (7, ptr g4 0), (9, ptr g9 0), (10, .func (.func 40) #[] #[ptr gE 0]), (11, iq (ds.length : Nat))]) (fun ds => .own g3 4 [.bool false] :: (mks ds ++ (RO ++ Jr)))
    (fun ds => ds.length ≤ 2) (fun ds => 2 - ds.length) [] (by simp) rfl (Kn.cons rfl (Kn.cons rfl (Kn.cons rfl (Kn.cons rfl (Kn.cons rfl (Kn.cons rfl (Kn.cons rfl Kn.nil))))))) (HLe.refl _) ?_
  intro ds hds
  refine awp_seq ?_
  refine awp_seq_region (fun Z hZ => ?_)
  refine sx_move rfl rfl ?_
  first | refine sx_lss rfl rfl rfl ?_ | refine sx_slss rfl rfl rfl ?_
  refine sx_nil (hZ _ _ ?_)
  refine awp_forget [(4, _), (5, _), (6, _), (7, _), (9, _), (10, _), (11, _), (40, _)] (Kn.cons rfl (Kn.cons rfl (Kn.cons rfl (Kn.cons rfl (Kn.cons rfl (Kn.cons rfl (Kn.cons rfl (Kn.cons rfl (Kn.nil))))))))) ?_
  first | refine awp_cond rfl (fun h => ?_) (fun h => ?_) | refine awp_seq (awp_cond rfl (fun h => ?_) (fun h => ?_))
  · have hlt : ds.length < 2 := by simp at h; omega
    refine awp_skip ?_
    repeat (with_reducible (first | refine nx_block_normal ?_ | refine nx_scope_normal ?_))
    with_reducible first | refine nx_normal ?_ | refine nx_normalM ?_
    refine awp_seq (awp_block ?_)
    refine awp_seq_region (fun Z hZ => ?_)
    refine sx_alloc tyZ3 rfl (fun g6 => ?_)
    first | refine sx_store1 0 rfl rfl rfl tyS3 rfl (by first | (simp only [List.length_cons, List.length_nil, Nat.reduceAdd, Nat.zero_add, Nat.add_zero]; first | done | rfl) | rfl) (by first | (simp only [List.set_cons_succ, List.set_cons_zero, Nat.reduceAdd, Nat.add_zero, Nat.zero_add]; first | done | rfl) | rfl) (by first | (simp only [List.set_cons_succ, List.set_cons_zero]; first | done | rfl) | rfl) ?_ | refine sx_store1 1 rfl rfl rfl tyS3 rfl (by first | (simp only [List.length_cons, List.length_nil, Nat.reduceAdd, Nat.zero_add, Nat.add_zero]; first | done | rfl) | rfl) (by first | (simp only [List.set_cons_succ, List.set_cons_zero, Nat.reduceAdd, Nat.add_zero, Nat.zero_add]; first | done | rfl) | rfl) (by first | (simp only [List.set_cons_succ, List.set_cons_zero]; first | done | rfl) | rfl) ?_
    refine sx_nil (hZ _ _ ?_)
    refine awp_forget [(4, _), (5, _), (6, _), (7, _), (9, _), (10, _), (11, _), (12, _)] (Kn.cons rfl (Kn.cons rfl (Kn.cons rfl (Kn.cons rfl (Kn.cons rfl (Kn.cons rfl (Kn.cons rfl (Kn.cons rfl (Kn.nil))))))))) ?_

    refine awp_seq ?_
    refine awp_seq_region (fun Z hZ => ?_)
    refine sx_move rfl rfl ?_
    refine sx_nil (hZ _ _ ?_)
    refine awp_forget [(4, _), (5, _), (6, _), (7, _), (9, _), (10, _), (11, _), (12, _), (43, _)] (Kn.cons rfl (Kn.cons rfl (Kn.cons rfl (Kn.cons rfl (Kn.cons rfl (Kn.cons rfl (Kn.cons rfl (Kn.cons rfl (Kn.cons rfl (Kn.nil)))))))))) ?_
    refine awp_block ?_
    refine awp_range (fun k H => H = .own g6 3 [iq (k : Nat)] :: .own g3 4 [.bool false] :: mks ds) Jr (fun c H => c = .exit 2 ∧ most ≤ O.length ∧ H = .own g6 3 [iq (most : Nat)] :: .own g3 4 [.bool false] :: mks ds) (.own g6 3 [iq (0 : Nat)] :: .own g3 4 [.bool false] :: mks ds) hit rfl (fun k H h => by subst h; exact .cons rfl (.cons rfl (mks_wrs ds))) (fun c H h => by obtain ⟨_, _, rfl⟩ := h; exact .cons rfl (.cons rfl (mks_wrs ds))) hJro hROro (fun k vs h => by rw [List.getElem?_map] at h; cases hk : O[k]? with | none => rw [hk] at h; cases h | some x => rw [hk] at h; obtain rfl := Option.some.inj h; rfl) rfl rfl (HLe.refl _) rfl ?_ ?_ ?_
    · intro k vs H hk hH l w1
      subst hH
      rw [List.getElem?_map] at hk
      cases hkx : O[k]? with
      | none => rw [hkx] at hk; cases hk
      | some y =>
        rw [hkx] at hk
        obtain rfl := Option.some.inj hk
        obtain ⟨hkl, _⟩ := List.getElem?_eq_some_iff.1 hkx
        obtain ⟨ga, o, rfl⟩ := slIn_pos hA5 (by omega)

        refine awp_seq_region (fun Z hZ => ?_)
        refine sx_assign rfl rfl ?_
        refine sx_nil (hZ _ _ ?_)
        refine awp_forget [(4, _), (6, _), (9, _), (12, _), (13, _), (45, _)] (Kn.cons rfl (Kn.cons rfl (Kn.cons rfl (Kn.cons rfl (Kn.cons rfl (Kn.cons rfl (Kn.nil))))))) ?_
        refine awp_region (fun Z hZ => ?_)
        refine sx_assign rfl rfl ?_
        refine sx_nil (hZ _ _ ?_)
        refine nx_forget [(4, _), (6, _), (9, _), (12, _), (13, _), (14, _)] (Kn.cons rfl (Kn.cons rfl (Kn.cons rfl (Kn.cons rfl (Kn.cons rfl (Kn.cons rfl (Kn.nil))))))) ?_
        refine nx_assign [] .nil (HLe.refl _) fun w2 => ?_
        refine awp_block ?_
        refine awp_heap ([.own g6 3 [iq (k : Nat)], .own g3 4 [.bool false], .ro g9 0 [.slice (some ⟨ga, o, none⟩) O.length c5], .ro g4 0 [.slice A1 O.length c1], .ro g2 0 x.cells, .ro g1 0 [.int .u8 (most : Int)], .ro ga o (icells O)] ++ mks ds) (by subst hJr; exact fun _ _ _ hw => hw.perm (List.Perm.append_left [_, _] (List.perm_append_comm (l₁ := mks ds) (l₂ := [_, _, _, _, _])))) ?_

        refine awp_seq ?_
        refine awp_seq_meet [(4, ptr g1 0), (6, ptr g3 0), (12, ptr g6 0), (67, .bool false)] ([.own g6 3 [iq (k : Nat)], .own g3 4 [.bool false], .ro g9 0 [.slice (some ⟨ga, o, none⟩) O.length c5], .ro g4 0 [.slice A1 O.length c1], .ro g2 0 x.cells, .ro g1 0 [.int .u8 (most : Int)], .ro ga o (icells O)] ++ mks ds) (fun Z hZ => ?_) ?_
        · first | refine sx_load 0 rfl rfl tyA3 tyS3 rfl rfl ?_ | refine sx_load 1 rfl rfl tyA3 tyS3 rfl rfl ?_ | refine sx_load 2 rfl rfl tyA3 tyS3 rfl rfl ?_ | refine sx_load 3 rfl rfl tyA3 tyS3 rfl rfl ?_ | refine sx_load 4 rfl rfl tyA3 tyS3 rfl rfl ?_ | refine sx_load 5 rfl rfl tyA3 tyS3 rfl rfl ?_ | refine sx_load 6 rfl rfl tyA3 tyS3 rfl rfl ?_
          refine sx_loadRo 2 rfl rfl 0 rfl tyA24 tyS24 rfl rfl ?_
          first | refine sx_len Try.underlying24 rfl rfl ?_ | refine sx_lenS Try.underlying24 rfl rfl ?_
          first | refine sx_geq rfl rfl rfl ?_ | refine sx_sgeq rfl rfl rfl ?_
          refine sx_move rfl rfl ?_
          refine sx_force 50 rfl false (by first | rfl | (simp; done) | (simp; omega)) ?_
          refine sx_on rfl rfl rfl ?_
          refine sx_loadRo 2 rfl rfl 0 rfl tyA24 tyS24 rfl rfl ?_
          refine sx_on rfl rfl rfl ?_
          first | refine sx_load 0 rfl rfl tyA3 tyS3 rfl rfl ?_ | refine sx_load 1 rfl rfl tyA3 tyS3 rfl rfl ?_ | refine sx_load 2 rfl rfl tyA3 tyS3 rfl rfl ?_ | refine sx_load 3 rfl rfl tyA3 tyS3 rfl rfl ?_ | refine sx_load 4 rfl rfl tyA3 tyS3 rfl rfl ?_ | refine sx_load 5 rfl rfl tyA3 tyS3 rfl rfl ?_ | refine sx_load 6 rfl rfl tyA3 tyS3 rfl rfl ?_
          refine sx_on rfl rfl rfl ?_
          refine sx_indexAddr (o + k * 2) Try.underlying24 tyS52 rfl rfl (by omega) (by simp) rfl ?_
          refine sx_on rfl rfl rfl ?_
          refine sx_fieldAddr rfl tyF52_0 (by first | (simp only [Nat.reduceAdd, Nat.add_zero, Nat.zero_add]; first | done | rfl) | rfl) rfl ?_
          refine sx_on rfl rfl rfl ?_
          refine sx_loadRo 6 rfl rfl (k * 2) rfl tyA23 tyS23 (icells_id hkx) rfl ?_
          refine sx_on rfl rfl rfl ?_
          refine sx_move rfl rfl ?_
          refine sx_on rfl rfl rfl ?_
          first | refine sx_neq rfl rfl rfl ?_ | refine sx_sneq rfl rfl rfl ?_
          refine sx_pick rfl rfl rfl ?_
          refine sx_move rfl rfl ?_
          refine sx_force 59 rfl false (by first | rfl | (simp; done) | (simp; omega)) ?_
          refine sx_on rfl rfl rfl ?_
          refine sx_loadRo 2 rfl rfl 0 rfl tyA24 tyS24 rfl rfl ?_
          refine sx_on rfl rfl rfl ?_
          first | refine sx_load 0 rfl rfl tyA3 tyS3 rfl rfl ?_ | refine sx_load 1 rfl rfl tyA3 tyS3 rfl rfl ?_ | refine sx_load 2 rfl rfl tyA3 tyS3 rfl rfl ?_ | refine sx_load 3 rfl rfl tyA3 tyS3 rfl rfl ?_ | refine sx_load 4 rfl rfl tyA3 tyS3 rfl rfl ?_ | refine sx_load 5 rfl rfl tyA3 tyS3 rfl rfl ?_ | refine sx_load 6 rfl rfl tyA3 tyS3 rfl rfl ?_
          refine sx_on rfl rfl rfl ?_
          refine sx_indexAddr (o + k * 2) Try.underlying24 tyS52 rfl rfl (by omega) (by simp) rfl ?_
          refine sx_on rfl rfl rfl ?_
          refine sx_fieldAddr rfl tyF52_1 (by first | (simp only [Nat.reduceAdd, Nat.add_zero, Nat.zero_add]; first | done | rfl) | rfl) rfl ?_
          refine sx_on rfl rfl rfl ?_
          refine sx_loadRo 6 rfl rfl (k * 2 + 1) rfl tyA9 tyS9 (icells_tx hkx) rfl ?_
          refine sx_on rfl rfl rfl ?_
          refine sx_move rfl rfl ?_
          refine sx_on rfl rfl rfl ?_
          first | refine sx_neq rfl rfl rfl ?_ | refine sx_sneq rfl rfl rfl ?_
          refine sx_pick rfl rfl rfl ?_
          refine sx_nil (hZ _ _ ?_ ?_)
          · exact Kn.cons rfl (Kn.cons rfl (Kn.cons rfl (Kn.cons (congrArg some (congrArg Value.bool (by first | rfl | (simp; done)))) Kn.nil)))
          · exact HLe.refl _
        first | refine awp_cond rfl (fun h5 => ?_) (fun h5 => ?_) | refine awp_seq (awp_cond rfl (fun h5 => ?_) (fun h5 => ?_))
        · cases h5
        refine awp_skip ?_
        repeat (with_reducible (first | refine nx_block_normal ?_ | refine nx_scope_normal ?_))
        with_reducible first | refine nx_normal ?_ | refine nx_normalM ?_
        refine awp_seq_region (fun Z hZ => ?_)
        first | refine sx_load 0 rfl rfl tyA3 tyS3 rfl rfl ?_ | refine sx_load 1 rfl rfl tyA3 tyS3 rfl rfl ?_ | refine sx_load 2 rfl rfl tyA3 tyS3 rfl rfl ?_ | refine sx_load 3 rfl rfl tyA3 tyS3 rfl rfl ?_ | refine sx_load 4 rfl rfl tyA3 tyS3 rfl rfl ?_ | refine sx_load 5 rfl rfl tyA3 tyS3 rfl rfl ?_ | refine sx_load 6 rfl rfl tyA3 tyS3 rfl rfl ?_
        refine sx_add rfl rfl ((k + 1 : Nat) : Int) (by rw [IntWalk.i64_in _ (by omega)]; omega) rfl ?_
        first | refine sx_store1 0 rfl rfl rfl tyS3 rfl (by first | (simp only [List.length_cons, List.length_nil, Nat.reduceAdd, Nat.zero_add, Nat.add_zero]; first | done | rfl) | rfl) (by first | (simp only [List.set_cons_succ, List.set_cons_zero, Nat.reduceAdd, Nat.add_zero, Nat.zero_add]; first | done | rfl) | rfl) (by first | (simp only [List.set_cons_succ, List.set_cons_zero]; first | done | rfl) | rfl) ?_ | refine sx_store1 1 rfl rfl rfl tyS3 rfl (by first | (simp only [List.length_cons, List.length_nil, Nat.reduceAdd, Nat.zero_add, Nat.add_zero]; first | done | rfl) | rfl) (by first | (simp only [List.set_cons_succ, List.set_cons_zero, Nat.reduceAdd, Nat.add_zero, Nat.zero_add]; first | done | rfl) | rfl) (by first | (simp only [List.set_cons_succ, List.set_cons_zero]; first | done | rfl) | rfl) ?_ | refine sx_store1 2 rfl rfl rfl tyS3 rfl (by first | (simp only [List.length_cons, List.length_nil, Nat.reduceAdd, Nat.zero_add, Nat.add_zero]; first | done | rfl) | rfl) (by first | (simp only [List.set_cons_succ, List.set_cons_zero, Nat.reduceAdd, Nat.add_zero, Nat.zero_add]; first | done | rfl) | rfl) (by first | (simp only [List.set_cons_succ, List.set_cons_zero]; first | done | rfl) | rfl) ?_ | refine sx_store1 3 rfl rfl rfl tyS3 rfl (by first | (simp only [List.length_cons, List.length_nil, Nat.reduceAdd, Nat.zero_add, Nat.add_zero]; first | done | rfl) | rfl) (by first | (simp only [List.set_cons_succ, List.set_cons_zero, Nat.reduceAdd, Nat.add_zero, Nat.zero_add]; first | done | rfl) | rfl) (by first | (simp only [List.set_cons_succ, List.set_cons_zero]; first | done | rfl) | rfl) ?_ | refine sx_store1 4 rfl rfl rfl tyS3 rfl (by first | (simp only [List.length_cons, List.length_nil, Nat.reduceAdd, Nat.zero_add, Nat.add_zero]; first | done | rfl) | rfl) (by first | (simp only [List.set_cons_succ, List.set_cons_zero, Nat.reduceAdd, Nat.add_zero, Nat.zero_add]; first | done | rfl) | rfl) (by first | (simp only [List.set_cons_succ, List.set_cons_zero]; first | done | rfl) | rfl) ?_ | refine sx_store1 5 rfl rfl rfl tyS3 rfl (by first | (simp only [List.length_cons, List.length_nil, Nat.reduceAdd, Nat.zero_add, Nat.add_zero]; first | done | rfl) | rfl) (by first | (simp only [List.set_cons_succ, List.set_cons_zero, Nat.reduceAdd, Nat.add_zero, Nat.zero_add]; first | done | rfl) | rfl) (by first | (simp only [List.set_cons_succ, List.set_cons_zero]; first | done | rfl) | rfl) ?_ | refine sx_store1 6 rfl rfl rfl tyS3 rfl (by first | (simp only [List.length_cons, List.length_nil, Nat.reduceAdd, Nat.zero_add, Nat.add_zero]; first | done | rfl) | rfl) (by first | (simp only [List.set_cons_succ, List.set_cons_zero, Nat.reduceAdd, Nat.add_zero, Nat.zero_add]; first | done | rfl) | rfl) (by first | (simp only [List.set_cons_succ, List.set_cons_zero]; first | done | rfl) | rfl) ?_
        refine sx_nil (hZ _ _ ?_)
        refine awp_forget [(4, _), (12, _)] (Kn.cons rfl (Kn.cons rfl (Kn.nil))) ?_
        refine awp_seq_region (fun Z hZ => ?_)
        first | refine sx_load 0 rfl rfl tyA3 tyS3 rfl rfl ?_ | refine sx_load 1 rfl rfl tyA3 tyS3 rfl rfl ?_ | refine sx_load 2 rfl rfl tyA3 tyS3 rfl rfl ?_ | refine sx_load 3 rfl rfl tyA3 tyS3 rfl rfl ?_ | refine sx_load 4 rfl rfl tyA3 tyS3 rfl rfl ?_ | refine sx_load 5 rfl rfl tyA3 tyS3 rfl rfl ?_ | refine sx_load 6 rfl rfl tyA3 tyS3 rfl rfl ?_
        refine sx_loadRo 5 rfl rfl 0 rfl tyA5 tyS5 rfl rfl ?_
        refine sx_conv Try.underlying5 Try.underlying3 rfl ((most : Nat) : Int) (by rw [IntWalk.i64_in _ (by omega)]) rfl ?_
        first | refine sx_eql rfl rfl rfl ?_ | refine sx_seql rfl rfl rfl ?_
        refine sx_nil (hZ _ _ ?_)
        refine awp_forget [(73, _)] (Kn.cons rfl (Kn.nil)) ?_
        have hdrop : ∀ v, HLe (.own g6 3 [v] :: .own g3 4 [.bool false] :: mks ds) ([.own g6 3 [v], .own g3 4 [.bool false], .ro g9 0 [.slice (some ⟨ga, o, none⟩) O.length c5], .ro g4 0 [.slice A1 O.length c1], .ro g2 0 x.cells, .ro g1 0 [.int .u8 (most : Int)], .ro ga o (icells O)] ++ mks ds) := fun v => HLe.sub (List.Sublist.cons_cons _ (List.Sublist.cons_cons _ (List.Sublist.cons _ (List.Sublist.cons _ (List.Sublist.cons _ (List.Sublist.cons _ (List.Sublist.cons _ (List.Sublist.refl _))))))))
        first | refine awp_cond rfl (fun h6 => ?_) (fun h6 => ?_) | refine awp_seq (awp_cond rfl (fun h6 => ?_) (fun h6 => ?_))
        · have hkm : k + 1 = most := by simp at h6; omega
          refine awp_exit ?_
          refine nx_block_other (by decide) ?_
          subst hkm
          exact nx_stopExit _ ⟨rfl, by omega, rfl⟩ (hdrop _)
        · refine awp_skip ?_
          refine nx_block_normal ?_
          exact nx_next _ rfl (hdrop _)
    · intro D H hH
      subst hH
      rw [List.length_map]
      refine nx_block_normal ?_
      repeat (with_reducible (first | refine nx_block_normal ?_ | refine nx_scope_normal ?_))
      with_reducible first | refine nx_normal ?_ | refine nx_normalM ?_
      refine awp_heap (.ob D isDef :: .own g6 3 [iq (O.length : Nat)] :: .own g3 4 [.bool false] :: ([.ro g9 0 [.slice A5 O.length c5], .ro g4 0 [.slice A1 O.length c1], .ro g2 0 x.cells, .ro g1 0 [.int .u8 (most : Int)]] ++ (mks ds ++ (RO ++ roE A5 (icells O))))) (by subst hJr; exact mid_le [.ob D isDef, .own g6 3 [iq (O.length : Nat)], .own g3 4 [.bool false]] (mks ds) RO [.ro g9 0 [.slice A5 O.length c5], .ro g4 0 [.slice A1 O.length c1], .ro g2 0 x.cells, .ro g1 0 [.int .u8 (most : Int)]] (roE A5 (icells O))) ?_

      refine awp_seq_meet [(4, ptr g1 0), (5, ptr g2 0), (6, ptr g3 0), (7, ptr g4 0), (9, ptr g9 0), (10, .func (.func 40) #[] #[ptr gE 0]), (11, iq (ds.length : Nat)), (89, .bool false)] (.ob D isDef :: .own g6 3 [iq (O.length : Nat)] :: .own g3 4 [.bool false] :: ([.ro g9 0 [.slice A5 O.length c5], .ro g4 0 [.slice A1 O.length c1], .ro g2 0 x.cells, .ro g1 0 [.int .u8 (most : Int)]] ++ (mks ds ++ (RO ++ roE A5 (icells O))))) (fun Z hZ => ?_) ?_
      · first | refine sx_load 0 rfl rfl tyA3 tyS3 rfl rfl ?_ | refine sx_load 1 rfl rfl tyA3 tyS3 rfl rfl ?_ | refine sx_load 2 rfl rfl tyA3 tyS3 rfl rfl ?_ | refine sx_load 3 rfl rfl tyA3 tyS3 rfl rfl ?_ | refine sx_load 4 rfl rfl tyA3 tyS3 rfl rfl ?_ | refine sx_load 5 rfl rfl tyA3 tyS3 rfl rfl ?_ | refine sx_load 6 rfl rfl tyA3 tyS3 rfl rfl ?_
        refine sx_loadRo 3 rfl rfl 0 rfl tyA24 tyS24 rfl rfl ?_
        first | refine sx_len Try.underlying24 rfl rfl ?_ | refine sx_lenS Try.underlying24 rfl rfl ?_
        first | refine sx_neq rfl rfl rfl ?_ | refine sx_sneq rfl rfl rfl ?_
        refine sx_move rfl rfl ?_
        refine sx_split 78 rfl (fun hb4 => ?_) (fun hb4 => ?_)
        · refine sx_on rfl rfl rfl ?_
          first | refine sx_load 0 rfl rfl tyA3 tyS3 rfl rfl ?_ | refine sx_load 1 rfl rfl tyA3 tyS3 rfl rfl ?_ | refine sx_load 2 rfl rfl tyA3 tyS3 rfl rfl ?_ | refine sx_load 3 rfl rfl tyA3 tyS3 rfl rfl ?_ | refine sx_load 4 rfl rfl tyA3 tyS3 rfl rfl ?_ | refine sx_load 5 rfl rfl tyA3 tyS3 rfl rfl ?_ | refine sx_load 6 rfl rfl tyA3 tyS3 rfl rfl ?_
          refine sx_on rfl rfl rfl ?_
          refine sx_loadRo 6 rfl rfl 0 rfl tyA5 tyS5 rfl rfl ?_
          refine sx_on rfl rfl rfl ?_
          refine sx_conv Try.underlying5 Try.underlying3 rfl ((most : Nat) : Int) (by rw [IntWalk.i64_in _ (by omega)]) rfl ?_
          refine sx_on rfl rfl rfl ?_
          first | refine sx_neq rfl rfl rfl ?_ | refine sx_sneq rfl rfl rfl ?_
          refine sx_on rfl rfl rfl ?_
          refine sx_move rfl rfl ?_
          refine sx_split 83 rfl (fun hb9 => ?_) (fun hb9 => ?_)
          · refine sx_off rfl rfl rfl rfl rfl ?_
            refine sx_off rfl rfl rfl rfl rfl ?_
            refine sx_off rfl rfl rfl rfl rfl ?_
            refine sx_off rfl rfl rfl rfl rfl ?_
            refine sx_on rfl rfl rfl ?_
            refine sx_pick rfl rfl rfl ?_
            refine sx_pick rfl rfl rfl ?_
            refine sx_nil (hZ _ _ ?_ ?_)
            · first | (exfalso; simp at *; done) | (exfalso; simp at *; omega) | exact Kn.cons rfl (Kn.cons rfl (Kn.cons rfl (Kn.cons rfl (Kn.cons rfl (Kn.cons rfl (Kn.cons rfl (Kn.cons (congrArg some (congrArg Value.bool (by first | rfl | (simp; done) | (simp; omega)))) Kn.nil)))))))
            · exact HLe.refl _
          · refine sx_on rfl rfl rfl ?_
            first | refine sx_load 0 rfl rfl tyA3 tyS3 rfl rfl ?_ | refine sx_load 1 rfl rfl tyA3 tyS3 rfl rfl ?_ | refine sx_load 2 rfl rfl tyA3 tyS3 rfl rfl ?_ | refine sx_load 3 rfl rfl tyA3 tyS3 rfl rfl ?_ | refine sx_load 4 rfl rfl tyA3 tyS3 rfl rfl ?_ | refine sx_load 5 rfl rfl tyA3 tyS3 rfl rfl ?_ | refine sx_load 6 rfl rfl tyA3 tyS3 rfl rfl ?_
            refine sx_on rfl rfl rfl ?_
            refine sx_loadRo 3 rfl rfl 0 rfl tyA24 tyS24 rfl rfl ?_
            refine sx_on rfl rfl rfl ?_
            first | refine sx_len Try.underlying24 rfl rfl ?_ | refine sx_lenS Try.underlying24 rfl rfl ?_
            refine sx_on rfl rfl rfl ?_
            first | refine sx_gtr rfl rfl rfl ?_ | refine sx_sgtr rfl rfl rfl ?_
            refine sx_on rfl rfl rfl ?_
            refine sx_pick rfl rfl rfl ?_
            refine sx_pick rfl rfl rfl ?_
            refine sx_nil (hZ _ _ ?_ ?_)
            · first | (exfalso; simp at *; done) | (exfalso; simp at *; omega) | exact Kn.cons rfl (Kn.cons rfl (Kn.cons rfl (Kn.cons rfl (Kn.cons rfl (Kn.cons rfl (Kn.cons rfl (Kn.cons (congrArg some (congrArg Value.bool (by first | rfl | (simp; done) | (simp; omega)))) Kn.nil)))))))
            · exact HLe.refl _
        · refine sx_off rfl rfl rfl rfl rfl ?_
          refine sx_off rfl rfl rfl rfl rfl ?_
          refine sx_off rfl rfl rfl rfl rfl ?_
          refine sx_off rfl rfl rfl rfl rfl ?_
          refine sx_off rfl rfl rfl rfl rfl ?_
          refine sx_offU rfl rfl rfl rfl ?_
          refine sx_offU rfl rfl rfl rfl ?_
          refine sx_offU rfl rfl rfl rfl ?_
          refine sx_offU rfl rfl rfl rfl ?_
          refine sx_off rfl rfl rfl rfl rfl ?_
          refine sx_pick rfl rfl rfl ?_
          refine sx_nil (hZ _ _ ?_ ?_)
          · first | (exfalso; simp at *; done) | (exfalso; simp at *; omega) | exact Kn.cons rfl (Kn.cons rfl (Kn.cons rfl (Kn.cons rfl (Kn.cons rfl (Kn.cons rfl (Kn.cons rfl (Kn.cons (congrArg some (congrArg Value.bool (by first | rfl | (simp; done) | (simp; omega)))) Kn.nil)))))))
          · exact HLe.refl _
      first | refine awp_cond rfl (fun h6 => ?_) (fun h6 => ?_) | refine awp_seq (awp_cond rfl (fun h6 => ?_) (fun h6 => ?_))
      · cases h6
      refine awp_skip ?_
      repeat (with_reducible (first | refine nx_block_normal ?_ | refine nx_scope_normal ?_))
      with_reducible first | refine nx_normal ?_ | refine nx_normalM ?_
      refine awp_region (fun Z hZ => ?_)
      refine sx_move rfl rfl ?_
      refine sx_add rfl rfl ((ds.length + 1 : Nat) : Int) (by rw [IntWalk.i64_in _ (by omega)]; omega) rfl ?_
      refine sx_assign rfl rfl ?_
      refine sx_nil (hZ _ _ ?_)
      refine nx_forget [(4, _), (5, _), (6, _), (7, _), (9, _), (10, _), (11, _)] (Kn.cons rfl (Kn.cons rfl (Kn.cons rfl (Kn.cons rfl (Kn.cons rfl (Kn.cons rfl (Kn.cons rfl (Kn.nil)))))))) ?_
      refine nx_roundM (D :: ds) (by simp; omega) (by simp; omega) rfl (Kn.cons rfl (Kn.cons rfl (Kn.cons rfl (Kn.cons rfl (Kn.cons rfl (Kn.cons rfl (Kn.cons rfl Kn.nil))))))) ?_
      subst hJr
      exact back_le _ _ _ (mks ds) RO [.ro g9 0 [.slice A5 O.length c5], .ro g4 0 [.slice A1 O.length c1], .ro g2 0 x.cells, .ro g1 0 [.int .u8 (most : Int)]] (roE A5 (icells O))
    · rintro D c H ⟨rfl, hml, rfl⟩
      refine awp_exit ?_
      refine nx_block_exit ?_
      repeat (with_reducible (first | refine nx_block_normal ?_ | refine nx_scope_normal ?_))
      with_reducible first | refine nx_normal ?_ | refine nx_normalM ?_
      refine awp_heap (.ob D isDef :: .own g6 3 [iq (most : Nat)] :: .own g3 4 [.bool false] :: ([.ro g9 0 [.slice A5 O.length c5], .ro g4 0 [.slice A1 O.length c1], .ro g2 0 x.cells, .ro g1 0 [.int .u8 (most : Int)]] ++ (mks ds ++ (RO ++ roE A5 (icells O))))) (by subst hJr; exact mid_le [.ob D isDef, .own g6 3 [iq (most : Nat)], .own g3 4 [.bool false]] (mks ds) RO [.ro g9 0 [.slice A5 O.length c5], .ro g4 0 [.slice A1 O.length c1], .ro g2 0 x.cells, .ro g1 0 [.int .u8 (most : Int)]] (roE A5 (icells O))) ?_

      refine awp_seq_meet [(4, ptr g1 0), (5, ptr g2 0), (6, ptr g3 0), (7, ptr g4 0), (9, ptr g9 0), (10, .func (.func 40) #[] #[ptr gE 0]), (11, iq (ds.length : Nat)), (89, .bool false)] (.ob D isDef :: .own g6 3 [iq (most : Nat)] :: .own g3 4 [.bool false] :: ([.ro g9 0 [.slice A5 O.length c5], .ro g4 0 [.slice A1 O.length c1], .ro g2 0 x.cells, .ro g1 0 [.int .u8 (most : Int)]] ++ (mks ds ++ (RO ++ roE A5 (icells O))))) (fun Z hZ => ?_) ?_
      · first | refine sx_load 0 rfl rfl tyA3 tyS3 rfl rfl ?_ | refine sx_load 1 rfl rfl tyA3 tyS3 rfl rfl ?_ | refine sx_load 2 rfl rfl tyA3 tyS3 rfl rfl ?_ | refine sx_load 3 rfl rfl tyA3 tyS3 rfl rfl ?_ | refine sx_load 4 rfl rfl tyA3 tyS3 rfl rfl ?_ | refine sx_load 5 rfl rfl tyA3 tyS3 rfl rfl ?_ | refine sx_load 6 rfl rfl tyA3 tyS3 rfl rfl ?_
        refine sx_loadRo 3 rfl rfl 0 rfl tyA24 tyS24 rfl rfl ?_
        first | refine sx_len Try.underlying24 rfl rfl ?_ | refine sx_lenS Try.underlying24 rfl rfl ?_
        first | refine sx_neq rfl rfl rfl ?_ | refine sx_sneq rfl rfl rfl ?_
        refine sx_move rfl rfl ?_
        refine sx_split 78 rfl (fun hb4 => ?_) (fun hb4 => ?_)
        · refine sx_on rfl rfl rfl ?_
          first | refine sx_load 0 rfl rfl tyA3 tyS3 rfl rfl ?_ | refine sx_load 1 rfl rfl tyA3 tyS3 rfl rfl ?_ | refine sx_load 2 rfl rfl tyA3 tyS3 rfl rfl ?_ | refine sx_load 3 rfl rfl tyA3 tyS3 rfl rfl ?_ | refine sx_load 4 rfl rfl tyA3 tyS3 rfl rfl ?_ | refine sx_load 5 rfl rfl tyA3 tyS3 rfl rfl ?_ | refine sx_load 6 rfl rfl tyA3 tyS3 rfl rfl ?_
          refine sx_on rfl rfl rfl ?_
          refine sx_loadRo 6 rfl rfl 0 rfl tyA5 tyS5 rfl rfl ?_
          refine sx_on rfl rfl rfl ?_
          refine sx_conv Try.underlying5 Try.underlying3 rfl ((most : Nat) : Int) (by rw [IntWalk.i64_in _ (by omega)]) rfl ?_
          refine sx_on rfl rfl rfl ?_
          first | refine sx_neq rfl rfl rfl ?_ | refine sx_sneq rfl rfl rfl ?_
          refine sx_on rfl rfl rfl ?_
          refine sx_move rfl rfl ?_
          refine sx_split 83 rfl (fun hb9 => ?_) (fun hb9 => ?_)
          · refine sx_off rfl rfl rfl rfl rfl ?_
            refine sx_off rfl rfl rfl rfl rfl ?_
            refine sx_off rfl rfl rfl rfl rfl ?_
            refine sx_off rfl rfl rfl rfl rfl ?_
            refine sx_on rfl rfl rfl ?_
            refine sx_pick rfl rfl rfl ?_
            refine sx_pick rfl rfl rfl ?_
            refine sx_nil (hZ _ _ ?_ ?_)
            · first | (exfalso; simp at *; done) | (exfalso; simp at *; omega) | exact Kn.cons rfl (Kn.cons rfl (Kn.cons rfl (Kn.cons rfl (Kn.cons rfl (Kn.cons rfl (Kn.cons rfl (Kn.cons (congrArg some (congrArg Value.bool (by first | rfl | (simp; done) | (simp; omega)))) Kn.nil)))))))
            · exact HLe.refl _
          · refine sx_on rfl rfl rfl ?_
            first | refine sx_load 0 rfl rfl tyA3 tyS3 rfl rfl ?_ | refine sx_load 1 rfl rfl tyA3 tyS3 rfl rfl ?_ | refine sx_load 2 rfl rfl tyA3 tyS3 rfl rfl ?_ | refine sx_load 3 rfl rfl tyA3 tyS3 rfl rfl ?_ | refine sx_load 4 rfl rfl tyA3 tyS3 rfl rfl ?_ | refine sx_load 5 rfl rfl tyA3 tyS3 rfl rfl ?_ | refine sx_load 6 rfl rfl tyA3 tyS3 rfl rfl ?_
            refine sx_on rfl rfl rfl ?_
            refine sx_loadRo 3 rfl rfl 0 rfl tyA24 tyS24 rfl rfl ?_
            refine sx_on rfl rfl rfl ?_
            first | refine sx_len Try.underlying24 rfl rfl ?_ | refine sx_lenS Try.underlying24 rfl rfl ?_
            refine sx_on rfl rfl rfl ?_
            first | refine sx_gtr rfl rfl rfl ?_ | refine sx_sgtr rfl rfl rfl ?_
            refine sx_on rfl rfl rfl ?_
            refine sx_pick rfl rfl rfl ?_
            refine sx_pick rfl rfl rfl ?_
            refine sx_nil (hZ _ _ ?_ ?_)
            · first | (exfalso; simp at *; done) | (exfalso; simp at *; omega) | exact Kn.cons rfl (Kn.cons rfl (Kn.cons rfl (Kn.cons rfl (Kn.cons rfl (Kn.cons rfl (Kn.cons rfl (Kn.cons (congrArg some (congrArg Value.bool (by first | rfl | (simp; done) | (simp; omega)))) Kn.nil)))))))
            · exact HLe.refl _
        · refine sx_off rfl rfl rfl rfl rfl ?_
          refine sx_off rfl rfl rfl rfl rfl ?_
          refine sx_off rfl rfl rfl rfl rfl ?_
          refine sx_off rfl rfl rfl rfl rfl ?_
          refine sx_off rfl rfl rfl rfl rfl ?_
          refine sx_offU rfl rfl rfl rfl ?_
          refine sx_offU rfl rfl rfl rfl ?_
          refine sx_offU rfl rfl rfl rfl ?_
          refine sx_offU rfl rfl rfl rfl ?_
          refine sx_off rfl rfl rfl rfl rfl ?_
          refine sx_pick rfl rfl rfl ?_
          refine sx_nil (hZ _ _ ?_ ?_)
          · first | (exfalso; simp at *; done) | (exfalso; simp at *; omega) | exact Kn.cons rfl (Kn.cons rfl (Kn.cons rfl (Kn.cons rfl (Kn.cons rfl (Kn.cons rfl (Kn.cons rfl (Kn.cons (congrArg some (congrArg Value.bool (by first | rfl | (simp; done) | (simp; omega)))) Kn.nil)))))))
          · exact HLe.refl _
      first | refine awp_cond rfl (fun h6 => ?_) (fun h6 => ?_) | refine awp_seq (awp_cond rfl (fun h6 => ?_) (fun h6 => ?_))
      · cases h6
      refine awp_skip ?_
      repeat (with_reducible (first | refine nx_block_normal ?_ | refine nx_scope_normal ?_))
      with_reducible first | refine nx_normal ?_ | refine nx_normalM ?_
      refine awp_region (fun Z hZ => ?_)
      refine sx_move rfl rfl ?_
      refine sx_add rfl rfl ((ds.length + 1 : Nat) : Int) (by rw [IntWalk.i64_in _ (by omega)]; omega) rfl ?_
      refine sx_assign rfl rfl ?_
      refine sx_nil (hZ _ _ ?_)
      refine nx_forget [(4, _), (5, _), (6, _), (7, _), (9, _), (10, _), (11, _)] (Kn.cons rfl (Kn.cons rfl (Kn.cons rfl (Kn.cons rfl (Kn.cons rfl (Kn.cons rfl (Kn.cons rfl (Kn.nil)))))))) ?_
      refine nx_roundM (D :: ds) (by simp; omega) (by simp; omega) rfl (Kn.cons rfl (Kn.cons rfl (Kn.cons rfl (Kn.cons rfl (Kn.cons rfl (Kn.cons rfl (Kn.cons rfl Kn.nil))))))) ?_
      subst hJr
      exact back_le _ _ _ (mks ds) RO [.ro g9 0 [.slice A5 O.length c5], .ro g4 0 [.slice A1 O.length c1], .ro g2 0 x.cells, .ro g1 0 [.int .u8 (most : Int)]] (roE A5 (icells O))
  · have hd2 : ds.length = 2 := by simp at h; omega
    obtain ⟨Da, Db, rfl⟩ : ∃ a b, ds = [a, b] := by
      match ds, hd2 with
      | [a, b], _ => exact ⟨a, b, rfl⟩
    refine awp_exit ?_
    repeat (with_reducible (first | refine nx_then_exit ?_ | refine nx_block_other (by decide) ?_ | refine nx_scope_exit ?_))
    with_reducible refine nx_block_exit ?_
    repeat (with_reducible (first | refine nx_block_normal ?_ | refine nx_scope_normal ?_))
    with_reducible first | refine nx_normal ?_ | refine nx_normalM ?_
    refine awp_heap (.own g3 4 [.bool false] :: .ob Da isDef :: .ob Db isDef :: .ro g4 0 [.slice A1 O.length c1] :: .ro g2 0 x.cells :: .ro g9 0 [.slice A5 O.length c5] :: roE A1 (icells O)) (by subst hJr hRO; exact fun _ _ _ hw => (hw.perm (each_p3 _ _ _ _ _ _ _ _ _ _)).sub (List.sublist_append_left _ _)) ?_
    obtain ⟨M, hM⟩ : ∃ M, putQ x.id x.tx O = M := ⟨_, rfl⟩
    have hokM : ChOk M := by rw [← hM]; exact hok.putQ _ _
    have hlM := hokM.len
    have m2 : M.length ≤ maxLen := by show _ ≤ 9223372036854775807; omega

    refine awp_seq_region (fun Z hZ => ?_)
    refine sx_loadRo 3 rfl rfl 0 rfl tyA26 tyS26 rfl rfl ?_
    refine sx_fieldAddr rfl tyF53_0 (by first | (simp only [Nat.reduceAdd, Nat.add_zero, Nat.zero_add]; first | done | rfl) | rfl) rfl ?_
    refine sx_loadRo 4 rfl rfl 0 rfl tyA23 tyS23 rfl rfl ?_
    refine sx_fieldAddr rfl tyF53_1 (by first | (simp only [Nat.reduceAdd, Nat.add_zero, Nat.zero_add]; first | done | rfl) | rfl) rfl ?_
    refine sx_loadRo 4 rfl rfl 1 rfl tyA9 tyS9 rfl rfl ?_
    refine sx_putE O x.id x.tx hA1 (by repeat (first | exact List.Sublist.refl _ | exact List.nil_sublist _ | exact List.sublist_append_right _ _ | refine List.Sublist.trans ?_ (List.sublist_append_left _ _) | exact List.Sublist.cons_cons _ (List.nil_sublist _) | refine List.Sublist.cons _ ?_)) hok rfl rfl (fun A6 c6 hA6 => ?_)
    rw [hM]
    rw [hM] at hA6
    refine sx_move rfl rfl ?_
    refine sx_extract rfl rfl rfl ?_
    refine sx_extract rfl rfl rfl ?_
    refine sx_alloc tyZ26 rfl (fun g7 => ?_)
    first | refine sx_store 0 rfl rfl rfl tyS26 (by first | (simp only [Value.cells]; first | done | rfl) | rfl) rfl rfl (by first | (simp only [List.length_cons, List.length_nil, Nat.reduceAdd, Nat.zero_add, Nat.add_zero]; first | done | rfl) | rfl) (by first | (simp only [List.take_succ_cons, List.take_zero, List.drop_succ_cons, List.drop_zero, List.cons_append, List.nil_append, List.append_nil, List.length_cons, List.length_nil, Nat.reduceAdd, Nat.zero_add, Nat.add_zero, Value.cells, wrV]; first | done | rfl) | rfl) (by first | (simp only [List.set_cons_succ, List.set_cons_zero]; first | done | rfl) | rfl) ?_ | refine sx_store 1 rfl rfl rfl tyS26 (by first | (simp only [Value.cells]; first | done | rfl) | rfl) rfl rfl (by first | (simp only [List.length_cons, List.length_nil, Nat.reduceAdd, Nat.zero_add, Nat.add_zero]; first | done | rfl) | rfl) (by first | (simp only [List.take_succ_cons, List.take_zero, List.drop_succ_cons, List.drop_zero, List.cons_append, List.nil_append, List.append_nil, List.length_cons, List.length_nil, Nat.reduceAdd, Nat.zero_add, Nat.add_zero, Value.cells, wrV]; first | done | rfl) | rfl) (by first | (simp only [List.set_cons_succ, List.set_cons_zero]; first | done | rfl) | rfl) ?_ | refine sx_store 2 rfl rfl rfl tyS26 (by first | (simp only [Value.cells]; first | done | rfl) | rfl) rfl rfl (by first | (simp only [List.length_cons, List.length_nil, Nat.reduceAdd, Nat.zero_add, Nat.add_zero]; first | done | rfl) | rfl) (by first | (simp only [List.take_succ_cons, List.take_zero, List.drop_succ_cons, List.drop_zero, List.cons_append, List.nil_append, List.append_nil, List.length_cons, List.length_nil, Nat.reduceAdd, Nat.zero_add, Nat.add_zero, Value.cells, wrV]; first | done | rfl) | rfl) (by first | (simp only [List.set_cons_succ, List.set_cons_zero]; first | done | rfl) | rfl) ?_ | refine sx_store 3 rfl rfl rfl tyS26 (by first | (simp only [Value.cells]; first | done | rfl) | rfl) rfl rfl (by first | (simp only [List.length_cons, List.length_nil, Nat.reduceAdd, Nat.zero_add, Nat.add_zero]; first | done | rfl) | rfl) (by first | (simp only [List.take_succ_cons, List.take_zero, List.drop_succ_cons, List.drop_zero, List.cons_append, List.nil_append, List.append_nil, List.length_cons, List.length_nil, Nat.reduceAdd, Nat.zero_add, Nat.add_zero, Value.cells, wrV]; first | done | rfl) | rfl) (by first | (simp only [List.set_cons_succ, List.set_cons_zero]; first | done | rfl) | rfl) ?_ | refine sx_store 4 rfl rfl rfl tyS26 (by first | (simp only [Value.cells]; first | done | rfl) | rfl) rfl rfl (by first | (simp only [List.length_cons, List.length_nil, Nat.reduceAdd, Nat.zero_add, Nat.add_zero]; first | done | rfl) | rfl) (by first | (simp only [List.take_succ_cons, List.take_zero, List.drop_succ_cons, List.drop_zero, List.cons_append, List.nil_append, List.append_nil, List.length_cons, List.length_nil, Nat.reduceAdd, Nat.zero_add, Nat.add_zero, Value.cells, wrV]; first | done | rfl) | rfl) (by first | (simp only [List.set_cons_succ, List.set_cons_zero]; first | done | rfl) | rfl) ?_ | refine sx_store 5 rfl rfl rfl tyS26 (by first | (simp only [Value.cells]; first | done | rfl) | rfl) rfl rfl (by first | (simp only [List.length_cons, List.length_nil, Nat.reduceAdd, Nat.zero_add, Nat.add_zero]; first | done | rfl) | rfl) (by first | (simp only [List.take_succ_cons, List.take_zero, List.drop_succ_cons, List.drop_zero, List.cons_append, List.nil_append, List.append_nil, List.length_cons, List.length_nil, Nat.reduceAdd, Nat.zero_add, Nat.add_zero, Value.cells, wrV]; first | done | rfl) | rfl) (by first | (simp only [List.set_cons_succ, List.set_cons_zero]; first | done | rfl) | rfl) ?_ | refine sx_store 6 rfl rfl rfl tyS26 (by first | (simp only [Value.cells]; first | done | rfl) | rfl) rfl rfl (by first | (simp only [List.length_cons, List.length_nil, Nat.reduceAdd, Nat.zero_add, Nat.add_zero]; first | done | rfl) | rfl) (by first | (simp only [List.take_succ_cons, List.take_zero, List.drop_succ_cons, List.drop_zero, List.cons_append, List.nil_append, List.append_nil, List.length_cons, List.length_nil, Nat.reduceAdd, Nat.zero_add, Nat.add_zero, Value.cells, wrV]; first | done | rfl) | rfl) (by first | (simp only [List.set_cons_succ, List.set_cons_zero]; first | done | rfl) | rfl) ?_
    refine sx_assign rfl rfl ?_
    refine sx_nil (hZ _ _ ?_)
    refine awp_forget [(5, _), (6, _), (7, _), (9, _), (15, _), (16, _)] (Kn.cons rfl (Kn.cons rfl (Kn.cons rfl (Kn.cons rfl (Kn.cons rfl (Kn.cons rfl (Kn.nil))))))) ?_

    refine awp_seq ?_
    refine awp_seq_region (fun Z hZ => ?_)
    refine sx_move rfl rfl ?_
    first | refine sx_neq rfl rfl rfl ?_ | refine sx_sneq rfl rfl rfl ?_
    refine sx_nil (hZ _ _ ?_)
    refine awp_forget [(5, _), (6, _), (7, _), (9, _), (15, _), (100, _)] (Kn.cons rfl (Kn.cons rfl (Kn.cons rfl (Kn.cons rfl (Kn.cons rfl (Kn.cons rfl (Kn.nil))))))) ?_
    first | refine awp_cond rfl (fun h => ?_) (fun h => ?_) | refine awp_seq (awp_cond rfl (fun h => ?_) (fun h => ?_))
    · have he : ¬ putE x.id x.tx O = 0 := by simp at h; omega
      have hMO : M = O := by rw [← hM, putQ_old he]
      subst hMO
      refine awp_seq_meet [(6, ptr g3 0)] [.own g3 4 [.bool true], .ob Da isDef, .ob Db isDef] (fun Z hZ => ?_) ?_
      · refine sx_loadRo 4 rfl rfl 0 rfl tyA26 tyS26 rfl rfl ?_
        first | refine sx_loadA 0 rfl rfl tyA26 tyS26 (by first | (simp only [List.length_cons, List.length_nil, Nat.reduceAdd, Nat.zero_add, Nat.add_zero]; first | done | rfl) | rfl) (by first | (simp only [List.take_succ_cons, List.take_zero, List.drop_succ_cons, List.drop_zero, List.cons_append, List.nil_append, List.append_nil, List.length_cons, List.length_nil, Nat.reduceAdd, Nat.zero_add, Nat.add_zero, Value.cells, wrV]; first | done | rfl) | rfl) rfl ?_ | refine sx_loadA 1 rfl rfl tyA26 tyS26 (by first | (simp only [List.length_cons, List.length_nil, Nat.reduceAdd, Nat.zero_add, Nat.add_zero]; first | done | rfl) | rfl) (by first | (simp only [List.take_succ_cons, List.take_zero, List.drop_succ_cons, List.drop_zero, List.cons_append, List.nil_append, List.append_nil, List.length_cons, List.length_nil, Nat.reduceAdd, Nat.zero_add, Nat.add_zero, Value.cells, wrV]; first | done | rfl) | rfl) rfl ?_ | refine sx_loadA 2 rfl rfl tyA26 tyS26 (by first | (simp only [List.length_cons, List.length_nil, Nat.reduceAdd, Nat.zero_add, Nat.add_zero]; first | done | rfl) | rfl) (by first | (simp only [List.take_succ_cons, List.take_zero, List.drop_succ_cons, List.drop_zero, List.cons_append, List.nil_append, List.append_nil, List.length_cons, List.length_nil, Nat.reduceAdd, Nat.zero_add, Nat.add_zero, Value.cells, wrV]; first | done | rfl) | rfl) rfl ?_ | refine sx_loadA 3 rfl rfl tyA26 tyS26 (by first | (simp only [List.length_cons, List.length_nil, Nat.reduceAdd, Nat.zero_add, Nat.add_zero]; first | done | rfl) | rfl) (by first | (simp only [List.take_succ_cons, List.take_zero, List.drop_succ_cons, List.drop_zero, List.cons_append, List.nil_append, List.append_nil, List.length_cons, List.length_nil, Nat.reduceAdd, Nat.zero_add, Nat.add_zero, Value.cells, wrV]; first | done | rfl) | rfl) rfl ?_ | refine sx_loadA 4 rfl rfl tyA26 tyS26 (by first | (simp only [List.length_cons, List.length_nil, Nat.reduceAdd, Nat.zero_add, Nat.add_zero]; first | done | rfl) | rfl) (by first | (simp only [List.take_succ_cons, List.take_zero, List.drop_succ_cons, List.drop_zero, List.cons_append, List.nil_append, List.append_nil, List.length_cons, List.length_nil, Nat.reduceAdd, Nat.zero_add, Nat.add_zero, Value.cells, wrV]; first | done | rfl) | rfl) rfl ?_ | refine sx_loadA 5 rfl rfl tyA26 tyS26 (by first | (simp only [List.length_cons, List.length_nil, Nat.reduceAdd, Nat.zero_add, Nat.add_zero]; first | done | rfl) | rfl) (by first | (simp only [List.take_succ_cons, List.take_zero, List.drop_succ_cons, List.drop_zero, List.cons_append, List.nil_append, List.append_nil, List.length_cons, List.length_nil, Nat.reduceAdd, Nat.zero_add, Nat.add_zero, Value.cells, wrV]; first | done | rfl) | rfl) rfl ?_ | refine sx_loadA 6 rfl rfl tyA26 tyS26 (by first | (simp only [List.length_cons, List.length_nil, Nat.reduceAdd, Nat.zero_add, Nat.add_zero]; first | done | rfl) | rfl) (by first | (simp only [List.take_succ_cons, List.take_zero, List.drop_succ_cons, List.drop_zero, List.cons_append, List.nil_append, List.append_nil, List.length_cons, List.length_nil, Nat.reduceAdd, Nat.zero_add, Nat.add_zero, Value.cells, wrV]; first | done | rfl) | rfl) rfl ?_
        refine sx_csame M M hA1 hA6 (by repeat (first | exact List.Sublist.refl _ | exact List.nil_sublist _ | exact List.sublist_append_right _ _ | refine List.Sublist.trans ?_ (List.sublist_append_left _ _) | exact List.Sublist.cons_cons _ (List.nil_sublist _) | refine List.Sublist.cons _ ?_)) (by repeat (first | exact List.Sublist.refl _ | exact List.nil_sublist _ | exact List.sublist_append_right _ _ | refine List.Sublist.trans ?_ (List.sublist_append_left _ _) | exact List.Sublist.cons_cons _ (List.nil_sublist _) | refine List.Sublist.cons _ ?_)) m1 m1 rfl rfl ?_
        rw [show sameI M M = true from sameI_iff.2 rfl]
        refine sx_move rfl rfl ?_
        refine sx_force 104 rfl true (by first | rfl | (simp; done)) ?_
        refine sx_on rfl rfl rfl ?_
        refine sx_callP cawake_fn rfl rfl ?_
        refine sx_pick rfl rfl rfl ?_
        first | refine sx_store1 0 rfl rfl rfl tyS4 rfl (by first | (simp only [List.length_cons, List.length_nil, Nat.reduceAdd, Nat.zero_add, Nat.add_zero]; first | done | rfl) | rfl) (by first | (simp only [List.set_cons_succ, List.set_cons_zero, Nat.reduceAdd, Nat.add_zero, Nat.zero_add]; first | done | rfl) | rfl) (by first | (simp only [List.set_cons_succ, List.set_cons_zero]; first | done | rfl) | rfl) ?_ | refine sx_store1 1 rfl rfl rfl tyS4 rfl (by first | (simp only [List.length_cons, List.length_nil, Nat.reduceAdd, Nat.zero_add, Nat.add_zero]; first | done | rfl) | rfl) (by first | (simp only [List.set_cons_succ, List.set_cons_zero, Nat.reduceAdd, Nat.add_zero, Nat.zero_add]; first | done | rfl) | rfl) (by first | (simp only [List.set_cons_succ, List.set_cons_zero]; first | done | rfl) | rfl) ?_ | refine sx_store1 2 rfl rfl rfl tyS4 rfl (by first | (simp only [List.length_cons, List.length_nil, Nat.reduceAdd, Nat.zero_add, Nat.add_zero]; first | done | rfl) | rfl) (by first | (simp only [List.set_cons_succ, List.set_cons_zero, Nat.reduceAdd, Nat.add_zero, Nat.zero_add]; first | done | rfl) | rfl) (by first | (simp only [List.set_cons_succ, List.set_cons_zero]; first | done | rfl) | rfl) ?_ | refine sx_store1 3 rfl rfl rfl tyS4 rfl (by first | (simp only [List.length_cons, List.length_nil, Nat.reduceAdd, Nat.zero_add, Nat.add_zero]; first | done | rfl) | rfl) (by first | (simp only [List.set_cons_succ, List.set_cons_zero, Nat.reduceAdd, Nat.add_zero, Nat.zero_add]; first | done | rfl) | rfl) (by first | (simp only [List.set_cons_succ, List.set_cons_zero]; first | done | rfl) | rfl) ?_ | refine sx_store1 4 rfl rfl rfl tyS4 rfl (by first | (simp only [List.length_cons, List.length_nil, Nat.reduceAdd, Nat.zero_add, Nat.add_zero]; first | done | rfl) | rfl) (by first | (simp only [List.set_cons_succ, List.set_cons_zero, Nat.reduceAdd, Nat.add_zero, Nat.zero_add]; first | done | rfl) | rfl) (by first | (simp only [List.set_cons_succ, List.set_cons_zero]; first | done | rfl) | rfl) ?_ | refine sx_store1 5 rfl rfl rfl tyS4 rfl (by first | (simp only [List.length_cons, List.length_nil, Nat.reduceAdd, Nat.zero_add, Nat.add_zero]; first | done | rfl) | rfl) (by first | (simp only [List.set_cons_succ, List.set_cons_zero, Nat.reduceAdd, Nat.add_zero, Nat.zero_add]; first | done | rfl) | rfl) (by first | (simp only [List.set_cons_succ, List.set_cons_zero]; first | done | rfl) | rfl) ?_ | refine sx_store1 6 rfl rfl rfl tyS4 rfl (by first | (simp only [List.length_cons, List.length_nil, Nat.reduceAdd, Nat.zero_add, Nat.add_zero]; first | done | rfl) | rfl) (by first | (simp only [List.set_cons_succ, List.set_cons_zero, Nat.reduceAdd, Nat.add_zero, Nat.zero_add]; first | done | rfl) | rfl) (by first | (simp only [List.set_cons_succ, List.set_cons_zero]; first | done | rfl) | rfl) ?_
        refine sx_nil (hZ _ _ ?_ ?_)
        · exact Kn.cons rfl Kn.nil
        · exact HLe.sub (.cons _ (.cons_cons _ (.cons_cons _ (.cons_cons _ (List.nil_sublist _)))))
      refine awp_ret ?_
      repeat (with_reducible (first | refine nx_then_ret ?_ | refine nx_block_ret ?_ | refine nx_scope_ret ?_))
      exact nx_unmark [1, 1] ⟨rfl, rfl, trivial⟩ (nx_ret1 rfl (ResOk.cell 0 rfl rfl tyA4 tyS4 rfl) rfl)
    have he : putE x.id x.tx O = 0 := by simp at h; omega
    obtain ⟨q1, q2⟩ := put_get hok.rise he
    have q3 := put_del hok.rise he
    rw [hM] at q1 q2 q3
    obtain ⟨Q, hQ⟩ : ∃ Q, cDel x.id O = Q := ⟨_, rfl⟩
    have hokQ : ChOk Q := by rw [← hQ]; exact hok.del _
    have hlQ := hokQ.len
    have m3 : Q.length ≤ maxLen := by show _ ≤ 9223372036854775807; omega
    refine awp_skip ?_
    repeat (with_reducible (first | refine nx_block_normal ?_ | refine nx_scope_normal ?_))
    with_reducible first | refine nx_normal ?_ | refine nx_normalM ?_
    refine awp_seq_region (fun Z hZ => ?_)
    first | refine sx_loadA 0 rfl rfl tyA26 tyS26 (by first | (simp only [List.length_cons, List.length_nil, Nat.reduceAdd, Nat.zero_add, Nat.add_zero]; first | done | rfl) | rfl) (by first | (simp only [List.take_succ_cons, List.take_zero, List.drop_succ_cons, List.drop_zero, List.cons_append, List.nil_append, List.append_nil, List.length_cons, List.length_nil, Nat.reduceAdd, Nat.zero_add, Nat.add_zero, Value.cells, wrV]; first | done | rfl) | rfl) rfl ?_ | refine sx_loadA 1 rfl rfl tyA26 tyS26 (by first | (simp only [List.length_cons, List.length_nil, Nat.reduceAdd, Nat.zero_add, Nat.add_zero]; first | done | rfl) | rfl) (by first | (simp only [List.take_succ_cons, List.take_zero, List.drop_succ_cons, List.drop_zero, List.cons_append, List.nil_append, List.append_nil, List.length_cons, List.length_nil, Nat.reduceAdd, Nat.zero_add, Nat.add_zero, Value.cells, wrV]; first | done | rfl) | rfl) rfl ?_ | refine sx_loadA 2 rfl rfl tyA26 tyS26 (by first | (simp only [List.length_cons, List.length_nil, Nat.reduceAdd, Nat.zero_add, Nat.add_zero]; first | done | rfl) | rfl) (by first | (simp only [List.take_succ_cons, List.take_zero, List.drop_succ_cons, List.drop_zero, List.cons_append, List.nil_append, List.append_nil, List.length_cons, List.length_nil, Nat.reduceAdd, Nat.zero_add, Nat.add_zero, Value.cells, wrV]; first | done | rfl) | rfl) rfl ?_ | refine sx_loadA 3 rfl rfl tyA26 tyS26 (by first | (simp only [List.length_cons, List.length_nil, Nat.reduceAdd, Nat.zero_add, Nat.add_zero]; first | done | rfl) | rfl) (by first | (simp only [List.take_succ_cons, List.take_zero, List.drop_succ_cons, List.drop_zero, List.cons_append, List.nil_append, List.append_nil, List.length_cons, List.length_nil, Nat.reduceAdd, Nat.zero_add, Nat.add_zero, Value.cells, wrV]; first | done | rfl) | rfl) rfl ?_ | refine sx_loadA 4 rfl rfl tyA26 tyS26 (by first | (simp only [List.length_cons, List.length_nil, Nat.reduceAdd, Nat.zero_add, Nat.add_zero]; first | done | rfl) | rfl) (by first | (simp only [List.take_succ_cons, List.take_zero, List.drop_succ_cons, List.drop_zero, List.cons_append, List.nil_append, List.append_nil, List.length_cons, List.length_nil, Nat.reduceAdd, Nat.zero_add, Nat.add_zero, Value.cells, wrV]; first | done | rfl) | rfl) rfl ?_ | refine sx_loadA 5 rfl rfl tyA26 tyS26 (by first | (simp only [List.length_cons, List.length_nil, Nat.reduceAdd, Nat.zero_add, Nat.add_zero]; first | done | rfl) | rfl) (by first | (simp only [List.take_succ_cons, List.take_zero, List.drop_succ_cons, List.drop_zero, List.cons_append, List.nil_append, List.append_nil, List.length_cons, List.length_nil, Nat.reduceAdd, Nat.zero_add, Nat.add_zero, Value.cells, wrV]; first | done | rfl) | rfl) rfl ?_ | refine sx_loadA 6 rfl rfl tyA26 tyS26 (by first | (simp only [List.length_cons, List.length_nil, Nat.reduceAdd, Nat.zero_add, Nat.add_zero]; first | done | rfl) | rfl) (by first | (simp only [List.take_succ_cons, List.take_zero, List.drop_succ_cons, List.drop_zero, List.cons_append, List.nil_append, List.append_nil, List.length_cons, List.length_nil, Nat.reduceAdd, Nat.zero_add, Nat.add_zero, Value.cells, wrV]; first | done | rfl) | rfl) rfl ?_
    refine sx_fieldAddr rfl tyF53_0 (by first | (simp only [Nat.reduceAdd, Nat.add_zero, Nat.zero_add]; first | done | rfl) | rfl) rfl ?_
    refine sx_loadRo 5 rfl rfl 0 rfl tyA23 tyS23 rfl rfl ?_
    refine sx_cget M x.id hA6 (by repeat (first | exact List.Sublist.refl _ | exact List.nil_sublist _ | exact List.sublist_append_right _ _ | refine List.Sublist.trans ?_ (List.sublist_append_left _ _) | exact List.Sublist.cons_cons _ (List.nil_sublist _) | refine List.Sublist.cons _ ?_)) hokM rfl rfl ?_
    rw [q1, q2]
    refine sx_move rfl rfl ?_
    refine sx_extract rfl rfl rfl ?_
    refine sx_extract rfl rfl rfl ?_
    refine sx_assign rfl rfl ?_
    refine sx_assign rfl rfl ?_
    refine sx_nil (hZ _ _ ?_)
    refine awp_forget [(5, _), (6, _), (7, _), (9, _), (15, _), (17, _), (18, _)] (Kn.cons rfl (Kn.cons rfl (Kn.cons rfl (Kn.cons rfl (Kn.cons rfl (Kn.cons rfl (Kn.cons rfl (Kn.nil)))))))) ?_
    refine awf_seq_region _ [(0, true), (1, true), (2, true), (3, true), (4, true), (5, true), (6, true), (7, true), (8, true), (9, true), (10, true), (11, false), (12, true), (13, true), (14, true), (15, false), (16, false), (17, true), (18, true), (19, true), (20, false), (21, true), (22, true), (23, true), (24, true), (25, true), (26, false), (27, true)] 28 rfl mixed (by kernel_rfl) (HLe.pick [0, 4, 5, 6] (by simp) (by simp only [pick, List.filterMap_cons, List.filterMap_nil, List.getElem?_cons_succ, List.getElem?_cons_zero]; rfl)) (fun Z hZ => ?_)
    refine tw_p rfl ?_
    refine sv_move rfl rfl ?_
    refine sv_nil ?_
    refine tw_p rfl ?_
    refine sv_move rfl rfl ?_
    refine sv_nil ?_
    refine tw_force 115 rfl true (by first | rfl | (simp; done) | (simp; omega)) ?_
    refine tw_p rfl ?_
    refine sv_on rfl rfl rfl ?_
    refine sv_move rfl rfl ?_
    refine sv_nil ?_
    refine tw_p rfl ?_
    refine sv_on rfl rfl rfl ?_
    refine sv_fieldAddr rfl tyF53_1 (by first | (simp only [Nat.reduceAdd, Nat.add_zero, Nat.zero_add]; first | done | rfl) | rfl) rfl ?_
    refine sv_nil ?_
    refine tw_p rfl ?_
    refine sv_on rfl rfl rfl ?_
    refine sv_loadRo 2 rfl rfl 1 rfl tyA9 tyS9 rfl rfl ?_
    refine sv_nil ?_
    refine tw_p rfl ?_
    refine sv_on rfl rfl rfl ?_
    first | refine sv_eql rfl rfl rfl ?_ | refine sv_seql rfl rfl rfl ?_
    refine sv_nil ?_
    refine tw_p rfl ?_
    refine sv_pick rfl rfl rfl ?_
    refine sv_nil ?_
    refine tw_p rfl ?_
    refine sv_move rfl rfl ?_
    refine sv_nil ?_
    refine tw_force 121 rfl true (by first | rfl | (simp; done) | (simp; omega)) ?_
    refine tw_p rfl ?_
    refine sv_on rfl rfl rfl ?_
    refine sv_loadRo 1 rfl rfl 0 rfl tyA26 tyS26 rfl rfl ?_
    refine sv_nil ?_
    refine tw_p rfl ?_
    refine sv_on rfl rfl rfl ?_
    refine sv_fieldAddr rfl tyF53_0 (by first | (simp only [Nat.reduceAdd, Nat.add_zero, Nat.zero_add]; first | done | rfl) | rfl) rfl ?_
    refine sv_nil ?_
    refine tw_p rfl ?_
    refine sv_on rfl rfl rfl ?_
    refine sv_loadRo 2 rfl rfl 0 rfl tyA23 tyS23 rfl rfl ?_
    refine sv_nil ?_
    refine tw_g rfl ?_
    refine sx_on rfl rfl rfl ?_
    refine sx_delE O x.id hA1 (by repeat (first | exact List.Sublist.refl _ | exact List.nil_sublist _ | exact List.sublist_append_right _ _ | refine List.Sublist.trans ?_ (List.sublist_append_left _ _) | exact List.Sublist.cons_cons _ (List.nil_sublist _) | refine List.Sublist.cons _ ?_)) hok rfl rfl (fun A7 c7 hA7 => ?_)
    rw [hQ]
    rw [hQ] at hA7
    refine sx_nil ⟨HLe.pick [0, 4, 5, 6] (by simp) rfl, ?_⟩
    refine tw_p rfl ?_
    refine sv_on rfl rfl rfl ?_
    first | refine sv_loadA 0 rfl rfl tyA26 tyS26 (by first | (simp only [List.length_cons, List.length_nil, Nat.reduceAdd, Nat.zero_add, Nat.add_zero]; first | done | rfl) | rfl) (by first | (simp only [List.take_succ_cons, List.take_zero, List.drop_succ_cons, List.drop_zero, List.cons_append, List.nil_append, List.append_nil, List.length_cons, List.length_nil, Nat.reduceAdd, Nat.zero_add, Nat.add_zero, Value.cells, wrV]; first | done | rfl) | rfl) rfl ?_ | refine sv_loadA 1 rfl rfl tyA26 tyS26 (by first | (simp only [List.length_cons, List.length_nil, Nat.reduceAdd, Nat.zero_add, Nat.add_zero]; first | done | rfl) | rfl) (by first | (simp only [List.take_succ_cons, List.take_zero, List.drop_succ_cons, List.drop_zero, List.cons_append, List.nil_append, List.append_nil, List.length_cons, List.length_nil, Nat.reduceAdd, Nat.zero_add, Nat.add_zero, Value.cells, wrV]; first | done | rfl) | rfl) rfl ?_ | refine sv_loadA 2 rfl rfl tyA26 tyS26 (by first | (simp only [List.length_cons, List.length_nil, Nat.reduceAdd, Nat.zero_add, Nat.add_zero]; first | done | rfl) | rfl) (by first | (simp only [List.take_succ_cons, List.take_zero, List.drop_succ_cons, List.drop_zero, List.cons_append, List.nil_append, List.append_nil, List.length_cons, List.length_nil, Nat.reduceAdd, Nat.zero_add, Nat.add_zero, Value.cells, wrV]; first | done | rfl) | rfl) rfl ?_ | refine sv_loadA 3 rfl rfl tyA26 tyS26 (by first | (simp only [List.length_cons, List.length_nil, Nat.reduceAdd, Nat.zero_add, Nat.add_zero]; first | done | rfl) | rfl) (by first | (simp only [List.take_succ_cons, List.take_zero, List.drop_succ_cons, List.drop_zero, List.cons_append, List.nil_append, List.append_nil, List.length_cons, List.length_nil, Nat.reduceAdd, Nat.zero_add, Nat.add_zero, Value.cells, wrV]; first | done | rfl) | rfl) rfl ?_
    refine sv_nil ?_
    refine tw_p rfl ?_
    refine sv_on rfl rfl rfl ?_
    refine sv_fieldAddr rfl tyF53_0 (by first | (simp only [Nat.reduceAdd, Nat.add_zero, Nat.zero_add]; first | done | rfl) | rfl) rfl ?_
    refine sv_nil ?_
    refine tw_p rfl ?_
    refine sv_on rfl rfl rfl ?_
    refine sv_loadRo 2 rfl rfl 0 rfl tyA23 tyS23 rfl rfl ?_
    refine sv_nil ?_
    refine tw_g rfl ?_
    refine sx_on rfl rfl rfl ?_
    refine sx_delE M x.id hA6 (by repeat (first | exact List.Sublist.refl _ | exact List.nil_sublist _ | exact List.sublist_append_right _ _ | refine List.Sublist.trans ?_ (List.sublist_append_left _ _) | exact List.Sublist.cons_cons _ (List.nil_sublist _) | refine List.Sublist.cons _ ?_)) hokM rfl rfl (fun A8 c8 hA8 => ?_)
    rw [q3, hQ]
    rw [q3, hQ] at hA8
    refine sx_nil ⟨HLe.pick [0, 4, 5, 6] (by simp) rfl, ?_⟩
    refine tw_g rfl ?_
    refine sx_on rfl rfl rfl ?_
    refine sx_csame Q Q hA7 hA8 (by repeat (first | exact List.Sublist.refl _ | exact List.nil_sublist _ | exact List.sublist_append_right _ _ | refine List.Sublist.trans ?_ (List.sublist_append_left _ _) | exact List.Sublist.cons_cons _ (List.nil_sublist _) | refine List.Sublist.cons _ ?_)) (by repeat (first | exact List.Sublist.refl _ | exact List.nil_sublist _ | exact List.sublist_append_right _ _ | refine List.Sublist.trans ?_ (List.sublist_append_left _ _) | exact List.Sublist.cons_cons _ (List.nil_sublist _) | refine List.Sublist.cons _ ?_)) m3 m3 rfl rfl ?_
    rw [show sameI Q Q = true from sameI_iff.2 rfl]
    refine sx_nil ⟨HLe.pick [0, 4, 5, 6] (by simp) rfl, ?_⟩
    refine tw_p rfl ?_
    refine sv_pick rfl rfl rfl ?_
    refine sv_nil ?_
    refine tw_p rfl ?_
    refine sv_move rfl rfl ?_
    refine sv_nil ?_
    refine tw_force 132 rfl true (by first | rfl | (simp; done) | (simp; omega)) ?_
    refine tw_p rfl ?_
    refine sv_on rfl rfl rfl ?_
    refine sv_loadRo 1 rfl rfl 0 rfl tyA26 tyS26 rfl rfl ?_
    refine sv_nil ?_
    refine tw_g rfl ?_
    refine sx_on rfl rfl rfl ?_
    refine sx_callP (len_fn A1 O.length c1) rfl rfl ?_
    refine sx_nil ⟨HLe.pick [0, 4, 5, 6] (by simp) rfl, ?_⟩
    refine tw_p rfl ?_
    refine sv_on rfl rfl rfl ?_
    refine sv_loadRo 3 rfl rfl 0 rfl tyA24 tyS24 rfl rfl ?_
    refine sv_nil ?_
    refine tw_p rfl ?_
    refine sv_on rfl rfl rfl ?_
    first | refine sv_len Try.underlying24 rfl rfl ?_ | refine sv_lenS Try.underlying24 rfl rfl ?_
    refine sv_nil ?_
    refine tw_p rfl ?_
    refine sv_on rfl rfl rfl ?_
    first | refine sv_eql rfl rfl rfl ?_ | refine sv_seql rfl rfl rfl ?_
    refine sv_nil ?_
    refine tw_p rfl ?_
    refine sv_pick rfl rfl rfl ?_
    refine sv_nil ?_
    refine tw_p rfl ?_
    refine sv_move rfl rfl ?_
    refine sv_nil ?_
    refine tw_force 139 rfl true (by first | rfl | (simp; done) | (simp; omega)) ?_
    refine tw_g rfl ?_
    refine sx_on rfl rfl rfl ?_
    refine sx_callP cawake_fn rfl rfl ?_
    refine sx_nil ⟨HLe.pick [0, 4, 5, 6] (by simp) rfl, ?_⟩
    refine tw_p rfl ?_
    refine sv_pick rfl rfl rfl ?_
    refine sv_nil ?_
    refine tw_nil ?_
    first | refine sx_store1 0 rfl rfl rfl tyS4 rfl (by first | (simp only [List.length_cons, List.length_nil, Nat.reduceAdd, Nat.zero_add, Nat.add_zero]; first | done | rfl) | rfl) (by first | (simp only [List.set_cons_succ, List.set_cons_zero, Nat.reduceAdd, Nat.add_zero, Nat.zero_add]; first | done | rfl) | rfl) (by first | (simp only [List.set_cons_succ, List.set_cons_zero]; first | done | rfl) | rfl) ?_ | refine sx_store1 1 rfl rfl rfl tyS4 rfl (by first | (simp only [List.length_cons, List.length_nil, Nat.reduceAdd, Nat.zero_add, Nat.add_zero]; first | done | rfl) | rfl) (by first | (simp only [List.set_cons_succ, List.set_cons_zero, Nat.reduceAdd, Nat.add_zero, Nat.zero_add]; first | done | rfl) | rfl) (by first | (simp only [List.set_cons_succ, List.set_cons_zero]; first | done | rfl) | rfl) ?_ | refine sx_store1 2 rfl rfl rfl tyS4 rfl (by first | (simp only [List.length_cons, List.length_nil, Nat.reduceAdd, Nat.zero_add, Nat.add_zero]; first | done | rfl) | rfl) (by first | (simp only [List.set_cons_succ, List.set_cons_zero, Nat.reduceAdd, Nat.add_zero, Nat.zero_add]; first | done | rfl) | rfl) (by first | (simp only [List.set_cons_succ, List.set_cons_zero]; first | done | rfl) | rfl) ?_ | refine sx_store1 3 rfl rfl rfl tyS4 rfl (by first | (simp only [List.length_cons, List.length_nil, Nat.reduceAdd, Nat.zero_add, Nat.add_zero]; first | done | rfl) | rfl) (by first | (simp only [List.set_cons_succ, List.set_cons_zero, Nat.reduceAdd, Nat.add_zero, Nat.zero_add]; first | done | rfl) | rfl) (by first | (simp only [List.set_cons_succ, List.set_cons_zero]; first | done | rfl) | rfl) ?_ | refine sx_store1 4 rfl rfl rfl tyS4 rfl (by first | (simp only [List.length_cons, List.length_nil, Nat.reduceAdd, Nat.zero_add, Nat.add_zero]; first | done | rfl) | rfl) (by first | (simp only [List.set_cons_succ, List.set_cons_zero, Nat.reduceAdd, Nat.add_zero, Nat.zero_add]; first | done | rfl) | rfl) (by first | (simp only [List.set_cons_succ, List.set_cons_zero]; first | done | rfl) | rfl) ?_ | refine sx_store1 5 rfl rfl rfl tyS4 rfl (by first | (simp only [List.length_cons, List.length_nil, Nat.reduceAdd, Nat.zero_add, Nat.add_zero]; first | done | rfl) | rfl) (by first | (simp only [List.set_cons_succ, List.set_cons_zero, Nat.reduceAdd, Nat.add_zero, Nat.zero_add]; first | done | rfl) | rfl) (by first | (simp only [List.set_cons_succ, List.set_cons_zero]; first | done | rfl) | rfl) ?_ | refine sx_store1 6 rfl rfl rfl tyS4 rfl (by first | (simp only [List.length_cons, List.length_nil, Nat.reduceAdd, Nat.zero_add, Nat.add_zero]; first | done | rfl) | rfl) (by first | (simp only [List.set_cons_succ, List.set_cons_zero, Nat.reduceAdd, Nat.add_zero, Nat.zero_add]; first | done | rfl) | rfl) (by first | (simp only [List.set_cons_succ, List.set_cons_zero]; first | done | rfl) | rfl) ?_
    refine sx_nil (hZ _ _ ?_)
    refine awp_forget [(6, _)] (Kn.cons rfl (Kn.nil)) ?_
    refine awp_heap [.own g3 4 [.bool true], .ob Da isDef, .ob Db isDef] (HLe.sub (.cons _ (.cons_cons _ (.cons_cons _ (.cons_cons _ (List.nil_sublist _)))))) ?_
    refine awp_ret ?_
    repeat (with_reducible (first | refine nx_then_ret ?_ | refine nx_block_ret ?_ | refine nx_scope_ret ?_))
    exact nx_unmark [1, 1] ⟨rfl, rfl, trivial⟩ (nx_ret1 rfl (ResOk.cell 0 rfl rfl tyA4 tyS4 rfl) rfl)
theorem ChartEach_read {H : Type} {enc : TypeId × Value → H} (w : World) {base : Nat} {v0 v1 v2 : Value} {d0 d1 d2 : DataW H} {p0 p1 p2 : List MemPlace}
    (k0 : Value.okWide Try.prog w .any base 27 v0) (h0 : DataW.Trod enc Try.prog w 0 (fun _ => true) true 27 v0 d0 p0)
    (k1 : Value.okWide Try.prog w .any base 5 v1) (h1 : DataW.Trod enc Try.prog w 0 (fun _ => true) true 5 v1 d1 p1)
    (k2 : Value.okWide Try.prog w .any base 53 v2) (h2 : DataW.Trod enc Try.prog w 0 (fun _ => true) true 53 v2 d2 p2) :
    Calls Try.prog 6 #[v0, v1, v2] w fun e w' => e = .returned (.bool true) ∧ Bel w w' := by
  obtain ⟨A, c, L, T, rfl, hA, hL, hE, hT, hro, hS, hc⟩ := open_its k0 h0
  obtain ⟨b, rfl, _, _, hb⟩ := ChangeShapes.open_int Try.underlying5 k1 h1
  obtain ⟨hb0, hb1⟩ := wf_u8 hb
  obtain ⟨n, rfl⟩ : ∃ n : Nat, b = n := ⟨b.toNat, by omega⟩
  obtain ⟨cs, rfl, a⟩ := open_struct 5 Try.underlying53 leaves_it k2 h2
  obtain ⟨x, hx, rfl⟩ := it_of cs a
  exact tail_bel hro hS (eachlaw_fn A c L T hA hT hro hL hE n (by omega) x hx.2)
namespace chartEach
open Go.ChangeShapes Go.WideShapes Go.ChangeAt Go.RowKit
theorem own : ownKnob Try.prog.godebug = none := by kernel_rfl
theorem laidOut : laidOutB Try.prog = true := by kernel_rfl
set_option maxRecDepth 100000 in
theorem lifted (os : Os) (started : os.Started) (H : Type) (enc : TypeId × Value → H) :
    ReturnsInHanded {} Try.checked os 6 .any (Rows.chartEachSpec.pre6 enc Try.prog Try.f6 Rows.chartEachRow.domain false) (Rows.chartEachSpec.post enc Try.prog Try.f6 false true false false) := by
  refine returnsInHanded_of_change (C := Try.checked) own started (by kernel_rfl) Try.func6
    (ChangeSpec.witness6 (enc := enc) (C := Try.checked) false ⟨#[], #[.slice none 0 0, .int .u8 0, .agg #[.int .u64 0, .string ⟨#[]⟩]], []⟩ 8 (by kernel_rfl) (by kernel_rfl) (by kernel_rfl) (by kernel_rfl)) ?_
  intro W base args ds gs before hval0 hW hcnd _
  have hval : ∀ (j : Nat) t v, Try.f6.params[j]? = some t → args[j]? = some v → Value.okWide Try.prog W .any base t v := hval0
  have hW' := hW
  obtain ⟨p, q, hA0, hV, rfl, hfz, hnd⟩ := hW
  have hA : DataW.TrodAll enc Try.prog W 0 (fun _ => true) true Try.f6.params.toList args.toList ds p := hA0
  rw [Try.params6] at hA hval
  obtain ⟨v0, vs0, d0, ds0, p0, q0, hargs, rfl, rfl, h0, r0⟩ := trodAll_cons hA
  obtain ⟨v1, vs1, d1, ds1, p1, q1, rfl, rfl, rfl, h1, r1⟩ := trodAll_cons r0
  obtain ⟨v2, vs2, d2, ds2, p2, q2, rfl, rfl, rfl, h2, r2⟩ := trodAll_cons r1
  obtain ⟨rfl, rfl, rfl⟩ := trodAll_nil r2
  obtain rfl : args = #[v0, v1, v2] := by cases args; simp_all
  obtain ⟨rfl, rfl⟩ := trodVars_none hV
  have lt0 : ∀ x ∈ p0, x.block < W.heap.size := by obtain ⟨m, hm⟩ := h0; exact DataW.trod_lt m _ _ _ hm
  have lt1 : ∀ x ∈ p1, x.block < W.heap.size := by obtain ⟨m, hm⟩ := h1; exact DataW.trod_lt m _ _ _ hm
  have lt2 : ∀ x ∈ p2, x.block < W.heap.size := by obtain ⟨m, hm⟩ := h2; exact DataW.trod_lt m _ _ _ hm
  refine (ChartEach_read W (hval 0 27 v0 rfl rfl) h0 (hval 1 5 v1 rfl rfl) h1 (hval 2 53 v2 rfl rfl) h2).mono fun e W' ⟨he, bel0⟩ => ?_
  have bel : Below W.heap.size W W' := bel0
  subst he
  exact ⟨_, rfl, _, _, _, [], _, [], hW', trodAll_mk1 (shut_bool Try.underlying4 _), (trodAll_cons_mk (Below.trod laidOut (by kernel_rfl) (of_decide_eq_true (by kernel_rfl)) h0 bel lt0) (trodAll_cons_mk (Below.trod laidOut (by kernel_rfl) (of_decide_eq_true (by kernel_rfl)) h1 bel lt1) (trodAll_cons_mk (Below.trod laidOut (by kernel_rfl) (of_decide_eq_true (by kernel_rfl)) h2 bel lt2) trodAll_mk0))), rfl, bel.frame _, fun h => by cases h⟩
theorem over : Rows.chartEachRow.holds Try.pinned (OpenSpec.ofChange Rows.chartEachSpec) :=
  OpenClaim.holds_of_wide 6 Try.f6 rfl rfl rfl rfl rfl rfl rfl ⟨rfl, rfl, rfl, rfl, rfl⟩ rfl rfl rfl rfl rfl (by kernel_rfl) Try.func6 (by kernel_rfl)
    (of_decide_eq_true (by kernel_rfl)) (by unfold Func.isWrapper; first | (rw [if_pos (by decide +kernel)]; kernel_rfl) | (rw [if_neg (by decide +kernel)]; exact ⟨rfl, rfl⟩))
    (fun os started H enc _ => lifted os started H enc)
theorem proved : Rows.ChartEachSaid := over
#print axioms proved
end chartEach
end Go.Proofs.Ytllclbbjfnipoaa
