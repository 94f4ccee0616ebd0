/- The walk of the small example of directories that each law asks. No conditions. -/
import Derived.Test.YtfffhnefjaomnaaDr10
namespace Go.Proofs.Ytfffhnefjaomnaa
open Go.RowKit
set_option linter.unusedVariables false
set_option linter.unusedSimpArgs false
def awL : List En := [⟨1, 0, 5, 1⟩, ⟨300, 5, 1, 0⟩]
def awB : List UInt8 := [2, 1, 171, 2, 1, 0, 5, 1, 1, 0]
theorem aw_row : rowC awL = 0 := rfl
theorem aw_ok : EnsOk awL := fun e he => by
  simp only [awL, List.mem_cons, List.not_mem_nil, or_false] at he
  rcases he with rfl | rfl <;> exact ⟨by decide, by decide, by decide, by decide⟩
theorem aw_all : allB (numsQ awL) = awB := by
  rw [show numsQ awL = [2, 1, 299, 1, 0, 5, 1, 1, 0] from rfl]
  have h : ∀ x, x < 128 → vb x = [UInt8.ofNat x] := fun x => vb_lt
  have h2 : vb 299 = [171, 2] := by rw [vb_ge (by omega), h _ (by omega)]; rfl
  simp only [allB, List.flatMap_cons, List.flatMap_nil, h2]
  rw [h 2 (by omega), h 1 (by omega), h 0 (by omega), h 5 (by omega)]
  rfl
theorem aw_enc : encQ awL = (awB, 0) := by
  unfold encQ
  rw [if_pos aw_row, sumB, aw_all]
  rfl
theorem aw_enc0 : encQ [] = ([0], 0) := by
  have h : allB (numsQ []) = [0] := by
    rw [show numsQ [] = [0] from rfl]
    simp only [allB, List.flatMap_cons, List.flatMap_nil]
    rw [vb_lt (by omega)]
    rfl
  unfold encQ
  rw [if_pos (by rfl), sumB, h]
  rfl
theorem aw_dec : decQ awB = (awL, 10, 0) := by kernel_rfl
theorem aw_dec1 : decQ [1, 1, 1, 5, 0] = ([], 4, 4) := by kernel_rfl
theorem aw_size : sizeQ awL = 10 := by
  unfold sizeQ
  rw [if_pos aw_row, sumB, aw_all]
  rfl
theorem awake_fn : Fn Try.prog 8 [] [] fun v _ => v = .bool true := by
  refine Fn.enterM (n := 114) Try.func8 rfl (by kernel_rfl) rfl (fun w0 => ?_)

  refine awp_seq_region (fun Z hZ => ?_)
  refine sx_assign rfl rfl ?_
  refine sx_nil (hZ _ _ ?_)
  refine awp_forget [] (Kn.nil) ?_
  refine awp_seq_region (fun Z hZ => ?_)
  refine sx_build tyZ51 tyP51 rfl rfl (by first | (simp only [List.take_succ_cons, List.take_zero, List.drop_succ_cons, List.drop_zero, List.cons_append, List.nil_append, List.append_nil, List.length_cons, List.length_nil, Nat.reduceAdd, Nat.zero_add, Nat.add_zero, Value.cells, wrV, zrep_one, List.replicate_succ, List.replicate_zero, Nat.reduceMul, Nat.zero_mul]; first | done | rfl) | rfl) rfl ?_
  refine sx_build tyZ51 tyP51 rfl rfl (by first | (simp only [List.take_succ_cons, List.take_zero, List.drop_succ_cons, List.drop_zero, List.cons_append, List.nil_append, List.append_nil, List.length_cons, List.length_nil, Nat.reduceAdd, Nat.zero_add, Nat.add_zero, Value.cells, wrV, zrep_one, List.replicate_succ, List.replicate_zero, Nat.reduceMul, Nat.zero_mul]; first | done | rfl) | rfl) rfl ?_
  refine sx_buildSlice Try.underlying27 tyS51 tyZ51 rfl rfl rfl rfl (by first | (simp only [List.take_succ_cons, List.take_zero, List.drop_succ_cons, List.drop_zero, List.cons_append, List.nil_append, List.append_nil, List.length_cons, List.length_nil, Nat.reduceAdd, Nat.zero_add, Nat.add_zero, Value.cells, wrV, zrep_one, List.replicate_succ, List.replicate_zero, Nat.reduceMul, Nat.zero_mul]; first | done | rfl) | rfl) rfl (fun g1 => ?_)
  refine sx_alloc tyZ27 rfl (fun g2 => ?_)
  first | refine sx_store1 0 rfl rfl rfl tyS27 rfl (by first | (simp only [List.length_cons, List.length_nil, Nat.reduceAdd, Nat.zero_add, Nat.add_zero]; first | done | rfl) | rfl) (by first | (simp only [List.set_cons_succ, List.set_cons_zero, Nat.reduceAdd, Nat.add_zero, Nat.zero_add]; first | done | rfl) | rfl) (by first | (simp only [List.set_cons_succ, List.set_cons_zero]; first | done | rfl) | rfl) ?_ | refine sx_store1 1 rfl rfl rfl tyS27 rfl (by first | (simp only [List.length_cons, List.length_nil, Nat.reduceAdd, Nat.zero_add, Nat.add_zero]; first | done | rfl) | rfl) (by first | (simp only [List.set_cons_succ, List.set_cons_zero, Nat.reduceAdd, Nat.add_zero, Nat.zero_add]; first | done | rfl) | rfl) (by first | (simp only [List.set_cons_succ, List.set_cons_zero]; first | done | rfl) | rfl) ?_
  refine sx_nil (hZ _ _ ?_)
  refine awp_forget [(1, _)] (Kn.cons rfl (Kn.nil)) ?_
  refine awp_heap [.ro g2 0 [.slice (some ⟨g1, 0, none⟩) 2 2], .ro g1 0 (ecells awL)] ((HLe.toRo [] [_]).trans (HLe.toRo [_] [])) ?_
  have hE := fun A c T hA hT hro => dencode_fn A c awL T hA hT hro (by decide) aw_ok
  rw [aw_enc] at hE
  have hE0 := fun T hT hro => dencode_fn none 0 [] T (fun h => absurd h (by decide)) hT hro (by decide) (fun e he => by cases he)
  rw [aw_enc0] at hE0
  have hD := ddecode_fn awB (by decide)
  rw [aw_dec] at hD
  have hD1 := ddecode_fn [1, 1, 1, 5, 0] (by decide)
  rw [aw_dec1] at hD1
  have hSz := fun A c T hA hT hro => dsize_fn A c awL T hA hT hro (by decide) aw_ok
  rw [aw_size] at hSz
  have hEa := each_fn awB (by decide)
  rw [aw_dec] at hEa

  refine awp_seq_region (fun Z hZ => ?_)
  refine sx_loadRo 0 rfl rfl 0 rfl tyA27 tyS27 rfl rfl ?_
  refine sx_callPT [.ro g1 0 (ecells awL)] (hE (some ⟨g1, 0, none⟩) 2 _ (fun _ => ⟨_, _, rfl⟩) (fun _ => rfl) (Ro.roE (some ⟨g1, 0, none⟩) (ecells awL))) rfl (List.sublist_cons_self _ _) (Ro.roE (some ⟨g1, 0, none⟩) (ecells awL)) rfl ?_
  refine sx_move rfl rfl ?_
  refine sx_extract rfl rfl rfl ?_
  refine sx_extract rfl rfl rfl ?_
  refine sx_assign rfl rfl ?_
  refine sx_assign rfl rfl ?_
  refine sx_nil (hZ _ _ ?_)
  refine awp_forget [(1, _), (2, _), (3, _)] (Kn.cons rfl (Kn.cons rfl (Kn.cons rfl (Kn.nil)))) ?_
  refine awp_seq_region (fun Z hZ => ?_)
  refine sx_move rfl rfl ?_
  refine sx_callO [] _ hD rfl (HLe.refl _) rfl ?_
  rintro v H' ⟨u, rfl, hu, rfl⟩
  rw [rowE_flt]
  obtain ⟨ga, c3, rfl⟩ := hu.some (by decide)
  refine sx_heap [.ro ga 0 (ecells awL), .ro g2 0 [.slice (some ⟨g1, 0, none⟩) 2 2], .ro g1 0 (ecells awL)] (HLe.rowRo [] _) ?_
  refine sx_move rfl rfl ?_
  refine sx_extract rfl rfl rfl ?_
  refine sx_extract rfl rfl rfl ?_
  refine sx_extract rfl rfl rfl ?_
  refine sx_assign rfl rfl ?_
  refine sx_assign rfl rfl ?_
  refine sx_assign rfl rfl ?_
  refine sx_nil (hZ _ _ ?_)
  refine awp_forget [(1, _), (2, _), (3, _), (4, _), (5, _), (6, _)] (Kn.cons rfl (Kn.cons rfl (Kn.cons rfl (Kn.cons rfl (Kn.cons rfl (Kn.cons rfl (Kn.nil))))))) ?_

  refine awp_seq_region (fun Z hZ => ?_)
  refine sx_callO [] _ hD1 rfl (HLe.refl _) rfl ?_
  rintro v H' ⟨u, rfl, hu, rfl⟩
  rw [rowE_flt]
  refine sx_heap [.ro ga 0 (ecells awL), .ro g2 0 [.slice (some ⟨g1, 0, none⟩) 2 2], .ro g1 0 (ecells awL)] (HLe.sub (List.sublist_append_right _ _)) ?_
  obtain ⟨A4, c4, rfl, hA4⟩ := hu.form
  refine sx_move rfl rfl ?_
  refine sx_extract rfl rfl rfl ?_
  refine sx_extract rfl rfl rfl ?_
  refine sx_extract rfl rfl rfl ?_
  refine sx_assign rfl rfl ?_
  refine sx_assign rfl rfl ?_
  refine sx_assign rfl rfl ?_
  refine sx_nil (hZ _ _ ?_)
  refine awp_forget [(1, _), (2, _), (3, _), (4, _), (5, _), (6, _), (8, _), (9, _)] (Kn.cons rfl (Kn.cons rfl (Kn.cons rfl (Kn.cons rfl (Kn.cons rfl (Kn.cons rfl (Kn.cons rfl (Kn.cons rfl (Kn.nil))))))))) ?_
  refine awp_seq_region (fun Z hZ => ?_)
  refine sx_callPT [] (hE0 [] (fun h => absurd h (by decide)) Ro.nil) rfl (List.nil_sublist _) Ro.nil rfl ?_
  refine sx_move rfl rfl ?_
  refine sx_extract rfl rfl rfl ?_
  refine sx_extract rfl rfl rfl ?_
  refine sx_assign rfl rfl ?_
  refine sx_assign rfl rfl ?_
  refine sx_nil (hZ _ _ ?_)
  refine awp_forget [(1, _), (2, _), (3, _), (4, _), (5, _), (6, _), (8, _), (9, _), (10, _), (11, _)] (Kn.cons rfl (Kn.cons rfl (Kn.cons rfl (Kn.cons rfl (Kn.cons rfl (Kn.cons rfl (Kn.cons rfl (Kn.cons rfl (Kn.cons rfl (Kn.cons rfl (Kn.nil))))))))))) ?_
  refine awp_seq_region (fun Z hZ => ?_)
  refine sx_alloc tyZ3 rfl (fun g3 => ?_)
  first | refine sx_store1 0 rfl rfl rfl tyS3 rfl (by first | (simp only [List.length_cons, List.length_nil, Nat.reduceAdd, Nat.zero_add, Nat.add_zero]; first | done | rfl) | rfl) (by first | (simp only [List.set_cons_succ, List.set_cons_zero, Nat.reduceAdd, Nat.add_zero, Nat.zero_add]; first | done | rfl) | rfl) (by first | (simp only [List.set_cons_succ, List.set_cons_zero]; first | done | rfl) | rfl) ?_ | refine sx_store1 1 rfl rfl rfl tyS3 rfl (by first | (simp only [List.length_cons, List.length_nil, Nat.reduceAdd, Nat.zero_add, Nat.add_zero]; first | done | rfl) | rfl) (by first | (simp only [List.set_cons_succ, List.set_cons_zero, Nat.reduceAdd, Nat.add_zero, Nat.zero_add]; first | done | rfl) | rfl) (by first | (simp only [List.set_cons_succ, List.set_cons_zero]; first | done | rfl) | rfl) ?_ | refine sx_store1 2 rfl rfl rfl tyS3 rfl (by first | (simp only [List.length_cons, List.length_nil, Nat.reduceAdd, Nat.zero_add, Nat.add_zero]; first | done | rfl) | rfl) (by first | (simp only [List.set_cons_succ, List.set_cons_zero, Nat.reduceAdd, Nat.add_zero, Nat.zero_add]; first | done | rfl) | rfl) (by first | (simp only [List.set_cons_succ, List.set_cons_zero]; first | done | rfl) | rfl) ?_ | refine sx_store1 3 rfl rfl rfl tyS3 rfl (by first | (simp only [List.length_cons, List.length_nil, Nat.reduceAdd, Nat.zero_add, Nat.add_zero]; first | done | rfl) | rfl) (by first | (simp only [List.set_cons_succ, List.set_cons_zero, Nat.reduceAdd, Nat.add_zero, Nat.zero_add]; first | done | rfl) | rfl) (by first | (simp only [List.set_cons_succ, List.set_cons_zero]; first | done | rfl) | rfl) ?_
  refine sx_nil (hZ _ _ ?_)
  refine awp_forget [(1, _), (2, _), (3, _), (4, _), (5, _), (6, _), (8, _), (9, _), (10, _), (11, _), (12, _)] (Kn.cons rfl (Kn.cons rfl (Kn.cons rfl (Kn.cons rfl (Kn.cons rfl (Kn.cons rfl (Kn.cons rfl (Kn.cons rfl (Kn.cons rfl (Kn.cons rfl (Kn.cons rfl (Kn.nil)))))))))))) ?_

  refine awp_seq ?_
  refine awp_seq_region (fun Z hZ => ?_)
  refine sx_move rfl rfl ?_
  refine sx_callO [] _ hEa rfl (HLe.refl _) rfl ?_
  rintro v H' ⟨gb, u, hu, rfl, rfl⟩
  obtain ⟨gc, c6, rfl⟩ := hu.some (by decide)
  refine sx_assign rfl rfl ?_
  refine sx_nil (hZ _ _ ?_)
  refine awp_forget [(1, _), (2, _), (3, _), (4, _), (5, _), (6, _), (8, _), (9, _), (10, _), (11, _), (12, _), (13, _)] (Kn.cons rfl (Kn.cons rfl (Kn.cons rfl (Kn.cons rfl (Kn.cons rfl (Kn.cons rfl (Kn.cons rfl (Kn.cons rfl (Kn.cons rfl (Kn.cons rfl (Kn.cons rfl (Kn.cons rfl (Kn.nil))))))))))))) ?_
  refine awp_heap ([.own g3 3 [iq (0 : Nat)]] ++ ([.ro gb 0 [.slice (some ⟨gc, 0, none⟩) awL.length c6], .ro gc 0 (ecells awL)] ++ [.ro ga 0 (ecells awL), .ro g2 0 [.slice (some ⟨g1, 0, none⟩) 2 2], .ro g1 0 (ecells awL)])) (((HLe.toRo [_] _).trans (HLe.rowRo [_, _] _)).trans (HLe.pick [2, 0, 1, 3, 4, 5] (by simp) rfl)) ?_

  refine awp_seq_region (fun Z hZ => ?_)
  refine sx_move rfl rfl ?_
  refine sx_funcNeNil Try.underlying46 rfl rfl ?_
  refine sx_nil (hZ _ _ ?_)
  refine awp_forget [(1, _), (2, _), (3, _), (4, _), (5, _), (6, _), (8, _), (9, _), (10, _), (11, _), (12, _), (13, _), (42, _)] (Kn.cons rfl (Kn.cons rfl (Kn.cons rfl (Kn.cons rfl (Kn.cons rfl (Kn.cons rfl (Kn.cons rfl (Kn.cons rfl (Kn.cons rfl (Kn.cons rfl (Kn.cons rfl (Kn.cons rfl (Kn.cons rfl (Kn.nil)))))))))))))) ?_
  first | refine awp_cond rfl (fun h => ?_) (fun h => ?_) | refine awp_seq (awp_cond rfl (fun h => ?_) (fun h => ?_))
  · refine awp_seq_region (fun Z hZ => ?_)
    refine sx_move rfl rfl ?_
    refine sx_nil (hZ _ _ ?_)
    refine awp_forget [(1, _), (2, _), (3, _), (4, _), (5, _), (6, _), (8, _), (9, _), (10, _), (11, _), (12, _), (43, _)] (Kn.cons rfl (Kn.cons rfl (Kn.cons rfl (Kn.cons rfl (Kn.cons rfl (Kn.cons rfl (Kn.cons rfl (Kn.cons rfl (Kn.cons rfl (Kn.cons rfl (Kn.cons rfl (Kn.cons rfl (Kn.nil))))))))))))) ?_
    refine awp_block ?_
    refine awp_range (fun k H => H = [.own g3 3 [iq (k : Nat)]]) [.ro ga 0 (ecells awL), .ro g2 0 [.slice (some ⟨g1, 0, none⟩) 2 2], .ro g1 0 (ecells awL)] (fun _ _ => False) [.own g3 3 [iq (0 : Nat)]] (each_it gb (some ⟨gc, 0, none⟩) c6 awL (roE (some ⟨gc, 0, none⟩) (ecells awL)) (fun _ => ⟨_, _, rfl⟩) (fun _ => rfl) (by decide)) rfl (fun k H h => by subst h; exact .cons rfl .nil) (fun _ _ h => h.elim) (fun x hx => by simp only [List.mem_cons, List.not_mem_nil, or_false] at hx; rcases hx with rfl | rfl | rfl <;> rfl) (fun x hx => by rcases List.mem_cons.1 hx with rfl | hx; rfl; exact Ro.roE _ _ x hx) (fun k vs h => by rw [List.getElem?_map] at h; cases hk : (List.range awL.length)[k]? with | none => rw [hk] at h; cases h | some x => rw [hk] at h; obtain rfl := Option.some.inj h; rfl) rfl rfl (HLe.refl _) rfl ?_ ?_ (fun _ _ _ h => h.elim)
    · intro k vs H hk hH l w1
      subst hH
      rw [List.getElem?_map] at hk
      cases hkx : (List.range awL.length)[k]? with
      | none => rw [hkx] at hk; cases hk
      | some x =>
        rw [hkx] at hk
        obtain rfl := Option.some.inj hk
        obtain ⟨hlt, hxe⟩ := List.getElem?_eq_some_iff.1 hkx
        rw [List.getElem_range] at hxe
        subst hxe
        have hlt : k < awL.length := by simpa using hlt
        have hk2 : k < 2 := hlt
        have hat := atE_at hlt

        refine awp_seq_region (fun Z hZ => ?_)
        refine sx_assign rfl rfl ?_
        refine sx_nil (hZ _ _ ?_)
        refine awp_forget [(1, _), (12, _), (14, _), (45, _)] (Kn.cons rfl (Kn.cons rfl (Kn.cons rfl (Kn.cons rfl (Kn.nil))))) ?_
        refine awp_region (fun Z hZ => ?_)
        refine sx_alloc tyZ51 rfl (fun g4 => ?_)
        first | refine sx_store 0 rfl rfl rfl tyS51 (by first | (simp only [Value.cells]; first | done | rfl) | rfl) rfl rfl (by first | (simp only [List.length_cons, List.length_nil, Nat.reduceAdd, Nat.zero_add, Nat.add_zero]; first | done | rfl) | rfl) (by first | (simp only [List.take_succ_cons, List.take_zero, List.drop_succ_cons, List.drop_zero, List.cons_append, List.nil_append, List.append_nil, List.length_cons, List.length_nil, Nat.reduceAdd, Nat.zero_add, Nat.add_zero, Value.cells, wrV]; first | done | rfl) | rfl) (by first | (simp only [List.set_cons_succ, List.set_cons_zero]; first | done | rfl) | rfl) ?_ | refine sx_store 1 rfl rfl rfl tyS51 (by first | (simp only [Value.cells]; first | done | rfl) | rfl) rfl rfl (by first | (simp only [List.length_cons, List.length_nil, Nat.reduceAdd, Nat.zero_add, Nat.add_zero]; first | done | rfl) | rfl) (by first | (simp only [List.take_succ_cons, List.take_zero, List.drop_succ_cons, List.drop_zero, List.cons_append, List.nil_append, List.append_nil, List.length_cons, List.length_nil, Nat.reduceAdd, Nat.zero_add, Nat.add_zero, Value.cells, wrV]; first | done | rfl) | rfl) (by first | (simp only [List.set_cons_succ, List.set_cons_zero]; first | done | rfl) | rfl) ?_ | refine sx_store 2 rfl rfl rfl tyS51 (by first | (simp only [Value.cells]; first | done | rfl) | rfl) rfl rfl (by first | (simp only [List.length_cons, List.length_nil, Nat.reduceAdd, Nat.zero_add, Nat.add_zero]; first | done | rfl) | rfl) (by first | (simp only [List.take_succ_cons, List.take_zero, List.drop_succ_cons, List.drop_zero, List.cons_append, List.nil_append, List.append_nil, List.length_cons, List.length_nil, Nat.reduceAdd, Nat.zero_add, Nat.add_zero, Value.cells, wrV]; first | done | rfl) | rfl) (by first | (simp only [List.set_cons_succ, List.set_cons_zero]; first | done | rfl) | rfl) ?_ | refine sx_store 3 rfl rfl rfl tyS51 (by first | (simp only [Value.cells]; first | done | rfl) | rfl) rfl rfl (by first | (simp only [List.length_cons, List.length_nil, Nat.reduceAdd, Nat.zero_add, Nat.add_zero]; first | done | rfl) | rfl) (by first | (simp only [List.take_succ_cons, List.take_zero, List.drop_succ_cons, List.drop_zero, List.cons_append, List.nil_append, List.append_nil, List.length_cons, List.length_nil, Nat.reduceAdd, Nat.zero_add, Nat.add_zero, Value.cells, wrV]; first | done | rfl) | rfl) (by first | (simp only [List.set_cons_succ, List.set_cons_zero]; first | done | rfl) | rfl) ?_ | refine sx_store 4 rfl rfl rfl tyS51 (by first | (simp only [Value.cells]; first | done | rfl) | rfl) rfl rfl (by first | (simp only [List.length_cons, List.length_nil, Nat.reduceAdd, Nat.zero_add, Nat.add_zero]; first | done | rfl) | rfl) (by first | (simp only [List.take_succ_cons, List.take_zero, List.drop_succ_cons, List.drop_zero, List.cons_append, List.nil_append, List.append_nil, List.length_cons, List.length_nil, Nat.reduceAdd, Nat.zero_add, Nat.add_zero, Value.cells, wrV]; first | done | rfl) | rfl) (by first | (simp only [List.set_cons_succ, List.set_cons_zero]; first | done | rfl) | rfl) ?_
        refine sx_nil (hZ _ _ ?_)
        refine nx_forget [(1, _), (12, _), (14, _), (15, _)] (Kn.cons rfl (Kn.cons rfl (Kn.cons rfl (Kn.cons rfl (Kn.nil))))) ?_
        refine nx_assign [_] (.cons rfl .nil) (HLe.refl _) fun w2 => ?_
        refine awp_block ?_
        refine awp_heap [.own g4 51 (atE awL k).cells, .own g3 3 [iq (k : Nat)], .ro ga 0 (ecells awL), .ro g2 0 [.slice (some ⟨g1, 0, none⟩) 2 2], .ro g1 0 (ecells awL)] (HLe.refl _) ?_

        refine awq_seq_meet [(12, ptr g3 0), (61, .bool true)] [.own g3 3 [iq (k : Nat)]] mixed (by kernel_rfl) (fun Z hZ => ?_) ?_
        · refine sq_move rfl rfl ?_
          refine sq_conv Try.underlying48 Try.underlying3 rfl ((k : Nat) : Int) (by rw [IntWalk.i64_in _ (by omega)]) rfl ?_
          first | refine sq_load 0 rfl rfl tyA3 tyS3 rfl rfl ?_ | refine sq_load 1 rfl rfl tyA3 tyS3 rfl rfl ?_ | refine sq_load 2 rfl rfl tyA3 tyS3 rfl rfl ?_ | refine sq_load 3 rfl rfl tyA3 tyS3 rfl rfl ?_ | refine sq_load 4 rfl rfl tyA3 tyS3 rfl rfl ?_
          first | refine sq_eql rfl rfl rfl ?_ | refine sq_seql rfl rfl rfl ?_
          refine sq_move rfl rfl ?_
          refine sq_force 50 rfl true (by first | rfl | (simp; done) | (simp; omega)) ?_
          refine sq_on rfl rfl rfl ?_
          first | refine sq_load 0 rfl rfl tyA3 tyS3 rfl rfl ?_ | refine sq_load 1 rfl rfl tyA3 tyS3 rfl rfl ?_ | refine sq_load 2 rfl rfl tyA3 tyS3 rfl rfl ?_ | refine sq_load 3 rfl rfl tyA3 tyS3 rfl rfl ?_ | refine sq_load 4 rfl rfl tyA3 tyS3 rfl rfl ?_
          refine sq_on rfl rfl rfl ?_
          first | refine sq_lss rfl rfl rfl ?_ | refine sq_slss rfl rfl rfl ?_
          refine sq_pick rfl rfl rfl ?_
          refine sq_move rfl rfl ?_
          refine sq_force 54 rfl true (by first | rfl | (simp; done) | (simp; omega)) ?_
          refine sq_on rfl rfl rfl ?_
          first | refine sq_loadA 0 rfl rfl tyA51 tyS51 (by first | (simp only [List.length_cons, List.length_nil, Nat.reduceAdd, Nat.zero_add, Nat.add_zero]; first | done | rfl) | rfl) (by first | (simp only [List.take_succ_cons, List.take_zero, List.drop_succ_cons, List.drop_zero, List.cons_append, List.nil_append, List.append_nil, List.length_cons, List.length_nil, Nat.reduceAdd, Nat.zero_add, Nat.add_zero, Value.cells, wrV]; first | done | rfl) | rfl) rfl ?_ | refine sq_loadA 1 rfl rfl tyA51 tyS51 (by first | (simp only [List.length_cons, List.length_nil, Nat.reduceAdd, Nat.zero_add, Nat.add_zero]; first | done | rfl) | rfl) (by first | (simp only [List.take_succ_cons, List.take_zero, List.drop_succ_cons, List.drop_zero, List.cons_append, List.nil_append, List.append_nil, List.length_cons, List.length_nil, Nat.reduceAdd, Nat.zero_add, Nat.add_zero, Value.cells, wrV]; first | done | rfl) | rfl) rfl ?_ | refine sq_loadA 2 rfl rfl tyA51 tyS51 (by first | (simp only [List.length_cons, List.length_nil, Nat.reduceAdd, Nat.zero_add, Nat.add_zero]; first | done | rfl) | rfl) (by first | (simp only [List.take_succ_cons, List.take_zero, List.drop_succ_cons, List.drop_zero, List.cons_append, List.nil_append, List.append_nil, List.length_cons, List.length_nil, Nat.reduceAdd, Nat.zero_add, Nat.add_zero, Value.cells, wrV]; first | done | rfl) | rfl) rfl ?_ | refine sq_loadA 3 rfl rfl tyA51 tyS51 (by first | (simp only [List.length_cons, List.length_nil, Nat.reduceAdd, Nat.zero_add, Nat.add_zero]; first | done | rfl) | rfl) (by first | (simp only [List.take_succ_cons, List.take_zero, List.drop_succ_cons, List.drop_zero, List.cons_append, List.nil_append, List.append_nil, List.length_cons, List.length_nil, Nat.reduceAdd, Nat.zero_add, Nat.add_zero, Value.cells, wrV]; first | done | rfl) | rfl) rfl ?_ | refine sq_loadA 4 rfl rfl tyA51 tyS51 (by first | (simp only [List.length_cons, List.length_nil, Nat.reduceAdd, Nat.zero_add, Nat.add_zero]; first | done | rfl) | rfl) (by first | (simp only [List.take_succ_cons, List.take_zero, List.drop_succ_cons, List.drop_zero, List.cons_append, List.nil_append, List.append_nil, List.length_cons, List.length_nil, Nat.reduceAdd, Nat.zero_add, Nat.add_zero, Value.cells, wrV]; first | done | rfl) | rfl) rfl ?_
          refine sq_on rfl rfl rfl ?_
          refine sq_loadRo 3 rfl rfl 0 rfl tyA27 tyS27 rfl rfl ?_
          refine sq_on rfl rfl rfl ?_
          first | refine sq_load 0 rfl rfl tyA3 tyS3 rfl rfl ?_ | refine sq_load 1 rfl rfl tyA3 tyS3 rfl rfl ?_ | refine sq_load 2 rfl rfl tyA3 tyS3 rfl rfl ?_ | refine sq_load 3 rfl rfl tyA3 tyS3 rfl rfl ?_ | refine sq_load 4 rfl rfl tyA3 tyS3 rfl rfl ?_
          refine sq_on rfl rfl rfl ?_
          refine sq_indexAddr (k * 4) Try.underlying27 tyS51 rfl rfl (by omega) (by simp) rfl ?_
          refine sq_on rfl rfl rfl ?_
          refine sq_loadRo 4 rfl rfl (k * 4) (by simp) tyA51 tyS51 (ecells_all hat) rfl ?_
          refine sq_on rfl rfl rfl ?_
          refine sq_aeql (en_eq _ _) guard_en rfl rfl rfl ?_
          refine sq_pick rfl rfl rfl ?_
          refine sq_nil (hZ _ _ ?_ ?_)
          · exact Kn.cons rfl (Kn.cons (congrArg some (congrArg Value.bool (enq_iff.2 rfl))) Kn.nil)
          · exact HLe.pick [1] (by simp) rfl
        first | refine awp_cond rfl (fun h5 => ?_) (fun h5 => ?_) | refine awp_seq (awp_cond rfl (fun h5 => ?_) (fun h5 => ?_))
        · skip
          refine awp_region (fun Z hZ => ?_)
          first | refine sx_load 0 rfl rfl tyA3 tyS3 rfl rfl ?_
          refine sx_add rfl rfl ((k + 1 : Nat) : Int) (by rw [IntWalk.i64_in _ (by omega)]; omega) rfl ?_
          first | refine sx_store1 0 rfl rfl rfl tyS3 rfl (by first | (simp only [List.length_cons, List.length_nil, Nat.reduceAdd, Nat.zero_add, Nat.add_zero]; first | done | rfl) | rfl) (by first | (simp only [List.set_cons_succ, List.set_cons_zero, Nat.reduceAdd, Nat.add_zero, Nat.zero_add]; first | done | rfl) | rfl) (by first | (simp only [List.set_cons_succ, List.set_cons_zero]; first | done | rfl) | rfl) ?_
          refine sx_nil (hZ _ _ ?_)
          refine nx_forget [] (Kn.nil) ?_
          refine nx_block_normal ?_
          exact nx_next _ rfl (HLe.refl _)
        · cases h5
    · intro D H hH
      subst hH
      refine nx_block_normal ?_
      repeat (with_reducible (first | refine nx_block_normal ?_ | refine nx_scope_normal ?_))
      with_reducible first | refine nx_normal ?_ | refine nx_normalM ?_
      rw [List.length_map, List.length_range]
      refine awp_heap (.ob D isDef :: [.own g3 3 [iq 2], .ro ga 0 (ecells awL), .ro g2 0 [.slice (some ⟨g1, 0, none⟩) 2 2], .ro g1 0 (ecells awL)]) (HLe.pick [0, 1, 4, 5, 6] (by simp) rfl) ?_

      refine awp_seq_meet [(0, .bool true)] [.ob D isDef] (fun Z hZ => ?_) ?_
      · refine sx_move rfl rfl ?_
        first | refine sx_eql rfl rfl rfl ?_ | refine sx_seql rfl rfl rfl ?_
        refine sx_move rfl rfl ?_
        refine sx_force 66 rfl true (by first | rfl | (simp; done)) ?_
        refine sx_on rfl rfl rfl ?_
        refine sx_move rfl rfl ?_
        refine sx_on rfl rfl rfl ?_
        first | refine sx_eql rfl rfl rfl ?_ | refine sx_seql rfl rfl rfl ?_
        refine sx_pick rfl rfl rfl ?_
        refine sx_move rfl rfl ?_
        refine sx_force 70 rfl true (by first | rfl | (simp; done)) ?_
        refine sx_on rfl rfl rfl ?_
        refine sx_move rfl rfl ?_
        refine sx_on rfl rfl rfl ?_
        first | refine sx_eql rfl rfl rfl ?_ | refine sx_seql rfl rfl rfl ?_
        refine sx_pick rfl rfl rfl ?_
        refine sx_move rfl rfl ?_
        refine sx_force 74 rfl true (by first | rfl | (simp; done)) ?_
        refine sx_on rfl rfl rfl ?_
        refine sx_move rfl rfl ?_
        refine sx_on rfl rfl rfl ?_
        refine sx_move rfl rfl ?_
        refine sx_on rfl rfl rfl ?_
        first | refine sx_len Try.underlying9 rfl rfl ?_ | refine sx_lenS Try.underlying9 rfl rfl ?_
        refine sx_on rfl rfl rfl ?_
        first | refine sx_eql rfl rfl rfl ?_ | refine sx_seql rfl rfl rfl ?_
        refine sx_pick rfl rfl rfl ?_
        refine sx_move rfl rfl ?_
        refine sx_force 80 rfl true (by first | rfl | (simp; done)) ?_
        refine sx_on rfl rfl rfl ?_
        refine sx_loadRo 3 rfl rfl 0 rfl tyA27 tyS27 rfl rfl ?_
        refine sx_on rfl rfl rfl ?_
        refine sx_move rfl rfl ?_
        refine sx_on rfl rfl rfl ?_
        refine sx_callV ([.ro g1 0 (ecells awL)] ++ [.ro ga 0 (ecells awL)]) (esame_fn (some ⟨g1, 0, none⟩) 2 awL _ (fun _ => ⟨_, _, rfl⟩) (fun _ => rfl) (Ro.roE (some ⟨g1, 0, none⟩) (ecells awL)) (by decide) (some ⟨ga, 0, none⟩) c3 awL _ (fun _ => ⟨_, _, rfl⟩) (fun _ => rfl) (Ro.roE (some ⟨ga, 0, none⟩) (ecells awL)) (by decide)) rfl (HLe.pick [4, 2] (by simp) rfl) ((Ro.roE (some ⟨g1, 0, none⟩) (ecells awL)).append (Ro.roE (some ⟨ga, 0, none⟩) (ecells awL))) rfl ?_
        rw [show sameL awL awL = true from sameL_iff.2 rfl]
        refine sx_pick rfl rfl rfl ?_
        refine sx_move rfl rfl ?_
        refine sx_force 85 rfl true (by first | rfl | (simp; done)) ?_
        refine sx_on rfl rfl rfl ?_
        refine sx_move rfl rfl ?_
        refine sx_on rfl rfl rfl ?_
        first | refine sx_eql rfl rfl rfl ?_ | refine sx_seql rfl rfl rfl ?_
        refine sx_pick rfl rfl rfl ?_
        refine sx_move rfl rfl ?_
        refine sx_force 89 rfl true (by first | rfl | (simp; done)) ?_
        refine sx_on rfl rfl rfl ?_
        refine sx_move rfl rfl ?_
        refine sx_on rfl rfl rfl ?_
        first | refine sx_eql rfl rfl rfl ?_ | refine sx_seql rfl rfl rfl ?_
        refine sx_pick rfl rfl rfl ?_
        refine sx_move rfl rfl ?_
        refine sx_force 93 rfl true (by first | rfl | (simp; done)) ?_
        refine sx_on rfl rfl rfl ?_
        refine sx_move rfl rfl ?_
        refine sx_on rfl rfl rfl ?_
        first | refine sx_eql rfl rfl rfl ?_ | refine sx_seql rfl rfl rfl ?_
        refine sx_pick rfl rfl rfl ?_
        refine sx_move rfl rfl ?_
        refine sx_force 97 rfl true (by first | rfl | (simp; done)) ?_
        refine sx_on rfl rfl rfl ?_
        refine sx_move rfl rfl ?_
        refine sx_on rfl rfl rfl ?_
        first | refine sx_eql rfl rfl rfl ?_ | refine sx_seql rfl rfl rfl ?_
        refine sx_pick rfl rfl rfl ?_
        refine sx_move rfl rfl ?_
        refine sx_force 101 rfl true (by first | rfl | (simp; done)) ?_
        refine sx_on rfl rfl rfl ?_
        refine sx_loadRo 3 rfl rfl 0 rfl tyA27 tyS27 rfl rfl ?_
        refine sx_on rfl rfl rfl ?_
        refine sx_callV [.ro g1 0 (ecells awL)] (hSz (some ⟨g1, 0, none⟩) 2 _ (fun _ => ⟨_, _, rfl⟩) (fun _ => rfl) (Ro.roE (some ⟨g1, 0, none⟩) (ecells awL))) rfl (HLe.pick [4] (by simp) rfl) (Ro.roE (some ⟨g1, 0, none⟩) (ecells awL)) rfl ?_
        refine sx_on rfl rfl rfl ?_
        first | refine sx_eql rfl rfl rfl ?_ | refine sx_seql rfl rfl rfl ?_
        refine sx_pick rfl rfl rfl ?_
        refine sx_move rfl rfl ?_
        refine sx_force 106 rfl true (by first | rfl | (simp; done)) ?_
        refine sx_on rfl rfl rfl ?_
        first | refine sx_load 0 rfl rfl tyA3 tyS3 rfl rfl ?_ | refine sx_load 1 rfl rfl tyA3 tyS3 rfl rfl ?_ | refine sx_load 2 rfl rfl tyA3 tyS3 rfl rfl ?_ | refine sx_load 3 rfl rfl tyA3 tyS3 rfl rfl ?_ | refine sx_load 4 rfl rfl tyA3 tyS3 rfl rfl ?_
        refine sx_on rfl rfl rfl ?_
        first | refine sx_eql rfl rfl rfl ?_ | refine sx_seql rfl rfl rfl ?_
        refine sx_pick rfl rfl rfl ?_
        refine sx_move rfl rfl ?_
        refine sx_pick rfl rfl rfl ?_
        refine sx_move rfl rfl ?_
        refine sx_pick rfl rfl rfl ?_
        refine sx_assign rfl rfl ?_
        refine sx_nil (hZ _ _ ?_ ?_)
        · exact Kn.cons rfl Kn.nil
        · exact HLe.pick [0] (by simp) rfl
      refine awp_ret ?_
      repeat (with_reducible (first | refine nx_then_ret ?_ | refine nx_block_ret ?_ | refine nx_scope_ret ?_))
      exact nx_unmark [0] ⟨rfl, trivial⟩ (nx_ret1 rfl rfl rfl)
  · cases h
end Go.Proofs.Ytfffhnefjaomnaa
