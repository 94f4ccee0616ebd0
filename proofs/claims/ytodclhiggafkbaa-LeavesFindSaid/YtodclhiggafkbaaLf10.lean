/- The small example of leaves, plain. No conditions. -/
import Derived.Test.YtodclhiggafkbaaLf9
namespace Go.Proofs.Ytodclhiggafkbaa
open Go.RowKit
set_option linter.unusedVariables false
set_option linter.unusedSimpArgs false
def lvL : List En := [⟨1, 0, 5, 1⟩, ⟨3, 5, 5, 1⟩, ⟨9, 0, 5, 2⟩]
def lvR : List En := [⟨1, 0, 9, 0⟩, ⟨9, 9, 5, 0⟩]
def lvT : List UInt8 := [2, 1, 2, 1, 1, 5, 5, 1, 0, 1, 9, 2, 5, 1]
theorem lv1 : splitQ lvL 12 = (lvR, lvT, 2, 0) := by kernel_rfl
theorem lv2 : splitQ lvL 512 = (lvL, [], 0, 0) := by kernel_rfl
theorem lv3 : splitQ lvL 1 = ([], [], 0, 15) := by kernel_rfl
theorem lv4 : splitQ [] 0 = ([], [], 0, 2) := by kernel_rfl
theorem lv5 : joinQ lvR lvT = (lvL, 0) := by kernel_rfl
theorem lvL_ok : EnsOk lvL := fun e he => by
  simp only [lvL, List.mem_cons, List.not_mem_nil, or_false] at he
  rcases he with rfl | rfl | rfl <;> exact ⟨by decide, by decide, by decide, by decide⟩
theorem lvR_ok : EnsOk lvR := fun e he => by
  simp only [lvR, List.mem_cons, List.not_mem_nil, or_false] at he
  rcases he with rfl | rfl <;> exact ⟨by decide, by decide, by decide, by decide⟩
theorem lawake_fn : Fn Try.prog 7 [] [] fun v _ => v = .bool true := by
  have hS := fun A c T b hA hT hro hnil hc => split_fn A c lvL T b hA hT hro (by decide) lvL_ok hnil hc
  have hS1 := fun A c T hA hT hro hnil hc => hS A c T 12 hA hT hro hnil hc
  have hS2 := fun A c T hA hT hro hnil hc => hS A c T 512 hA hT hro hnil hc
  have hS3 := fun A c T hA hT hro hnil hc => hS A c T 1 hA hT hro hnil hc
  have hS4 := split_fn none 0 [] [] 0 (fun h => absurd h (by decide)) (fun h => absurd h (by decide)) Ro.nil (by decide) (fun e he => by cases he) (fun _ => rfl) (by decide)
  have hJ := fun A c T hA hT hro => join_fn A c lvR T hA hT hro (by decide) lvR_ok lvT (by decide)
  rw [lv1] at hS1
  rw [lv2] at hS2
  rw [lv3] at hS3
  rw [lv4] at hS4
  rw [lv5] at hJ
  refine Fn.enter (N := 137) Try.func7 rfl (by kernel_rfl) rfl (fun w0 => ?_)

  refine awp_seq_region (fun Z hZ => ?_)
  refine sx_assign rfl rfl ?_
  refine sx_nil (hZ _ _ ?_)
  refine awp_forget [] (Kn.nil) ?_
  refine awp_seq_region (fun Z hZ => ?_)
  refine sx_build tyZ52 tyP52 rfl rfl (by first | (simp only [List.take_succ_cons, List.take_zero, List.drop_succ_cons, List.drop_zero, List.cons_append, List.nil_append, List.append_nil, List.length_cons, List.length_nil, Nat.reduceAdd, Nat.zero_add, Nat.add_zero, Value.cells, wrV, zrep_one, List.replicate_succ, List.replicate_zero, Nat.reduceMul, Nat.zero_mul]; first | done | rfl) | rfl) rfl ?_
  refine sx_build tyZ52 tyP52 rfl rfl (by first | (simp only [List.take_succ_cons, List.take_zero, List.drop_succ_cons, List.drop_zero, List.cons_append, List.nil_append, List.append_nil, List.length_cons, List.length_nil, Nat.reduceAdd, Nat.zero_add, Nat.add_zero, Value.cells, wrV, zrep_one, List.replicate_succ, List.replicate_zero, Nat.reduceMul, Nat.zero_mul]; first | done | rfl) | rfl) rfl ?_
  refine sx_build tyZ52 tyP52 rfl rfl (by first | (simp only [List.take_succ_cons, List.take_zero, List.drop_succ_cons, List.drop_zero, List.cons_append, List.nil_append, List.append_nil, List.length_cons, List.length_nil, Nat.reduceAdd, Nat.zero_add, Nat.add_zero, Value.cells, wrV, zrep_one, List.replicate_succ, List.replicate_zero, Nat.reduceMul, Nat.zero_mul]; first | done | rfl) | rfl) rfl ?_
  refine sx_buildSlice Try.underlying24 tyS52 tyZ52 rfl rfl rfl rfl (by first | (simp only [List.take_succ_cons, List.take_zero, List.drop_succ_cons, List.drop_zero, List.cons_append, List.nil_append, List.append_nil, List.length_cons, List.length_nil, Nat.reduceAdd, Nat.zero_add, Nat.add_zero, Value.cells, wrV, zrep_one, List.replicate_succ, List.replicate_zero, Nat.reduceMul, Nat.zero_mul]; first | done | rfl) | rfl) rfl (fun g1 => ?_)
  refine sx_assign rfl rfl ?_
  refine sx_nil (hZ _ _ ?_)
  refine awp_forget [(1, _)] (Kn.cons rfl (Kn.nil)) ?_
  refine awp_heap [.ro g1 0 (ecells lvL)] (HLe.toRo [] []) ?_

  refine awp_seq_region (fun Z hZ => ?_)
  refine sx_move rfl rfl ?_
  refine sx_callU [.ro g1 0 (ecells lvL)] (hS1 (some ⟨g1, 0, none⟩) 3 _ (fun _ => ⟨_, _, rfl⟩) (fun _ => rfl) (Ro.roE (some ⟨g1, 0, none⟩) (ecells lvL)) (fun h => by cases h) (by decide)) rfl (List.Sublist.refl _) (Ro.roE (some ⟨g1, 0, none⟩) (ecells lvL)) rfl ?_
  rintro v H' ⟨u, rfl, hu, rfl⟩
  rw [rowE_flt]
  obtain ⟨ga, ca, rfl⟩ := hu.some (by decide)
  refine sx_heap [.ro ga 0 (ecells lvR), .ro g1 0 (ecells lvL)] (HLe.rowRo [] _) ?_
  refine sx_move rfl rfl ?_
  refine sx_extract rfl rfl rfl ?_
  refine sx_extract rfl rfl rfl ?_
  refine sx_extract rfl rfl rfl ?_
  refine sx_extract rfl rfl rfl ?_
  refine sx_assign rfl rfl ?_
  refine sx_assign rfl rfl ?_
  refine sx_assign rfl rfl ?_
  refine sx_assign rfl rfl ?_
  refine sx_nil (hZ _ _ ?_)
  refine awp_forget [(1, _), (2, _), (3, _), (4, _), (5, _)] (Kn.cons rfl (Kn.cons rfl (Kn.cons rfl (Kn.cons rfl (Kn.cons rfl (Kn.nil)))))) ?_

  refine awp_seq_region (fun Z hZ => ?_)
  refine sx_move rfl rfl ?_
  refine sx_callU [.ro g1 0 (ecells lvL)] (hS2 (some ⟨g1, 0, none⟩) 3 _ (fun _ => ⟨_, _, rfl⟩) (fun _ => rfl) (Ro.roE (some ⟨g1, 0, none⟩) (ecells lvL)) (fun h => by cases h) (by decide)) rfl (List.sublist_cons_self _ _) (Ro.roE (some ⟨g1, 0, none⟩) (ecells lvL)) rfl ?_
  rintro v H' ⟨u, rfl, hu, rfl⟩
  rw [rowE_flt]
  obtain ⟨gb, cb, rfl⟩ := hu.some (by decide)
  refine sx_heap [.ro gb 0 (ecells lvL), .ro ga 0 (ecells lvR), .ro g1 0 (ecells lvL)] (HLe.rowRo [] _) ?_
  refine sx_move rfl rfl ?_
  refine sx_extract rfl rfl rfl ?_
  refine sx_extract rfl rfl rfl ?_
  refine sx_extract rfl rfl rfl ?_
  refine sx_extract rfl rfl rfl ?_
  refine sx_assign rfl rfl ?_
  refine sx_assign rfl rfl ?_
  refine sx_assign rfl rfl ?_
  refine sx_assign rfl rfl ?_
  refine sx_nil (hZ _ _ ?_)
  refine awp_forget [(1, _), (2, _), (3, _), (4, _), (5, _), (6, _), (7, _), (8, _), (9, _)] (Kn.cons rfl (Kn.cons rfl (Kn.cons rfl (Kn.cons rfl (Kn.cons rfl (Kn.cons rfl (Kn.cons rfl (Kn.cons rfl (Kn.cons rfl (Kn.nil)))))))))) ?_

  refine awp_seq_region (fun Z hZ => ?_)
  refine sx_move rfl rfl ?_
  refine sx_callU [.ro g1 0 (ecells lvL)] (hS3 (some ⟨g1, 0, none⟩) 3 _ (fun _ => ⟨_, _, rfl⟩) (fun _ => rfl) (Ro.roE (some ⟨g1, 0, none⟩) (ecells lvL)) (fun h => by cases h) (by decide)) rfl (List.Sublist.cons _ (List.sublist_cons_self _ _)) (Ro.roE (some ⟨g1, 0, none⟩) (ecells lvL)) rfl ?_
  rintro v H' ⟨u, rfl, hu3, rfl⟩
  rw [rowE_flt]
  refine sx_heap [.ro gb 0 (ecells lvL), .ro ga 0 (ecells lvR), .ro g1 0 (ecells lvL)] (HLe.sub (List.sublist_append_right _ _)) ?_
  refine sx_move rfl rfl ?_
  refine sx_extract rfl rfl rfl ?_
  refine sx_extract rfl rfl rfl ?_
  refine sx_extract rfl rfl rfl ?_
  refine sx_extract rfl rfl rfl ?_
  refine sx_assign rfl rfl ?_
  refine sx_assign rfl rfl ?_
  refine sx_assign rfl rfl ?_
  refine sx_assign rfl rfl ?_
  refine sx_nil (hZ _ _ ?_)
  refine awp_forget [(1, _), (2, _), (3, _), (4, _), (5, _), (6, _), (7, _), (8, _), (9, _), (13, _)] (Kn.cons rfl (Kn.cons rfl (Kn.cons rfl (Kn.cons rfl (Kn.cons rfl (Kn.cons rfl (Kn.cons rfl (Kn.cons rfl (Kn.cons rfl (Kn.cons rfl (Kn.nil))))))))))) ?_
  refine awp_seq_region (fun Z hZ => ?_)
  refine sx_callU [] hS4 rfl (List.nil_sublist _) Ro.nil rfl ?_
  rintro v H' ⟨u4, rfl, hu4, rfl⟩
  rw [rowE_flt]
  refine sx_heap [.ro gb 0 (ecells lvL), .ro ga 0 (ecells lvR), .ro g1 0 (ecells lvL)] (HLe.sub (List.sublist_append_right _ _)) ?_
  refine sx_move rfl rfl ?_
  refine sx_extract rfl rfl rfl ?_
  refine sx_extract rfl rfl rfl ?_
  refine sx_extract rfl rfl rfl ?_
  refine sx_extract rfl rfl rfl ?_
  refine sx_assign rfl rfl ?_
  refine sx_assign rfl rfl ?_
  refine sx_assign rfl rfl ?_
  refine sx_assign rfl rfl ?_
  refine sx_nil (hZ _ _ ?_)
  refine awp_forget [(1, _), (2, _), (3, _), (4, _), (5, _), (6, _), (7, _), (8, _), (9, _), (13, _), (17, _)] (Kn.cons rfl (Kn.cons rfl (Kn.cons rfl (Kn.cons rfl (Kn.cons rfl (Kn.cons rfl (Kn.cons rfl (Kn.cons rfl (Kn.cons rfl (Kn.cons rfl (Kn.cons rfl (Kn.nil)))))))))))) ?_
  refine awp_seq_region (fun Z hZ => ?_)
  refine sx_move rfl rfl ?_
  refine sx_move rfl rfl ?_
  refine sx_callU [.ro ga 0 (ecells lvR)] (hJ (some ⟨ga, 0, none⟩) ca _ (fun _ => ⟨_, _, rfl⟩) (fun _ => rfl) (Ro.roE (some ⟨ga, 0, none⟩) (ecells lvR))) rfl (List.Sublist.cons _ (List.Sublist.cons_cons _ (List.nil_sublist _))) (Ro.roE (some ⟨ga, 0, none⟩) (ecells lvR)) rfl ?_
  rintro v H' ⟨u, rfl, hu, rfl⟩
  rw [rowE_flt]
  obtain ⟨gj, cj, rfl⟩ := hu.some (by decide)
  refine sx_heap [.ro gj 0 (ecells lvL), .ro gb 0 (ecells lvL), .ro ga 0 (ecells lvR), .ro g1 0 (ecells lvL)] (HLe.rowRo [] _) ?_
  refine sx_move rfl rfl ?_
  refine sx_extract rfl rfl rfl ?_
  refine sx_extract rfl rfl rfl ?_
  refine sx_assign rfl rfl ?_
  refine sx_assign rfl rfl ?_
  refine sx_nil (hZ _ _ ?_)
  refine awp_forget [(1, _), (2, _), (3, _), (4, _), (5, _), (6, _), (7, _), (8, _), (9, _), (13, _), (17, _), (18, _), (19, _)] (Kn.cons rfl (Kn.cons rfl (Kn.cons rfl (Kn.cons rfl (Kn.cons rfl (Kn.cons rfl (Kn.cons rfl (Kn.cons rfl (Kn.cons rfl (Kn.cons rfl (Kn.cons rfl (Kn.cons rfl (Kn.cons rfl (Kn.nil)))))))))))))) ?_

  refine awp_seq_meet [(0, .bool true)] [] (fun Z hZ => ?_) ?_
  · refine sx_move rfl rfl ?_
    first | refine sx_eql rfl rfl rfl ?_ | refine sx_seql rfl rfl rfl ?_
    refine sx_move rfl rfl ?_
    refine sx_force 59 rfl true (by first | rfl | (simp; done) | (rw [husl]; rfl)) ?_
    refine sx_on rfl rfl rfl ?_
    refine sx_move rfl rfl ?_
    refine sx_on rfl rfl rfl ?_
    first | refine sx_eql rfl rfl rfl ?_ | refine sx_seql rfl rfl rfl ?_
    refine sx_pick rfl rfl rfl ?_
    refine sx_move rfl rfl ?_
    refine sx_force 63 rfl true (by first | rfl | (simp; done) | (rw [husl]; rfl)) ?_
    refine sx_on rfl rfl rfl ?_
    refine sx_move rfl rfl ?_
    refine sx_on rfl rfl rfl ?_
    first | refine sx_len Try.underlying24 rfl rfl ?_ | refine sx_lenS Try.underlying24 rfl rfl ?_
    refine sx_on rfl rfl rfl ?_
    first | refine sx_eql rfl rfl rfl ?_ | refine sx_seql rfl rfl rfl ?_
    refine sx_pick rfl rfl rfl ?_
    refine sx_move rfl rfl ?_
    refine sx_force 68 rfl true (by first | rfl | (simp; done) | (rw [husl]; rfl)) ?_
    refine sx_on rfl rfl rfl ?_
    refine sx_move rfl rfl ?_
    refine sx_on rfl rfl rfl ?_
    refine sx_indexAddr 0 Try.underlying24 tyS52 rfl rfl (by decide) rfl rfl ?_
    refine sx_on rfl rfl rfl ?_
    refine sx_loadRo 2 rfl rfl 0 rfl tyA52 tyS52 rfl rfl ?_
    refine sx_on rfl rfl rfl ?_
    refine sx_build tyZ52 tyP52 rfl rfl (by first | (simp only [List.take_succ_cons, List.take_zero, List.drop_succ_cons, List.drop_zero, List.cons_append, List.nil_append, List.append_nil, List.length_cons, List.length_nil, Nat.reduceAdd, Nat.zero_add, Nat.add_zero, Value.cells, wrV, zrep_one, List.replicate_succ, List.replicate_zero, Nat.reduceMul, Nat.zero_mul]; first | done | rfl) | rfl) rfl ?_
    refine sx_on rfl rfl rfl ?_
    refine sx_aeql (en_eq ⟨1, 0, 9, 0⟩ ⟨1, 0, 9, 0⟩) guard_en rfl rfl rfl ?_
    refine sx_pick rfl rfl rfl ?_
    refine sx_move rfl rfl ?_
    refine sx_force 75 rfl true (by first | rfl | (simp; done) | (rw [husl]; rfl)) ?_
    refine sx_on rfl rfl rfl ?_
    refine sx_move rfl rfl ?_
    refine sx_on rfl rfl rfl ?_
    refine sx_indexAddr 4 Try.underlying24 tyS52 rfl rfl (by decide) rfl rfl ?_
    refine sx_on rfl rfl rfl ?_
    refine sx_loadRo 2 rfl rfl 4 rfl tyA52 tyS52 rfl rfl ?_
    refine sx_on rfl rfl rfl ?_
    refine sx_build tyZ52 tyP52 rfl rfl (by first | (simp only [List.take_succ_cons, List.take_zero, List.drop_succ_cons, List.drop_zero, List.cons_append, List.nil_append, List.append_nil, List.length_cons, List.length_nil, Nat.reduceAdd, Nat.zero_add, Nat.add_zero, Value.cells, wrV, zrep_one, List.replicate_succ, List.replicate_zero, Nat.reduceMul, Nat.zero_mul]; first | done | rfl) | rfl) rfl ?_
    refine sx_on rfl rfl rfl ?_
    refine sx_aeql (en_eq ⟨9, 9, 5, 0⟩ ⟨9, 9, 5, 0⟩) guard_en rfl rfl rfl ?_
    refine sx_pick rfl rfl rfl ?_
    refine sx_move rfl rfl ?_
    refine sx_force 82 rfl true (by first | rfl | (simp; done) | (rw [husl]; rfl)) ?_
    refine sx_on rfl rfl rfl ?_
    refine sx_move rfl rfl ?_
    refine sx_on rfl rfl rfl ?_
    first | refine sx_len Try.underlying9 rfl rfl ?_ | refine sx_lenS Try.underlying9 rfl rfl ?_
    refine sx_on rfl rfl rfl ?_
    first | refine sx_eql rfl rfl rfl ?_ | refine sx_seql rfl rfl rfl ?_
    refine sx_pick rfl rfl rfl ?_
    refine sx_move rfl rfl ?_
    refine sx_force 87 rfl true (by first | rfl | (simp; done) | (rw [husl]; rfl)) ?_
    refine sx_on rfl rfl rfl ?_
    refine sx_move rfl rfl ?_
    refine sx_on rfl rfl rfl ?_
    first | refine sx_eql rfl rfl rfl ?_ | refine sx_seql rfl rfl rfl ?_
    refine sx_pick rfl rfl rfl ?_
    refine sx_move rfl rfl ?_
    refine sx_force 91 rfl true (by first | rfl | (simp; done) | (rw [husl]; rfl)) ?_
    refine sx_on rfl rfl rfl ?_
    refine sx_move rfl rfl ?_
    refine sx_on rfl rfl rfl ?_
    refine sx_move rfl rfl ?_
    refine sx_on rfl rfl rfl ?_
    refine sx_callV ([.ro gb 0 (ecells lvL)] ++ [.ro g1 0 (ecells lvL)]) (esame_fn (some ⟨gb, 0, none⟩) cb lvL _ (fun _ => ⟨_, _, rfl⟩) (fun _ => rfl) (Ro.roE (some ⟨gb, 0, none⟩) (ecells lvL)) (by decide) (some ⟨g1, 0, none⟩) 3 lvL _ (fun _ => ⟨_, _, rfl⟩) (fun _ => rfl) (Ro.roE (some ⟨g1, 0, none⟩) (ecells lvL)) (by decide)) rfl (HLe.pick [1, 3] (by simp) rfl) ((Ro.roE (some ⟨gb, 0, none⟩) (ecells lvL)).append (Ro.roE (some ⟨g1, 0, none⟩) (ecells lvL))) rfl ?_
    rw [show sameL lvL lvL = true from sameL_iff.2 rfl]
    refine sx_pick rfl rfl rfl ?_
    refine sx_move rfl rfl ?_
    refine sx_force 96 rfl true (by first | rfl | (simp; done) | (rw [husl]; rfl)) ?_
    refine sx_on rfl rfl rfl ?_
    refine sx_move rfl rfl ?_
    refine sx_on rfl rfl rfl ?_
    first | refine sx_eql rfl rfl rfl ?_ | refine sx_seql rfl rfl rfl ?_
    refine sx_pick rfl rfl rfl ?_
    refine sx_move rfl rfl ?_
    refine sx_force 100 rfl true (by first | rfl | (simp; done) | (rw [husl]; rfl)) ?_
    refine sx_on rfl rfl rfl ?_
    refine sx_move rfl rfl ?_
    refine sx_on rfl rfl rfl ?_
    first | refine sx_eql rfl rfl rfl ?_ | refine sx_seql rfl rfl rfl ?_
    refine sx_pick rfl rfl rfl ?_
    refine sx_move rfl rfl ?_
    refine sx_force 104 rfl true (by first | rfl | (simp; done) | (rw [husl]; rfl)) ?_
    refine sx_on rfl rfl rfl ?_
    refine sx_move rfl rfl ?_
    refine sx_on rfl rfl rfl ?_
    first | refine sx_eql rfl rfl rfl ?_ | refine sx_seql rfl rfl rfl ?_
    refine sx_pick rfl rfl rfl ?_
    refine sx_move rfl rfl ?_
    refine sx_force 108 rfl true (by first | rfl | (simp; done) | (rw [husl]; rfl)) ?_
    refine sx_on rfl rfl rfl ?_
    refine sx_move rfl rfl ?_
    refine sx_on rfl rfl rfl ?_
    first | refine sx_eql rfl rfl rfl ?_ | refine sx_seql rfl rfl rfl ?_
    refine sx_pick rfl rfl rfl ?_
    refine sx_move rfl rfl ?_
    refine sx_force 112 rfl true (by first | rfl | (simp; done) | (rw [husl]; rfl)) ?_
    refine sx_on rfl rfl rfl ?_
    refine sx_move rfl rfl ?_
    refine sx_on rfl rfl rfl ?_
    first | refine sx_eql rfl rfl rfl ?_ | refine sx_seql rfl rfl rfl ?_
    refine sx_pick rfl rfl rfl ?_
    refine sx_move rfl rfl ?_
    refine sx_force 116 rfl true (by first | rfl | (simp; done) | (rw [husl]; rfl)) ?_
    refine sx_on rfl rfl rfl ?_
    refine sx_move rfl rfl ?_
    refine sx_on rfl rfl rfl ?_
    refine sx_move rfl rfl ?_
    refine sx_on rfl rfl rfl ?_
    refine sx_callV ([.ro gj 0 (ecells lvL)] ++ [.ro g1 0 (ecells lvL)]) (esame_fn (some ⟨gj, 0, none⟩) cj lvL _ (fun _ => ⟨_, _, rfl⟩) (fun _ => rfl) (Ro.roE (some ⟨gj, 0, none⟩) (ecells lvL)) (by decide) (some ⟨g1, 0, none⟩) 3 lvL _ (fun _ => ⟨_, _, rfl⟩) (fun _ => rfl) (Ro.roE (some ⟨g1, 0, none⟩) (ecells lvL)) (by decide)) rfl (HLe.pick [0, 3] (by simp) rfl) ((Ro.roE (some ⟨gj, 0, none⟩) (ecells lvL)).append (Ro.roE (some ⟨g1, 0, none⟩) (ecells lvL))) rfl ?_
    rw [show sameL lvL lvL = true from sameL_iff.2 rfl]
    refine sx_pick rfl rfl rfl ?_
    refine sx_move rfl rfl ?_
    refine sx_force 121 rfl true (by first | rfl | (simp; done) | (rw [husl]; rfl)) ?_
    refine sx_on rfl rfl rfl ?_
    refine sx_move rfl rfl ?_
    refine sx_on rfl rfl rfl ?_
    refine sx_callU [.ro g1 0 (ecells lvL)] (cut_fn (some ⟨g1, 0, none⟩) 3 lvL _ 2 (fun _ => ⟨_, _, rfl⟩) (fun _ => rfl) (Ro.roE (some ⟨g1, 0, none⟩) (ecells lvL)) (by decide) (by decide) (by decide) (by decide)) rfl (List.Sublist.cons _ (List.Sublist.cons _ (List.sublist_cons_self _ _))) (Ro.roE (some ⟨g1, 0, none⟩) (ecells lvL)) rfl ?_
    rintro v H' ⟨us, hv, husl, _, _, rfl⟩
    refine sx_heap [] (HLe.sub (List.nil_sublist _)) ?_
    obtain ⟨A7, c7, rfl, _⟩ := hv.form
    refine sx_on rfl rfl rfl ?_
    first | refine sx_len Try.underlying33 rfl rfl ?_ | refine sx_lenS Try.underlying33 rfl rfl ?_
    refine sx_on rfl rfl rfl ?_
    first | refine sx_eql rfl rfl rfl ?_ | refine sx_seql rfl rfl rfl ?_
    refine sx_pick rfl rfl rfl ?_
    refine sx_move rfl rfl ?_
    refine sx_force 127 rfl true (by first | rfl | (simp; done) | (rw [husl]; rfl)) ?_
    refine sx_on rfl rfl rfl ?_
    refine sx_move rfl rfl ?_
    refine sx_on rfl rfl rfl ?_
    refine sx_callPT [] (cut0_fn (some ⟨g1, 0, none⟩) 3 3 0 (by decide)) rfl (List.nil_sublist _) Ro.nil rfl ?_
    refine sx_on rfl rfl rfl ?_
    first | refine sx_len Try.underlying33 rfl rfl ?_ | refine sx_lenS Try.underlying33 rfl rfl ?_
    refine sx_on rfl rfl rfl ?_
    first | refine sx_eql rfl rfl rfl ?_ | refine sx_seql rfl rfl rfl ?_
    refine sx_pick rfl rfl rfl ?_
    refine sx_move rfl rfl ?_
    refine sx_pick rfl rfl rfl ?_
    refine sx_move rfl rfl ?_
    refine sx_pick rfl rfl rfl ?_
    refine sx_assign rfl rfl ?_
    refine sx_nil (hZ _ _ ?_ ?_)
    · exact Kn.cons rfl Kn.nil
    · exact HLe.sub (List.nil_sublist _)
  refine awp_ret ?_
  repeat (with_reducible (first | refine nx_then_ret ?_ | refine nx_block_ret ?_ | refine nx_scope_ret ?_))
  exact nx_ret1 rfl rfl rfl
end Go.Proofs.Ytodclhiggafkbaa
