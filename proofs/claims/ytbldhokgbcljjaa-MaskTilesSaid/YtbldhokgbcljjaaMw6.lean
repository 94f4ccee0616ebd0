/- The small example of the laws of mask. No conditions. -/
import Derived.Test.YtbldhokgbcljjaaMw5
namespace Go.Proofs.Ytbldhokgbcljjaa
open Go.RowKit
set_option linter.unusedVariables false
set_option linter.unusedSimpArgs false
set_option maxRecDepth 100000
def waA : List Sp := [⟨5, 5⟩, ⟨21, 21⟩]
def waN : List Sp := [⟨0, 6004799503160660⟩]
def waU : List Sp := [⟨1, 1⟩, ⟨5, 5⟩]
def waZ : List Sp := [⟨0, 0⟩]
def waD : List Sp := [⟨1, 4⟩]
def waP : List Sp := [⟨3, 9⟩]
def waQ : List Sp := [⟨8, 20⟩]
def waB : List Sp := [⟨8, 9⟩]
theorem wa1 : notQ [] = waN := by kernel_rfl
theorem wa2 : upQ waA = waU := by kernel_rfl
theorem wa3 : downQ waZ = waD := by kernel_rfl
theorem wa4 : andQ waP waQ = waB := by kernel_rfl
theorem wa5 : withinQ waA waN = true ∧ withinQ waN waA = false := ⟨by kernel_rfl, by kernel_rfl⟩
theorem wa6 : (orQ waA waA).length = 2 ∧ (lessQ waA waB).length = 2 ∧ (ZoomQ waA 2).length = 1 := ⟨by kernel_rfl, by kernel_rfl, by kernel_rfl⟩
theorem sps_of {L : List Sp} (h : L.all (fun s => decide (s.a < 18446744073709551616 ∧ s.b < 18446744073709551616)) = true) : SpsOk L := fun s hs => by simpa using List.all_eq_true.1 h s hs
theorem waA_ok : SpsOk waA := sps_of (by decide)
theorem waN_ok : SpsOk waN := sps_of (by decide)
theorem waZ_ok : SpsOk waZ := sps_of (by decide)
theorem waP_ok : SpsOk waP := sps_of (by decide)
theorem waQ_ok : SpsOk waQ := sps_of (by decide)
theorem waB_ok : SpsOk waB := sps_of (by decide)
theorem roS (g o : Nat) (xs : List Value) : Ro [.ro g o xs] := fun e he => by rw [List.mem_singleton.1 he]; rfl
theorem roS2 (g o g' o' : Nat) (xs ys : List Value) : Ro [.ro g o xs, .ro g' o' ys] := (roS g o xs).append (roS g' o' ys)
theorem m43wake_fn : Fn Try.prog 13 [] [] fun v _ => v = .bool true := by
  refine Fn.enter (N := 104) Try.func13 rfl (by kernel_rfl) rfl (fun w0 => ?_)

  refine awp_seq_region (fun Z hZ => ?_)
  refine sx_assign rfl rfl ?_
  refine sx_nil (hZ _ _ ?_)
  refine awp_forget [] (Kn.nil) ?_
  refine awp_seq_region (fun Z hZ => ?_)
  refine sx_build tyZ43 tyP43 rfl rfl (by first | (simp only [List.take_succ_cons, List.take_zero, List.drop_succ_cons, List.drop_zero, List.cons_append, List.nil_append, List.append_nil, List.length_cons, List.length_nil, Nat.reduceAdd, Nat.zero_add, Nat.add_zero, Value.cells, wrV, zrep_one, List.replicate_succ, List.replicate_zero, Nat.reduceMul, Nat.zero_mul]; first | done | rfl) | rfl) rfl ?_
  refine sx_build tyZ43 tyP43 rfl rfl (by first | (simp only [List.take_succ_cons, List.take_zero, List.drop_succ_cons, List.drop_zero, List.cons_append, List.nil_append, List.append_nil, List.length_cons, List.length_nil, Nat.reduceAdd, Nat.zero_add, Nat.add_zero, Value.cells, wrV, zrep_one, List.replicate_succ, List.replicate_zero, Nat.reduceMul, Nat.zero_mul]; first | done | rfl) | rfl) rfl ?_
  refine sx_buildSlice Try.underlying24 tyS43 tyZ43 rfl rfl rfl rfl (by first | (simp only [List.take_succ_cons, List.take_zero, List.drop_succ_cons, List.drop_zero, List.cons_append, List.nil_append, List.append_nil, List.length_cons, List.length_nil, Nat.reduceAdd, Nat.zero_add, Nat.add_zero, Value.cells, wrV, zrep_one, List.replicate_succ, List.replicate_zero, Nat.reduceMul, Nat.zero_mul]; first | done | rfl) | rfl) rfl (fun g1 => ?_)
  refine sx_assign rfl rfl ?_
  refine sx_nil (hZ _ _ ?_)
  refine awp_forget [(1, _)] (Kn.cons rfl (Kn.nil)) ?_
  refine awp_heap [.ro g1 0 (scells waA)] (HLe.toRo (cs := scells waA) [] []) ?_

  refine awp_seq_region (fun Z hZ => ?_)
  refine sx_callIE [] (mnot_fn none 0 [] [] (fun h => by simp at h) (fun h => by simp at h) Ro.nil (by simp) (fun s hs => by cases hs)) rfl (HLe.sub (List.nil_sublist _)) Ro.nil rfl (fun A2 c2 hA2 => ?_)
  rw [wa1] at hA2 ⊢
  obtain ⟨gn, on, rfl⟩ := slIn_pos2 hA2 (by decide)
  refine sx_assign rfl rfl ?_
  refine sx_nil (hZ _ _ ?_)
  refine awp_forget [(1, _), (2, _)] (Kn.cons rfl (Kn.cons rfl (Kn.nil))) ?_
  refine awp_heap [.ro g1 0 (scells waA), .ro gn on (scells waN)] (HLe.refl _) ?_

  refine awp_seq_region (fun Z hZ => ?_)
  refine sx_move rfl rfl ?_
  refine sx_callIE [.ro g1 0 (scells waA)] (mUp_fn (some ⟨g1, 0, none⟩) 2 waA _ (fun _ => ⟨_, _, rfl⟩) (fun _ => rfl) (roS _ _ _) (by decide) waA_ok) rfl (HLe.pick [0] (by simp) rfl) (roS _ _ _) rfl (fun A3 c3 hA3 => ?_)
  rw [wa2] at hA3 ⊢
  obtain ⟨gu, ou, rfl⟩ := slIn_pos2 hA3 (by decide)
  refine sx_build tyZ43 tyP43 rfl rfl (by first | (simp only [List.take_succ_cons, List.take_zero, List.drop_succ_cons, List.drop_zero, List.cons_append, List.nil_append, List.append_nil, List.length_cons, List.length_nil, Nat.reduceAdd, Nat.zero_add, Nat.add_zero, Value.cells, wrV, zrep_one, List.replicate_succ, List.replicate_zero, Nat.reduceMul, Nat.zero_mul]; first | done | rfl) | rfl) rfl ?_
  refine sx_buildSlice Try.underlying24 tyS43 tyZ43 rfl rfl rfl rfl (by first | (simp only [List.take_succ_cons, List.take_zero, List.drop_succ_cons, List.drop_zero, List.cons_append, List.nil_append, List.append_nil, List.length_cons, List.length_nil, Nat.reduceAdd, Nat.zero_add, Nat.add_zero, Value.cells, wrV, zrep_one, List.replicate_succ, List.replicate_zero, Nat.reduceMul, Nat.zero_mul]; first | done | rfl) | rfl) rfl (fun g2 => ?_)
  refine sx_heap [.ro g2 0 (scells waZ), .ro g1 0 (scells waA), .ro gn on (scells waN), .ro gu ou (scells waU)] (HLe.toRo (cs := scells waZ) [] _) ?_
  refine sx_callIE [.ro g2 0 (scells waZ)] (mDown_fn (some ⟨g2, 0, none⟩) 1 waZ _ (fun _ => ⟨_, _, rfl⟩) (fun _ => rfl) (roS _ _ _) (by decide) waZ_ok) rfl (HLe.pick [0] (by simp) rfl) (roS _ _ _) rfl (fun A4 c4 hA4 => ?_)
  rw [wa3] at hA4 ⊢
  obtain ⟨gd, od, rfl⟩ := slIn_pos2 hA4 (by decide)
  refine sx_assign rfl rfl ?_
  refine sx_assign rfl rfl ?_
  refine sx_nil (hZ _ _ ?_)
  refine awp_forget [(1, _), (2, _), (3, _), (4, _)] (Kn.cons rfl (Kn.cons rfl (Kn.cons rfl (Kn.cons rfl (Kn.nil))))) ?_
  refine awp_heap [.ro g1 0 (scells waA), .ro gn on (scells waN), .ro gu ou (scells waU), .ro gd od (scells waD)] (HLe.drop 1 rfl) ?_

  refine awp_seq_region (fun Z hZ => ?_)
  refine sx_build tyZ43 tyP43 rfl rfl (by first | (simp only [List.take_succ_cons, List.take_zero, List.drop_succ_cons, List.drop_zero, List.cons_append, List.nil_append, List.append_nil, List.length_cons, List.length_nil, Nat.reduceAdd, Nat.zero_add, Nat.add_zero, Value.cells, wrV, zrep_one, List.replicate_succ, List.replicate_zero, Nat.reduceMul, Nat.zero_mul]; first | done | rfl) | rfl) rfl ?_
  refine sx_buildSlice Try.underlying24 tyS43 tyZ43 rfl rfl rfl rfl (by first | (simp only [List.take_succ_cons, List.take_zero, List.drop_succ_cons, List.drop_zero, List.cons_append, List.nil_append, List.append_nil, List.length_cons, List.length_nil, Nat.reduceAdd, Nat.zero_add, Nat.add_zero, Value.cells, wrV, zrep_one, List.replicate_succ, List.replicate_zero, Nat.reduceMul, Nat.zero_mul]; first | done | rfl) | rfl) rfl (fun g3 => ?_)
  refine sx_build tyZ43 tyP43 rfl rfl (by first | (simp only [List.take_succ_cons, List.take_zero, List.drop_succ_cons, List.drop_zero, List.cons_append, List.nil_append, List.append_nil, List.length_cons, List.length_nil, Nat.reduceAdd, Nat.zero_add, Nat.add_zero, Value.cells, wrV, zrep_one, List.replicate_succ, List.replicate_zero, Nat.reduceMul, Nat.zero_mul]; first | done | rfl) | rfl) rfl ?_
  refine sx_buildSlice Try.underlying24 tyS43 tyZ43 rfl rfl rfl rfl (by first | (simp only [List.take_succ_cons, List.take_zero, List.drop_succ_cons, List.drop_zero, List.cons_append, List.nil_append, List.append_nil, List.length_cons, List.length_nil, Nat.reduceAdd, Nat.zero_add, Nat.add_zero, Value.cells, wrV, zrep_one, List.replicate_succ, List.replicate_zero, Nat.reduceMul, Nat.zero_mul]; first | done | rfl) | rfl) rfl (fun g4 => ?_)
  refine sx_heap [.ro g3 0 (scells waP), .ro g4 0 (scells waQ), .ro g1 0 (scells waA), .ro gn on (scells waN), .ro gu ou (scells waU), .ro gd od (scells waD)] ((HLe.permS (List.Perm.swap _ _ _)).trans ((HLe.toRo (cs := scells waP) [.ro g4 0 (scells waQ)] _).trans (HLe.toRo (cs := scells waQ) [] _))) ?_
  refine sx_callIE [.ro g3 0 (scells waP), .ro g4 0 (scells waQ)] (mand_fn (some ⟨g3, 0, none⟩) 1 waP [.ro g3 0 (scells waP)] (fun _ => ⟨_, _, rfl⟩) (fun _ => rfl) (roS _ _ _) (by decide) waP_ok (some ⟨g4, 0, none⟩) 1 waQ [.ro g4 0 (scells waQ)] (fun _ => ⟨_, _, rfl⟩) (fun _ => rfl) (roS _ _ _) (by decide) waQ_ok) rfl (HLe.pick [0, 1] (by simp) rfl) (roS2 _ _ _ _ _ _) rfl (fun A5 c5 hA5 => ?_)
  rw [wa4] at hA5 ⊢
  obtain ⟨gb, ob, rfl⟩ := slIn_pos2 hA5 (by decide)
  refine sx_assign rfl rfl ?_
  refine sx_nil (hZ _ _ ?_)
  refine awp_forget [(1, _), (2, _), (3, _), (4, _), (5, _)] (Kn.cons rfl (Kn.cons rfl (Kn.cons rfl (Kn.cons rfl (Kn.cons rfl (Kn.nil)))))) ?_
  refine awp_heap [.ro g1 0 (scells waA), .ro gn on (scells waN), .ro gu ou (scells waU), .ro gd od (scells waD), .ro gb ob (scells waB)] (HLe.drop 2 rfl) ?_

  refine awp_seq_meet [(0, .bool true)] [] (fun Z hZ => ?_) ?_
  · refine sx_move rfl rfl ?_
    first | refine sx_len Try.underlying24 rfl rfl ?_ | refine sx_lenS Try.underlying24 rfl rfl ?_
    first | refine sx_eql rfl rfl rfl ?_ | refine sx_seql rfl rfl rfl ?_
    refine sx_move rfl rfl ?_
    refine sx_force 23 rfl true (by first | rfl | (simp; done)) ?_
    refine sx_on rfl rfl rfl ?_
    refine sx_move rfl rfl ?_
    refine sx_on rfl rfl rfl ?_
    refine sx_indexAddr (on + 0) Try.underlying24 tyS43 rfl rfl (by decide) (by simp) rfl ?_
    refine sx_on rfl rfl rfl ?_
    refine sx_loadRo 1 rfl rfl 0 rfl tyA43 tyS43 rfl rfl ?_
    refine sx_on rfl rfl rfl ?_
    refine sx_build tyZ43 tyP43 rfl rfl (by first | (simp only [List.take_succ_cons, List.take_zero, List.drop_succ_cons, List.drop_zero, List.cons_append, List.nil_append, List.append_nil, List.length_cons, List.length_nil, Nat.reduceAdd, Nat.zero_add, Nat.add_zero, Value.cells, wrV, zrep_one, List.replicate_succ, List.replicate_zero, Nat.reduceMul, Nat.zero_mul]; first | done | rfl) | rfl) rfl ?_
    refine sx_on rfl rfl rfl ?_
    refine sx_aeql (sp_eqC ⟨0, 6004799503160660⟩ ⟨0, 6004799503160660⟩) guard_spC rfl rfl rfl ?_
    refine sx_pick rfl rfl rfl ?_
    refine sx_move rfl rfl ?_
    refine sx_force 30 rfl true (by first | rfl | (simp; done)) ?_
    refine sx_on rfl rfl rfl ?_
    refine sx_move rfl rfl ?_
    refine sx_on rfl rfl rfl ?_
    first | refine sx_len Try.underlying24 rfl rfl ?_ | refine sx_lenS Try.underlying24 rfl rfl ?_
    refine sx_on rfl rfl rfl ?_
    first | refine sx_eql rfl rfl rfl ?_ | refine sx_seql rfl rfl rfl ?_
    refine sx_pick rfl rfl rfl ?_
    refine sx_move rfl rfl ?_
    refine sx_force 35 rfl true (by first | rfl | (simp; done)) ?_
    refine sx_on rfl rfl rfl ?_
    refine sx_move rfl rfl ?_
    refine sx_on rfl rfl rfl ?_
    refine sx_indexAddr (ou + 0) Try.underlying24 tyS43 rfl rfl (by decide) (by simp) rfl ?_
    refine sx_on rfl rfl rfl ?_
    refine sx_loadRo 2 rfl rfl 0 rfl tyA43 tyS43 rfl rfl ?_
    refine sx_on rfl rfl rfl ?_
    refine sx_build tyZ43 tyP43 rfl rfl (by first | (simp only [List.take_succ_cons, List.take_zero, List.drop_succ_cons, List.drop_zero, List.cons_append, List.nil_append, List.append_nil, List.length_cons, List.length_nil, Nat.reduceAdd, Nat.zero_add, Nat.add_zero, Value.cells, wrV, zrep_one, List.replicate_succ, List.replicate_zero, Nat.reduceMul, Nat.zero_mul]; first | done | rfl) | rfl) rfl ?_
    refine sx_on rfl rfl rfl ?_
    refine sx_aeql (sp_eqC ⟨1, 1⟩ ⟨1, 1⟩) guard_spC rfl rfl rfl ?_
    refine sx_pick rfl rfl rfl ?_
    refine sx_move rfl rfl ?_
    refine sx_force 42 rfl true (by first | rfl | (simp; done)) ?_
    refine sx_on rfl rfl rfl ?_
    refine sx_move rfl rfl ?_
    refine sx_on rfl rfl rfl ?_
    refine sx_indexAddr (ou + 2) Try.underlying24 tyS43 rfl rfl (by decide) (by simp) rfl ?_
    refine sx_on rfl rfl rfl ?_
    refine sx_loadRo 2 rfl rfl 2 rfl tyA43 tyS43 rfl rfl ?_
    refine sx_on rfl rfl rfl ?_
    refine sx_build tyZ43 tyP43 rfl rfl (by first | (simp only [List.take_succ_cons, List.take_zero, List.drop_succ_cons, List.drop_zero, List.cons_append, List.nil_append, List.append_nil, List.length_cons, List.length_nil, Nat.reduceAdd, Nat.zero_add, Nat.add_zero, Value.cells, wrV, zrep_one, List.replicate_succ, List.replicate_zero, Nat.reduceMul, Nat.zero_mul]; first | done | rfl) | rfl) rfl ?_
    refine sx_on rfl rfl rfl ?_
    refine sx_aeql (sp_eqC ⟨5, 5⟩ ⟨5, 5⟩) guard_spC rfl rfl rfl ?_
    refine sx_pick rfl rfl rfl ?_
    refine sx_move rfl rfl ?_
    refine sx_force 49 rfl true (by first | rfl | (simp; done)) ?_
    refine sx_on rfl rfl rfl ?_
    refine sx_move rfl rfl ?_
    refine sx_on rfl rfl rfl ?_
    first | refine sx_len Try.underlying24 rfl rfl ?_ | refine sx_lenS Try.underlying24 rfl rfl ?_
    refine sx_on rfl rfl rfl ?_
    first | refine sx_eql rfl rfl rfl ?_ | refine sx_seql rfl rfl rfl ?_
    refine sx_pick rfl rfl rfl ?_
    refine sx_move rfl rfl ?_
    refine sx_force 54 rfl true (by first | rfl | (simp; done)) ?_
    refine sx_on rfl rfl rfl ?_
    refine sx_move rfl rfl ?_
    refine sx_on rfl rfl rfl ?_
    refine sx_indexAddr (od + 0) Try.underlying24 tyS43 rfl rfl (by decide) (by simp) rfl ?_
    refine sx_on rfl rfl rfl ?_
    refine sx_loadRo 3 rfl rfl 0 rfl tyA43 tyS43 rfl rfl ?_
    refine sx_on rfl rfl rfl ?_
    refine sx_build tyZ43 tyP43 rfl rfl (by first | (simp only [List.take_succ_cons, List.take_zero, List.drop_succ_cons, List.drop_zero, List.cons_append, List.nil_append, List.append_nil, List.length_cons, List.length_nil, Nat.reduceAdd, Nat.zero_add, Nat.add_zero, Value.cells, wrV, zrep_one, List.replicate_succ, List.replicate_zero, Nat.reduceMul, Nat.zero_mul]; first | done | rfl) | rfl) rfl ?_
    refine sx_on rfl rfl rfl ?_
    refine sx_aeql (sp_eqC ⟨1, 4⟩ ⟨1, 4⟩) guard_spC rfl rfl rfl ?_
    refine sx_pick rfl rfl rfl ?_
    refine sx_move rfl rfl ?_
    refine sx_force 61 rfl true (by first | rfl | (simp; done)) ?_
    refine sx_on rfl rfl rfl ?_
    refine sx_move rfl rfl ?_
    refine sx_on rfl rfl rfl ?_
    first | refine sx_len Try.underlying24 rfl rfl ?_ | refine sx_lenS Try.underlying24 rfl rfl ?_
    refine sx_on rfl rfl rfl ?_
    first | refine sx_eql rfl rfl rfl ?_ | refine sx_seql rfl rfl rfl ?_
    refine sx_pick rfl rfl rfl ?_
    refine sx_move rfl rfl ?_
    refine sx_force 66 rfl true (by first | rfl | (simp; done)) ?_
    refine sx_on rfl rfl rfl ?_
    refine sx_move rfl rfl ?_
    refine sx_on rfl rfl rfl ?_
    refine sx_indexAddr (ob + 0) Try.underlying24 tyS43 rfl rfl (by decide) (by simp) rfl ?_
    refine sx_on rfl rfl rfl ?_
    refine sx_loadRo 4 rfl rfl 0 rfl tyA43 tyS43 rfl rfl ?_
    refine sx_on rfl rfl rfl ?_
    refine sx_build tyZ43 tyP43 rfl rfl (by first | (simp only [List.take_succ_cons, List.take_zero, List.drop_succ_cons, List.drop_zero, List.cons_append, List.nil_append, List.append_nil, List.length_cons, List.length_nil, Nat.reduceAdd, Nat.zero_add, Nat.add_zero, Value.cells, wrV, zrep_one, List.replicate_succ, List.replicate_zero, Nat.reduceMul, Nat.zero_mul]; first | done | rfl) | rfl) rfl ?_
    refine sx_on rfl rfl rfl ?_
    refine sx_aeql (sp_eqC ⟨8, 9⟩ ⟨8, 9⟩) guard_spC rfl rfl rfl ?_
    refine sx_pick rfl rfl rfl ?_
    refine sx_move rfl rfl ?_
    refine sx_force 73 rfl true (by first | rfl | (simp; done)) ?_
    refine sx_on rfl rfl rfl ?_
    refine sx_move rfl rfl ?_
    refine sx_on rfl rfl rfl ?_
    refine sx_move rfl rfl ?_
    refine sx_on rfl rfl rfl ?_
    refine sx_callV [.ro g1 0 (scells waA), .ro gn on (scells waN)] (mwithin_fn (some ⟨g1, 0, none⟩) 2 waA [.ro g1 0 (scells waA)] (fun _ => ⟨_, _, rfl⟩) (fun _ => rfl) (roS _ _ _) (by decide) waA_ok (some ⟨gn, on, none⟩) c2 waN [.ro gn on (scells waN)] (fun _ => ⟨_, _, rfl⟩) (fun _ => rfl) (roS _ _ _) (by decide) waN_ok) rfl (HLe.pick [0, 1] (by simp) rfl) (roS2 _ _ _ _ _ _) rfl ?_
    rw [wa5.1]
    refine sx_pick rfl rfl rfl ?_
    refine sx_move rfl rfl ?_
    refine sx_force 78 rfl true (by first | rfl | (simp; done)) ?_
    refine sx_on rfl rfl rfl ?_
    refine sx_move rfl rfl ?_
    refine sx_on rfl rfl rfl ?_
    refine sx_move rfl rfl ?_
    refine sx_on rfl rfl rfl ?_
    refine sx_callV [.ro gn on (scells waN), .ro g1 0 (scells waA)] (mwithin_fn (some ⟨gn, on, none⟩) c2 waN [.ro gn on (scells waN)] (fun _ => ⟨_, _, rfl⟩) (fun _ => rfl) (roS _ _ _) (by decide) waN_ok (some ⟨g1, 0, none⟩) 2 waA [.ro g1 0 (scells waA)] (fun _ => ⟨_, _, rfl⟩) (fun _ => rfl) (roS _ _ _) (by decide) waA_ok) rfl (HLe.pick [1, 0] (by simp) rfl) (roS2 _ _ _ _ _ _) rfl ?_
    rw [wa5.2]
    refine sx_on rfl rfl rfl ?_
    refine sx_not rfl rfl ?_
    refine sx_pick rfl rfl rfl ?_
    refine sx_move rfl rfl ?_
    refine sx_force 84 rfl true (by first | rfl | (simp; done)) ?_
    refine sx_on rfl rfl rfl ?_
    refine sx_move rfl rfl ?_
    refine sx_on rfl rfl rfl ?_
    refine sx_move rfl rfl ?_
    refine sx_on rfl rfl rfl ?_
    refine sx_callIE [.ro g1 0 (scells waA), .ro g1 0 (scells waA)] (mor_fn (some ⟨g1, 0, none⟩) 2 waA [.ro g1 0 (scells waA)] (fun _ => ⟨_, _, rfl⟩) (fun _ => rfl) (roS _ _ _) (by decide) waA_ok (some ⟨g1, 0, none⟩) 2 waA [.ro g1 0 (scells waA)] (fun _ => ⟨_, _, rfl⟩) (fun _ => rfl) (roS _ _ _) (by decide) waA_ok) rfl ((HLe.dup (T := [.ro g1 0 (scells waA)]) (List.Sublist.refl _) (roS _ _ _)).trans (HLe.pick [0] (by simp) rfl)) (roS2 _ _ _ _ _ _) rfl (fun A6 c6 hA6 => ?_)
    rw [wa6.1]
    refine sx_on rfl rfl rfl ?_
    first | refine sx_len Try.underlying24 rfl rfl ?_ | refine sx_lenS Try.underlying24 rfl rfl ?_
    refine sx_on rfl rfl rfl ?_
    first | refine sx_eql rfl rfl rfl ?_ | refine sx_seql rfl rfl rfl ?_
    refine sx_pick rfl rfl rfl ?_
    refine sx_move rfl rfl ?_
    refine sx_force 91 rfl true (by first | rfl | (simp; done)) ?_
    refine sx_on rfl rfl rfl ?_
    refine sx_move rfl rfl ?_
    refine sx_on rfl rfl rfl ?_
    refine sx_move rfl rfl ?_
    refine sx_on rfl rfl rfl ?_
    refine sx_callIE [.ro g1 0 (scells waA), .ro gb ob (scells waB)] (mless_fn (some ⟨g1, 0, none⟩) 2 waA [.ro g1 0 (scells waA)] (fun _ => ⟨_, _, rfl⟩) (fun _ => rfl) (roS _ _ _) (by decide) waA_ok (some ⟨gb, ob, none⟩) c5 waB [.ro gb ob (scells waB)] (fun _ => ⟨_, _, rfl⟩) (fun _ => rfl) (roS _ _ _) (by decide) waB_ok) rfl (HLe.pick [0, 4] (by simp) rfl) (roS2 _ _ _ _ _ _) rfl (fun A7 c7 hA7 => ?_)
    rw [wa6.2.1]
    refine sx_on rfl rfl rfl ?_
    first | refine sx_len Try.underlying24 rfl rfl ?_ | refine sx_lenS Try.underlying24 rfl rfl ?_
    refine sx_on rfl rfl rfl ?_
    first | refine sx_eql rfl rfl rfl ?_ | refine sx_seql rfl rfl rfl ?_
    refine sx_pick rfl rfl rfl ?_
    refine sx_move rfl rfl ?_
    refine sx_force 98 rfl true (by first | rfl | (simp; done)) ?_
    refine sx_on rfl rfl rfl ?_
    refine sx_move rfl rfl ?_
    refine sx_on rfl rfl rfl ?_
    refine sx_callIE [.ro g1 0 (scells waA)] (mZoom_fn (some ⟨g1, 0, none⟩) 2 waA _ (fun _ => ⟨_, _, rfl⟩) (fun _ => rfl) (roS _ _ _) (by decide) waA_ok 2) rfl (HLe.pick [0] (by simp) rfl) (roS _ _ _) rfl (fun A8 c8 hA8 => ?_)
    rw [wa6.2.2]
    refine sx_on rfl rfl rfl ?_
    first | refine sx_len Try.underlying24 rfl rfl ?_ | refine sx_lenS Try.underlying24 rfl rfl ?_
    refine sx_on rfl rfl rfl ?_
    first | refine sx_eql rfl rfl rfl ?_ | refine sx_seql rfl rfl rfl ?_
    refine sx_pick rfl rfl rfl ?_
    refine sx_assign rfl rfl ?_
    refine sx_nil (hZ _ _ ?_ ?_)
    · exact Kn.cons rfl Kn.nil
    · exact HLe.sub (List.nil_sublist _)
  refine awp_ret ?_
  repeat (with_reducible (first | refine nx_then_ret ?_ | refine nx_block_ret ?_ | refine nx_scope_ret ?_))
  exact nx_ret1 rfl rfl rfl
end Go.Proofs.Ytbldhokgbcljjaa
