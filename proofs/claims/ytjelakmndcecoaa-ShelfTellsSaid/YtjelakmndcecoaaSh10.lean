/- The small example of the laws of shelf: awake. No conditions. -/
import Derived.Test.YtjelakmndcecoaaSh9
namespace Go.Proofs.Ytjelakmndcecoaa
open Go.RowKit
set_option linter.unusedVariables false
set_option linter.unusedSimpArgs false
set_option maxRecDepth 100000
def swT : List UInt8 := [1, 5, 1, 3, 1]
def swL : List En := [⟨5, 0, 3, 1⟩]
def swX : List Item := [((1, 0), swT)]
theorem sw_dec : (decQ swT).2.2 = 0 := by kernel_rfl
theorem sw_decL : decL swT = swL := by kernel_rfl
theorem sw_dec1 : ∃ n, (decQ [120]).2.2 = n + 1 := by
  have h : ((decQ [120]).2.2 == 0) = false := by kernel_rfl
  exact Nat.exists_eq_succ_of_ne_zero (by simpa using h)
theorem sw_keep : keepX 1 [] (1, 0) swT = swX := by
  unfold keepX
  rw [if_pos sw_dec]
  rfl
theorem sw_keep1 : keepX 1 swX (2, 0) [120] = swX := by
  obtain ⟨n, h⟩ := sw_dec1
  unfold keepX
  rw [if_neg (by omega)]
theorem sw_look : lookL swX (1, 0) = swL := by
  unfold lookL
  rw [if_pos (by rfl)]
  exact sw_decL
theorem awake_fn : Fn Try.prog 7 [] [] fun v _ => v = .bool true := by
  refine Fn.enter (N := 109) Try.func7 rfl (by kernel_rfl) rfl (fun w0 => ?_)

  refine awp_seq_region (fun Z hZ => ?_)
  refine sx_assign rfl rfl ?_
  refine sx_nil (hZ _ _ ?_)
  refine awp_forget [] (Kn.nil) ?_
  refine awp_seq_region (fun Z hZ => ?_)
  refine sx_callA [] [] [] (shnew_fn 1 (by decide)) rfl (HLe.refl _) (List.nil_sublist _) Ro.nil rfl ?_
  rintro v H' ⟨B, rfl, rfl⟩
  refine sx_heap (shH B 1 sh0) (HLe.refl _) ?_
  refine sx_move rfl rfl ?_
  refine sx_extract rfl rfl rfl ?_
  refine sx_extract rfl rfl rfl ?_
  refine sx_assign rfl rfl ?_
  refine sx_assign rfl rfl ?_
  refine sx_nil (hZ _ _ ?_)
  refine awp_forget [(1, _), (2, _)] (Kn.cons rfl (Kn.cons rfl (Kn.nil))) ?_

  refine awp_seq ?_
  refine awp_seq_meet [(1, ptr B.g 0), (23, .bool false)] (shH B 1 sh0) (fun Z hZ => ?_) ?_
  · refine sx_move rfl rfl ?_
    first | refine sx_neq rfl rfl rfl ?_ | refine sx_sneq rfl rfl rfl ?_
    refine sx_move rfl rfl ?_
    refine sx_force 20 rfl false (by first | rfl | (simp; done)) ?_
    refine sx_on rfl rfl rfl ?_
    refine sx_move rfl rfl ?_
    refine sx_on rfl rfl rfl ?_
    refine sx_ptrNil Try.underlying23 rfl rfl ?_
    refine sx_pick rfl rfl rfl ?_
    refine sx_nil (hZ _ _ ?_ ?_)
    · exact Kn.cons rfl (Kn.cons rfl Kn.nil)
    · exact HLe.refl _
  first | refine awp_cond rfl (fun h => ?_) (fun h => ?_) | refine awp_seq (awp_cond rfl (fun h => ?_) (fun h => ?_))
  · cases h
  refine awp_skip ?_
  repeat (with_reducible (first | refine nx_block_normal ?_ | refine nx_scope_normal ?_))
  with_reducible first | refine nx_normal ?_ | refine nx_normalM ?_
  have k1 := shkeep_fn B 1 sh0 [] [] (1, 0) swT (sh0_ok 1) (by omega) (by decide) (by decide)
  rw [sw_dec, sw_decL, sw_keep] at k1
  refine awp_seq_region (fun Z hZ => ?_)
  refine sx_move rfl rfl ?_
  refine sx_build tyZ47 tyP47 rfl rfl (by first | (simp only [List.take_succ_cons, List.take_zero, List.drop_succ_cons, List.drop_zero, List.cons_append, List.nil_append, List.append_nil, List.length_cons, List.length_nil, Nat.reduceAdd, Nat.zero_add, Nat.add_zero, Value.cells, wrV, zrep_one, List.replicate_succ, List.replicate_zero, Nat.reduceMul, Nat.zero_mul]; first | done | rfl) | rfl) rfl ?_
  refine sx_callA (shH B 1 sh0) [] [] (by rw [List.append_nil]; exact k1) rfl (HLe.refl _) (List.nil_sublist _) Ro.nil rfl ?_
  rintro v H' ⟨v1, S1, W1, T1, rfl, hv1, rfl, hW1, hro1, htu1, hS1, hn1, hh1, hi1⟩
  rw [(Wrs.append (rowE_wrs v1 65 4 (ecells swL)) (Wrs.append hW1 (shH_wrs B 1 S1))).filter]
  refine sx_heap (shH B 1 S1 ++ (rowE v1 65 4 (ecells swL) ++ (W1 ++ []))) (keep_le _ W1 (shH B 1 S1) [] []) ?_
  refine sx_move rfl rfl ?_
  refine sx_extract rfl rfl rfl ?_
  refine sx_extract rfl rfl rfl ?_
  refine sx_assign rfl rfl ?_
  refine sx_assign rfl rfl ?_
  refine sx_nil (hZ _ _ ?_)
  refine awp_forget [(1, _), (3, _), (4, _)] (Kn.cons rfl (Kn.cons rfl (Kn.cons rfl (Kn.nil)))) ?_
  obtain ⟨A1, c1, rfl, hA1, hle1⟩ := hv1.ro
  obtain ⟨T, hTd⟩ : ∃ T, T1 ++ [] = T := ⟨_, rfl⟩
  rw [hTd] at hS1
  have hT : Ro T := hTd ▸ hro1.append Ro.nil
  refine awp_heap (shH B 1 S1 ++ (roE A1 (ecells swL) ++ T)) (by
    have h1 := hle1 (shH B 1 S1) (W1 ++ []) 65 4 (ecells swL)
    have h2 := htu1 (shH B 1 S1 ++ roE A1 (ecells swL)) []
    rw [← hTd]
    refine HLe.trans ?_ h1
    rw [← List.append_assoc (shH B 1 S1) (roE A1 (ecells swL)) (W1 ++ []), ← List.append_assoc (shH B 1 S1) (roE A1 (ecells swL)) (T1 ++ [])]
    exact h2) ?_

  have k2 := shkeep_fn B 1 S1 swX T (2, 0) [120] hS1 (by omega) (by decide) (by have : sh0.nx = 0 := rfl; omega)
  rw [sw_keep1] at k2
  obtain ⟨e2, he2⟩ := sw_dec1
  rw [he2] at k2
  obtain ⟨D2, hD2⟩ : ∃ D, decL [120] = D := ⟨_, rfl⟩
  rw [hD2] at k2
  refine awp_seq_region (fun Z hZ => ?_)
  refine sx_move rfl rfl ?_
  refine sx_build tyZ47 tyP47 rfl rfl (by first | (simp only [List.take_succ_cons, List.take_zero, List.drop_succ_cons, List.drop_zero, List.cons_append, List.nil_append, List.append_nil, List.length_cons, List.length_nil, Nat.reduceAdd, Nat.zero_add, Nat.add_zero, Value.cells, wrV, zrep_one, List.replicate_succ, List.replicate_zero, Nat.reduceMul, Nat.zero_mul]; first | done | rfl) | rfl) rfl ?_
  refine sx_callA (shH B 1 S1) [] (roE A1 (ecells swL) ++ T) (by rw [List.append_nil]; exact k2) rfl (HLe.refl _) (List.nil_sublist _) Ro.nil rfl ?_
  rintro v H' ⟨v2, S2, W2, T2, rfl, hv2, rfl, hW2, hro2, htu2, hS2, hn2, hh2, hi2⟩
  rw [(Wrs.append (rowE_wrs v2 65 4 (ecells D2)) (Wrs.append hW2 (shH_wrs B 1 S2))).filter]
  refine sx_heap (shH B 1 S2 ++ (roE A1 (ecells swL) ++ (rowE v2 65 4 (ecells D2) ++ (W2 ++ T)))) (keep_le _ W2 (shH B 1 S2) _ T) ?_
  refine sx_move rfl rfl ?_
  refine sx_extract rfl rfl rfl ?_
  refine sx_extract rfl rfl rfl ?_
  refine sx_assign rfl rfl ?_
  refine sx_assign rfl rfl ?_
  refine sx_nil (hZ _ _ ?_)
  refine awp_forget [(1, _), (3, _), (4, _), (6, _)] (Kn.cons rfl (Kn.cons rfl (Kn.cons rfl (Kn.cons rfl (Kn.nil))))) ?_
  obtain ⟨U, hUd⟩ : ∃ U, T2 ++ T = U := ⟨_, rfl⟩
  rw [hUd] at hS2
  have hU : Ro U := hUd ▸ hro2.append hT
  refine awp_heap (shH B 1 S2 ++ (roE A1 (ecells swL) ++ U)) (by
    have h2 := htu2 (shH B 1 S2 ++ roE A1 (ecells swL)) T
    rw [← hUd]
    refine HLe.trans (b := shH B 1 S2 ++ (roE A1 (ecells swL) ++ (W2 ++ T))) ?_ (HLe.sub (List.Sublist.append_left (List.Sublist.append_left (List.sublist_append_right _ _) _) _))
    rw [← List.append_assoc (shH B 1 S2) (roE A1 (ecells swL)) (W2 ++ T), ← List.append_assoc (shH B 1 S2) (roE A1 (ecells swL)) (T2 ++ T)]
    exact h2) ?_

  have k3 := shlook_fn B 1 S2 swX U (1, 0) hU hS2 (by have : sh0.hi = 0 := rfl; have : sh0.mi = 0 := rfl; omega)
  rw [sw_look, show hasK swX (1, 0) = true from rfl, show rGetL swX (1, 0) = swX from rfl, show lookS S2 swX (1, 0) = (S2.hi + 1, S2.mi) from rfl] at k3
  refine awp_seq_region (fun Z hZ => ?_)
  refine sx_move rfl rfl ?_
  refine sx_build tyZ47 tyP47 rfl rfl (by first | (simp only [List.take_succ_cons, List.take_zero, List.drop_succ_cons, List.drop_zero, List.cons_append, List.nil_append, List.append_nil, List.length_cons, List.length_nil, Nat.reduceAdd, Nat.zero_add, Nat.add_zero, Value.cells, wrV, zrep_one, List.replicate_succ, List.replicate_zero, Nat.reduceMul, Nat.zero_mul]; first | done | rfl) | rfl) rfl ?_
  refine sx_callA (shH B 1 S2) U (roE A1 (ecells swL) ++ U) k3 rfl (HLe.refl _) (List.sublist_append_right _ _) hU rfl ?_
  rintro v H' ⟨v3, S3, rfl, hv3, rfl, hS3, hn3, hm3⟩
  rw [(Wrs.append (rowE_wrs v3 65 4 (ecells swL)) (shH_wrs B 1 S3)).filter]
  refine sx_heap (shH B 1 S3 ++ (roE A1 (ecells swL) ++ (rowE v3 65 4 (ecells swL) ++ U))) (keep_le _ [] (shH B 1 S3) _ U) ?_
  refine sx_move rfl rfl ?_
  refine sx_extract rfl rfl rfl ?_
  refine sx_extract rfl rfl rfl ?_
  refine sx_assign rfl rfl ?_
  refine sx_assign rfl rfl ?_
  refine sx_nil (hZ _ _ ?_)
  refine awp_forget [(1, _), (3, _), (4, _), (6, _), (7, _), (8, _)] (Kn.cons rfl (Kn.cons rfl (Kn.cons rfl (Kn.cons rfl (Kn.cons rfl (Kn.cons rfl (Kn.nil))))))) ?_
  obtain ⟨A3, c3, rfl, hA3, hle3⟩ := hv3.ro
  refine awp_heap (shH B 1 S3 ++ ((roE A1 (ecells swL) ++ roE A3 (ecells swL)) ++ U)) (by
    have h1 := hle3 (shH B 1 S3 ++ roE A1 (ecells swL)) U 65 4 (ecells swL)
    simp only [List.append_assoc] at h1 ⊢
    exact h1) ?_

  have k4 := shlook_fn B 1 S3 swX U (2, 0) hU hS3 (by have e1 : S3.hi = S2.hi + 1 := congrArg Prod.fst hm3; have e2 : S3.mi = S2.mi := congrArg Prod.snd hm3; have : sh0.hi = 0 := rfl; have : sh0.mi = 0 := rfl; omega)
  rw [show lookL swX (2, 0) = [] from rfl, show hasK swX (2, 0) = false from rfl, show rGetL swX (2, 0) = swX from rfl, show lookS S3 swX (2, 0) = (S3.hi, S3.mi + 1) from rfl] at k4
  refine awp_seq_region (fun Z hZ => ?_)
  refine sx_move rfl rfl ?_
  refine sx_build tyZ47 tyP47 rfl rfl (by first | (simp only [List.take_succ_cons, List.take_zero, List.drop_succ_cons, List.drop_zero, List.cons_append, List.nil_append, List.append_nil, List.length_cons, List.length_nil, Nat.reduceAdd, Nat.zero_add, Nat.add_zero, Value.cells, wrV, zrep_one, List.replicate_succ, List.replicate_zero, Nat.reduceMul, Nat.zero_mul]; first | done | rfl) | rfl) rfl ?_
  refine sx_callA (shH B 1 S3) U ((roE A1 (ecells swL) ++ roE A3 (ecells swL)) ++ U) k4 rfl (HLe.refl _) (List.sublist_append_right _ _) hU rfl ?_
  rintro v H' ⟨v4, S4, rfl, hv4, rfl, hS4, hn4, hm4⟩
  rw [(Wrs.append (rowE_wrs v4 65 4 (ecells [])) (shH_wrs B 1 S4)).filter]
  refine sx_heap (shH B 1 S4 ++ ((roE A1 (ecells swL) ++ roE A3 (ecells swL)) ++ U)) ((HLe.sub (List.Sublist.append_left (List.Sublist.append_left (List.sublist_append_right _ _) _) _)).trans (keep_le (rowE v4 65 4 (ecells [])) [] (shH B 1 S4) (roE A1 (ecells swL) ++ roE A3 (ecells swL)) U)) ?_
  refine sx_move rfl rfl ?_
  refine sx_extract rfl rfl rfl ?_
  refine sx_extract rfl rfl rfl ?_
  refine sx_assign rfl rfl ?_
  refine sx_assign rfl rfl ?_
  refine sx_nil (hZ _ _ ?_)
  refine awp_forget [(1, _), (3, _), (4, _), (6, _), (7, _), (8, _), (10, _)] (Kn.cons rfl (Kn.cons rfl (Kn.cons rfl (Kn.cons rfl (Kn.cons rfl (Kn.cons rfl (Kn.cons rfl (Kn.nil)))))))) ?_
  have eh : S4.hi = 1 := by
    have e1 : S3.hi = S2.hi + 1 := congrArg Prod.fst hm3
    have e2 : S4.hi = S3.hi := congrArg Prod.fst hm4
    have : sh0.hi = 0 := rfl
    omega
  have em : S4.mi = 1 := by
    have e1 : S3.mi = S2.mi := congrArg Prod.snd hm3
    have e2 : S4.mi = S3.mi + 1 := congrArg Prod.snd hm4
    have : sh0.mi = 0 := rfl
    omega
  have k5 := shhits_fn B 1 S4
  rw [eh, em] at k5

  refine awp_seq_region (fun Z hZ => ?_)
  refine sx_move rfl rfl ?_
  refine sx_callA (shH B 1 S4) [] ((roE A1 (ecells swL) ++ roE A3 (ecells swL)) ++ U) (by rw [List.append_nil]; exact k5) rfl (HLe.refl _) (List.nil_sublist _) Ro.nil rfl ?_
  rintro v H' ⟨rfl, rfl⟩
  refine sx_heap (shH B 1 S4 ++ ((roE A1 (ecells swL) ++ roE A3 (ecells swL)) ++ U)) (HLe.refl _) ?_
  refine sx_move rfl rfl ?_
  refine sx_extract rfl rfl rfl ?_
  refine sx_extract rfl rfl rfl ?_
  refine sx_assign rfl rfl ?_
  refine sx_assign rfl rfl ?_
  refine sx_nil (hZ _ _ ?_)
  refine awp_forget [(1, _), (3, _), (4, _), (6, _), (7, _), (8, _), (10, _), (11, _), (12, _)] (Kn.cons rfl (Kn.cons rfl (Kn.cons rfl (Kn.cons rfl (Kn.cons rfl (Kn.cons rfl (Kn.cons rfl (Kn.cons rfl (Kn.cons rfl (Kn.nil)))))))))) ?_
  have k6 : Fn Try.prog 16 [ptr B.g 0] (shH B 1 S4) fun v H' => v = iq (1 : Nat) ∧ H' = shH B 1 S4 := by
    obtain ⟨L, tx, h⟩ := hS4
    have h1 := shlen_fn B 1 S4 L h.rep
    rw [show L.length = 1 from h.xlen.symm] at h1
    exact h1

  refine awp_seq_region (fun Z hZ => ?_)
  refine sx_move rfl rfl ?_
  refine sx_callA (shH B 1 S4) [] ((roE A1 (ecells swL) ++ roE A3 (ecells swL)) ++ U) (by rw [List.append_nil]; exact k6) rfl (HLe.refl _) (List.nil_sublist _) Ro.nil rfl ?_
  rintro v H' ⟨rfl, rfl⟩
  refine sx_heap (shH B 1 S4 ++ ((roE A1 (ecells swL) ++ roE A3 (ecells swL)) ++ U)) (HLe.refl _) ?_
  refine sx_assign rfl rfl ?_
  refine sx_nil (hZ _ _ ?_)
  refine awp_forget [(1, _), (3, _), (4, _), (6, _), (7, _), (8, _), (10, _), (11, _), (12, _), (13, _)] (Kn.cons rfl (Kn.cons rfl (Kn.cons rfl (Kn.cons rfl (Kn.cons rfl (Kn.cons rfl (Kn.cons rfl (Kn.cons rfl (Kn.cons rfl (Kn.cons rfl (Kn.nil))))))))))) ?_

  refine awp_seq_region (fun Z hZ => ?_)
  refine sx_move rfl rfl ?_
  refine sx_callA (shH B 1 S4) [] ((roE A1 (ecells swL) ++ roE A3 (ecells swL)) ++ U) (by rw [List.append_nil]; exact shclear_fn B 1 S4 swX U hS4 (by omega)) rfl (HLe.refl _) (List.nil_sublist _) Ro.nil rfl ?_
  rintro v H' ⟨S5, rfl, rfl, hS5, hn5, hh5, hi5⟩
  refine sx_heap (shH B 1 S5 ++ ((roE A1 (ecells swL) ++ roE A3 (ecells swL)) ++ U)) (HLe.refl _) ?_
  refine sx_nil (hZ _ _ ?_)
  refine awp_forget [(1, _), (3, _), (4, _), (6, _), (7, _), (8, _), (10, _), (11, _), (12, _), (13, _)] (Kn.cons rfl (Kn.cons rfl (Kn.cons rfl (Kn.cons rfl (Kn.cons rfl (Kn.cons rfl (Kn.cons rfl (Kn.cons rfl (Kn.cons rfl (Kn.cons rfl (Kn.nil))))))))))) ?_
  have k7 : Fn Try.prog 16 [ptr B.g 0] (shH B 1 S5) fun v H' => v = iq (0 : Nat) ∧ H' = shH B 1 S5 := by
    obtain ⟨L, tx, h⟩ := hS5
    have h1 := shlen_fn B 1 S5 L h.rep
    rw [show L.length = 0 from h.xlen.symm] at h1
    exact h1
  obtain ⟨g, o, rfl⟩ := hA1.some (by decide)

  refine awp_seq_meet [(0, .bool true)] [] (fun Z hZ => ?_) ?_
  · refine sx_move rfl rfl ?_
    first | refine sx_eql rfl rfl rfl ?_ | refine sx_seql rfl rfl rfl ?_
    refine sx_move rfl rfl ?_
    refine sx_force 59 rfl true (by first | rfl | (simp; done)) ?_
    refine sx_on rfl rfl rfl ?_
    refine sx_move rfl rfl ?_
    refine sx_on rfl rfl rfl ?_
    first | refine sx_len Try.underlying44 rfl rfl ?_ | refine sx_lenS Try.underlying44 rfl rfl ?_
    refine sx_on rfl rfl rfl ?_
    first | refine sx_eql rfl rfl rfl ?_ | refine sx_seql rfl rfl rfl ?_
    refine sx_pick rfl rfl rfl ?_
    refine sx_move rfl rfl ?_
    refine sx_force 64 rfl true (by first | rfl | (simp; done)) ?_
    refine sx_on rfl rfl rfl ?_
    refine sx_move rfl rfl ?_
    refine sx_on rfl rfl rfl ?_
    refine sx_indexAddr o Try.underlying44 tyS65 rfl rfl (by decide) (by simp) rfl ?_
    refine sx_on rfl rfl rfl ?_
    refine sx_loadRo 4 rfl rfl 0 (by simp) tyA65 tyS65 rfl rfl ?_
    refine sx_on rfl rfl rfl ?_
    refine sx_build tyZ65 tyP65 rfl rfl (by first | (simp only [List.take_succ_cons, List.take_zero, List.drop_succ_cons, List.drop_zero, List.cons_append, List.nil_append, List.append_nil, List.length_cons, List.length_nil, Nat.reduceAdd, Nat.zero_add, Nat.add_zero, Value.cells, wrV, zrep_one, List.replicate_succ, List.replicate_zero, Nat.reduceMul, Nat.zero_mul]; first | done | rfl) | rfl) rfl ?_
    refine sx_on rfl rfl rfl ?_
    refine sx_aeql (en_eq ⟨5, 0, 3, 1⟩ ⟨5, 0, 3, 1⟩) guard_en rfl rfl rfl ?_
    refine sx_pick rfl rfl rfl ?_
    refine sx_move rfl rfl ?_
    refine sx_force 71 rfl true (by first | rfl | (simp; done)) ?_
    refine sx_on rfl rfl rfl ?_
    refine sx_move rfl rfl ?_
    refine sx_on rfl rfl rfl ?_
    first | refine sx_neq rfl rfl rfl ?_ | refine sx_sneq rfl rfl rfl ?_
    refine sx_pick rfl rfl rfl ?_
    refine sx_move rfl rfl ?_
    refine sx_force 75 rfl true (by first | rfl | (simp; done)) ?_
    refine sx_on rfl rfl rfl ?_
    refine sx_move rfl rfl ?_
    refine sx_pick rfl rfl rfl ?_
    refine sx_move rfl rfl ?_
    refine sx_force 78 rfl true (by first | rfl | (simp; done)) ?_
    refine sx_on rfl rfl rfl ?_
    refine sx_move rfl rfl ?_
    refine sx_on rfl rfl rfl ?_
    refine sx_move rfl rfl ?_
    refine sx_on rfl rfl rfl ?_
    refine sx_callPT (roE (some ⟨g, o, none⟩) (ecells swL) ++ roE A3 (ecells swL)) (esame_fn (some ⟨g, o, none⟩) c1 swL _ hA1.arg (fun _ => rfl) (Ro.roE _ _) (by decide) A3 c3 swL _ hA3.arg (fun _ => rfl) (Ro.roE _ _) (by decide)) rfl ((List.sublist_append_left _ U).trans (List.sublist_append_right (shH B 1 S5) _)) ((Ro.roE _ _).append (Ro.roE _ _)) rfl ?_
    rw [show sameL swL swL = true from sameL_iff.2 rfl]
    refine sx_pick rfl rfl rfl ?_
    refine sx_move rfl rfl ?_
    refine sx_force 83 rfl true (by first | rfl | (simp; done)) ?_
    refine sx_on rfl rfl rfl ?_
    refine sx_move rfl rfl ?_
    refine sx_on rfl rfl rfl ?_
    refine sx_not rfl rfl ?_
    refine sx_pick rfl rfl rfl ?_
    refine sx_move rfl rfl ?_
    refine sx_force 87 rfl true (by first | rfl | (simp; done)) ?_
    refine sx_on rfl rfl rfl ?_
    refine sx_move rfl rfl ?_
    refine sx_on rfl rfl rfl ?_
    first | refine sx_eql rfl rfl rfl ?_ | refine sx_seql rfl rfl rfl ?_
    refine sx_pick rfl rfl rfl ?_
    refine sx_move rfl rfl ?_
    refine sx_force 91 rfl true (by first | rfl | (simp; done)) ?_
    refine sx_on rfl rfl rfl ?_
    refine sx_move rfl rfl ?_
    refine sx_on rfl rfl rfl ?_
    first | refine sx_eql rfl rfl rfl ?_ | refine sx_seql rfl rfl rfl ?_
    refine sx_pick rfl rfl rfl ?_
    refine sx_move rfl rfl ?_
    refine sx_force 95 rfl true (by first | rfl | (simp; done)) ?_
    refine sx_on rfl rfl rfl ?_
    refine sx_move rfl rfl ?_
    refine sx_on rfl rfl rfl ?_
    first | refine sx_eql rfl rfl rfl ?_ | refine sx_seql rfl rfl rfl ?_
    refine sx_pick rfl rfl rfl ?_
    refine sx_move rfl rfl ?_
    refine sx_force 99 rfl true (by first | rfl | (simp; done)) ?_
    refine sx_on rfl rfl rfl ?_
    refine sx_move rfl rfl ?_
    refine sx_on rfl rfl rfl ?_
    refine sx_callA (shH B 1 S5) [] ((roE (some ⟨g, o, none⟩) (ecells swL) ++ roE A3 (ecells swL)) ++ U) (by rw [List.append_nil]; exact k7) rfl (HLe.refl _) (List.nil_sublist _) Ro.nil rfl ?_
    rintro v H' ⟨rfl, rfl⟩
    refine sx_heap (shH B 1 S5 ++ ((roE (some ⟨g, o, none⟩) (ecells swL) ++ roE A3 (ecells swL)) ++ U)) (HLe.refl _) ?_
    refine sx_on rfl rfl rfl ?_
    first | refine sx_eql rfl rfl rfl ?_ | refine sx_seql rfl rfl rfl ?_
    refine sx_pick rfl rfl rfl ?_
    refine sx_move rfl rfl ?_
    refine sx_force 104 rfl true (by first | rfl | (simp; done)) ?_
    refine sx_on rfl rfl rfl ?_
    refine sx_move rfl rfl ?_
    refine sx_on rfl rfl rfl ?_
    refine sx_callA (shH B 1 S5) [] ((roE (some ⟨g, o, none⟩) (ecells swL) ++ roE A3 (ecells swL)) ++ U) (by rw [List.append_nil]; exact shmost_fn B 1 S5) rfl (HLe.refl _) (List.nil_sublist _) Ro.nil rfl ?_
    rintro v H' ⟨rfl, rfl⟩
    refine sx_heap (shH B 1 S5 ++ ((roE (some ⟨g, o, none⟩) (ecells swL) ++ roE A3 (ecells swL)) ++ U)) (HLe.refl _) ?_
    refine sx_on rfl rfl rfl ?_
    first | refine sx_eql rfl rfl rfl ?_ | refine sx_seql rfl rfl rfl ?_
    refine sx_pick rfl rfl rfl ?_
    refine sx_assign rfl rfl ?_
    refine sx_nil (hZ _ _ ?_ ?_)
    · exact Kn.cons rfl Kn.nil
    · exact HLe.sub (List.nil_sublist _)
  refine awp_ret ?_
  repeat (with_reducible (first | refine nx_then_ret ?_ | refine nx_block_ret ?_ | refine nx_scope_ret ?_))
  exact nx_ret1 rfl rfl rfl
end Go.Proofs.Ytjelakmndcecoaa
