/- The walk of Encode. Conditions: the fields fit their kinds. -/
import Derived.Test.YtkcbdidaahgfhaaHd5
namespace Go.Proofs.Ytkcbdidaahgfhaa
open Go.RowKit
set_option linter.unusedVariables false
set_option linter.unusedSimpArgs false
theorem putL_in (b : List UInt8) (n x : Nat) (hn : 1 ≤ n ∧ n ≤ 8) : putL b n x = b ++ leB n x := by unfold putL; rw [if_pos (by omega)]; simp
theorem put8 (b : List UInt8) (x : Nat) : putL b 8 x = b ++ leB 8 x := putL_in b 8 x (by omega)
theorem put1 (b : List UInt8) (x : Nat) : putL b 1 x = b ++ leB 1 x := putL_in b 1 x (by omega)
def encS (h : Hdr) (k : Nat) : List UInt8 := ((secL h).take k).foldl (fun b p => b ++ secB p.1 p.2) [80, 77, 84, 105, 108, 101, 115, 3]
theorem encS_length (h : Hdr) : ∀ k, k ≤ 4 → (encS h k).length = 8 + 16 * k := by
  intro k hk
  obtain rfl | rfl | rfl | rfl | rfl : k = 0 ∨ k = 1 ∨ k = 2 ∨ k = 3 ∨ k = 4 := by omega
  all_goals simp [encS, secL, secB_length]
theorem encS_four (h : Hdr) : encS h 4 = enc1 h := rfl
def enc2a (h : Hdr) : List UInt8 := enc1 h ++ leB 8 h.ad ++ leB 8 h.en ++ leB 8 h.co
theorem enc2a_length (h : Hdr) : (enc2a h).length = 96 := by simp [enc2a, enc1_length, leB_length]
theorem elemU8' : ElemOk Try.prog 67 5 1 1 := elemU8
set_option maxHeartbeats 1000000 in
theorem hencode_fn (h : Hdr) (hk : h.Ok) : Fn Try.prog 20 [h.val] [] fun v _ => v = .tuple #[.string (str (encV h)), .int .i64 (checkV h)] := by
  refine Fn.enter (N := 86) Try.func20 rfl (by kernel_rfl) rfl (fun w0 => ?_)
  refine awp_seq_region (fun Z hZ => ?_)
  refine sx_box rfl rfl rfl (fun g1 => ?_)
  refine sx_assign rfl rfl ?_
  refine sx_assign rfl rfl ?_
  refine sx_nil (hZ _ _ ?_)
  refine awp_forget [(1, _)] (Kn.cons rfl (Kn.nil)) ?_
  refine awp_seq ?_
  refine awp_seq_region (fun Z hZ => ?_)
  first | refine sx_loadA 0 rfl rfl tyA38 tyS38 (by first | (simp only [List.length_cons, List.length_nil, Nat.reduceAdd, Nat.zero_add, Nat.add_zero]; first | done | rfl) | rfl) (by first | (simp only [List.take_succ_cons, List.take_zero, List.drop_succ_cons, List.drop_zero, List.cons_append, List.nil_append, List.append_nil, List.length_cons, List.length_nil, Nat.reduceAdd, Nat.zero_add, Nat.add_zero, Value.cells, wrV]; first | done | rfl) | rfl) rfl ?_
  refine sx_callP (hcheck_fn h) rfl rfl ?_
  refine sx_assign rfl rfl ?_
  refine sx_nil (hZ _ _ ?_)
  refine awp_forget [(1, _), (4, _)] (Kn.cons rfl (Kn.cons rfl (Kn.nil))) ?_
  refine awp_seq_region (fun Z hZ => ?_)
  refine sx_move rfl rfl ?_
  first | refine sx_neq rfl rfl rfl ?_ | refine sx_sneq rfl rfl rfl ?_
  refine sx_nil (hZ _ _ ?_)
  refine awp_forget [(1, _), (4, _), (12, _)] (Kn.cons rfl (Kn.cons rfl (Kn.cons rfl (Kn.nil)))) ?_
  first | refine awp_cond rfl (fun h10 => ?_) (fun h10 => ?_) | refine awp_seq (awp_cond rfl (fun h10 => ?_) (fun h10 => ?_))
  · refine awp_seq_region (fun Z hZ => ?_)
    refine sx_move rfl rfl ?_
    refine sx_assign rfl rfl ?_
    refine sx_assign rfl rfl ?_
    refine sx_nil (hZ _ _ ?_)
    refine awp_forget [(2, _), (3, _)] (Kn.cons rfl (Kn.cons rfl (Kn.nil))) ?_
    refine awp_ret ?_
    repeat (with_reducible (first | refine nx_then_ret ?_ | refine nx_block_ret ?_))
    have : ¬ checkV h = 0 := by simpa using h10
    exact nx_ret2 rfl rfl rfl (by simp [encV, this]; rfl)
  refine awp_skip ?_
  repeat (with_reducible refine nx_block_normal ?_)
  with_reducible refine nx_normal ?_
  have hc0 : checkV h = 0 := by simpa using h10
  obtain ⟨_, hkd, hz, hlo, hla⟩ := check_ok hc0

  refine awp_seq_region (fun Z hZ => ?_)
  refine sx_buildSlice Try.underlying67 tyS5 tyZ5 rfl rfl rfl rfl (by first | (simp only [List.take_succ_cons, List.take_zero, List.drop_succ_cons, List.drop_zero, List.cons_append, List.nil_append, List.append_nil, List.length_cons, List.length_nil, Nat.reduceAdd, Nat.zero_add, Nat.add_zero, Value.cells, wrV, zrep_one, List.replicate_succ, List.replicate_zero, Nat.reduceMul, Nat.zero_mul]; first | done | rfl) | rfl) rfl (fun g2 => ?_)
  refine sx_convB 0 Try.underlying67 Try.underlying5 rfl rfl rfl ?_
  refine sx_buildSlice Try.underlying67 tyS5 tyZ5 rfl rfl rfl rfl (by first | (simp only [List.take_succ_cons, List.take_zero, List.drop_succ_cons, List.drop_zero, List.cons_append, List.nil_append, List.append_nil, List.length_cons, List.length_nil, Nat.reduceAdd, Nat.zero_add, Nat.add_zero, Value.cells, wrV, zrep_one, List.replicate_succ, List.replicate_zero, Nat.reduceMul, Nat.zero_mul]; first | done | rfl) | rfl) rfl (fun g3 => ?_)
  refine sx_appendFull elemU8 rfl rfl (fun w hw => rd_ro (i := 1) rfl rfl hw) (fun w hw => rd_own (i := 0) rfl rfl hw) (by omega) (by omega) (by omega) (by decide) (by omega) rfl (fun v hv => ?_)
  obtain ⟨g5, c5, rfl⟩ := hv.some (by omega)
  refine sx_assign rfl rfl ?_
  refine sx_nil (hZ _ _ ?_)
  refine awp_forget [(1, _), (5, _)] (Kn.cons rfl (Kn.cons rfl (Kn.nil))) ?_
  refine awp_heap [.own g1 38 h.cells, rowH g5 c5 (encS h 0)] (HLe.pick [3, 0] (by simp) rfl) ?_

  refine awp_seq ?_
  refine awp_seq_region (fun Z hZ => ?_)
  first | refine sx_loadA 0 rfl rfl tyA38 tyS38 (by first | (simp only [List.length_cons, List.length_nil, Nat.reduceAdd, Nat.zero_add, Nat.add_zero]; first | done | rfl) | rfl) (by first | (simp only [List.take_succ_cons, List.take_zero, List.drop_succ_cons, List.drop_zero, List.cons_append, List.nil_append, List.append_nil, List.length_cons, List.length_nil, Nat.reduceAdd, Nat.zero_add, Nat.add_zero, Value.cells, wrV]; first | done | rfl) | rfl) rfl ?_
  refine sx_callP (hsections_fn h) rfl rfl ?_
  refine sx_move rfl rfl ?_
  refine sx_nil (hZ _ _ ?_)
  refine awp_forget [(1, _), (5, _), (19, _), (20, _)] (Kn.cons rfl (Kn.cons rfl (Kn.cons rfl (Kn.cons rfl (Kn.nil))))) ?_
  refine awp_block ?_
  refine awp_loop (ι := Nat × Nat × Nat) (fun i => [(1, ptr g1 0), (5, rowV i.2.1 (encS h i.1).length i.2.2), (19, .agg h.secs.toArray), (20, .int .i64 (i.1 : Int))])
    (fun i => [.own g1 38 h.cells, rowH i.2.1 i.2.2 (encS h i.1)])
    (fun i => i.1 ≤ 4) (fun i => 4 - i.1) (0, g5, c5) (by simp) (Kn.cons rfl (Kn.cons rfl (Kn.cons rfl (Kn.cons rfl Kn.nil)))) (HLe.refl _) ?_
  rintro ⟨k, g2, c2⟩ hk4
  simp only at hk4
  have hlen := encS_length h k hk4
  refine awp_seq_region (fun Z hZ => ?_)
  first | refine sx_lss rfl rfl rfl ?_ | refine sx_slss rfl rfl rfl ?_
  refine sx_nil (hZ _ _ ?_)
  refine awp_forget [(1, _), (5, _), (19, _), (20, _), (21, _)] (Kn.cons rfl (Kn.cons rfl (Kn.cons rfl (Kn.cons rfl (Kn.cons rfl (Kn.nil)))))) ?_
  first | refine awp_cond rfl (fun h4 => ?_) (fun h4 => ?_) | refine awp_seq (awp_cond rfl (fun h4 => ?_) (fun h4 => ?_))
  · have hlt : k < 4 := by simp at h4; omega
    refine awp_skip ?_
    repeat (with_reducible refine nx_block_normal ?_)
    with_reducible refine nx_normal ?_
    obtain ⟨p, hp, hrd, hpb⟩ : ∃ p : Nat × Nat, encS h (k + 1) = encS h k ++ secB p.1 p.2 ∧ rdV true 2 h.secs (k * 2) = some (.agg #[uq p.1, uq p.2]) ∧ ∀ x ∈ [p.1, p.2], x < 18446744073709551616 := by
      obtain rfl | rfl | rfl | rfl : k = 0 ∨ k = 1 ∨ k = 2 ∨ k = 3 := by omega
      · exact ⟨(h.r0, h.r1), rfl, rfl, by simp [hk.r0, hk.r1]⟩
      · exact ⟨(h.m0, h.m1), rfl, rfl, by simp [hk.m0, hk.m1]⟩
      · exact ⟨(h.l0, h.l1), rfl, rfl, by simp [hk.l0, hk.l1]⟩
      · exact ⟨(h.d0, h.d1), rfl, rfl, by simp [hk.d0, hk.d1]⟩
    have he : putsL (encS h k) 8 [p.1, p.2] = encS h (k + 1) := by rw [hp]; simp [putsL, put8, secB]
    refine awp_seq (awp_block ?_)
    refine awp_seq_region (fun Z hZ => ?_)
    refine sx_indexA Try.underlying30 tyA29 tyS29 rfl rfl (by omega) hrd rfl ?_
    refine sx_alloc tyZ29 rfl (fun g4 => ?_)
    first | refine sx_store 0 rfl rfl rfl tyS29 (by first | (simp only [Value.cells]; first | done | rfl) | rfl) rfl rfl (by first | (simp only [List.length_cons, List.length_nil, Nat.reduceAdd, Nat.zero_add, Nat.add_zero]; first | done | rfl) | rfl) (by first | (simp only [List.take_succ_cons, List.take_zero, List.drop_succ_cons, List.drop_zero, List.cons_append, List.nil_append, List.append_nil, List.length_cons, List.length_nil, Nat.reduceAdd, Nat.zero_add, Nat.add_zero, Value.cells, wrV]; first | done | rfl) | rfl) (by first | (simp only [List.set_cons_succ, List.set_cons_zero]; first | done | rfl) | rfl) ?_ | refine sx_store 1 rfl rfl rfl tyS29 (by first | (simp only [Value.cells]; first | done | rfl) | rfl) rfl rfl (by first | (simp only [List.length_cons, List.length_nil, Nat.reduceAdd, Nat.zero_add, Nat.add_zero]; first | done | rfl) | rfl) (by first | (simp only [List.take_succ_cons, List.take_zero, List.drop_succ_cons, List.drop_zero, List.cons_append, List.nil_append, List.append_nil, List.length_cons, List.length_nil, Nat.reduceAdd, Nat.zero_add, Nat.add_zero, Value.cells, wrV]; first | done | rfl) | rfl) (by first | (simp only [List.set_cons_succ, List.set_cons_zero]; first | done | rfl) | rfl) ?_
    refine sx_nil (hZ _ _ ?_)
    refine awp_forget [(1, _), (5, _), (7, _), (19, _), (20, _)] (Kn.cons rfl (Kn.cons rfl (Kn.cons rfl (Kn.cons rfl (Kn.cons rfl (Kn.nil)))))) ?_
    refine awp_region (fun Z hZ => ?_)
    refine sx_move rfl rfl ?_
    refine sx_fieldAddr rfl tyF29_0 (by first | (simp only [Nat.reduceAdd, Nat.add_zero, Nat.zero_add]; first | done | rfl) | rfl) rfl ?_
    first | refine sx_load 0 rfl rfl tyA22 tyS22 rfl rfl ?_ | refine sx_load 1 rfl rfl tyA22 tyS22 rfl rfl ?_
    refine sx_fieldAddr rfl tyF29_1 (by first | (simp only [Nat.reduceAdd, Nat.add_zero, Nat.zero_add]; first | done | rfl) | rfl) rfl ?_
    first | refine sx_load 0 rfl rfl tyA22 tyS22 rfl rfl ?_ | refine sx_load 1 rfl rfl tyA22 tyS22 rfl rfl ?_
    refine sx_buildSlice Try.underlying96 tyS22 tyZ22 rfl rfl rfl rfl (by first | (simp only [List.take_succ_cons, List.take_zero, List.drop_succ_cons, List.drop_zero, List.cons_append, List.nil_append, List.append_nil, List.length_cons, List.length_nil, Nat.reduceAdd, Nat.zero_add, Nat.add_zero, Value.cells, wrV, zrep_one, List.replicate_succ, List.replicate_zero, Nat.reduceMul, Nat.zero_mul]; first | done | rfl) | rfl) rfl (fun g5 => ?_)
    refine sx_callK [0, 3] [1, 2] (hput_fn g2 c2 _ (encS h k) 8 [p.1, p.2] (by omega) (by simp) hpb) rfl rfl (by simp) rfl ?_
    rintro v H' ⟨g9, c9, rfl, rfl⟩
    refine sx_norm (by simp only [List.filter_cons, List.filter_nil, Ent.wr, if_true, List.cons_append, List.nil_append, pick, List.filterMap_cons, List.filterMap_nil, List.getElem?_cons_succ, List.getElem?_cons_zero]; first | done | rfl) ?_
    rw [he]
    refine sx_assign rfl rfl ?_
    refine sx_nil (hZ _ _ ?_)
    refine nx_forget [(1, _), (5, _), (19, _), (20, _)] (Kn.cons rfl (Kn.cons rfl (Kn.cons rfl (Kn.cons rfl (Kn.nil))))) ?_
    repeat (with_reducible refine nx_block_normal ?_)
    with_reducible refine nx_normal ?_
    refine awp_region (fun Z hZ => ?_)
    refine sx_add rfl rfl ((k + 1 : Nat) : Int) (by rw [IntWalk.i64_in _ (by omega)]; omega) rfl ?_
    refine sx_move rfl rfl ?_
    refine sx_nil (hZ _ _ ?_)
    refine nx_forget [(1, _), (5, _), (19, _), (20, _)] (Kn.cons rfl (Kn.cons rfl (Kn.cons rfl (Kn.cons rfl (Kn.nil))))) ?_
    exact nx_round (k + 1, g9, c9) (by simp; omega) (by simp; omega) (Kn.cons rfl (Kn.cons rfl (Kn.cons rfl (Kn.cons rfl Kn.nil)))) (HLe.pick [3, 1] (by simp) rfl)
  refine awp_exit ?_
  repeat (with_reducible (first | refine nx_then_exit ?_ | refine nx_block_other (by decide) ?_))
  with_reducible refine nx_block_exit ?_
  repeat (with_reducible refine nx_block_normal ?_)
  with_reducible refine nx_normal ?_
  obtain rfl : k = 4 := by simp at h4; omega
  have l1 := enc1_length h
  have he10 : putsL (encS h 4) 8 [h.ad, h.en, h.co] = enc2a h := by rw [encS_four]; simp [putsL, put8, enc2a]

  refine awp_seq_region (fun Z hZ => ?_)
  refine sx_move rfl rfl ?_
  refine sx_fieldAddr rfl tyF38_4 (by first | (simp only [Nat.reduceAdd, Nat.add_zero, Nat.zero_add]; first | done | rfl) | rfl) rfl ?_
  first | refine sx_load 0 rfl rfl tyA22 tyS22 rfl rfl ?_
  refine sx_fieldAddr rfl tyF38_5 (by first | (simp only [Nat.reduceAdd, Nat.add_zero, Nat.zero_add]; first | done | rfl) | rfl) rfl ?_
  first | refine sx_load 0 rfl rfl tyA22 tyS22 rfl rfl ?_
  refine sx_fieldAddr rfl tyF38_6 (by first | (simp only [Nat.reduceAdd, Nat.add_zero, Nat.zero_add]; first | done | rfl) | rfl) rfl ?_
  first | refine sx_load 0 rfl rfl tyA22 tyS22 rfl rfl ?_
  refine sx_buildSlice Try.underlying96 tyS22 tyZ22 rfl rfl rfl rfl (by first | (simp only [List.take_succ_cons, List.take_zero, List.drop_succ_cons, List.drop_zero, List.cons_append, List.nil_append, List.append_nil, List.length_cons, List.length_nil, Nat.reduceAdd, Nat.zero_add, Nat.add_zero, Value.cells, wrV, zrep_one, List.replicate_succ, List.replicate_zero, Nat.reduceMul, Nat.zero_mul]; first | done | rfl) | rfl) rfl (fun g6 => ?_)
  refine sx_callK [0, 2] [1] (hput_fn g2 c2 _ (encS h 4) 8 [h.ad, h.en, h.co] (by rw [encS_four]; omega) (by simp) (by simp [hk.ad, hk.en, hk.co])) rfl rfl (by simp) rfl ?_
  rintro v H' ⟨g3, c3, rfl, rfl⟩
  refine sx_norm (by simp only [List.filter_cons, List.filter_nil, Ent.wr, if_true, List.cons_append, List.nil_append, pick, List.filterMap_cons, List.filterMap_nil, List.getElem?_cons_succ, List.getElem?_cons_zero]; first | done | rfl) ?_
  rw [he10]
  refine sx_assign rfl rfl ?_
  refine sx_nil (hZ _ _ ?_)
  refine awp_forget [(1, _), (5, _)] (Kn.cons rfl (Kn.cons rfl (Kn.nil))) ?_
  refine awp_heap [.own g1 38 h.cells, rowH g3 c3 (enc2a h)] (HLe.pick [2, 1] (by simp) rfl) ?_
  have l2 := enc2a_length h

  refine awp_seq_region (fun Z hZ => ?_)
  refine sx_assign rfl rfl ?_
  refine sx_nil (hZ _ _ ?_)
  refine awp_forget [(1, _), (5, _), (8, _)] (Kn.cons rfl (Kn.cons rfl (Kn.cons rfl (Kn.nil)))) ?_
  refine awp_cut (fun _ : Unit => [(1, ptr g1 0), (5, rowV g3 (enc2a h).length c3), (8, .int .u64 (clN h : Int))]) (fun _ => [.own g1 38 h.cells, rowH g3 c3 (enc2a h)]) (fun _ => True) ?_ (fun _ _ => ?_)
  · refine awp_seq_region (fun Z hZ => ?_)
    refine sx_fieldAddr rfl tyF38_7 (by first | (simp only [Nat.reduceAdd, Nat.add_zero, Nat.zero_add]; first | done | rfl) | rfl) rfl ?_
    first | refine sx_load 0 rfl rfl tyA4 tyS4 rfl rfl ?_
    refine sx_nil (hZ _ _ ?_)
    refine awp_forget [(1, _), (5, _), (8, _), (41, _)] (Kn.cons rfl (Kn.cons rfl (Kn.cons rfl (Kn.cons rfl (Kn.nil))))) ?_
    first | refine awp_cond rfl (fun h13 => ?_) (fun h13 => ?_) | refine awp_seq (awp_cond rfl (fun h13 => ?_) (fun h13 => ?_))
    · refine awp_region (fun Z hZ => ?_)
      refine sx_assign rfl rfl ?_
      refine sx_nil (hZ _ _ ?_)
      refine nx_forget [(1, _), (5, _), (8, _)] (Kn.cons rfl (Kn.cons rfl (Kn.cons rfl (Kn.nil)))) ?_
      exact nx_cut () trivial (Kn.cons rfl (Kn.cons rfl (Kn.cons (congrArg some (congrArg (Value.int .u64) (by simp [clN, h13]))) Kn.nil))) (HLe.refl _)
    · refine awp_skip ?_
      exact nx_cut () trivial (Kn.cons rfl (Kn.cons rfl (Kn.cons (congrArg some (congrArg (Value.int .u64) (by simp [clN, h13]))) Kn.nil))) (HLe.refl _)
  have hcl : clN h < 18446744073709551616 := by unfold clN; split <;> omega
  have he14 : putsL (enc2a h) 1 [clN h, h.ic, h.oc, h.ki, h.z0.toNat, h.z1.toNat] = enc3 h := by simp [putsL, put1, enc3, enc2, enc2a]

  refine awp_seq_region (fun Z hZ => ?_)
  refine sx_move rfl rfl ?_
  refine sx_move rfl rfl ?_
  refine sx_fieldAddr rfl tyF38_8 (by first | (simp only [Nat.reduceAdd, Nat.add_zero, Nat.zero_add]; first | done | rfl) | rfl) rfl ?_
  first | refine sx_load 0 rfl rfl tyA5 tyS5 rfl rfl ?_
  refine sx_conv Try.underlying5 Try.underlying22 rfl (h.ic : Int) (wrap_nat (by have := hk.ic; omega)) rfl ?_
  refine sx_fieldAddr rfl tyF38_9 (by first | (simp only [Nat.reduceAdd, Nat.add_zero, Nat.zero_add]; first | done | rfl) | rfl) rfl ?_
  first | refine sx_load 0 rfl rfl tyA5 tyS5 rfl rfl ?_
  refine sx_conv Try.underlying5 Try.underlying22 rfl (h.oc : Int) (wrap_nat (by have := hk.oc; omega)) rfl ?_
  refine sx_fieldAddr rfl tyF38_10 (by first | (simp only [Nat.reduceAdd, Nat.add_zero, Nat.zero_add]; first | done | rfl) | rfl) rfl ?_
  first | refine sx_load 0 rfl rfl tyA5 tyS5 rfl rfl ?_
  refine sx_conv Try.underlying5 Try.underlying22 rfl (h.ki : Int) (wrap_nat (by have := hk.ki; omega)) rfl ?_
  refine sx_fieldAddr rfl tyF38_11 (by first | (simp only [Nat.reduceAdd, Nat.add_zero, Nat.zero_add]; first | done | rfl) | rfl) rfl ?_
  first | refine sx_load 0 rfl rfl tyA3 tyS3 rfl rfl ?_
  refine sx_conv Try.underlying3 Try.underlying22 rfl (h.z0.toNat : Int) (wrap_toNat (by omega)) rfl ?_
  refine sx_fieldAddr rfl tyF38_12 (by first | (simp only [Nat.reduceAdd, Nat.add_zero, Nat.zero_add]; first | done | rfl) | rfl) rfl ?_
  first | refine sx_load 0 rfl rfl tyA3 tyS3 rfl rfl ?_
  refine sx_conv Try.underlying3 Try.underlying22 rfl (h.z1.toNat : Int) (wrap_toNat (by omega)) rfl ?_
  refine sx_buildSlice Try.underlying96 tyS22 tyZ22 rfl rfl rfl rfl (by first | (simp only [List.take_succ_cons, List.take_zero, List.drop_succ_cons, List.drop_zero, List.cons_append, List.nil_append, List.append_nil, List.length_cons, List.length_nil, Nat.reduceAdd, Nat.zero_add, Nat.add_zero, Value.cells, wrV, zrep_one, List.replicate_succ, List.replicate_zero, Nat.reduceMul, Nat.zero_mul]; first | done | rfl) | rfl) rfl (fun g7 => ?_)
  refine sx_callK [0, 2] [1] (hput_fn g3 c3 _ (enc2a h) 1 [clN h, h.ic, h.oc, h.ki, h.z0.toNat, h.z1.toNat] (by omega) (by simp) (by simp; omega)) rfl rfl (by simp) rfl ?_
  rintro v H' ⟨g4, c4, rfl, rfl⟩
  refine sx_norm (by simp only [List.filter_cons, List.filter_nil, Ent.wr, if_true, List.cons_append, List.nil_append, pick, List.filterMap_cons, List.filterMap_nil, List.getElem?_cons_succ, List.getElem?_cons_zero]; first | done | rfl) ?_
  rw [he14]
  refine sx_assign rfl rfl ?_
  refine sx_nil (hZ _ _ ?_)
  refine awp_forget [(1, _), (5, _)] (Kn.cons rfl (Kn.cons rfl (Kn.nil))) ?_
  refine awp_heap [.own g1 38 h.cells, rowH g4 c4 (enc3 h)] (HLe.pick [2, 1] (by simp) rfl) ?_
  have l3 := enc3_length h
  have he15 : degsL (enc3 h) [h.lo0, h.la0, h.lo1, h.la1] = enc4 h := by simp [degsL, enc4]

  refine awp_seq_region (fun Z hZ => ?_)
  refine sx_move rfl rfl ?_
  refine sx_fieldAddr rfl tyF38_13 (by first | (simp only [Nat.reduceAdd, Nat.add_zero, Nat.zero_add]; first | done | rfl) | rfl) rfl ?_
  first | refine sx_load 0 rfl rfl tyA3 tyS3 rfl rfl ?_
  refine sx_fieldAddr rfl tyF38_14 (by first | (simp only [Nat.reduceAdd, Nat.add_zero, Nat.zero_add]; first | done | rfl) | rfl) rfl ?_
  first | refine sx_load 0 rfl rfl tyA3 tyS3 rfl rfl ?_
  refine sx_fieldAddr rfl tyF38_15 (by first | (simp only [Nat.reduceAdd, Nat.add_zero, Nat.zero_add]; first | done | rfl) | rfl) rfl ?_
  first | refine sx_load 0 rfl rfl tyA3 tyS3 rfl rfl ?_
  refine sx_fieldAddr rfl tyF38_16 (by first | (simp only [Nat.reduceAdd, Nat.add_zero, Nat.zero_add]; first | done | rfl) | rfl) rfl ?_
  first | refine sx_load 0 rfl rfl tyA3 tyS3 rfl rfl ?_
  refine sx_buildSlice Try.underlying98 tyS3 tyZ3 rfl rfl rfl rfl (by first | (simp only [List.take_succ_cons, List.take_zero, List.drop_succ_cons, List.drop_zero, List.cons_append, List.nil_append, List.append_nil, List.length_cons, List.length_nil, Nat.reduceAdd, Nat.zero_add, Nat.add_zero, Value.cells, wrV, zrep_one, List.replicate_succ, List.replicate_zero, Nat.reduceMul, Nat.zero_mul]; first | done | rfl) | rfl) rfl (fun g8 => ?_)
  refine sx_callK [0, 2] [1] (hdegrees_fn g4 c4 _ (enc3 h) [h.lo0, h.la0, h.lo1, h.la1] (by omega) (by simp) (by simp; omega)) rfl rfl (by simp) rfl ?_
  rintro v H' ⟨g6, c6, rfl, rfl⟩
  refine sx_norm (by simp only [List.filter_cons, List.filter_nil, Ent.wr, if_true, List.cons_append, List.nil_append, pick, List.filterMap_cons, List.filterMap_nil, List.getElem?_cons_succ, List.getElem?_cons_zero]; first | done | rfl) ?_
  rw [he15]
  refine sx_assign rfl rfl ?_
  refine sx_nil (hZ _ _ ?_)
  refine awp_forget [(1, _), (5, _)] (Kn.cons rfl (Kn.cons rfl (Kn.nil))) ?_
  refine awp_heap [.own g1 38 h.cells, rowH g6 c6 (enc4 h)] (HLe.pick [2, 1] (by simp) rfl) ?_
  have l4 := enc4_length h
  have he16 : putsL (enc4 h) 1 [h.zo.toNat] = enc4 h ++ leB 1 h.zo.toNat := by simp [putsL, put1]

  refine awp_seq_region (fun Z hZ => ?_)
  refine sx_move rfl rfl ?_
  refine sx_fieldAddr rfl tyF38_17 (by first | (simp only [Nat.reduceAdd, Nat.add_zero, Nat.zero_add]; first | done | rfl) | rfl) rfl ?_
  first | refine sx_load 0 rfl rfl tyA3 tyS3 rfl rfl ?_
  refine sx_conv Try.underlying3 Try.underlying22 rfl (h.zo.toNat : Int) (wrap_toNat (by omega)) rfl ?_
  refine sx_buildSlice Try.underlying96 tyS22 tyZ22 rfl rfl rfl rfl (by first | (simp only [List.take_succ_cons, List.take_zero, List.drop_succ_cons, List.drop_zero, List.cons_append, List.nil_append, List.append_nil, List.length_cons, List.length_nil, Nat.reduceAdd, Nat.zero_add, Nat.add_zero, Value.cells, wrV, zrep_one, List.replicate_succ, List.replicate_zero, Nat.reduceMul, Nat.zero_mul]; first | done | rfl) | rfl) rfl (fun g9 => ?_)
  refine sx_callK [0, 2] [1] (hput_fn g6 c6 _ (enc4 h) 1 [h.zo.toNat] (by omega) (by simp) (by simp; omega)) rfl rfl (by simp) rfl ?_
  rintro v H' ⟨g7, c7, rfl, rfl⟩
  refine sx_norm (by simp only [List.filter_cons, List.filter_nil, Ent.wr, if_true, List.cons_append, List.nil_append, pick, List.filterMap_cons, List.filterMap_nil, List.getElem?_cons_succ, List.getElem?_cons_zero]; first | done | rfl) ?_
  rw [he16]
  refine sx_assign rfl rfl ?_
  refine sx_nil (hZ _ _ ?_)
  refine awp_forget [(1, _), (5, _)] (Kn.cons rfl (Kn.cons rfl (Kn.nil))) ?_
  refine awp_heap [.own g1 38 h.cells, rowH g7 c7 (enc4 h ++ leB 1 h.zo.toNat)] (HLe.pick [2, 1] (by simp) rfl) ?_
  have l5 : (enc4 h ++ leB 1 h.zo.toNat).length = 119 := by simp [l4, leB_length]
  have he17 : degsL (enc4 h ++ leB 1 h.zo.toNat) [h.lon, h.lat] = enc5 h := by simp [degsL, enc5]

  refine awp_seq_region (fun Z hZ => ?_)
  refine sx_move rfl rfl ?_
  refine sx_fieldAddr rfl tyF38_18 (by first | (simp only [Nat.reduceAdd, Nat.add_zero, Nat.zero_add]; first | done | rfl) | rfl) rfl ?_
  first | refine sx_load 0 rfl rfl tyA3 tyS3 rfl rfl ?_
  refine sx_fieldAddr rfl tyF38_19 (by first | (simp only [Nat.reduceAdd, Nat.add_zero, Nat.zero_add]; first | done | rfl) | rfl) rfl ?_
  first | refine sx_load 0 rfl rfl tyA3 tyS3 rfl rfl ?_
  refine sx_buildSlice Try.underlying98 tyS3 tyZ3 rfl rfl rfl rfl (by first | (simp only [List.take_succ_cons, List.take_zero, List.drop_succ_cons, List.drop_zero, List.cons_append, List.nil_append, List.append_nil, List.length_cons, List.length_nil, Nat.reduceAdd, Nat.zero_add, Nat.add_zero, Value.cells, wrV, zrep_one, List.replicate_succ, List.replicate_zero, Nat.reduceMul, Nat.zero_mul]; first | done | rfl) | rfl) rfl (fun g10 => ?_)
  refine sx_callK [0, 2] [1] (hdegrees_fn g7 c7 _ (enc4 h ++ leB 1 h.zo.toNat) [h.lon, h.lat] (by omega) (by simp) (by simp; omega)) rfl rfl (by simp) rfl ?_
  rintro v H' ⟨g8, c8, rfl, rfl⟩
  refine sx_norm (by simp only [List.filter_cons, List.filter_nil, Ent.wr, if_true, List.cons_append, List.nil_append, pick, List.filterMap_cons, List.filterMap_nil, List.getElem?_cons_succ, List.getElem?_cons_zero]; first | done | rfl) ?_
  rw [he17]
  refine sx_strB Try.underlying67 Try.underlying5 Try.underlying9 rfl (fun w hw => rd_row (i := 1) rfl hw) rfl ?_
  refine sx_assign rfl rfl ?_
  refine sx_assign rfl rfl ?_
  refine sx_nil (hZ _ _ ?_)
  refine awp_forget [(2, _), (3, _)] (Kn.cons rfl (Kn.cons rfl (Kn.nil))) ?_
  refine awp_ret ?_
  repeat (with_reducible (first | refine nx_then_ret ?_ | refine nx_block_ret ?_))
  exact nx_ret2 rfl rfl rfl (by simp [encV, hc0])
end Go.Proofs.Ytkcbdidaahgfhaa
