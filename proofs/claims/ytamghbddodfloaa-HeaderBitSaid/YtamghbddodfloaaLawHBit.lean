/- HeaderBit. No conditions. -/
import Derived.Test.YtamghbddodfloaaHd13
import Derived.Test.YtamghbddodfloaaSxB
namespace Go.Proofs.Ytamghbddodfloaa
open Go.RowKit
set_option linter.unusedVariables false
set_option linter.unusedSimpArgs false
theorem xor_ne {c y : UInt8} (hy : y ≠ 0) : c ^^^ y ≠ c := fun h => hy (by
  have e : y = c ^^^ (c ^^^ y) := by rw [← UInt8.xor_assoc, UInt8.xor_self, UInt8.zero_xor]
  rw [e, h, UInt8.xor_self])
theorem bit_facts {h : Hdr} (hc : checkV h = 0) {p : Nat} (hp : p < 127) {c c1 : UInt8} (hs : (encV h)[p]? = some c) (hne : c1 ≠ c) (hd : decE ((encV h).set p c1) = 0) : decV ((encV h).set p c1) ≠ h ∧ 8 ≤ p := by
  have hlen : (encV h).length = 127 := by unfold encV; rw [if_pos hc, enc5_length]
  have hset : ((encV h).set p c1)[p]? = some c1 := by simp [hlen, hp]
  refine ⟨fun he => ?_, ?_⟩
  · have h1 := enc_dec hd
    rw [he, List.take_of_length_le (by simp [hlen])] at h1
    rw [← h1, hs] at hset
    exact hne (Option.some.inj hset).symm
  · apply Classical.byContradiction
    intro h8
    obtain ⟨_, h2, h3, _, _⟩ := decE_ok hd
    have e1 := take8 h2 h3
    have e2 : (encV h).take 8 = mag8 := by
      unfold encV
      rw [if_pos hc, enc_flat, List.take_append_of_le_length (by decide)]
      rfl
    have q1 : ((encV h).set p c1)[p]? = mag8[p]? := by rw [← e1, List.getElem?_take_of_lt (by omega)]
    have q2 : (encV h)[p]? = mag8[p]? := by rw [← e2, List.getElem?_take_of_lt (by omega)]
    rw [hset] at q1
    rw [hs] at q2
    exact hne (Option.some.inj (q1.trans q2.symm))
theorem bit_fn (h : Hdr) (hk : h.Ok) (a : Nat) (y : UInt8) : Fn Try.prog 6 [h.val, ub a, ub y.toNat] [] fun v _ => v = .bool true := by
  refine Fn.enter (N := 64) Try.func6 rfl (by kernel_rfl) rfl (fun w0 => ?_)

  refine awp_seq_region (fun Z hZ => ?_)
  refine sx_box rfl rfl rfl (fun g1 => ?_)
  refine sx_assign rfl rfl ?_
  refine sx_nil (hZ _ _ ?_)
  refine awp_forget [(1, _), (2, _), (3, _)] (Kn.cons rfl (Kn.cons rfl (Kn.cons rfl (Kn.nil)))) ?_
  refine awp_seq_region (fun Z hZ => ?_)
  first | refine sx_loadA 0 rfl rfl tyA26 tyS26 (by first | (simp only [List.length_cons, List.length_nil, Nat.reduceAdd, Nat.zero_add, Nat.add_zero]; first | done | rfl) | rfl) (by first | (simp only [List.take_succ_cons, List.take_zero, List.drop_succ_cons, List.drop_zero, List.cons_append, List.nil_append, List.append_nil, List.length_cons, List.length_nil, Nat.reduceAdd, Nat.zero_add, Nat.add_zero, Value.cells, wrV]; first | done | rfl) | rfl) rfl ?_
  refine sx_callP (own_fn h) rfl rfl ?_
  refine sx_callP (hencode_fn h hk) rfl rfl ?_
  refine sx_move rfl rfl ?_
  refine sx_extract rfl rfl rfl ?_
  refine sx_extract rfl rfl rfl ?_
  refine sx_assign rfl rfl ?_
  refine sx_assign rfl rfl ?_
  refine sx_nil (hZ _ _ ?_)
  refine awp_forget [(1, _), (2, _), (3, _), (7, _), (8, _)] (Kn.cons rfl (Kn.cons rfl (Kn.cons rfl (Kn.cons rfl (Kn.cons rfl (Kn.nil)))))) ?_
  refine awp_seq ?_
  refine awp_seq_meet [(1, ub a), (2, ub y.toNat), (3, ptr g1 0), (7, .string (str (encV h))), (23, .bool (decide (checkV h ≠ 0) || decide (y.toNat = 0)))] [.own g1 26 h.cells] (fun Z hZ => ?_) ?_
  · refine sx_move rfl rfl ?_
    first | refine sx_neq rfl rfl rfl ?_ | refine sx_sneq rfl rfl rfl ?_ | refine sx_bneq rfl rfl rfl ?_
    refine sx_move rfl rfl ?_
    refine sx_split 20 rfl (fun hb2 => ?_) (fun hb2 => ?_)
    · refine sx_off rfl rfl rfl rfl rfl ?_
      refine sx_off rfl rfl rfl rfl rfl ?_
      refine sx_pick rfl rfl rfl ?_
      refine sx_nil (hZ _ _ ?_ ?_)
      · exact Kn.cons rfl (Kn.cons rfl (Kn.cons rfl (Kn.cons rfl (Kn.cons (congrArg some (congrArg Value.bool (by rw [Bool.eq_iff_iff]; simp at *; omega))) Kn.nil))))
      · exact HLe.pick [0] (by simp) rfl
    · refine sx_on rfl rfl rfl ?_
      refine sx_move rfl rfl ?_
      refine sx_on rfl rfl rfl ?_
      first | refine sx_eql rfl rfl rfl ?_ | refine sx_seql rfl rfl rfl ?_ | refine sx_beql rfl rfl rfl ?_
      refine sx_pick rfl rfl rfl ?_
      refine sx_nil (hZ _ _ ?_ ?_)
      · exact Kn.cons rfl (Kn.cons rfl (Kn.cons rfl (Kn.cons rfl (Kn.cons (congrArg some (congrArg Value.bool (by rw [Bool.eq_iff_iff]; simp at *; omega))) Kn.nil))))
      · exact HLe.pick [0] (by simp) rfl
  first | refine awp_cond rfl (fun h23 => ?_) (fun h23 => ?_) | refine awp_seq (awp_cond rfl (fun h23 => ?_) (fun h23 => ?_))
  · refine awp_seq_region (fun Z hZ => ?_)
    refine sx_callP awake_fn rfl rfl ?_
    refine sx_assign rfl rfl ?_
    refine sx_nil (hZ _ _ ?_)
    refine awp_forget [(6, _)] (Kn.cons rfl (Kn.nil)) ?_
    refine awp_ret ?_
    repeat (with_reducible (first | refine nx_then_ret ?_ | refine nx_block_ret ?_))
    exact nx_ret1 rfl rfl rfl
  refine awp_skip ?_
  repeat (with_reducible refine nx_block_normal ?_)
  with_reducible refine nx_normal ?_
  have hc : checkV h = 0 := by simp at h23; exact h23.1
  have hy : y ≠ 0 := fun hh => by subst hh; simp at h23
  have hlen : (encV h).length = 127 := by unfold encV; rw [if_pos hc, enc5_length]

  refine awp_seq ?_
  refine awp_seq_region (fun Z hZ => ?_)
  refine sx_move rfl rfl ?_
  first | refine sx_len Try.underlying9 rfl rfl ?_ | refine sx_lenS Try.underlying9 rfl rfl ?_
  first | refine sx_neq rfl rfl rfl ?_ | refine sx_sneq rfl rfl rfl ?_ | refine sx_bneq rfl rfl rfl ?_
  refine sx_nil (hZ _ _ ?_)
  refine awp_forget [(1, _), (2, _), (3, _), (7, _), (27, _)] (Kn.cons rfl (Kn.cons rfl (Kn.cons rfl (Kn.cons rfl (Kn.cons rfl (Kn.nil)))))) ?_
  first | refine awp_cond rfl (fun h27 => ?_) (fun h27 => ?_) | refine awp_seq (awp_cond rfl (fun h27 => ?_) (fun h27 => ?_))
  · simp [hlen] at h27
  refine awp_skip ?_
  repeat (with_reducible refine nx_block_normal ?_)
  with_reducible refine nx_normal ?_
  obtain ⟨c, hs⟩ : ∃ c, (encV h)[a % 127]? = some c := ⟨_, List.getElem?_eq_getElem (by omega)⟩
  have hrd : rdV false 1 (bv (encV h)) (a % 127) = some (.int .u8 (c.toNat : Int)) := by show (bv (encV h))[a % 127]? = _; rw [bv, List.getElem?_map, hs]; rfl
  have hF := fun hd => bit_facts hc (p := a % 127) (by omega) hs (xor_ne (c := c) hy) hd
  obtain ⟨be, hbe, hiff⟩ := hdr_eq (decV ((encV h).set (a % 127) (c ^^^ y))) h
  have hrem : Int.tmod (a : Int) 127 = ((a % 127 : Nat) : Int) := by rw [Int.tmod_eq_emod_of_nonneg (by omega)]; omega
  refine awp_seq_region (fun Z hZ => ?_)
  refine sx_move rfl rfl ?_
  refine sx_convS Try.underlying9 Try.underlying49 Try.underlying5 rfl rfl (fun gb cb => ?_)
  refine sx_assign rfl rfl ?_
  refine sx_nil (hZ _ _ ?_)
  refine awp_forget [(1, _), (2, _), (3, _), (9, _)] (Kn.cons rfl (Kn.cons rfl (Kn.cons rfl (Kn.cons rfl (Kn.nil))))) ?_

  refine awp_seq_region (fun Z hZ => ?_)
  refine sx_move rfl rfl ?_
  refine sx_move rfl rfl ?_
  refine sx_rem rfl rfl (by decide) _ hrem rfl ?_
  refine sx_indexAddr (a % 127) Try.underlying49 tyS5 rfl rfl (by rw [hlen]; omega) (by rw [Int.toNat_natCast]; omega) rfl ?_
  refine sx_loadRd (a % 127) rfl (by simp) (fun w hw => rd_brp (i := 0) rfl hw) (by rw [hlen]; omega) tyA5 tyS5 hrd rfl ?_
  refine sx_move rfl rfl ?_
  refine sx_bits (.inr (.inr (.inl rfl))) rfl rfl _ (bits_u8 c y) rfl ?_
  refine sx_indexAddr (a % 127) Try.underlying49 tyS5 rfl rfl (by rw [hlen]; omega) (by rw [Int.toNat_natCast]; omega) rfl ?_
  refine sx_storeB 0 rfl rfl rfl tyS5 (by rw [hlen]; omega) rfl ?_
  refine sx_nil (hZ _ _ ?_)
  refine awp_forget [(1, _), (3, _), (9, _)] (Kn.cons rfl (Kn.cons rfl (Kn.cons rfl (Kn.nil)))) ?_
  refine awp_seq_region (fun Z hZ => ?_)
  refine sx_move rfl rfl ?_
  refine sx_strB (l := (encV h).set (a % 127) (c ^^^ y)) Try.underlying49 Try.underlying5 Try.underlying9 rfl (fun w hw => by have := rd_brp (i := 0) rfl hw; rwa [List.length_set] at this) rfl ?_
  refine sx_callP (hdecode_fn ((encV h).set (a % 127) (c ^^^ y)) (by rw [List.length_set, hlen]; decide)) rfl rfl ?_
  refine sx_move rfl rfl ?_
  refine sx_extract rfl rfl rfl ?_
  refine sx_extract rfl rfl rfl ?_
  refine sx_alloc tyZ32 rfl (fun g2 => ?_)
  first | refine sx_store 0 rfl rfl rfl tyS32 (by first | (simp only [Value.cells]; first | done | rfl) | rfl) rfl rfl (by first | (simp only [List.length_cons, List.length_nil, Nat.reduceAdd, Nat.zero_add, Nat.add_zero]; first | done | rfl) | rfl) (by first | (simp only [List.take_succ_cons, List.take_zero, List.drop_succ_cons, List.drop_zero, List.cons_append, List.nil_append, List.append_nil, List.length_cons, List.length_nil, Nat.reduceAdd, Nat.zero_add, Nat.add_zero, Value.cells, wrV]; first | done | rfl) | rfl) (by first | (simp only [List.set_cons_succ, List.set_cons_zero]; first | done | rfl) | rfl) ?_ | refine sx_store 1 rfl rfl rfl tyS32 (by first | (simp only [Value.cells]; first | done | rfl) | rfl) rfl rfl (by first | (simp only [List.length_cons, List.length_nil, Nat.reduceAdd, Nat.zero_add, Nat.add_zero]; first | done | rfl) | rfl) (by first | (simp only [List.take_succ_cons, List.take_zero, List.drop_succ_cons, List.drop_zero, List.cons_append, List.nil_append, List.append_nil, List.length_cons, List.length_nil, Nat.reduceAdd, Nat.zero_add, Nat.add_zero, Value.cells, wrV]; first | done | rfl) | rfl) (by first | (simp only [List.set_cons_succ, List.set_cons_zero]; first | done | rfl) | rfl) ?_ | refine sx_store 2 rfl rfl rfl tyS32 (by first | (simp only [Value.cells]; first | done | rfl) | rfl) rfl rfl (by first | (simp only [List.length_cons, List.length_nil, Nat.reduceAdd, Nat.zero_add, Nat.add_zero]; first | done | rfl) | rfl) (by first | (simp only [List.take_succ_cons, List.take_zero, List.drop_succ_cons, List.drop_zero, List.cons_append, List.nil_append, List.append_nil, List.length_cons, List.length_nil, Nat.reduceAdd, Nat.zero_add, Nat.add_zero, Value.cells, wrV]; first | done | rfl) | rfl) (by first | (simp only [List.set_cons_succ, List.set_cons_zero]; first | done | rfl) | rfl) ?_
  refine sx_assign rfl rfl ?_
  refine sx_nil (hZ _ _ ?_)
  refine awp_forget [(1, _), (3, _), (10, _), (11, _)] (Kn.cons rfl (Kn.cons rfl (Kn.cons rfl (Kn.cons rfl (Kn.nil))))) ?_
  generalize (encV h).set (a % 127) (c ^^^ y) = L at *
  refine awq_seq_meet [(6, .bool true)] [] mixed (by kernel_rfl) (fun Z hZ => ?_) ?_
  · refine sq_move rfl rfl ?_
    first | refine sq_neq rfl rfl rfl ?_ | refine sq_sneq rfl rfl rfl ?_ | refine sq_bneq rfl rfl rfl ?_
    refine sq_move rfl rfl ?_
    refine sq_split 46 rfl (fun hb2 => ?_) (fun hb2 => ?_)
    · refine sq_off rfl rfl rfl rfl rfl ?_
      refine sq_off rfl rfl rfl rfl rfl ?_
      refine sq_off rfl rfl rfl rfl rfl ?_
      refine sq_off rfl rfl rfl rfl rfl ?_
      refine sq_pick rfl rfl rfl ?_
      refine sq_move rfl rfl ?_
      refine sq_on rfl rfl rfl ?_
      refine sq_move rfl rfl ?_
      refine sq_on rfl rfl rfl ?_
      refine sq_rem rfl rfl (by decide) _ hrem rfl ?_
      refine sq_on rfl rfl rfl ?_
      first | refine sq_geq rfl rfl rfl ?_ | refine sq_sgeq rfl rfl rfl ?_
      refine sq_on rfl rfl rfl ?_
      refine sq_move rfl rfl ?_
      refine sq_split 56 rfl (fun hb12 => ?_) (fun hb12 => ?_)
      · refine sq_off rfl rfl rfl rfl rfl ?_
        refine sq_off rfl rfl rfl rfl rfl ?_
        refine sq_on rfl rfl rfl ?_
        refine sq_pick rfl rfl rfl ?_
        refine sq_pick rfl rfl rfl ?_
        refine sq_move rfl rfl ?_
        refine sq_on rfl rfl rfl ?_
        refine sq_callP awake_fn rfl rfl ?_
        refine sq_pick rfl rfl rfl ?_
        refine sq_assign rfl rfl ?_
        refine sq_nil (hZ _ _ ?_ ?_)
        · first | exact Kn.cons rfl Kn.nil | (exfalso; by_cases hz : decE L = 0 <;> simp_all <;> omega)
        · exact HLe.pick [] (by simp) rfl
      · refine sq_on rfl rfl rfl ?_
        refine sq_move rfl rfl ?_
        refine sq_on rfl rfl rfl ?_
        first | refine sq_neq rfl rfl rfl ?_ | refine sq_sneq rfl rfl rfl ?_ | refine sq_bneq rfl rfl rfl ?_
        refine sq_on rfl rfl rfl ?_
        refine sq_pick rfl rfl rfl ?_
        refine sq_pick rfl rfl rfl ?_
        refine sq_move rfl rfl ?_
        refine sq_split 61 rfl (fun hb17 => ?_) (fun hb17 => ?_)
        · refine sq_on rfl rfl rfl ?_
          refine sq_callP awake_fn rfl rfl ?_
          refine sq_pick rfl rfl rfl ?_
          refine sq_assign rfl rfl ?_
          refine sq_nil (hZ _ _ ?_ ?_)
          · first | exact Kn.cons rfl Kn.nil | (exfalso; by_cases hz : decE L = 0 <;> simp_all <;> omega)
          · exact HLe.pick [] (by simp) rfl
        · refine sq_off rfl rfl rfl rfl rfl ?_
          refine sq_pick rfl rfl rfl ?_
          refine sq_assign rfl rfl ?_
          refine sq_nil (hZ _ _ ?_ ?_)
          · first | exact Kn.cons rfl Kn.nil | (exfalso; by_cases hz : decE L = 0 <;> simp_all <;> omega)
          · exact HLe.pick [] (by simp) rfl
    · refine sq_on rfl rfl rfl ?_
      first | refine sq_loadA 0 rfl rfl tyA32 tyS32 (by first | (simp only [List.length_cons, List.length_nil, Nat.reduceAdd, Nat.zero_add, Nat.add_zero]; first | done | rfl) | rfl) (by first | (simp only [List.take_succ_cons, List.take_zero, List.drop_succ_cons, List.drop_zero, List.cons_append, List.nil_append, List.append_nil, List.length_cons, List.length_nil, Nat.reduceAdd, Nat.zero_add, Nat.add_zero, Value.cells, wrV]; first | done | rfl) | rfl) rfl ?_ | refine sq_loadA 1 rfl rfl tyA32 tyS32 (by first | (simp only [List.length_cons, List.length_nil, Nat.reduceAdd, Nat.zero_add, Nat.add_zero]; first | done | rfl) | rfl) (by first | (simp only [List.take_succ_cons, List.take_zero, List.drop_succ_cons, List.drop_zero, List.cons_append, List.nil_append, List.append_nil, List.length_cons, List.length_nil, Nat.reduceAdd, Nat.zero_add, Nat.add_zero, Value.cells, wrV]; first | done | rfl) | rfl) rfl ?_ | refine sq_loadA 2 rfl rfl tyA32 tyS32 (by first | (simp only [List.length_cons, List.length_nil, Nat.reduceAdd, Nat.zero_add, Nat.add_zero]; first | done | rfl) | rfl) (by first | (simp only [List.take_succ_cons, List.take_zero, List.drop_succ_cons, List.drop_zero, List.cons_append, List.nil_append, List.append_nil, List.length_cons, List.length_nil, Nat.reduceAdd, Nat.zero_add, Nat.add_zero, Value.cells, wrV]; first | done | rfl) | rfl) rfl ?_
      refine sq_on rfl rfl rfl ?_
      first | refine sq_loadA 0 rfl rfl tyA26 tyS26 (by first | (simp only [List.length_cons, List.length_nil, Nat.reduceAdd, Nat.zero_add, Nat.add_zero]; first | done | rfl) | rfl) (by first | (simp only [List.take_succ_cons, List.take_zero, List.drop_succ_cons, List.drop_zero, List.cons_append, List.nil_append, List.append_nil, List.length_cons, List.length_nil, Nat.reduceAdd, Nat.zero_add, Nat.add_zero, Value.cells, wrV]; first | done | rfl) | rfl) rfl ?_ | refine sq_loadA 1 rfl rfl tyA26 tyS26 (by first | (simp only [List.length_cons, List.length_nil, Nat.reduceAdd, Nat.zero_add, Nat.add_zero]; first | done | rfl) | rfl) (by first | (simp only [List.take_succ_cons, List.take_zero, List.drop_succ_cons, List.drop_zero, List.cons_append, List.nil_append, List.append_nil, List.length_cons, List.length_nil, Nat.reduceAdd, Nat.zero_add, Nat.add_zero, Value.cells, wrV]; first | done | rfl) | rfl) rfl ?_ | refine sq_loadA 2 rfl rfl tyA26 tyS26 (by first | (simp only [List.length_cons, List.length_nil, Nat.reduceAdd, Nat.zero_add, Nat.add_zero]; first | done | rfl) | rfl) (by first | (simp only [List.take_succ_cons, List.take_zero, List.drop_succ_cons, List.drop_zero, List.cons_append, List.nil_append, List.append_nil, List.length_cons, List.length_nil, Nat.reduceAdd, Nat.zero_add, Nat.add_zero, Value.cells, wrV]; first | done | rfl) | rfl) rfl ?_
      refine sq_on rfl rfl rfl ?_
      refine sq_callP (own_fn h) rfl rfl ?_
      refine sq_on rfl rfl rfl ?_
      refine sq_aneq hbe guard_hdr rfl rfl rfl ?_
      refine sq_pick rfl rfl rfl ?_
      refine sq_move rfl rfl ?_
      refine sq_split 52 rfl (fun hb8 => ?_) (fun hb8 => ?_)
      · refine sq_on rfl rfl rfl ?_
        refine sq_move rfl rfl ?_
        refine sq_on rfl rfl rfl ?_
        refine sq_rem rfl rfl (by decide) _ hrem rfl ?_
        refine sq_on rfl rfl rfl ?_
        first | refine sq_geq rfl rfl rfl ?_ | refine sq_sgeq rfl rfl rfl ?_
        refine sq_on rfl rfl rfl ?_
        refine sq_move rfl rfl ?_
        refine sq_split 56 rfl (fun hb12 => ?_) (fun hb12 => ?_)
        · refine sq_off rfl rfl rfl rfl rfl ?_
          refine sq_off rfl rfl rfl rfl rfl ?_
          refine sq_on rfl rfl rfl ?_
          refine sq_pick rfl rfl rfl ?_
          refine sq_pick rfl rfl rfl ?_
          refine sq_move rfl rfl ?_
          refine sq_on rfl rfl rfl ?_
          refine sq_callP awake_fn rfl rfl ?_
          refine sq_pick rfl rfl rfl ?_
          refine sq_assign rfl rfl ?_
          refine sq_nil (hZ _ _ ?_ ?_)
          · first | exact Kn.cons rfl Kn.nil | (exfalso; by_cases hz : decE L = 0 <;> simp_all <;> omega)
          · exact HLe.pick [] (by simp) rfl
        · refine sq_on rfl rfl rfl ?_
          refine sq_move rfl rfl ?_
          refine sq_on rfl rfl rfl ?_
          first | refine sq_neq rfl rfl rfl ?_ | refine sq_sneq rfl rfl rfl ?_ | refine sq_bneq rfl rfl rfl ?_
          refine sq_on rfl rfl rfl ?_
          refine sq_pick rfl rfl rfl ?_
          refine sq_pick rfl rfl rfl ?_
          refine sq_move rfl rfl ?_
          refine sq_split 61 rfl (fun hb17 => ?_) (fun hb17 => ?_)
          · refine sq_on rfl rfl rfl ?_
            refine sq_callP awake_fn rfl rfl ?_
            refine sq_pick rfl rfl rfl ?_
            refine sq_assign rfl rfl ?_
            refine sq_nil (hZ _ _ ?_ ?_)
            · first | exact Kn.cons rfl Kn.nil | (exfalso; by_cases hz : decE L = 0 <;> simp_all <;> omega)
            · exact HLe.pick [] (by simp) rfl
          · refine sq_off rfl rfl rfl rfl rfl ?_
            refine sq_pick rfl rfl rfl ?_
            refine sq_assign rfl rfl ?_
            refine sq_nil (hZ _ _ ?_ ?_)
            · first | exact Kn.cons rfl Kn.nil | (exfalso; by_cases hz : decE L = 0 <;> simp_all <;> omega)
            · exact HLe.pick [] (by simp) rfl
      · refine sq_off rfl rfl rfl rfl rfl ?_
        refine sq_off rfl rfl rfl rfl rfl ?_
        refine sq_off rfl rfl rfl rfl rfl ?_
        refine sq_off rfl rfl rfl rfl rfl ?_
        refine sq_offU rfl rfl rfl rfl ?_
        refine sq_offU rfl rfl rfl rfl ?_
        refine sq_off rfl rfl rfl rfl rfl ?_
        refine sq_pick rfl rfl rfl ?_
        refine sq_move rfl rfl ?_
        refine sq_off rfl rfl rfl rfl rfl ?_
        refine sq_pick rfl rfl rfl ?_
        refine sq_assign rfl rfl ?_
        refine sq_nil (hZ _ _ ?_ ?_)
        · first | exact Kn.cons rfl Kn.nil | (exfalso; by_cases hz : decE L = 0 <;> simp_all <;> omega)
        · exact HLe.pick [] (by simp) rfl
  refine awp_ret ?_
  repeat (with_reducible (first | refine nx_then_ret ?_ | refine nx_block_ret ?_))
  exact nx_ret1 rfl rfl rfl
theorem HeaderBit_read {H : Type} {enc : TypeId × Value → H} (w : World) {base : Nat} {v0 v1 v2 : Value} {d0 d1 d2 : DataW H} {p0 p1 p2 : List MemPlace}
    (k0 : Value.okWide Try.prog w .any base 26 v0) (h0 : DataW.Trod enc Try.prog w 0 (fun _ => true) true 26 v0 d0 p0)
    (k1 : Value.okWide Try.prog w .any base 5 v1) (h1 : DataW.Trod enc Try.prog w 0 (fun _ => true) true 5 v1 d1 p1)
    (k2 : Value.okWide Try.prog w .any base 5 v2) (h2 : DataW.Trod enc Try.prog w 0 (fun _ => true) true 5 v2 d2 p2) :
    Calls Try.prog 6 #[v0, v1, v2] w fun e w' => e = .returned (.bool true) ∧ Bel w w' := by
  obtain ⟨h, hk, rfl⟩ := open_hdr k0 h0
  obtain ⟨n, rfl, _, _, hn⟩ := ChangeShapes.open_int Try.underlying5 k1 h1
  obtain ⟨m, rfl, _, _, hm⟩ := ChangeShapes.open_int Try.underlying5 k2 h2
  have hn := wf_u8 hn
  have hm := wf_u8 hm
  obtain ⟨a, rfl⟩ : ∃ a : Nat, n = a := ⟨n.toNat, by omega⟩
  obtain ⟨y, rfl⟩ : ∃ y : UInt8, m = (y.toNat : Int) := ⟨UInt8.ofNat m.toNat, by
    rw [UInt8.toNat_ofNat', Nat.mod_eq_of_lt (by omega)]
    omega⟩
  exact (bit_fn h hk a y).bel w
namespace headerBit
open Go.ChangeShapes Go.WideShapes Go.ChangeAt Go.RowKit
theorem own : ownKnob Try.prog.godebug = none := by kernel_rfl
theorem laidOut : laidOutB Try.prog = true := by kernel_rfl
set_option maxRecDepth 100000 in
theorem lifted (os : Os) (started : os.Started) (H : Type) (enc : TypeId × Value → H) :
    ReturnsInHanded {} Try.checked os 6 .any (Rows.headerBitSpec.pre6 enc Try.prog Try.f6 Rows.headerBitRow.domain false) (Rows.headerBitSpec.post enc Try.prog Try.f6 false true false false) := by
  refine returnsInHanded_of_change (C := Try.checked) own started (by kernel_rfl) Try.func6
    (ChangeSpec.witness6 (enc := enc) (C := Try.checked) false ⟨#[], #[zeroH.val, .int .u8 0, .int .u8 0], []⟩ 8 (by kernel_rfl) (by kernel_rfl) (by kernel_rfl) (by kernel_rfl)) ?_
  intro W base args ds gs before hval0 hW hcnd _
  have hval : ∀ (j : Nat) t v, Try.f6.params[j]? = some t → args[j]? = some v → Value.okWide Try.prog W .any base t v := hval0
  have hW' := hW
  obtain ⟨p, q, hA0, hV, rfl, hfz, hnd⟩ := hW
  have hA : DataW.TrodAll enc Try.prog W 0 (fun _ => true) true Try.f6.params.toList args.toList ds p := hA0
  rw [Try.params6] at hA hval
  obtain ⟨v0, vs0, d0, ds0, p0, q0, hargs, rfl, rfl, h0, r0⟩ := trodAll_cons hA
  obtain ⟨v1, vs1, d1, ds1, p1, q1, rfl, rfl, rfl, h1, r1⟩ := trodAll_cons r0
  obtain ⟨v2, vs2, d2, ds2, p2, q2, rfl, rfl, rfl, h2, r2⟩ := trodAll_cons r1
  obtain ⟨rfl, rfl, rfl⟩ := trodAll_nil r2
  obtain rfl : args = #[v0, v1, v2] := by cases args; simp_all
  obtain ⟨rfl, rfl⟩ := trodVars_none hV
  have lt0 : ∀ x ∈ p0, x.block < W.heap.size := by obtain ⟨m, hm⟩ := h0; exact DataW.trod_lt m _ _ _ hm
  have lt1 : ∀ x ∈ p1, x.block < W.heap.size := by obtain ⟨m, hm⟩ := h1; exact DataW.trod_lt m _ _ _ hm
  have lt2 : ∀ x ∈ p2, x.block < W.heap.size := by obtain ⟨m, hm⟩ := h2; exact DataW.trod_lt m _ _ _ hm
  refine (HeaderBit_read W (hval 0 26 v0 rfl rfl) h0 (hval 1 5 v1 rfl rfl) h1 (hval 2 5 v2 rfl rfl) h2).mono fun e W' ⟨he, bel0⟩ => ?_
  have bel : Below W.heap.size W W' := bel0
  subst he
  exact ⟨_, rfl, _, _, _, [], _, [], hW', trodAll_mk1 (shut_bool Try.underlying4 _), (trodAll_cons_mk (Below.trod laidOut (by kernel_rfl) (of_decide_eq_true (by kernel_rfl)) h0 bel lt0) (trodAll_cons_mk (Below.trod laidOut (by kernel_rfl) (of_decide_eq_true (by kernel_rfl)) h1 bel lt1) (trodAll_cons_mk (Below.trod laidOut (by kernel_rfl) (of_decide_eq_true (by kernel_rfl)) h2 bel lt2) trodAll_mk0))), rfl, bel.frame _, fun h => by cases h⟩
theorem over : Rows.headerBitRow.holds Try.pinned (OpenSpec.ofChange Rows.headerBitSpec) :=
  OpenClaim.holds_of_wide 6 Try.f6 rfl rfl rfl rfl rfl rfl rfl ⟨rfl, rfl, rfl, rfl, rfl⟩ rfl rfl rfl rfl rfl (by kernel_rfl) Try.func6 (by kernel_rfl)
    (of_decide_eq_true (by kernel_rfl)) (by unfold Func.isWrapper; first | (rw [if_pos (by decide +kernel)]; kernel_rfl) | (rw [if_neg (by decide +kernel)]; exact ⟨rfl, rfl⟩))
    (fun os started H enc _ => lifted os started H enc)
theorem proved : Rows.HeaderBitSaid := over
#print axioms proved
end headerBit
end Go.Proofs.Ytamghbddodfloaa
