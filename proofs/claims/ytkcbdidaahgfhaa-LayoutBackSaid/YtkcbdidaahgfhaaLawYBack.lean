/- LayoutBack. No conditions. -/
import Derived.Test.YtkcbdidaahgfhaaGly2
namespace Go.Proofs.Ytkcbdidaahgfhaa
open Go.RowKit
set_option linter.unusedVariables false
set_option linter.unusedSimpArgs false
theorem mid_cut (X Q R : List UInt8) (i n : Nat) (hi : X.length = i) (hn : Q.length = n) : ((X ++ (Q ++ R)).drop i).take n = Q := by
  subst hi; subst hn
  rw [List.drop_left, List.take_left]
theorem enc_len {G : Hdr} (hc : checkV G = 0) : (encV G).length = 127 := by unfold encV; rw [if_pos hc, enc5_length]
theorem glue_dec (h : Hdr) (hk : h.Ok) (p : P4) (hp : p.Ok) (hc : checkV (glueH h p) = 0) (t : List UInt8) : decV (encV (glueH h p) ++ t) = glueH h p ∧ decE (encV (glueH h p) ++ t) = 0 := decV_enc (glueH_ok h hk p hp) hc t
theorem glue_cut (h : Hdr) (hk : h.Ok) (p : P4) (hp : p.Ok) (hc : checkV (glueH h p) = 0) (t : List UInt8) :
    cutE (encV (glueH h p) ++ p.all ++ t) = 0 ∧ cutH (encV (glueH h p) ++ p.all ++ t) = glueH h p ∧ cutP (encV (glueH h p) ++ p.all ++ t) = p := by
  have hl := enc_len hc
  rw [List.append_assoc]
  obtain ⟨h1, h2⟩ := glue_dec h hk p hp hc (p.all ++ t)
  obtain ⟨l, hll⟩ : ∃ l, encV (glueH h p) ++ (p.all ++ t) = l := ⟨_, rfl⟩
  have hlen : l.length = 127 + (p.a.length + p.b.length + p.c.length + p.d.length) + t.length := by
    rw [← hll]; simp only [List.length_append, P4.all, hl]; omega
  rw [hll] at h1 h2 ⊢
  have hin : ∀ k, k < 4 → inL l k = true := fun k hk4 => by
    unfold inL
    rw [h1, hlen]
    obtain rfl | rfl | rfl | rfl := four hk4 <;> simp [hf, Go.Proofs.Ytkcbdidaahgfhaa.hl, glueH, layH, withH] <;> omega
  have e := cut_yes h2 hin
  have pc : ∀ k, piece l k = (l.drop (hf (glueH h p) k)).take (Go.Proofs.Ytkcbdidaahgfhaa.hl (glueH h p) k) := fun k => by unfold piece; rw [h1]
  have q0 : piece l 0 = p.a := by
    rw [pc, ← hll, show encV (glueH h p) ++ (p.all ++ t) = encV (glueH h p) ++ (p.a ++ (p.b ++ p.c ++ p.d ++ t)) by simp [P4.all]]
    exact mid_cut _ _ _ _ _ hl rfl
  have q1 : piece l 1 = p.b := by
    rw [pc, ← hll, show encV (glueH h p) ++ (p.all ++ t) = (encV (glueH h p) ++ p.a) ++ (p.b ++ (p.c ++ p.d ++ t)) by simp [P4.all]]
    exact mid_cut _ _ _ _ _ (by rw [List.length_append, hl]; rfl) rfl
  have q2 : piece l 2 = p.c := by
    rw [pc, ← hll, show encV (glueH h p) ++ (p.all ++ t) = (encV (glueH h p) ++ p.a ++ p.b) ++ (p.c ++ (p.d ++ t)) by simp [P4.all]]
    exact mid_cut _ _ _ _ _ (by simp only [List.length_append, hl]; rfl) rfl
  have q3 : piece l 3 = p.d := by
    rw [pc, ← hll, show encV (glueH h p) ++ (p.all ++ t) = (encV (glueH h p) ++ p.a ++ p.b ++ p.c) ++ (p.d ++ t) by simp [P4.all]]
    exact mid_cut _ _ _ _ _ (by simp only [List.length_append, hl]; rfl) rfl
  refine ⟨e, by unfold cutH; rw [if_pos e, h1], ?_⟩
  unfold cutP
  rw [if_pos e, q0, q1, q2, q3]
theorem cut_less (h : Hdr) (hk : h.Ok) (p : P4) (hp : p.Ok) (hc : checkV (glueH h p) = 0) (n : Nat) (hn : n + 1 = (encV (glueH h p) ++ p.all).length) : cutE ((encV (glueH h p) ++ p.all).take n) ≠ 0 := by
  have hl := enc_len hc
  rw [List.length_append, hl] at hn
  rcases Nat.lt_or_ge n 127 with hlt | hge
  · have hs : ((encV (glueH h p) ++ p.all).take n).length < 127 := by rw [List.length_take]; omega
    have e : decE ((encV (glueH h p) ++ p.all).take n) = 3 := if_pos hs
    unfold cutE
    rw [e, if_neg (by decide)]
    decide
  · have ht : (encV (glueH h p) ++ p.all).take n = encV (glueH h p) ++ p.all.take (n - 127) := by
      rw [List.take_append, List.take_of_length_le (by omega), hl]
    rw [ht]
    obtain ⟨h1, h2⟩ := glue_dec h hk p hp hc (p.all.take (n - 127))
    have hno : inL (encV (glueH h p) ++ p.all.take (n - 127)) 3 = false := by
      unfold inL
      rw [h1]
      refine decide_eq_false ?_
      rw [List.length_append, hl, List.length_take]
      simp only [P4.all, List.length_append] at hn ⊢
      simp only [hf, Go.Proofs.Ytkcbdidaahgfhaa.hl, glueH, layH, withH]
      omega
    rw [cut_no h2 (by omega) hno]
    decide
theorem glue_laid (h : Hdr) (p : P4) (hp : p.Ok) (hc : checkV (glueH h p) = 0) : laidV (glueH h p) (((encV (glueH h p) ++ p.all).length : Nat) : Int) = 0 := by
  have hl := enc_len hc
  have := hp.a; have := hp.b; have := hp.c; have := hp.d
  have hg : laidGo (secL (glueH h p)) 127 = some ((127 + p.a.length + p.b.length + p.c.length + p.d.length : Nat) : Int) := by
    show laidGo [(127, p.a.length), (127 + p.a.length, p.b.length), (127 + p.a.length + p.b.length, p.c.length), (127 + p.a.length + p.b.length + p.c.length, p.d.length)] 127 = _
    rw [laidGo, if_neg (by omega), IntWalk.u64_in _ (by omega), laidGo, if_neg (by omega), IntWalk.u64_in _ (by omega), laidGo, if_neg (by omega), IntWalk.u64_in _ (by omega), laidGo, if_neg (by omega), IntWalk.u64_in _ (by omega), laidGo]
    congr 1
  unfold laidV
  rw [if_neg (by simp [hc]), hg]
  simp only
  rw [if_neg]
  simp only [List.length_append, hl, P4.all]
  omega
def P4.sum (p : P4) : Nat → Nat
  | 0 => 0 | 1 => p.a.length | 2 => p.a.length + p.b.length | 3 => p.a.length + p.b.length + p.c.length | _ => p.a.length + p.b.length + p.c.length + p.d.length
theorem P4.sum_next (p : P4) {k : Nat} (h : k < 4) : p.sum (k + 1) = p.sum k + (p.at_ k).length := by obtain rfl | rfl | rfl | rfl := four h <;> simp [P4.sum, P4.at_]
theorem with_zero (h : Hdr) (p : P4) : withH (glueH h p) 0 0 0 0 0 0 0 0 = withH h 0 0 0 0 0 0 0 0 := rfl
set_option maxRecDepth 20000 in
theorem back_fn (h : Hdr) (hk : h.Ok) (p : P4) (l : List UInt8) : Fn Try.prog 6 [h.val, .agg p.cells.toArray, .string (str l)] [] fun v _ => v = .bool true := by
  refine Fn.enter (N := 120) Try.func6 rfl (by kernel_rfl) rfl (fun w0 => ?_)

  refine awp_seq_region (fun Z hZ => ?_)
  refine sx_box rfl rfl rfl (fun g1 => ?_)
  refine sx_box rfl rfl rfl (fun g2 => ?_)
  refine sx_assign rfl rfl ?_
  refine sx_nil (hZ _ _ ?_)
  refine awp_forget [(2, _), (3, _), (4, _)] (Kn.cons rfl (Kn.cons rfl (Kn.cons rfl (Kn.nil)))) ?_
  refine awp_seq_region (fun Z hZ => ?_)
  refine sx_assign rfl rfl ?_
  refine sx_nil (hZ _ _ ?_)
  refine awp_forget [(2, _), (3, _), (4, _), (7, _)] (Kn.cons rfl (Kn.cons rfl (Kn.cons rfl (Kn.cons rfl (Kn.nil))))) ?_
  refine awp_seq ?_
  refine awp_seq_region (fun Z hZ => ?_)
  refine sx_assign rfl rfl ?_
  refine sx_nil (hZ _ _ ?_)
  refine awp_forget [(2, _), (3, _), (4, _), (7, _), (8, _)] (Kn.cons rfl (Kn.cons rfl (Kn.cons rfl (Kn.cons rfl (Kn.cons rfl (Kn.nil)))))) ?_
  refine awp_block ?_
  refine awp_loop (ι := Nat) (fun k => [(2, .string (str l)), (3, ptr g1 0), (4, ptr g2 0), (7, iq (p.sum k : Nat)), (8, iq (k : Nat))]) (fun _ => [.own g2 44 p.cells, .own g1 27 h.cells])
    (fun k => k ≤ 4 ∧ (∀ j, j < k → (p.at_ j).length ≤ 300) ∧ p.sum k ≤ k * 300) (fun k => 4 - k) 0 ⟨by omega, fun j h => by omega, by simp [P4.sum]⟩ (Kn.cons rfl (Kn.cons rfl (Kn.cons rfl (Kn.cons rfl (Kn.cons rfl Kn.nil))))) (HLe.refl _) ?_
  rintro k ⟨hk4, hall, hsum⟩

  refine awp_seq ?_
  refine awp_seq_region (fun Z hZ => ?_)
  refine sx_move rfl rfl ?_
  first | refine sx_lss rfl rfl rfl ?_ | refine sx_slss rfl rfl rfl ?_
  refine sx_nil (hZ _ _ ?_)
  refine awp_forget [(2, _), (3, _), (4, _), (7, _), (8, _), (18, _)] (Kn.cons rfl (Kn.cons rfl (Kn.cons rfl (Kn.cons rfl (Kn.cons rfl (Kn.cons rfl (Kn.nil))))))) ?_
  first | refine awp_cond rfl (fun hh => ?_) (fun hh => ?_) | refine awp_seq (awp_cond rfl (fun hh => ?_) (fun hh => ?_))
  · have hlt : k < 4 := by simp at hh; omega
    have hsn := p.sum_next hlt
    refine awp_skip ?_
    repeat (with_reducible refine nx_block_normal ?_)
    with_reducible refine nx_normal ?_
    refine awp_seq (awp_block ?_)
    refine awp_seq ?_
    refine awp_seq_region (fun Z hZ => ?_)
    refine sx_move rfl rfl ?_
    refine sx_indexAddrA k Try.underlying44 tyS9 rfl rfl (by omega) (by simp) rfl ?_
    refine sx_load 0 rfl rfl tyA9 tyS9 (p.rd hlt) rfl ?_
    first | refine sx_len Try.underlying9 rfl rfl ?_ | refine sx_lenS Try.underlying9 rfl rfl ?_
    first | refine sx_gtr rfl rfl rfl ?_ | refine sx_sgtr rfl rfl rfl ?_
    refine sx_nil (hZ _ _ ?_)
    refine awp_forget [(2, _), (3, _), (4, _), (7, _), (8, _), (25, _)] (Kn.cons rfl (Kn.cons rfl (Kn.cons rfl (Kn.cons rfl (Kn.cons rfl (Kn.cons rfl (Kn.nil))))))) ?_
    first | refine awp_cond rfl (fun hf => ?_) (fun hf => ?_) | refine awp_seq (awp_cond rfl (fun hf => ?_) (fun hf => ?_))
    · refine awp_seq_region (fun Z hZ => ?_)
      refine sx_callP awake_fn rfl rfl ?_
      refine sx_assign rfl rfl ?_
      refine sx_nil (hZ _ _ ?_)
      refine awp_forget [(6, _)] (Kn.cons rfl (Kn.nil)) ?_
      refine awp_ret ?_
      repeat (with_reducible (first | refine nx_then_ret ?_ | refine nx_block_ret ?_))
      exact nx_ret1 rfl rfl rfl
    have hf3 : (p.at_ k).length ≤ 300 := by simp at hf; omega
    refine awp_skip ?_
    repeat (with_reducible refine nx_block_normal ?_)
    with_reducible refine nx_normal ?_
    refine awp_region (fun Z hZ => ?_)
    refine sx_move rfl rfl ?_
    refine sx_move rfl rfl ?_
    refine sx_indexAddrA k Try.underlying44 tyS9 rfl rfl (by omega) (by simp) rfl ?_
    refine sx_load 0 rfl rfl tyA9 tyS9 (p.rd hlt) rfl ?_
    first | refine sx_len Try.underlying9 rfl rfl ?_ | refine sx_lenS Try.underlying9 rfl rfl ?_
    refine sx_add rfl rfl ((p.sum (k + 1) : Nat) : Int) (by rw [IntWalk.i64_in _ (by omega)]; omega) rfl ?_
    refine sx_assign rfl rfl ?_
    refine sx_nil (hZ _ _ ?_)
    refine nx_forget [(2, _), (3, _), (4, _), (7, _), (8, _)] (Kn.cons rfl (Kn.cons rfl (Kn.cons rfl (Kn.cons rfl (Kn.cons rfl (Kn.nil)))))) ?_
    repeat (with_reducible refine nx_block_normal ?_)
    with_reducible refine nx_normal ?_
    refine awp_region (fun Z hZ => ?_)
    refine sx_move rfl rfl ?_
    refine sx_add rfl rfl ((k + 1 : Nat) : Int) (by rw [IntWalk.i64_in _ (by omega)]; omega) rfl ?_
    refine sx_assign rfl rfl ?_
    refine sx_nil (hZ _ _ ?_)
    refine nx_forget [(2, _), (3, _), (4, _), (7, _), (8, _)] (Kn.cons rfl (Kn.cons rfl (Kn.cons rfl (Kn.cons rfl (Kn.cons rfl (Kn.nil)))))) ?_
    refine nx_round (k + 1) ⟨by omega, fun j hj => ?_, by omega⟩ (by omega) (Kn.cons rfl (Kn.cons rfl (Kn.cons rfl (Kn.cons rfl (Kn.cons rfl Kn.nil))))) (HLe.refl _)
    rcases Nat.lt_or_ge j k with hj' | hj'
    · exact hall j hj'
    · obtain rfl : j = k := by omega
      exact hf3
  · refine awp_exit ?_
    repeat (with_reducible (first | refine nx_then_exit ?_ | refine nx_block_other (by decide) ?_))
    with_reducible refine nx_block_exit ?_
    repeat (with_reducible refine nx_block_normal ?_)
    with_reducible refine nx_normal ?_
    have hke : k = 4 := by simp at hh; omega
    subst hke
    have hp : p.Ok := ⟨by have := hall 0 (by omega); have e : p.at_ 0 = p.a := rfl; rw [e] at this; omega, by have := hall 1 (by omega); have e : p.at_ 1 = p.b := rfl; rw [e] at this; omega, by have := hall 2 (by omega); have e : p.at_ 2 = p.c := rfl; rw [e] at this; omega, by have := hall 3 (by omega); have e : p.at_ 3 = p.d := rfl; rw [e] at this; omega⟩
    have hp1 := hp.a; have hp2 := hp.b; have hp3 := hp.c; have hp4 := hp.d
    refine awp_seq ?_
    refine awp_seq_region (fun Z hZ => ?_)
    refine sx_move rfl rfl ?_
    first | refine sx_len Try.underlying9 rfl rfl ?_ | refine sx_lenS Try.underlying9 rfl rfl ?_
    first | refine sx_gtr rfl rfl rfl ?_ | refine sx_sgtr rfl rfl rfl ?_
    refine sx_nil (hZ _ _ ?_)
    refine awp_forget [(2, _), (3, _), (4, _), (7, _), (35, _)] (Kn.cons rfl (Kn.cons rfl (Kn.cons rfl (Kn.cons rfl (Kn.cons rfl (Kn.nil)))))) ?_
    first | refine awp_cond rfl (fun hf => ?_) (fun hf => ?_) | refine awp_seq (awp_cond rfl (fun hf => ?_) (fun hf => ?_))
    · refine awp_seq_region (fun Z hZ => ?_)
      refine sx_callP awake_fn rfl rfl ?_
      refine sx_assign rfl rfl ?_
      refine sx_nil (hZ _ _ ?_)
      refine awp_forget [(6, _)] (Kn.cons rfl (Kn.nil)) ?_
      refine awp_ret ?_
      repeat (with_reducible (first | refine nx_then_ret ?_ | refine nx_block_ret ?_))
      exact nx_ret1 rfl rfl rfl
    refine awp_skip ?_
    repeat (with_reducible refine nx_block_normal ?_)
    with_reducible refine nx_normal ?_
    have hl : l.length ≤ 100 := by simp at hf; omega

    refine aww_seq_region _ [(0, true), (1, false), (2, true), (3, false), (4, true), (5, true), (6, true), (7, true), (8, true)] mixed (by kernel_rfl) (HLe.pick [0, 1] (by simp) (by simp only [pick, List.filterMap_cons, List.filterMap_nil, List.getElem?_cons_succ, List.getElem?_cons_zero]; rfl)) (fun Z hZ => ?_)
    refine tw_p rfl ?_
    first | refine sv_loadA 0 rfl rfl tyA27 tyS27 (by first | (simp only [List.length_cons, List.length_nil, Nat.reduceAdd, Nat.zero_add, Nat.add_zero]; first | done | rfl) | rfl) (by first | (simp only [List.take_succ_cons, List.take_zero, List.drop_succ_cons, List.drop_zero, List.cons_append, List.nil_append, List.append_nil, List.length_cons, List.length_nil, Nat.reduceAdd, Nat.zero_add, Nat.add_zero, Value.cells, wrV]; first | done | rfl) | rfl) rfl ?_ | refine sv_loadA 1 rfl rfl tyA27 tyS27 (by first | (simp only [List.length_cons, List.length_nil, Nat.reduceAdd, Nat.zero_add, Nat.add_zero]; first | done | rfl) | rfl) (by first | (simp only [List.take_succ_cons, List.take_zero, List.drop_succ_cons, List.drop_zero, List.cons_append, List.nil_append, List.append_nil, List.length_cons, List.length_nil, Nat.reduceAdd, Nat.zero_add, Nat.add_zero, Value.cells, wrV]; first | done | rfl) | rfl) rfl ?_
    refine sv_nil ?_
    refine tw_g rfl ?_
    refine sx_callP (own_fn h) rfl rfl ?_
    refine sx_nil ⟨HLe.pick [0, 1] (by simp) rfl, ?_⟩
    refine tw_p rfl ?_
    first | refine sv_loadA 0 rfl rfl tyA44 tyS44 (by first | (simp only [List.length_cons, List.length_nil, Nat.reduceAdd, Nat.zero_add, Nat.add_zero]; first | done | rfl) | rfl) (by first | (simp only [List.take_succ_cons, List.take_zero, List.drop_succ_cons, List.drop_zero, List.cons_append, List.nil_append, List.append_nil, List.length_cons, List.length_nil, Nat.reduceAdd, Nat.zero_add, Nat.add_zero, Value.cells, wrV]; first | done | rfl) | rfl) rfl ?_ | refine sv_loadA 1 rfl rfl tyA44 tyS44 (by first | (simp only [List.length_cons, List.length_nil, Nat.reduceAdd, Nat.zero_add, Nat.add_zero]; first | done | rfl) | rfl) (by first | (simp only [List.take_succ_cons, List.take_zero, List.drop_succ_cons, List.drop_zero, List.cons_append, List.nil_append, List.append_nil, List.length_cons, List.length_nil, Nat.reduceAdd, Nat.zero_add, Nat.add_zero, Value.cells, wrV]; first | done | rfl) | rfl) rfl ?_
    refine sv_nil ?_
    refine tw_g rfl ?_
    refine sx_callP (glue_fn h hk p hp) rfl rfl ?_
    refine sx_nil ⟨HLe.pick [0, 1] (by simp) rfl, ?_⟩
    refine tw_p rfl ?_
    refine sv_move rfl rfl ?_
    refine sv_nil ?_
    refine tw_p rfl ?_
    refine sv_extract rfl rfl rfl ?_
    refine sv_nil ?_
    refine tw_p rfl ?_
    refine sv_extract rfl rfl rfl ?_
    refine sv_nil ?_
    refine tw_p rfl ?_
    refine sv_assign rfl rfl ?_
    refine sv_nil ?_
    refine tw_p rfl ?_
    refine sv_assign rfl rfl ?_
    refine sv_nil ?_
    refine tw_nil (hZ _ _ ?_)
    refine awp_forget [(2, _), (3, _), (4, _), (7, _), (9, _), (10, _)] (Kn.cons rfl (Kn.cons rfl (Kn.cons rfl (Kn.cons rfl (Kn.cons rfl (Kn.cons rfl (Kn.nil))))))) ?_
    refine awp_seq ?_
    refine awp_seq_region (fun Z hZ => ?_)
    refine sx_move rfl rfl ?_
    first | refine sx_neq rfl rfl rfl ?_ | refine sx_sneq rfl rfl rfl ?_
    refine sx_nil (hZ _ _ ?_)
    refine awp_forget [(2, _), (3, _), (4, _), (7, _), (9, _), (45, _)] (Kn.cons rfl (Kn.cons rfl (Kn.cons rfl (Kn.cons rfl (Kn.cons rfl (Kn.cons rfl (Kn.nil))))))) ?_
    first | refine awp_cond rfl (fun he => ?_) (fun he => ?_) | refine awp_seq (awp_cond rfl (fun he => ?_) (fun he => ?_))
    · have hne : ¬ checkV (glueH h p) = 0 := by simpa using he
      have hS : glueS h p = [] := if_neg hne
      rw [hS]
      refine awp_seq_meet [(6, .bool true)] [] (fun Z hZ => ?_) ?_
      · refine sx_move rfl rfl ?_
        first | refine sx_eql rfl rfl rfl ?_ | refine sx_seql rfl rfl rfl ?_
        refine sx_move rfl rfl ?_
        refine sx_force 48 rfl true (by simp) ?_
        refine sx_on rfl rfl rfl ?_
        refine sx_callP awake_fn rfl rfl ?_
        refine sx_pick rfl rfl rfl ?_
        refine sx_assign rfl rfl ?_
        refine sx_nil (hZ _ _ ?_ ?_)
        · exact Kn.cons rfl Kn.nil
        · exact HLe.pick [] (by simp) rfl
      refine awp_ret ?_
      repeat (with_reducible (first | refine nx_then_ret ?_ | refine nx_block_ret ?_))
      exact nx_ret1 rfl rfl rfl
    refine awp_skip ?_
    repeat (with_reducible refine nx_block_normal ?_)
    with_reducible refine nx_normal ?_
    have hc : checkV (glueH h p) = 0 := by simpa using he
    have hS : glueS h p = encV (glueH h p) ++ p.all := if_pos hc
    have hel := enc_len hc
    obtain ⟨c1, c2, c3⟩ := glue_cut h hk p hp hc l
    have c4 := glue_laid h p hp hc
    have c5 := fun n hn => cut_less h hk p hp hc n hn
    have hSl : (encV (glueH h p) ++ p.all).length = 127 + p.sum 4 := by simp only [List.length_append, hel, P4.all, P4.sum]
    have hend : IntKind.u64.wrap (((glueH h p).d0 : Int) + (glueH h p).d1) = ((127 + p.sum 4 : Nat) : Int) := by
      have e1 : (glueH h p).d0 = 127 + p.a.length + p.b.length + p.c.length := rfl
      have e2 : (glueH h p).d1 = p.d.length := rfl
      have e3 : p.sum 4 = p.a.length + p.b.length + p.c.length + p.d.length := rfl
      rw [e1, e2, e3, IntWalk.u64_in _ (by omega)]
      omega
    have hzz := with_zero h p
    rw [hS]
    generalize encV (glueH h p) ++ p.all = S at c1 c2 c3 c4 c5 hSl
    generalize glueH h p = G at c2 c4 hend hzz
    have hs4 : p.sum 4 ≤ 1200 := by omega
    generalize p.sum 4 = n at hSl hend hs4
    have c6 := c5 (n + 126) (by omega)
    have c7 : cutP (S.take (n + 126)) = ⟨[], [], [], []⟩ := if_neg c6
    rw [hSl] at c4

    refine awp_seq_region (fun Z hZ => ?_)
    refine sx_move rfl rfl ?_
    refine sx_move rfl rfl ?_
    refine sx_cat rfl rfl (by omega) rfl ?_
    refine sx_callP (cut_fn (S ++ l) (by rw [List.length_append]; omega)) rfl rfl ?_
    rw [c1, c2, c3]
    refine sx_move rfl rfl ?_
    refine sx_extract rfl rfl rfl ?_
    refine sx_extract rfl rfl rfl ?_
    refine sx_extract rfl rfl rfl ?_
    refine sx_alloc tyZ38 rfl (fun g3 => ?_)
    refine sx_alloc tyZ44 rfl (fun g4 => ?_)
    first | refine sx_store 0 rfl rfl rfl tyS38 (by first | (simp only [Value.cells]; first | done | rfl) | rfl) rfl rfl (by first | (simp only [List.length_cons, List.length_nil, Nat.reduceAdd, Nat.zero_add, Nat.add_zero]; first | done | rfl) | rfl) (by first | (simp only [List.take_succ_cons, List.take_zero, List.drop_succ_cons, List.drop_zero, List.cons_append, List.nil_append, List.append_nil, List.length_cons, List.length_nil, Nat.reduceAdd, Nat.zero_add, Nat.add_zero, Value.cells, wrV]; first | done | rfl) | rfl) (by first | (simp only [List.set_cons_succ, List.set_cons_zero]; first | done | rfl) | rfl) ?_ | refine sx_store 1 rfl rfl rfl tyS38 (by first | (simp only [Value.cells]; first | done | rfl) | rfl) rfl rfl (by first | (simp only [List.length_cons, List.length_nil, Nat.reduceAdd, Nat.zero_add, Nat.add_zero]; first | done | rfl) | rfl) (by first | (simp only [List.take_succ_cons, List.take_zero, List.drop_succ_cons, List.drop_zero, List.cons_append, List.nil_append, List.append_nil, List.length_cons, List.length_nil, Nat.reduceAdd, Nat.zero_add, Nat.add_zero, Value.cells, wrV]; first | done | rfl) | rfl) (by first | (simp only [List.set_cons_succ, List.set_cons_zero]; first | done | rfl) | rfl) ?_ | refine sx_store 2 rfl rfl rfl tyS38 (by first | (simp only [Value.cells]; first | done | rfl) | rfl) rfl rfl (by first | (simp only [List.length_cons, List.length_nil, Nat.reduceAdd, Nat.zero_add, Nat.add_zero]; first | done | rfl) | rfl) (by first | (simp only [List.take_succ_cons, List.take_zero, List.drop_succ_cons, List.drop_zero, List.cons_append, List.nil_append, List.append_nil, List.length_cons, List.length_nil, Nat.reduceAdd, Nat.zero_add, Nat.add_zero, Value.cells, wrV]; first | done | rfl) | rfl) (by first | (simp only [List.set_cons_succ, List.set_cons_zero]; first | done | rfl) | rfl) ?_ | refine sx_store 3 rfl rfl rfl tyS38 (by first | (simp only [Value.cells]; first | done | rfl) | rfl) rfl rfl (by first | (simp only [List.length_cons, List.length_nil, Nat.reduceAdd, Nat.zero_add, Nat.add_zero]; first | done | rfl) | rfl) (by first | (simp only [List.take_succ_cons, List.take_zero, List.drop_succ_cons, List.drop_zero, List.cons_append, List.nil_append, List.append_nil, List.length_cons, List.length_nil, Nat.reduceAdd, Nat.zero_add, Nat.add_zero, Value.cells, wrV]; first | done | rfl) | rfl) (by first | (simp only [List.set_cons_succ, List.set_cons_zero]; first | done | rfl) | rfl) ?_
    first | refine sx_store 0 rfl rfl rfl tyS44 (by first | (simp only [Value.cells]; first | done | rfl) | rfl) rfl rfl (by first | (simp only [List.length_cons, List.length_nil, Nat.reduceAdd, Nat.zero_add, Nat.add_zero]; first | done | rfl) | rfl) (by first | (simp only [List.take_succ_cons, List.take_zero, List.drop_succ_cons, List.drop_zero, List.cons_append, List.nil_append, List.append_nil, List.length_cons, List.length_nil, Nat.reduceAdd, Nat.zero_add, Nat.add_zero, Value.cells, wrV]; first | done | rfl) | rfl) (by first | (simp only [List.set_cons_succ, List.set_cons_zero]; first | done | rfl) | rfl) ?_ | refine sx_store 1 rfl rfl rfl tyS44 (by first | (simp only [Value.cells]; first | done | rfl) | rfl) rfl rfl (by first | (simp only [List.length_cons, List.length_nil, Nat.reduceAdd, Nat.zero_add, Nat.add_zero]; first | done | rfl) | rfl) (by first | (simp only [List.take_succ_cons, List.take_zero, List.drop_succ_cons, List.drop_zero, List.cons_append, List.nil_append, List.append_nil, List.length_cons, List.length_nil, Nat.reduceAdd, Nat.zero_add, Nat.add_zero, Value.cells, wrV]; first | done | rfl) | rfl) (by first | (simp only [List.set_cons_succ, List.set_cons_zero]; first | done | rfl) | rfl) ?_ | refine sx_store 2 rfl rfl rfl tyS44 (by first | (simp only [Value.cells]; first | done | rfl) | rfl) rfl rfl (by first | (simp only [List.length_cons, List.length_nil, Nat.reduceAdd, Nat.zero_add, Nat.add_zero]; first | done | rfl) | rfl) (by first | (simp only [List.take_succ_cons, List.take_zero, List.drop_succ_cons, List.drop_zero, List.cons_append, List.nil_append, List.append_nil, List.length_cons, List.length_nil, Nat.reduceAdd, Nat.zero_add, Nat.add_zero, Value.cells, wrV]; first | done | rfl) | rfl) (by first | (simp only [List.set_cons_succ, List.set_cons_zero]; first | done | rfl) | rfl) ?_ | refine sx_store 3 rfl rfl rfl tyS44 (by first | (simp only [Value.cells]; first | done | rfl) | rfl) rfl rfl (by first | (simp only [List.length_cons, List.length_nil, Nat.reduceAdd, Nat.zero_add, Nat.add_zero]; first | done | rfl) | rfl) (by first | (simp only [List.take_succ_cons, List.take_zero, List.drop_succ_cons, List.drop_zero, List.cons_append, List.nil_append, List.append_nil, List.length_cons, List.length_nil, Nat.reduceAdd, Nat.zero_add, Nat.add_zero, Value.cells, wrV]; first | done | rfl) | rfl) (by first | (simp only [List.set_cons_succ, List.set_cons_zero]; first | done | rfl) | rfl) ?_
    refine sx_assign rfl rfl ?_
    refine sx_nil (hZ _ _ ?_)
    refine awp_forget [(3, _), (4, _), (7, _), (9, _), (11, _), (12, _), (13, _)] (Kn.cons rfl (Kn.cons rfl (Kn.cons rfl (Kn.cons rfl (Kn.cons rfl (Kn.cons rfl (Kn.cons rfl (Kn.nil)))))))) ?_

    refine awp_seq ?_
    refine awp_seq_meet [(3, ptr g1 0), (9, .string (str S)), (11, ptr g3 0), (89, .bool false)] [.own g3 38 G.cells, .own g1 27 h.cells] (fun Z hZ => ?_) ?_
    · refine sx_move rfl rfl ?_
      first | refine sx_len Try.underlying9 rfl rfl ?_ | refine sx_lenS Try.underlying9 rfl rfl ?_
      refine sx_move rfl rfl ?_
      refine sx_add rfl rfl ((127 + n : Nat) : Int) (by rw [IntWalk.i64_in _ (by omega)]; omega) rfl ?_
      first | refine sx_neq rfl rfl rfl ?_ | refine sx_sneq rfl rfl rfl ?_
      refine sx_move rfl rfl ?_
      refine sx_force 64 rfl false (by first | rfl | (simp [hSl]; done) | (simp [hSl]; omega)) ?_
      refine sx_on rfl rfl rfl ?_
      refine sx_move rfl rfl ?_
      refine sx_on rfl rfl rfl ?_
      first | refine sx_neq rfl rfl rfl ?_ | refine sx_sneq rfl rfl rfl ?_
      refine sx_pick rfl rfl rfl ?_
      refine sx_move rfl rfl ?_
      refine sx_force 68 rfl false (by first | rfl | (simp [hSl]; done) | (simp [hSl]; omega)) ?_
      refine sx_on rfl rfl rfl ?_
      first | refine sx_loadA 0 rfl rfl tyA44 tyS44 (by first | (simp only [List.length_cons, List.length_nil, Nat.reduceAdd, Nat.zero_add, Nat.add_zero]; first | done | rfl) | rfl) (by first | (simp only [List.take_succ_cons, List.take_zero, List.drop_succ_cons, List.drop_zero, List.cons_append, List.nil_append, List.append_nil, List.length_cons, List.length_nil, Nat.reduceAdd, Nat.zero_add, Nat.add_zero, Value.cells, wrV]; first | done | rfl) | rfl) rfl ?_ | refine sx_loadA 1 rfl rfl tyA44 tyS44 (by first | (simp only [List.length_cons, List.length_nil, Nat.reduceAdd, Nat.zero_add, Nat.add_zero]; first | done | rfl) | rfl) (by first | (simp only [List.take_succ_cons, List.take_zero, List.drop_succ_cons, List.drop_zero, List.cons_append, List.nil_append, List.append_nil, List.length_cons, List.length_nil, Nat.reduceAdd, Nat.zero_add, Nat.add_zero, Value.cells, wrV]; first | done | rfl) | rfl) rfl ?_ | refine sx_loadA 2 rfl rfl tyA44 tyS44 (by first | (simp only [List.length_cons, List.length_nil, Nat.reduceAdd, Nat.zero_add, Nat.add_zero]; first | done | rfl) | rfl) (by first | (simp only [List.take_succ_cons, List.take_zero, List.drop_succ_cons, List.drop_zero, List.cons_append, List.nil_append, List.append_nil, List.length_cons, List.length_nil, Nat.reduceAdd, Nat.zero_add, Nat.add_zero, Value.cells, wrV]; first | done | rfl) | rfl) rfl ?_ | refine sx_loadA 3 rfl rfl tyA44 tyS44 (by first | (simp only [List.length_cons, List.length_nil, Nat.reduceAdd, Nat.zero_add, Nat.add_zero]; first | done | rfl) | rfl) (by first | (simp only [List.take_succ_cons, List.take_zero, List.drop_succ_cons, List.drop_zero, List.cons_append, List.nil_append, List.append_nil, List.length_cons, List.length_nil, Nat.reduceAdd, Nat.zero_add, Nat.add_zero, Value.cells, wrV]; first | done | rfl) | rfl) rfl ?_
      refine sx_on rfl rfl rfl ?_
      first | refine sx_loadA 0 rfl rfl tyA44 tyS44 (by first | (simp only [List.length_cons, List.length_nil, Nat.reduceAdd, Nat.zero_add, Nat.add_zero]; first | done | rfl) | rfl) (by first | (simp only [List.take_succ_cons, List.take_zero, List.drop_succ_cons, List.drop_zero, List.cons_append, List.nil_append, List.append_nil, List.length_cons, List.length_nil, Nat.reduceAdd, Nat.zero_add, Nat.add_zero, Value.cells, wrV]; first | done | rfl) | rfl) rfl ?_ | refine sx_loadA 1 rfl rfl tyA44 tyS44 (by first | (simp only [List.length_cons, List.length_nil, Nat.reduceAdd, Nat.zero_add, Nat.add_zero]; first | done | rfl) | rfl) (by first | (simp only [List.take_succ_cons, List.take_zero, List.drop_succ_cons, List.drop_zero, List.cons_append, List.nil_append, List.append_nil, List.length_cons, List.length_nil, Nat.reduceAdd, Nat.zero_add, Nat.add_zero, Value.cells, wrV]; first | done | rfl) | rfl) rfl ?_ | refine sx_loadA 2 rfl rfl tyA44 tyS44 (by first | (simp only [List.length_cons, List.length_nil, Nat.reduceAdd, Nat.zero_add, Nat.add_zero]; first | done | rfl) | rfl) (by first | (simp only [List.take_succ_cons, List.take_zero, List.drop_succ_cons, List.drop_zero, List.cons_append, List.nil_append, List.append_nil, List.length_cons, List.length_nil, Nat.reduceAdd, Nat.zero_add, Nat.add_zero, Value.cells, wrV]; first | done | rfl) | rfl) rfl ?_ | refine sx_loadA 3 rfl rfl tyA44 tyS44 (by first | (simp only [List.length_cons, List.length_nil, Nat.reduceAdd, Nat.zero_add, Nat.add_zero]; first | done | rfl) | rfl) (by first | (simp only [List.take_succ_cons, List.take_zero, List.drop_succ_cons, List.drop_zero, List.cons_append, List.nil_append, List.append_nil, List.length_cons, List.length_nil, Nat.reduceAdd, Nat.zero_add, Nat.add_zero, Value.cells, wrV]; first | done | rfl) | rfl) rfl ?_
      refine sx_on rfl rfl rfl ?_
      refine sx_aneq (str4_same p) guard_str4 rfl rfl rfl ?_
      refine sx_pick rfl rfl rfl ?_
      refine sx_move rfl rfl ?_
      refine sx_force 73 rfl false (by first | rfl | (simp [hSl]; done) | (simp [hSl]; omega)) ?_
      refine sx_on rfl rfl rfl ?_
      first | refine sx_loadA 0 rfl rfl tyA38 tyS38 (by first | (simp only [List.length_cons, List.length_nil, Nat.reduceAdd, Nat.zero_add, Nat.add_zero]; first | done | rfl) | rfl) (by first | (simp only [List.take_succ_cons, List.take_zero, List.drop_succ_cons, List.drop_zero, List.cons_append, List.nil_append, List.append_nil, List.length_cons, List.length_nil, Nat.reduceAdd, Nat.zero_add, Nat.add_zero, Value.cells, wrV]; first | done | rfl) | rfl) rfl ?_ | refine sx_loadA 1 rfl rfl tyA38 tyS38 (by first | (simp only [List.length_cons, List.length_nil, Nat.reduceAdd, Nat.zero_add, Nat.add_zero]; first | done | rfl) | rfl) (by first | (simp only [List.take_succ_cons, List.take_zero, List.drop_succ_cons, List.drop_zero, List.cons_append, List.nil_append, List.append_nil, List.length_cons, List.length_nil, Nat.reduceAdd, Nat.zero_add, Nat.add_zero, Value.cells, wrV]; first | done | rfl) | rfl) rfl ?_ | refine sx_loadA 2 rfl rfl tyA38 tyS38 (by first | (simp only [List.length_cons, List.length_nil, Nat.reduceAdd, Nat.zero_add, Nat.add_zero]; first | done | rfl) | rfl) (by first | (simp only [List.take_succ_cons, List.take_zero, List.drop_succ_cons, List.drop_zero, List.cons_append, List.nil_append, List.append_nil, List.length_cons, List.length_nil, Nat.reduceAdd, Nat.zero_add, Nat.add_zero, Value.cells, wrV]; first | done | rfl) | rfl) rfl ?_ | refine sx_loadA 3 rfl rfl tyA38 tyS38 (by first | (simp only [List.length_cons, List.length_nil, Nat.reduceAdd, Nat.zero_add, Nat.add_zero]; first | done | rfl) | rfl) (by first | (simp only [List.take_succ_cons, List.take_zero, List.drop_succ_cons, List.drop_zero, List.cons_append, List.nil_append, List.append_nil, List.length_cons, List.length_nil, Nat.reduceAdd, Nat.zero_add, Nat.add_zero, Value.cells, wrV]; first | done | rfl) | rfl) rfl ?_
      refine sx_on rfl rfl rfl ?_
      refine sx_move rfl rfl ?_
      refine sx_on rfl rfl rfl ?_
      first | refine sx_len Try.underlying9 rfl rfl ?_ | refine sx_lenS Try.underlying9 rfl rfl ?_
      refine sx_on rfl rfl rfl ?_
      refine sx_conv Try.underlying3 Try.underlying22 rfl ((127 + n : Nat) : Int) (by rw [hSl, IntWalk.u64_in _ (by omega)]) rfl ?_
      refine sx_on rfl rfl rfl ?_
      refine sx_callP (hlaid_fn G ((127 + n : Nat) : Int)) rfl rfl ?_
      rw [c4]
      refine sx_on rfl rfl rfl ?_
      first | refine sx_neq rfl rfl rfl ?_ | refine sx_sneq rfl rfl rfl ?_
      refine sx_pick rfl rfl rfl ?_
      refine sx_move rfl rfl ?_
      refine sx_force 81 rfl false (by first | rfl | (simp [hSl]; done) | (simp [hSl]; omega)) ?_
      refine sx_on rfl rfl rfl ?_
      refine sx_fieldAddr rfl tyF38_3 (by first | (simp only [Nat.reduceAdd, Nat.add_zero, Nat.zero_add]; first | done | rfl) | rfl) rfl ?_
      refine sx_on rfl rfl rfl ?_
      first | refine sx_loadA 0 rfl rfl tyA29 tyS29 (by first | (simp only [List.length_cons, List.length_nil, Nat.reduceAdd, Nat.zero_add, Nat.add_zero]; first | done | rfl) | rfl) (by first | (simp only [List.take_succ_cons, List.take_zero, List.drop_succ_cons, List.drop_zero, List.cons_append, List.nil_append, List.append_nil, List.length_cons, List.length_nil, Nat.reduceAdd, Nat.zero_add, Nat.add_zero, Value.cells, wrV]; first | done | rfl) | rfl) rfl ?_ | refine sx_loadA 1 rfl rfl tyA29 tyS29 (by first | (simp only [List.length_cons, List.length_nil, Nat.reduceAdd, Nat.zero_add, Nat.add_zero]; first | done | rfl) | rfl) (by first | (simp only [List.take_succ_cons, List.take_zero, List.drop_succ_cons, List.drop_zero, List.cons_append, List.nil_append, List.append_nil, List.length_cons, List.length_nil, Nat.reduceAdd, Nat.zero_add, Nat.add_zero, Value.cells, wrV]; first | done | rfl) | rfl) rfl ?_ | refine sx_loadA 2 rfl rfl tyA29 tyS29 (by first | (simp only [List.length_cons, List.length_nil, Nat.reduceAdd, Nat.zero_add, Nat.add_zero]; first | done | rfl) | rfl) (by first | (simp only [List.take_succ_cons, List.take_zero, List.drop_succ_cons, List.drop_zero, List.cons_append, List.nil_append, List.append_nil, List.length_cons, List.length_nil, Nat.reduceAdd, Nat.zero_add, Nat.add_zero, Value.cells, wrV]; first | done | rfl) | rfl) rfl ?_ | refine sx_loadA 3 rfl rfl tyA29 tyS29 (by first | (simp only [List.length_cons, List.length_nil, Nat.reduceAdd, Nat.zero_add, Nat.add_zero]; first | done | rfl) | rfl) (by first | (simp only [List.take_succ_cons, List.take_zero, List.drop_succ_cons, List.drop_zero, List.cons_append, List.nil_append, List.append_nil, List.length_cons, List.length_nil, Nat.reduceAdd, Nat.zero_add, Nat.add_zero, Value.cells, wrV]; first | done | rfl) | rfl) rfl ?_
      refine sx_on rfl rfl rfl ?_
      refine sx_callP (end_fn G.d0 G.d1) rfl rfl ?_
      rw [hend]
      refine sx_on rfl rfl rfl ?_
      refine sx_move rfl rfl ?_
      refine sx_on rfl rfl rfl ?_
      first | refine sx_len Try.underlying9 rfl rfl ?_ | refine sx_lenS Try.underlying9 rfl rfl ?_
      refine sx_on rfl rfl rfl ?_
      refine sx_conv Try.underlying3 Try.underlying22 rfl ((127 + n : Nat) : Int) (by rw [hSl, IntWalk.u64_in _ (by omega)]) rfl ?_
      refine sx_on rfl rfl rfl ?_
      first | refine sx_neq rfl rfl rfl ?_ | refine sx_sneq rfl rfl rfl ?_
      refine sx_pick rfl rfl rfl ?_
      refine sx_nil (hZ _ _ ?_ ?_)
      · exact Kn.cons rfl (Kn.cons rfl (Kn.cons rfl (Kn.cons (congrArg some (congrArg Value.bool (by simp))) Kn.nil)))
      · exact HLe.pick [1, 3] (by simp) rfl
    first | refine awp_cond rfl (fun hq => ?_) (fun hq => ?_) | refine awp_seq (awp_cond rfl (fun hq => ?_) (fun hq => ?_))
    · cases hq
    refine awp_skip ?_
    repeat (with_reducible refine nx_block_normal ?_)
    with_reducible refine nx_normal ?_

    refine awp_seq_region (fun Z hZ => ?_)
    refine sx_move rfl rfl ?_
    refine sx_move rfl rfl ?_
    first | refine sx_len Try.underlying9 rfl rfl ?_ | refine sx_lenS Try.underlying9 rfl rfl ?_
    refine sx_sub rfl rfl ((n + 126 : Nat) : Int) (by rw [hSl, IntWalk.i64_in _ (by omega)]; omega) rfl ?_
    refine sx_sliceS (S.take (n + 126)) Try.underlying9 rfl rfl rfl (by omega) (by omega) (by rw [hSl]; omega) (by show (S.drop 0).take (n + 126 - 0) = _; rw [List.drop_zero, Nat.sub_zero]) rfl ?_
    refine sx_callP (cut_fn (S.take (n + 126)) (by rw [List.length_take]; omega)) rfl rfl ?_
    rw [c7]
    refine sx_move rfl rfl ?_
    refine sx_extract rfl rfl rfl ?_
    refine sx_extract rfl rfl rfl ?_
    refine sx_extract rfl rfl rfl ?_
    refine sx_alloc tyZ38 rfl (fun g5 => ?_)
    refine sx_alloc tyZ44 rfl (fun g6 => ?_)
    first | refine sx_store 0 rfl rfl rfl tyS38 (by first | (simp only [Value.cells]; first | done | rfl) | rfl) rfl rfl (by first | (simp only [List.length_cons, List.length_nil, Nat.reduceAdd, Nat.zero_add, Nat.add_zero]; first | done | rfl) | rfl) (by first | (simp only [List.take_succ_cons, List.take_zero, List.drop_succ_cons, List.drop_zero, List.cons_append, List.nil_append, List.append_nil, List.length_cons, List.length_nil, Nat.reduceAdd, Nat.zero_add, Nat.add_zero, Value.cells, wrV]; first | done | rfl) | rfl) (by first | (simp only [List.set_cons_succ, List.set_cons_zero]; first | done | rfl) | rfl) ?_ | refine sx_store 1 rfl rfl rfl tyS38 (by first | (simp only [Value.cells]; first | done | rfl) | rfl) rfl rfl (by first | (simp only [List.length_cons, List.length_nil, Nat.reduceAdd, Nat.zero_add, Nat.add_zero]; first | done | rfl) | rfl) (by first | (simp only [List.take_succ_cons, List.take_zero, List.drop_succ_cons, List.drop_zero, List.cons_append, List.nil_append, List.append_nil, List.length_cons, List.length_nil, Nat.reduceAdd, Nat.zero_add, Nat.add_zero, Value.cells, wrV]; first | done | rfl) | rfl) (by first | (simp only [List.set_cons_succ, List.set_cons_zero]; first | done | rfl) | rfl) ?_ | refine sx_store 2 rfl rfl rfl tyS38 (by first | (simp only [Value.cells]; first | done | rfl) | rfl) rfl rfl (by first | (simp only [List.length_cons, List.length_nil, Nat.reduceAdd, Nat.zero_add, Nat.add_zero]; first | done | rfl) | rfl) (by first | (simp only [List.take_succ_cons, List.take_zero, List.drop_succ_cons, List.drop_zero, List.cons_append, List.nil_append, List.append_nil, List.length_cons, List.length_nil, Nat.reduceAdd, Nat.zero_add, Nat.add_zero, Value.cells, wrV]; first | done | rfl) | rfl) (by first | (simp only [List.set_cons_succ, List.set_cons_zero]; first | done | rfl) | rfl) ?_ | refine sx_store 3 rfl rfl rfl tyS38 (by first | (simp only [Value.cells]; first | done | rfl) | rfl) rfl rfl (by first | (simp only [List.length_cons, List.length_nil, Nat.reduceAdd, Nat.zero_add, Nat.add_zero]; first | done | rfl) | rfl) (by first | (simp only [List.take_succ_cons, List.take_zero, List.drop_succ_cons, List.drop_zero, List.cons_append, List.nil_append, List.append_nil, List.length_cons, List.length_nil, Nat.reduceAdd, Nat.zero_add, Nat.add_zero, Value.cells, wrV]; first | done | rfl) | rfl) (by first | (simp only [List.set_cons_succ, List.set_cons_zero]; first | done | rfl) | rfl) ?_
    first | refine sx_store 0 rfl rfl rfl tyS44 (by first | (simp only [Value.cells]; first | done | rfl) | rfl) rfl rfl (by first | (simp only [List.length_cons, List.length_nil, Nat.reduceAdd, Nat.zero_add, Nat.add_zero]; first | done | rfl) | rfl) (by first | (simp only [List.take_succ_cons, List.take_zero, List.drop_succ_cons, List.drop_zero, List.cons_append, List.nil_append, List.append_nil, List.length_cons, List.length_nil, Nat.reduceAdd, Nat.zero_add, Nat.add_zero, Value.cells, wrV]; first | done | rfl) | rfl) (by first | (simp only [List.set_cons_succ, List.set_cons_zero]; first | done | rfl) | rfl) ?_ | refine sx_store 1 rfl rfl rfl tyS44 (by first | (simp only [Value.cells]; first | done | rfl) | rfl) rfl rfl (by first | (simp only [List.length_cons, List.length_nil, Nat.reduceAdd, Nat.zero_add, Nat.add_zero]; first | done | rfl) | rfl) (by first | (simp only [List.take_succ_cons, List.take_zero, List.drop_succ_cons, List.drop_zero, List.cons_append, List.nil_append, List.append_nil, List.length_cons, List.length_nil, Nat.reduceAdd, Nat.zero_add, Nat.add_zero, Value.cells, wrV]; first | done | rfl) | rfl) (by first | (simp only [List.set_cons_succ, List.set_cons_zero]; first | done | rfl) | rfl) ?_ | refine sx_store 2 rfl rfl rfl tyS44 (by first | (simp only [Value.cells]; first | done | rfl) | rfl) rfl rfl (by first | (simp only [List.length_cons, List.length_nil, Nat.reduceAdd, Nat.zero_add, Nat.add_zero]; first | done | rfl) | rfl) (by first | (simp only [List.take_succ_cons, List.take_zero, List.drop_succ_cons, List.drop_zero, List.cons_append, List.nil_append, List.append_nil, List.length_cons, List.length_nil, Nat.reduceAdd, Nat.zero_add, Nat.add_zero, Value.cells, wrV]; first | done | rfl) | rfl) (by first | (simp only [List.set_cons_succ, List.set_cons_zero]; first | done | rfl) | rfl) ?_ | refine sx_store 3 rfl rfl rfl tyS44 (by first | (simp only [Value.cells]; first | done | rfl) | rfl) rfl rfl (by first | (simp only [List.length_cons, List.length_nil, Nat.reduceAdd, Nat.zero_add, Nat.add_zero]; first | done | rfl) | rfl) (by first | (simp only [List.take_succ_cons, List.take_zero, List.drop_succ_cons, List.drop_zero, List.cons_append, List.nil_append, List.append_nil, List.length_cons, List.length_nil, Nat.reduceAdd, Nat.zero_add, Nat.add_zero, Value.cells, wrV]; first | done | rfl) | rfl) (by first | (simp only [List.set_cons_succ, List.set_cons_zero]; first | done | rfl) | rfl) ?_
    refine sx_assign rfl rfl ?_
    refine sx_nil (hZ _ _ ?_)
    refine awp_forget [(3, _), (11, _), (15, _), (16, _)] (Kn.cons rfl (Kn.cons rfl (Kn.cons rfl (Kn.cons rfl (Kn.nil))))) ?_
    generalize cutE (S.take (n + 126)) = E2 at c6
    generalize cutH (S.take (n + 126)) = H2

    refine awq_seq_meet [(6, .bool true)] [] mixed (by kernel_rfl) (fun Z hZ => ?_) ?_
    · refine sq_move rfl rfl ?_
      first | refine sq_neq rfl rfl rfl ?_ | refine sq_sneq rfl rfl rfl ?_
      refine sq_move rfl rfl ?_
      refine sq_force 102 rfl true (by first | rfl | (simp [c6]; done)) ?_
      refine sq_on rfl rfl rfl ?_
      first | refine sq_loadA 0 rfl rfl tyA44 tyS44 (by first | (simp only [List.length_cons, List.length_nil, Nat.reduceAdd, Nat.zero_add, Nat.add_zero]; first | done | rfl) | rfl) (by first | (simp only [List.take_succ_cons, List.take_zero, List.drop_succ_cons, List.drop_zero, List.cons_append, List.nil_append, List.append_nil, List.length_cons, List.length_nil, Nat.reduceAdd, Nat.zero_add, Nat.add_zero, Value.cells, wrV]; first | done | rfl) | rfl) rfl ?_ | refine sq_loadA 1 rfl rfl tyA44 tyS44 (by first | (simp only [List.length_cons, List.length_nil, Nat.reduceAdd, Nat.zero_add, Nat.add_zero]; first | done | rfl) | rfl) (by first | (simp only [List.take_succ_cons, List.take_zero, List.drop_succ_cons, List.drop_zero, List.cons_append, List.nil_append, List.append_nil, List.length_cons, List.length_nil, Nat.reduceAdd, Nat.zero_add, Nat.add_zero, Value.cells, wrV]; first | done | rfl) | rfl) rfl ?_ | refine sq_loadA 2 rfl rfl tyA44 tyS44 (by first | (simp only [List.length_cons, List.length_nil, Nat.reduceAdd, Nat.zero_add, Nat.add_zero]; first | done | rfl) | rfl) (by first | (simp only [List.take_succ_cons, List.take_zero, List.drop_succ_cons, List.drop_zero, List.cons_append, List.nil_append, List.append_nil, List.length_cons, List.length_nil, Nat.reduceAdd, Nat.zero_add, Nat.add_zero, Value.cells, wrV]; first | done | rfl) | rfl) rfl ?_ | refine sq_loadA 3 rfl rfl tyA44 tyS44 (by first | (simp only [List.length_cons, List.length_nil, Nat.reduceAdd, Nat.zero_add, Nat.add_zero]; first | done | rfl) | rfl) (by first | (simp only [List.take_succ_cons, List.take_zero, List.drop_succ_cons, List.drop_zero, List.cons_append, List.nil_append, List.append_nil, List.length_cons, List.length_nil, Nat.reduceAdd, Nat.zero_add, Nat.add_zero, Value.cells, wrV]; first | done | rfl) | rfl) rfl ?_
      refine sq_on rfl rfl rfl ?_
      refine sq_buildA tyZ44 Try.underlying44 tyS9 rfl rfl (by first | (simp only [List.take_succ_cons, List.take_zero, List.drop_succ_cons, List.drop_zero, List.cons_append, List.nil_append, List.append_nil, List.length_cons, List.length_nil, Nat.reduceAdd, Nat.zero_add, Nat.add_zero, Value.cells, wrV, zrep_one, List.replicate_succ, List.replicate_zero, Nat.reduceMul, Nat.zero_mul]; first | done | rfl) | rfl) rfl ?_
      refine sq_on rfl rfl rfl ?_
      refine sq_aeql (str4_same ⟨[], [], [], []⟩) guard_str4 rfl rfl rfl ?_
      refine sq_pick rfl rfl rfl ?_
      refine sq_move rfl rfl ?_
      refine sq_force 107 rfl true (by first | rfl | (simp [c6]; done)) ?_
      refine sq_on rfl rfl rfl ?_
      first | refine sq_loadA 0 rfl rfl tyA38 tyS38 (by first | (simp only [List.length_cons, List.length_nil, Nat.reduceAdd, Nat.zero_add, Nat.add_zero]; first | done | rfl) | rfl) (by first | (simp only [List.take_succ_cons, List.take_zero, List.drop_succ_cons, List.drop_zero, List.cons_append, List.nil_append, List.append_nil, List.length_cons, List.length_nil, Nat.reduceAdd, Nat.zero_add, Nat.add_zero, Value.cells, wrV]; first | done | rfl) | rfl) rfl ?_ | refine sq_loadA 1 rfl rfl tyA38 tyS38 (by first | (simp only [List.length_cons, List.length_nil, Nat.reduceAdd, Nat.zero_add, Nat.add_zero]; first | done | rfl) | rfl) (by first | (simp only [List.take_succ_cons, List.take_zero, List.drop_succ_cons, List.drop_zero, List.cons_append, List.nil_append, List.append_nil, List.length_cons, List.length_nil, Nat.reduceAdd, Nat.zero_add, Nat.add_zero, Value.cells, wrV]; first | done | rfl) | rfl) rfl ?_ | refine sq_loadA 2 rfl rfl tyA38 tyS38 (by first | (simp only [List.length_cons, List.length_nil, Nat.reduceAdd, Nat.zero_add, Nat.add_zero]; first | done | rfl) | rfl) (by first | (simp only [List.take_succ_cons, List.take_zero, List.drop_succ_cons, List.drop_zero, List.cons_append, List.nil_append, List.append_nil, List.length_cons, List.length_nil, Nat.reduceAdd, Nat.zero_add, Nat.add_zero, Value.cells, wrV]; first | done | rfl) | rfl) rfl ?_ | refine sq_loadA 3 rfl rfl tyA38 tyS38 (by first | (simp only [List.length_cons, List.length_nil, Nat.reduceAdd, Nat.zero_add, Nat.add_zero]; first | done | rfl) | rfl) (by first | (simp only [List.take_succ_cons, List.take_zero, List.drop_succ_cons, List.drop_zero, List.cons_append, List.nil_append, List.append_nil, List.length_cons, List.length_nil, Nat.reduceAdd, Nat.zero_add, Nat.add_zero, Value.cells, wrV]; first | done | rfl) | rfl) rfl ?_
      refine sq_on rfl rfl rfl ?_
      refine sq_buildA tyZ30 Try.underlying30 tyS29 rfl rfl (by first | (simp only [List.take_succ_cons, List.take_zero, List.drop_succ_cons, List.drop_zero, List.cons_append, List.nil_append, List.append_nil, List.length_cons, List.length_nil, Nat.reduceAdd, Nat.zero_add, Nat.add_zero, Value.cells, wrV, zrep_one, List.replicate_succ, List.replicate_zero, Nat.reduceMul, Nat.zero_mul]; first | done | rfl) | rfl) rfl ?_
      refine sq_on rfl rfl rfl ?_
      refine sq_callP (with_fn G 0 0 0 0 0 0 0 0) rfl rfl ?_
      rw [hzz]
      refine sq_on rfl rfl rfl ?_
      first | refine sq_loadA 0 rfl rfl tyA27 tyS27 (by first | (simp only [List.length_cons, List.length_nil, Nat.reduceAdd, Nat.zero_add, Nat.add_zero]; first | done | rfl) | rfl) (by first | (simp only [List.take_succ_cons, List.take_zero, List.drop_succ_cons, List.drop_zero, List.cons_append, List.nil_append, List.append_nil, List.length_cons, List.length_nil, Nat.reduceAdd, Nat.zero_add, Nat.add_zero, Value.cells, wrV]; first | done | rfl) | rfl) rfl ?_ | refine sq_loadA 1 rfl rfl tyA27 tyS27 (by first | (simp only [List.length_cons, List.length_nil, Nat.reduceAdd, Nat.zero_add, Nat.add_zero]; first | done | rfl) | rfl) (by first | (simp only [List.take_succ_cons, List.take_zero, List.drop_succ_cons, List.drop_zero, List.cons_append, List.nil_append, List.append_nil, List.length_cons, List.length_nil, Nat.reduceAdd, Nat.zero_add, Nat.add_zero, Value.cells, wrV]; first | done | rfl) | rfl) rfl ?_ | refine sq_loadA 2 rfl rfl tyA27 tyS27 (by first | (simp only [List.length_cons, List.length_nil, Nat.reduceAdd, Nat.zero_add, Nat.add_zero]; first | done | rfl) | rfl) (by first | (simp only [List.take_succ_cons, List.take_zero, List.drop_succ_cons, List.drop_zero, List.cons_append, List.nil_append, List.append_nil, List.length_cons, List.length_nil, Nat.reduceAdd, Nat.zero_add, Nat.add_zero, Value.cells, wrV]; first | done | rfl) | rfl) rfl ?_ | refine sq_loadA 3 rfl rfl tyA27 tyS27 (by first | (simp only [List.length_cons, List.length_nil, Nat.reduceAdd, Nat.zero_add, Nat.add_zero]; first | done | rfl) | rfl) (by first | (simp only [List.take_succ_cons, List.take_zero, List.drop_succ_cons, List.drop_zero, List.cons_append, List.nil_append, List.append_nil, List.length_cons, List.length_nil, Nat.reduceAdd, Nat.zero_add, Nat.add_zero, Value.cells, wrV]; first | done | rfl) | rfl) rfl ?_
      refine sq_on rfl rfl rfl ?_
      refine sq_callP (own_fn h) rfl rfl ?_
      refine sq_on rfl rfl rfl ?_
      refine sq_buildA tyZ30 Try.underlying30 tyS29 rfl rfl (by first | (simp only [List.take_succ_cons, List.take_zero, List.drop_succ_cons, List.drop_zero, List.cons_append, List.nil_append, List.append_nil, List.length_cons, List.length_nil, Nat.reduceAdd, Nat.zero_add, Nat.add_zero, Value.cells, wrV, zrep_one, List.replicate_succ, List.replicate_zero, Nat.reduceMul, Nat.zero_mul]; first | done | rfl) | rfl) rfl ?_
      refine sq_on rfl rfl rfl ?_
      refine sq_callP (with_fn h 0 0 0 0 0 0 0 0) rfl rfl ?_
      refine sq_on rfl rfl rfl ?_
      refine sq_aeql (hdr_same (withH h 0 0 0 0 0 0 0 0)) guard_hdr rfl rfl rfl ?_
      refine sq_pick rfl rfl rfl ?_
      refine sq_move rfl rfl ?_
      refine sq_force 117 rfl true (by first | rfl | (simp [c6]; done)) ?_
      refine sq_on rfl rfl rfl ?_
      refine sq_callP awake_fn rfl rfl ?_
      refine sq_pick rfl rfl rfl ?_
      refine sq_assign rfl rfl ?_
      refine sq_nil (hZ _ _ ?_ ?_)
      · exact Kn.cons rfl Kn.nil
      · exact HLe.pick [] (by simp) rfl
    refine awp_ret ?_
    repeat (with_reducible (first | refine nx_then_ret ?_ | refine nx_block_ret ?_))
    exact nx_ret1 rfl rfl rfl
set_option maxRecDepth 20000 in
theorem LayoutBack_read {H : Type} {enc : TypeId × Value → H} (w : World) {base : Nat} {v0 v1 v2 : Value} {d0 d1 d2 : DataW H} {p0 p1 p2 : List MemPlace}
    (k0 : Value.okWide Try.prog w .any base 27 v0) (h0 : DataW.Trod enc Try.prog w 0 (fun _ => true) true 27 v0 d0 p0)
    (k1 : Value.okWide Try.prog w .any base 44 v1) (h1 : DataW.Trod enc Try.prog w 0 (fun _ => true) true 44 v1 d1 p1)
    (k2 : Value.okWide Try.prog w .any base 9 v2) (h2 : DataW.Trod enc Try.prog w 0 (fun _ => true) true 9 v2 d2 p2) :
    Calls Try.prog 6 #[v0, v1, v2] w fun e w' => e = .returned (.bool true) ∧ Bel w w' := by
  obtain ⟨h, hk, rfl⟩ := open_hdr k0 h0
  obtain ⟨p, rfl, _⟩ := open_p4 k1 h1
  obtain ⟨s, rfl, _⟩ := ChangeMaps.open_string Try.underlying9 k2 h2
  obtain ⟨l, rfl⟩ := str_of s
  exact (back_fn h hk p l).bel w
namespace layoutBack
open Go.ChangeShapes Go.WideShapes Go.ChangeAt Go.RowKit
theorem own : ownKnob Try.prog.godebug = none := by kernel_rfl
theorem laidOut : laidOutB Try.prog = true := by kernel_rfl
set_option maxRecDepth 100000 in
theorem lifted (os : Os) (started : os.Started) (H : Type) (enc : TypeId × Value → H) :
    ReturnsInHanded {} Try.checked os 6 .any (Rows.layoutBackSpec.pre6 enc Try.prog Try.f6 Rows.layoutBackRow.domain false) (Rows.layoutBackSpec.post enc Try.prog Try.f6 false true false false) := by
  refine returnsInHanded_of_change (C := Try.checked) own started (by kernel_rfl) Try.func6
    (ChangeSpec.witness6 (enc := enc) (C := Try.checked) false ⟨#[], #[zeroH.val, .agg #[.string ⟨#[]⟩, .string ⟨#[]⟩, .string ⟨#[]⟩, .string ⟨#[]⟩], .string ⟨#[]⟩], []⟩ 8 (by kernel_rfl) (by kernel_rfl) (by kernel_rfl) (by kernel_rfl)) ?_
  intro W base args ds gs before hval0 hW hcnd _
  have hval : ∀ (j : Nat) t v, Try.f6.params[j]? = some t → args[j]? = some v → Value.okWide Try.prog W .any base t v := hval0
  have hW' := hW
  obtain ⟨p, q, hA0, hV, rfl, hfz, hnd⟩ := hW
  have hA : DataW.TrodAll enc Try.prog W 0 (fun _ => true) true Try.f6.params.toList args.toList ds p := hA0
  rw [Try.params6] at hA hval
  obtain ⟨v0, vs0, d0, ds0, p0, q0, hargs, rfl, rfl, h0, r0⟩ := trodAll_cons hA
  obtain ⟨v1, vs1, d1, ds1, p1, q1, rfl, rfl, rfl, h1, r1⟩ := trodAll_cons r0
  obtain ⟨v2, vs2, d2, ds2, p2, q2, rfl, rfl, rfl, h2, r2⟩ := trodAll_cons r1
  obtain ⟨rfl, rfl, rfl⟩ := trodAll_nil r2
  obtain rfl : args = #[v0, v1, v2] := by cases args; simp_all
  obtain ⟨rfl, rfl⟩ := trodVars_none hV
  have lt0 : ∀ x ∈ p0, x.block < W.heap.size := by obtain ⟨m, hm⟩ := h0; exact DataW.trod_lt m _ _ _ hm
  have lt1 : ∀ x ∈ p1, x.block < W.heap.size := by obtain ⟨m, hm⟩ := h1; exact DataW.trod_lt m _ _ _ hm
  have lt2 : ∀ x ∈ p2, x.block < W.heap.size := by obtain ⟨m, hm⟩ := h2; exact DataW.trod_lt m _ _ _ hm
  refine (LayoutBack_read W (hval 0 27 v0 rfl rfl) h0 (hval 1 44 v1 rfl rfl) h1 (hval 2 9 v2 rfl rfl) h2).mono fun e W' ⟨he, bel0⟩ => ?_
  have bel : Below W.heap.size W W' := bel0
  subst he
  exact ⟨_, rfl, _, _, _, [], _, [], hW', trodAll_mk1 (shut_bool Try.underlying4 _), (trodAll_cons_mk (Below.trod laidOut (by kernel_rfl) (of_decide_eq_true (by kernel_rfl)) h0 bel lt0) (trodAll_cons_mk (Below.trod laidOut (by kernel_rfl) (of_decide_eq_true (by kernel_rfl)) h1 bel lt1) (trodAll_cons_mk (Below.trod laidOut (by kernel_rfl) (of_decide_eq_true (by kernel_rfl)) h2 bel lt2) trodAll_mk0))), rfl, bel.frame _, fun h => by cases h⟩
theorem over : Rows.layoutBackRow.holds Try.pinned (OpenSpec.ofChange Rows.layoutBackSpec) :=
  OpenClaim.holds_of_wide 6 Try.f6 rfl rfl rfl rfl rfl rfl rfl ⟨rfl, rfl, rfl, rfl, rfl⟩ rfl rfl rfl rfl rfl (by kernel_rfl) Try.func6 (by kernel_rfl)
    (of_decide_eq_true (by kernel_rfl)) (by unfold Func.isWrapper; first | (rw [if_pos (by decide +kernel)]; kernel_rfl) | (rw [if_neg (by decide +kernel)]; exact ⟨rfl, rfl⟩))
    (fun os started H enc _ => lifted os started H enc)
theorem proved : Rows.LayoutBackSaid := over
#print axioms proved
end layoutBack
end Go.Proofs.Ytkcbdidaahgfhaa
