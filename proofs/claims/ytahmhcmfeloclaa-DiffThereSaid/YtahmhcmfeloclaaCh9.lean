/- The walk of the document's Put for charts. Conditions: the lists are not too long. -/
import Derived.Test.YtahmhcmfeloclaaCh8
namespace Go.Proofs.Ytahmhcmfeloclaa
open Go.RowKit
set_option linter.unusedVariables false
set_option linter.unusedSimpArgs false
def rfullQ (k : Nat) (L : List It) : Bool := !(rGet k L).isSome && decide (2048 ≤ L.length)
theorem rdel_len (k : Nat) (L : List It) : (rDel k L).length ≤ L.length := List.length_filter_le _ _
theorem rput_fn (A : Option Addr) (c : Nat) (L : List It) (T : Heap) (hA : ArgOk A L.length) (hT : 0 < L.length → T = roE A (icells L)) (hro : Ro T) (hL : L.length ≤ 100000) (k : Nat) (s : List UInt8) :
    Fn Try.prog 27 [.slice A L.length c, uq k, .string (str s)] T fun v H' => ∃ u, v = .tuple #[u, iq (wrongQ k s (rfullQ k L))] ∧ ((wrongQ k s (rfullQ k L) = 0 ∧ RowOk u (rPut k s L).length ∧ H' = rowE u 58 2 (icells (rPut k s L))) ∨ (wrongQ k s (rfullQ k L) ≠ 0 ∧ u = .slice A L.length c ∧ H' = [])) := by
  refine Fn.enter (N := 72) Try.func27 rfl (by kernel_rfl) rfl (fun w0 => ?_)

  refine awp_seq_region (fun Z hZ => ?_)
  refine sx_assign rfl rfl ?_
  refine sx_assign rfl rfl ?_
  refine sx_nil (hZ _ _ ?_)
  refine awp_forget [(0, _), (1, _), (2, _)] (Kn.cons rfl (Kn.cons rfl (Kn.cons rfl (Kn.nil)))) ?_
  refine awp_seq ?_
  refine awp_seq_region (fun Z hZ => ?_)
  refine sx_move rfl rfl ?_
  first | refine sx_geq rfl rfl rfl ?_ | refine sx_sgeq rfl rfl rfl ?_
  refine sx_nil (hZ _ _ ?_)
  refine awp_forget [(0, _), (1, _), (2, _), (14, _)] (Kn.cons rfl (Kn.cons rfl (Kn.cons rfl (Kn.cons rfl (Kn.nil))))) ?_
  first | refine awp_cond rfl (fun h => ?_) (fun h => ?_) | refine awp_seq (awp_cond rfl (fun h => ?_) (fun h => ?_))
  · have h' : 6004799503160661 ≤ k := by simp at h; omega
    have hw : wrongQ k s (rfullQ k L) = 8 := by unfold wrongQ; rw [if_pos h']
    rw [hw]
    refine awp_seq_region (fun Z hZ => ?_)
    refine sx_move rfl rfl ?_
    refine sx_assign rfl rfl ?_
    refine sx_assign rfl rfl ?_
    refine sx_nil (hZ _ _ ?_)
    refine awp_forget [(6, _), (7, _)] (Kn.cons rfl (Kn.cons rfl (Kn.nil))) ?_
    refine awp_ret ?_
    repeat (with_reducible (first | refine nx_then_ret ?_ | refine nx_block_ret ?_ | refine nx_scope_ret ?_))
    exact nx_ret2h [] rfl rfl rfl (HLe.sub (List.nil_sublist _)) ⟨_, rfl, .inr ⟨by decide, rfl, rfl⟩⟩
  have h' : ¬ 6004799503160661 ≤ k := by simp at h; omega
  refine awp_skip ?_
  repeat (with_reducible (first | refine nx_block_normal ?_ | refine nx_scope_normal ?_))
  with_reducible first | refine nx_normal ?_ | refine nx_normalM ?_
  refine awp_seq ?_
  refine awp_seq_region (fun Z hZ => ?_)
  refine sx_move rfl rfl ?_
  first | refine sx_len Try.underlying9 rfl rfl ?_ | refine sx_lenS Try.underlying9 rfl rfl ?_
  first | refine sx_eql rfl rfl rfl ?_ | refine sx_seql rfl rfl rfl ?_
  refine sx_nil (hZ _ _ ?_)
  refine awp_forget [(0, _), (1, _), (2, _), (18, _)] (Kn.cons rfl (Kn.cons rfl (Kn.cons rfl (Kn.cons rfl (Kn.nil))))) ?_
  first | refine awp_cond rfl (fun h1 => ?_) (fun h1 => ?_) | refine awp_seq (awp_cond rfl (fun h1 => ?_) (fun h1 => ?_))
  · have h1' : s = [] := by simpa using h1
    have hw : wrongQ k s (rfullQ k L) = 2 := by unfold wrongQ; rw [if_neg h', if_pos h1']
    rw [hw]
    refine awp_seq_region (fun Z hZ => ?_)
    refine sx_move rfl rfl ?_
    refine sx_assign rfl rfl ?_
    refine sx_assign rfl rfl ?_
    refine sx_nil (hZ _ _ ?_)
    refine awp_forget [(6, _), (7, _)] (Kn.cons rfl (Kn.cons rfl (Kn.nil))) ?_
    refine awp_ret ?_
    repeat (with_reducible (first | refine nx_then_ret ?_ | refine nx_block_ret ?_ | refine nx_scope_ret ?_))
    exact nx_ret2h [] rfl rfl rfl (HLe.sub (List.nil_sublist _)) ⟨_, rfl, .inr ⟨by decide, rfl, rfl⟩⟩
  have h1' : ¬ s = [] := by simpa using h1
  refine awp_skip ?_
  repeat (with_reducible (first | refine nx_block_normal ?_ | refine nx_scope_normal ?_))
  with_reducible first | refine nx_normal ?_ | refine nx_normalM ?_
  refine awp_seq ?_
  refine awp_seq_region (fun Z hZ => ?_)
  refine sx_move rfl rfl ?_
  first | refine sx_len Try.underlying9 rfl rfl ?_ | refine sx_lenS Try.underlying9 rfl rfl ?_
  first | refine sx_gtr rfl rfl rfl ?_ | refine sx_sgtr rfl rfl rfl ?_
  refine sx_nil (hZ _ _ ?_)
  refine awp_forget [(0, _), (1, _), (2, _), (22, _)] (Kn.cons rfl (Kn.cons rfl (Kn.cons rfl (Kn.cons rfl (Kn.nil))))) ?_
  first | refine awp_cond rfl (fun h2 => ?_) (fun h2 => ?_) | refine awp_seq (awp_cond rfl (fun h2 => ?_) (fun h2 => ?_))
  · have h2' : 65536 < s.length := by simp at h2; omega
    have hw : wrongQ k s (rfullQ k L) = 5 := by unfold wrongQ; rw [if_neg h', if_neg h1', if_pos h2']
    rw [hw]
    refine awp_seq_region (fun Z hZ => ?_)
    refine sx_move rfl rfl ?_
    refine sx_assign rfl rfl ?_
    refine sx_assign rfl rfl ?_
    refine sx_nil (hZ _ _ ?_)
    refine awp_forget [(6, _), (7, _)] (Kn.cons rfl (Kn.cons rfl (Kn.nil))) ?_
    refine awp_ret ?_
    repeat (with_reducible (first | refine nx_then_ret ?_ | refine nx_block_ret ?_ | refine nx_scope_ret ?_))
    exact nx_ret2h [] rfl rfl rfl (HLe.sub (List.nil_sublist _)) ⟨_, rfl, .inr ⟨by decide, rfl, rfl⟩⟩
  have h2' : ¬ 65536 < s.length := by simp at h2; omega
  refine awp_skip ?_
  repeat (with_reducible (first | refine nx_block_normal ?_ | refine nx_scope_normal ?_))
  with_reducible first | refine nx_normal ?_ | refine nx_normalM ?_
  refine awp_seq_region (fun Z hZ => ?_)
  refine sx_move rfl rfl ?_
  refine sx_move rfl rfl ?_
  refine sx_callPT T (rget_fn A c L T hA hT (by omega) k) rfl (List.Sublist.refl _) hro rfl ?_
  refine sx_move rfl rfl ?_
  refine sx_extract rfl rfl rfl ?_
  refine sx_extract rfl rfl rfl ?_
  refine sx_assign rfl rfl ?_
  refine sx_assign rfl rfl ?_
  refine sx_nil (hZ _ _ ?_)
  refine awp_forget [(0, _), (1, _), (2, _), (9, _)] (Kn.cons rfl (Kn.cons rfl (Kn.cons rfl (Kn.cons rfl (Kn.nil))))) ?_
  refine awp_seq ?_
  refine awp_seq_meet [(0, .slice A L.length c), (1, uq k), (2, .string (str s)), (36, .bool (rfullQ k L))] T (fun Z hZ => ?_) ?_
  · refine sx_move rfl rfl ?_
    refine sx_not rfl rfl ?_
    refine sx_move rfl rfl ?_
    refine sx_split 32 rfl (fun hb2 => ?_) (fun hb2 => ?_)
    · refine sx_on rfl rfl rfl ?_
      refine sx_move rfl rfl ?_
      refine sx_on rfl rfl rfl ?_
      first | refine sx_len Try.underlying22 rfl rfl ?_ | refine sx_lenS Try.underlying22 rfl rfl ?_
      refine sx_on rfl rfl rfl ?_
      first | refine sx_geq rfl rfl rfl ?_ | refine sx_sgeq rfl rfl rfl ?_
      refine sx_pick rfl rfl rfl ?_
      refine sx_nil (hZ _ _ ?_ ?_)
      · exact Kn.cons rfl (Kn.cons rfl (Kn.cons rfl (Kn.cons (congrArg some (congrArg Value.bool (by unfold rfullQ; simp at hb2; rw [hb2, Bool.eq_iff_iff]; first | (simp; done) | (simp; omega)))) Kn.nil)))
      · exact HLe.refl _
    · refine sx_off rfl rfl rfl rfl rfl ?_
      refine sx_off rfl rfl rfl rfl rfl ?_
      refine sx_off rfl rfl rfl rfl rfl ?_
      refine sx_pick rfl rfl rfl ?_
      refine sx_nil (hZ _ _ ?_ ?_)
      · exact Kn.cons rfl (Kn.cons rfl (Kn.cons rfl (Kn.cons (congrArg some (congrArg Value.bool (by unfold rfullQ; simp at hb2; rw [hb2, Bool.eq_iff_iff]; first | (simp; done) | (simp; omega)))) Kn.nil)))
      · exact HLe.refl _
  first | refine awp_cond rfl (fun h3 => ?_) (fun h3 => ?_) | refine awp_seq (awp_cond rfl (fun h3 => ?_) (fun h3 => ?_))
  · have hw : wrongQ k s (rfullQ k L) = 7 := by unfold wrongQ; rw [if_neg h', if_neg h1', if_neg h2', if_pos h3]
    rw [hw]
    refine awp_seq_region (fun Z hZ => ?_)
    refine sx_move rfl rfl ?_
    refine sx_assign rfl rfl ?_
    refine sx_assign rfl rfl ?_
    refine sx_nil (hZ _ _ ?_)
    refine awp_forget [(6, _), (7, _)] (Kn.cons rfl (Kn.cons rfl (Kn.nil))) ?_
    refine awp_ret ?_
    repeat (with_reducible (first | refine nx_then_ret ?_ | refine nx_block_ret ?_ | refine nx_scope_ret ?_))
    exact nx_ret2h [] rfl rfl rfl (HLe.sub (List.nil_sublist _)) ⟨_, rfl, .inr ⟨by decide, rfl, rfl⟩⟩
  have hw : wrongQ k s (rfullQ k L) = 0 := by unfold wrongQ; rw [if_neg h', if_neg h1', if_neg h2', h3]; rfl
  rw [hw]
  have hdl := rdel_len k L
  obtain ⟨D, hD⟩ : ∃ D, rDel k L = D := ⟨_, rfl⟩
  have hpt : rPut k s L = D.take (cLo k D) ++ ⟨k, s⟩ :: D.drop (cLo k D) := by unfold rPut; rw [hD]
  have hdf := rdel_fn A c L T hA hT hro hL k
  rw [hD] at hdl hdf
  rw [hpt]
  obtain ⟨f1, f2, f3⟩ := cLo_facts k D
  refine awp_skip ?_
  repeat (with_reducible (first | refine nx_block_normal ?_ | refine nx_scope_normal ?_))
  with_reducible first | refine nx_normal ?_ | refine nx_normalM ?_
  refine awp_seq_region (fun Z hZ => ?_)
  refine sx_move rfl rfl ?_
  refine sx_move rfl rfl ?_
  refine sx_callI T hdf rfl (List.Sublist.refl _) hro rfl (fun A1 c1 hA1 => ?_)
  refine sx_assign rfl rfl ?_
  refine sx_nil (hZ _ _ ?_)
  refine awp_forget [(1, _), (2, _), (10, _)] (Kn.cons rfl (Kn.cons rfl (Kn.cons rfl (Kn.nil)))) ?_
  refine awp_heap (roE A1 (icells D)) (HLe.sub (List.sublist_append_left _ _)) ?_
  refine awp_seq_region (fun Z hZ => ?_)
  refine sx_assign rfl rfl ?_
  refine sx_nil (hZ _ _ ?_)
  refine awp_forget [(1, _), (2, _), (10, _), (11, _)] (Kn.cons rfl (Kn.cons rfl (Kn.cons rfl (Kn.cons rfl (Kn.nil))))) ?_
  refine awp_cut (ι := Unit) (fun _ => [(1, uq k), (2, .string (str s)), (10, .slice A1 D.length c1), (11, iq (cLo k D : Nat))]) (fun _ => roE A1 (icells D)) (fun _ => True) ?_ ?_
  · refine awp_block ?_
    refine awp_loop (ι := Nat) (fun i => [(1, uq k), (2, .string (str s)), (10, .slice A1 D.length c1), (11, iq (i : Nat))]) (fun _ => roE A1 (icells D))
      (fun i => i ≤ D.length ∧ ∀ j, j < i → (itAt D j).id < k) (fun i => D.length - i) 0 ⟨by simp, fun j hj => by omega⟩ (Kn.cons rfl (Kn.cons rfl (Kn.cons rfl (Kn.cons rfl Kn.nil)))) (HLe.refl _) ?_
    rintro i ⟨hi, hj⟩
    rcases Nat.lt_or_ge i D.length with hlt | hge
    · have hx := itAt_at hlt
      obtain ⟨g, o, rfl⟩ := hA1.arg (by omega)
      refine awp_heap [.ro g o (icells D)] (HLe.refl _) ?_

      refine awp_seq ?_
      refine awp_seq_meet [(1, uq k), (2, .string (str s)), (10, .slice (some ⟨g, o, none⟩) D.length c1), (11, iq (i : Nat)), (53, .bool (decide ((itAt D i).id < k)))] [.ro g o (icells D)] (fun Z hZ => ?_) ?_
      · refine sx_move rfl rfl ?_
        refine sx_move rfl rfl ?_
        first | refine sx_len Try.underlying22 rfl rfl ?_ | refine sx_lenS Try.underlying22 rfl rfl ?_
        first | refine sx_lss rfl rfl rfl ?_ | refine sx_slss rfl rfl rfl ?_
        refine sx_move rfl rfl ?_
        refine sx_force 45 rfl true (by simpa using hlt) ?_
        refine sx_on rfl rfl rfl ?_
        refine sx_move rfl rfl ?_
        refine sx_on rfl rfl rfl ?_
        refine sx_move rfl rfl ?_
        refine sx_on rfl rfl rfl ?_
        refine sx_indexAddr (o + i * 2) Try.underlying22 tyS58 rfl rfl (by omega) (by simp) rfl ?_
        refine sx_on rfl rfl rfl ?_
        refine sx_fieldAddr rfl tyF58_0 (by first | (simp only [Nat.reduceAdd, Nat.add_zero, Nat.zero_add]; first | done | rfl) | rfl) rfl ?_
        refine sx_on rfl rfl rfl ?_
        refine sx_loadRo 0 rfl rfl (i * 2) rfl tyA51 tyS51 (icells_id hx) rfl ?_
        refine sx_on rfl rfl rfl ?_
        refine sx_move rfl rfl ?_
        refine sx_on rfl rfl rfl ?_
        first | refine sx_lss rfl rfl rfl ?_ | refine sx_slss rfl rfl rfl ?_
        refine sx_pick rfl rfl rfl ?_
        refine sx_nil (hZ _ _ ?_ ?_)
        · exact Kn.cons rfl (Kn.cons rfl (Kn.cons rfl (Kn.cons rfl (Kn.cons (congrArg some (congrArg Value.bool (by first | rfl | (simp; done) | (rw [Bool.eq_iff_iff]; simp)))) Kn.nil))))
        · exact HLe.refl _
      first | refine awp_cond rfl (fun h4 => ?_) (fun h4 => ?_) | refine awp_seq (awp_cond rfl (fun h4 => ?_) (fun h4 => ?_))
      · have h4' : (itAt D i).id < k := by simpa using h4
        refine awp_skip ?_
        repeat (with_reducible (first | refine nx_block_normal ?_ | refine nx_scope_normal ?_))
        with_reducible first | refine nx_normal ?_ | refine nx_normalM ?_
        refine awp_block ?_
        refine awp_region (fun Z hZ => ?_)
        refine sx_move rfl rfl ?_
        refine sx_add rfl rfl ((i + 1 : Nat) : Int) (by rw [IntWalk.i64_in _ (by omega)]; omega) rfl ?_
        refine sx_assign rfl rfl ?_
        refine sx_nil (hZ _ _ ?_)
        refine nx_forget [(1, _), (2, _), (10, _), (11, _)] (Kn.cons rfl (Kn.cons rfl (Kn.cons rfl (Kn.cons rfl (Kn.nil))))) ?_
        repeat (with_reducible refine nx_block_normal ?_)
        refine nx_round (i + 1) ⟨by omega, fun j hj2 => ?_⟩ (by omega) (Kn.cons rfl (Kn.cons rfl (Kn.cons rfl (Kn.cons rfl Kn.nil)))) (HLe.refl _)
        rcases Nat.lt_or_ge j i with h5 | h5
        · exact hj j h5
        · obtain rfl : j = i := by omega
          exact h4'
      · have h4' : ¬ (itAt D i).id < k := by simpa using h4
        have he := cLo_eq k D i hi hj (fun _ => by omega)
        refine awp_exit ?_
        repeat (with_reducible (first | refine nx_then_exit ?_ | refine nx_block_other (by decide) ?_ | refine nx_scope_exit ?_))
        with_reducible refine nx_block_exit ?_
        repeat (with_reducible (first | refine nx_block_normal ?_ | refine nx_scope_normal ?_))
        exact nx_cut () trivial (Kn.cons rfl (Kn.cons rfl (Kn.cons rfl (Kn.cons (by rw [he]; rfl) Kn.nil)))) (HLe.refl _)
    · have he := cLo_eq k D i hi hj (fun h => by omega)

      refine awp_seq ?_
      refine awp_seq_meet [(1, uq k), (2, .string (str s)), (10, .slice A1 D.length c1), (11, iq (i : Nat)), (53, .bool false)] (roE A1 (icells D)) (fun Z hZ => ?_) ?_
      · refine sx_move rfl rfl ?_
        refine sx_move rfl rfl ?_
        first | refine sx_len Try.underlying22 rfl rfl ?_ | refine sx_lenS Try.underlying22 rfl rfl ?_
        first | refine sx_lss rfl rfl rfl ?_ | refine sx_slss rfl rfl rfl ?_
        refine sx_move rfl rfl ?_
        refine sx_force 45 rfl false (by simpa using hge) ?_
        refine sx_off rfl rfl rfl rfl rfl ?_
        refine sx_off rfl rfl rfl rfl rfl ?_
        refine sx_off rfl rfl rfl rfl rfl ?_
        refine sx_off rfl rfl rfl rfl rfl ?_
        refine sx_off rfl rfl rfl rfl rfl ?_
        refine sx_off rfl rfl rfl rfl rfl ?_
        refine sx_off rfl rfl rfl rfl rfl ?_
        refine sx_pick rfl rfl rfl ?_
        refine sx_nil (hZ _ _ ?_ ?_)
        · exact Kn.cons rfl (Kn.cons rfl (Kn.cons rfl (Kn.cons rfl (Kn.cons rfl Kn.nil))))
        · exact HLe.refl _
      first | refine awp_cond rfl (fun h4 => ?_) (fun h4 => ?_) | refine awp_seq (awp_cond rfl (fun h4 => ?_) (fun h4 => ?_))
      · cases h4
      · refine awp_exit ?_
        repeat (with_reducible (first | refine nx_then_exit ?_ | refine nx_block_other (by decide) ?_ | refine nx_scope_exit ?_))
        with_reducible refine nx_block_exit ?_
        repeat (with_reducible (first | refine nx_block_normal ?_ | refine nx_scope_normal ?_))
        exact nx_cut () trivial (Kn.cons rfl (Kn.cons rfl (Kn.cons rfl (Kn.cons (by rw [he]; rfl) Kn.nil)))) (HLe.refl _)
  rintro ⟨⟩ -
  obtain ⟨p, hp⟩ : ∃ p, cLo k D = p := ⟨_, rfl⟩
  rw [hp] at f1 ⊢
  have hcap := hA1.cap
  have hrd : ∀ w0 Wr w, Sat w0 Wr (roE A1 (icells D)) w → Rd w 2 A1 D.length (icells D) := fun w0 Wr w hw => rd_arg hA1.arg (fun _ => rfl) (icells_len D) hA1.nil (HLe.refl _) hw
  refine awp_seq_region (fun Z hZ => ?_)
  refine sx_assign rfl rfl ?_
  refine sx_nil (hZ _ _ ?_)
  refine awp_forget [(1, _), (2, _), (10, _), (11, _), (12, _)] (Kn.cons rfl (Kn.cons rfl (Kn.cons rfl (Kn.cons rfl (Kn.cons rfl (Kn.nil)))))) ?_
  refine awp_seq_region (fun Z hZ => ?_)
  refine sx_move rfl rfl ?_
  refine sx_move rfl rfl ?_
  refine sx_move rfl rfl ?_
  refine sx_part (i := 0) (j := p) Try.underlying22 tyS58 hA1 rfl rfl rfl (by omega) (by omega) rfl (fun A2 hA2 ht2 => ?_)
  refine sx_appendE (v := .slice none 0 0) (xs := []) (roE A1 (icells D)) elemItR rfl RowOk.nil rfl rfl (fun w hw => rd_part (hrd _ _ _ hw) hA1 (Nat.zero_le p) f1 ht2 hA2) (icells_one _) (by show _ ≤ 9223372036854775807; omega) (by omega) (by rw [show rowE (.slice none 0 0) 58 2 [] = [] from rfl, List.append_nil]; exact HLe.refl _) rfl (fun v1 hv1 => ?_)
  rw [List.drop_zero, Nat.sub_zero, List.nil_append]
  rw [Nat.sub_zero, Nat.zero_add] at hv1
  refine sx_assign rfl rfl ?_
  refine sx_nil (hZ _ _ ?_)
  refine awp_forget [(1, _), (2, _), (10, _), (11, _), (12, _)] (Kn.cons rfl (Kn.cons rfl (Kn.cons rfl (Kn.cons rfl (Kn.cons rfl (Kn.nil)))))) ?_
  refine awp_seq_region (fun Z hZ => ?_)
  refine sx_move rfl rfl ?_
  refine sx_move rfl rfl ?_
  refine sx_move rfl rfl ?_
  refine sx_build tyZ58 tyP58 rfl rfl (by first | (simp only [List.take_succ_cons, List.take_zero, List.drop_succ_cons, List.drop_zero, List.cons_append, List.nil_append, List.append_nil, List.length_cons, List.length_nil, Nat.reduceAdd, Nat.zero_add, Nat.add_zero, Value.cells, wrV, zrep_one, List.replicate_succ, List.replicate_zero, Nat.reduceMul, Nat.zero_mul]; first | done | rfl) | rfl) rfl ?_
  refine sx_buildSlice Try.underlying22 tyS58 tyZ58 rfl rfl rfl rfl (by first | (simp only [List.take_succ_cons, List.take_zero, List.drop_succ_cons, List.drop_zero, List.cons_append, List.nil_append, List.append_nil, List.length_cons, List.length_nil, Nat.reduceAdd, Nat.zero_add, Nat.add_zero, Value.cells, wrV, zrep_one, List.replicate_succ, List.replicate_zero, Nat.reduceMul, Nat.zero_mul]; first | done | rfl) | rfl) rfl (fun g1 => ?_)
  refine sx_appendE (_ :: roE A1 (icells D)) elemItR rfl hv1 (by rw [icells_len, List.length_take]; omega) rfl (fun w hw => rd_own (i := 0) (n := 1) (xs := [uq k, .string (str s)]) rfl rfl hw) rfl (by show _ ≤ 9223372036854775807; omega) (by omega) (HLe.refl _) rfl (fun v2 hv2 => ?_)
  refine sx_assign rfl rfl ?_
  refine sx_nil (hZ _ _ ?_)
  refine awp_forget [(10, _), (11, _), (12, _)] (Kn.cons rfl (Kn.cons rfl (Kn.cons rfl (Kn.nil)))) ?_
  refine awp_seq_region (fun Z hZ => ?_)
  refine sx_move rfl rfl ?_
  refine sx_move rfl rfl ?_
  refine sx_move rfl rfl ?_
  refine sx_part (i := p) (j := D.length) Try.underlying22 tyS58 hA1 rfl rfl rfl (by omega) (by omega) rfl (fun A3 hA3 ht3 => ?_)
  refine sx_appendE (_ :: roE A1 (icells D)) elemItR rfl hv2 (by rw [List.length_append, icells_len, List.length_take]; simp; omega) rfl (fun w hw => rd_part (hrd _ _ _ (hw.sub ((List.sublist_cons_self _ _).trans (List.sublist_append_left (_ :: roE A1 (icells D)) _)))) hA1 f1 (Nat.le_refl _) ht3 hA3) (icells_one _) (by show _ ≤ 9223372036854775807; omega) (by omega) (HLe.refl _) rfl (fun v3 hv3 => ?_)
  refine sx_assign rfl rfl ?_
  refine sx_assign rfl rfl ?_
  refine sx_nil (hZ _ _ ?_)
  refine awp_forget [(6, _), (7, _)] (Kn.cons rfl (Kn.cons rfl (Kn.nil))) ?_
  refine awp_ret ?_
  repeat (with_reducible (first | refine nx_then_ret ?_ | refine nx_block_ret ?_ | refine nx_scope_ret ?_))
  have hll : (D.take p ++ ⟨k, s⟩ :: D.drop p).length = p + 1 + (D.length - p) := by
    rw [List.length_append, List.length_take, List.length_cons, List.length_drop]
    omega
  refine nx_ret2h _ rfl rfl rfl (HLe.sub (List.sublist_append_right (_ :: roE A1 (icells D)) _)) ⟨_, rfl, .inl ⟨rfl, by rw [hll]; exact hv3, ?_⟩⟩
  rw [List.take_of_length_le (show (D.drop p).length ≤ D.length - p by rw [List.length_drop]; exact Nat.le_refl _)]
  simp only [icells, List.flatMap_append, List.flatMap_cons, List.append_assoc, It.cells, List.cons_append, List.nil_append]
end Go.Proofs.Ytahmhcmfeloclaa
