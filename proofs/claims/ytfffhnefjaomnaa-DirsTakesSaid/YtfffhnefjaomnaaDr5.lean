/- The walks of the document's answer for directories: text, Encode and Size. Conditions: the lists are not too long. -/
import Derived.Test.YtfffhnefjaomnaaDr4
namespace Go.Proofs.Ytfffhnefjaomnaa
open Go.RowKit
set_option linter.unusedVariables false
set_option linter.unusedSimpArgs false
def colB (L : List En) (c k : Nat) : List UInt8 := allB ((colQ L c).take k)
theorem colB_succ {L : List En} {c k : Nat} (h : k < L.length) : colB L c (k + 1) = colB L c k ++ vb (numQ c k (prevE L k) (atE L k)) := by
  unfold colB
  have hk : k < (colQ L c).length := by rw [colQ_len]; exact h
  rw [allB_take hk, (List.getElem?_eq_some_iff.1 (colQ_at (c := c) h)).2]
theorem colB_len {L : List En} {c k : Nat} (hE : EnsOk L) (hk : k ≤ L.length) : (colB L c k).length ≤ 10 * k := by
  have h := allB_len (xs := (colQ L c).take k) fun x hx => by
    obtain ⟨i, _, rfl⟩ := List.mem_map.1 (List.mem_of_mem_take hx)
    exact numQ_lt (atE_ok hE i)
  rw [List.length_take, colQ_len, Nat.min_eq_left hk] at h
  exact h
theorem numsQ_cols (L : List En) : allB (numsQ L) = vb L.length ++ colB L 0 L.length ++ colB L 1 L.length ++ colB L 2 L.length ++ colB L 3 L.length := by
  have key : ∀ c, (colQ L c).take L.length = colQ L c := fun c => List.take_of_length_le (by rw [colQ_len]; omega)
  simp only [colB, key, numsQ, allB, List.flatMap_cons, List.flatMap_append, List.append_assoc]
theorem numQ_0 (i : Nat) (a e : En) : numQ 0 i a e = (e.id + 18446744073709551616 - a.id) % 18446744073709551616 := by unfold numQ; rw [if_pos rfl]
theorem numQ_1 (i : Nat) (a e : En) : numQ 1 i a e = e.run := by unfold numQ; rw [if_neg (by decide), if_pos rfl]
theorem numQ_2 (i : Nat) (a e : En) : numQ 2 i a e = e.len := by unfold numQ; rw [if_neg (by decide), if_neg (by decide), if_pos rfl]
theorem numQ_3 (i : Nat) (a e : En) : numQ 3 i a e = if 0 < i ∧ e.off = a.next then 0 else (e.off + 1) % 18446744073709551616 := by unfold numQ; rw [if_neg (by decide), if_neg (by decide), if_neg (by decide)]
theorem rtext_fn (A : Option Addr) (c : Nat) (L : List En) (T : Heap) (hA : ArgOk A L.length) (hT : 0 < L.length → T = roE A (ecells L)) (hro : Ro T) (hL : L.length ≤ 10000) (hE : EnsOk L) :
    Fn Try.prog 25 [.slice A L.length c] T fun v _ => v = .string (str (allB (numsQ L))) := by
  refine Fn.enter (N := 101) Try.func25 rfl (by kernel_rfl) rfl (fun w0 => ?_)

  refine awp_seq_region (fun Z hZ => ?_)
  refine sx_assign rfl rfl ?_
  refine sx_nil (hZ _ _ ?_)
  refine awp_forget [(0, _)] (Kn.cons rfl (Kn.nil)) ?_
  refine awp_seq_region (fun Z hZ => ?_)
  refine sx_assign rfl rfl ?_
  refine sx_assign rfl rfl ?_
  refine sx_assign rfl rfl ?_
  refine sx_assign rfl rfl ?_
  refine sx_nil (hZ _ _ ?_)
  refine awp_forget [(0, _), (3, _), (4, _), (5, _), (6, _)] (Kn.cons rfl (Kn.cons rfl (Kn.cons rfl (Kn.cons rfl (Kn.cons rfl (Kn.nil)))))) ?_
  refine awp_seq ?_
  refine awp_seq_region (fun Z hZ => ?_)
  refine sx_assign rfl rfl ?_
  refine sx_nil (hZ _ _ ?_)
  refine awp_forget [(0, _), (3, _), (4, _), (5, _), (6, _), (7, _)] (Kn.cons rfl (Kn.cons rfl (Kn.cons rfl (Kn.cons rfl (Kn.cons rfl (Kn.cons rfl (Kn.nil))))))) ?_
  refine awp_block ?_
  refine awp_loop (ι := Nat) (fun k => [(0, .slice A L.length c), (3, .string (str (colB L 0 k))), (4, .string (str (colB L 1 k))), (5, .string (str (colB L 2 k))), (6, .string (str (colB L 3 k))), (7, iq (k : Nat))]) (fun _ => T)
    (fun k => k ≤ L.length) (fun k => L.length - k) 0 (by omega) (Kn.cons rfl (Kn.cons rfl (Kn.cons rfl (Kn.cons rfl (Kn.cons rfl (Kn.cons rfl Kn.nil)))))) (HLe.refl _) ?_
  intro k hk
  have l0 := colB_len (c := 0) hE hk
  have l1 := colB_len (c := 1) hE hk
  have l2 := colB_len (c := 2) hE hk
  have l3 := colB_len (c := 3) hE hk
  refine awp_seq ?_
  refine awp_seq_region (fun Z hZ => ?_)
  refine sx_move rfl rfl ?_
  refine sx_move rfl rfl ?_
  first | refine sx_len Try.underlying22 rfl rfl ?_ | refine sx_lenS Try.underlying22 rfl rfl ?_
  first | refine sx_lss rfl rfl rfl ?_ | refine sx_slss rfl rfl rfl ?_
  refine sx_nil (hZ _ _ ?_)
  refine awp_forget [(0, _), (3, _), (4, _), (5, _), (6, _), (7, _), (13, _)] (Kn.cons rfl (Kn.cons rfl (Kn.cons rfl (Kn.cons rfl (Kn.cons rfl (Kn.cons rfl (Kn.cons rfl (Kn.nil)))))))) ?_
  first | refine awp_cond rfl (fun h => ?_) (fun h => ?_) | refine awp_seq (awp_cond rfl (fun h => ?_) (fun h => ?_))
  · have hlt : k < L.length := by simpa using h
    have hx := atE_at hlt
    have hxo := atE_ok hE k
    have hpo := prevE_ok hE k
    have n0 := vb_len10 (numQ_lt (c := 0) (i := k) (a := prevE L k) hxo)
    have n1 := vb_len10 (numQ_lt (c := 1) (i := k) (a := prevE L k) hxo)
    have n2 := vb_len10 (numQ_lt (c := 2) (i := k) (a := prevE L k) hxo)
    have n3 := vb_len10 (numQ_lt (c := 3) (i := k) (a := prevE L k) hxo)
    have m0 := numQ_lt (c := 0) (i := k) (a := prevE L k) hxo
    have e0 := colB_succ (c := 0) hlt
    have e1 := colB_succ (c := 1) hlt
    have e2 := colB_succ (c := 2) hlt
    have e3 := colB_succ (c := 3) hlt
    have hpl : 0 < k → L[k - 1]? = some (prevE L k) := fun h0 => by rw [atE_at (show k - 1 < L.length by omega)]; simp [prevE, atE, Nat.ne_of_gt h0]
    have hp0 : k = 0 → prevE L k = zeroEn := fun h0 => by simp [prevE, h0]
    obtain ⟨x, hxe⟩ : ∃ x, atE L k = x := ⟨_, rfl⟩
    obtain ⟨p, hpe⟩ : ∃ p, prevE L k = p := ⟨_, rfl⟩
    rw [hxe, hpe] at e0 e1 e2 e3 n0 n1 n2 n3
    rw [hxe, hpe] at m0
    rw [hxe] at hx hxo
    rw [hpe] at hpl hp0 hpo
    obtain ⟨x1, x2, x3, x4⟩ := hxo
    obtain ⟨p1, p2, p3, p4⟩ := hpo
    rw [numQ_0] at e0 n0 m0
    rw [numQ_1] at e1 n1
    rw [numQ_2] at e2 n2
    have c0 : rdV false 1 (ecells L) (k * 4) = some (uq x.id) := by have := fm_rd1 (j := 0) en_len hx rfl; simpa using this
    have c1 : rdV false 1 (ecells L) (k * 4 + 1) = some (uq x.off) := fm_rd1 (j := 1) en_len hx rfl
    have c2 : rdV false 1 (ecells L) (k * 4 + 2) = some (wq4 x.len) := fm_rd1 (j := 2) en_len hx rfl
    have c3 : rdV false 1 (ecells L) (k * 4 + 3) = some (wq4 x.run) := fm_rd1 (j := 3) en_len hx rfl
    obtain ⟨g, o, rfl⟩ := hA (by omega)
    obtain rfl := hT (by omega)
    refine awp_skip ?_
    repeat (with_reducible (first | refine nx_block_normal ?_ | refine nx_scope_normal ?_))
    with_reducible first | refine nx_normal ?_ | refine nx_normalM ?_
    refine awp_seq (awp_block ?_)

    refine awp_seq_region (fun Z hZ => ?_)
    refine sx_assign rfl rfl ?_
    refine sx_assign rfl rfl ?_
    refine sx_nil (hZ _ _ ?_)
    refine awp_forget [(0, _), (3, _), (4, _), (5, _), (6, _), (7, _), (8, _), (9, _)] (Kn.cons rfl (Kn.cons rfl (Kn.cons rfl (Kn.cons rfl (Kn.cons rfl (Kn.cons rfl (Kn.cons rfl (Kn.cons rfl (Kn.nil))))))))) ?_
    refine awp_cut (ι := Unit) (fun _ => [(0, .slice (some ⟨g, o, none⟩) L.length c), (3, .string (str (colB L 0 k))), (4, .string (str (colB L 1 k))), (5, .string (str (colB L 2 k))), (6, .string (str (colB L 3 k))), (7, iq (k : Nat)), (8, uq p.id), (9, uq p.next)]) (fun _ => [.ro g o (ecells L)]) (fun _ => True) ?_ ?_
    · refine awp_seq_region (fun Z hZ => ?_)
      refine sx_move rfl rfl ?_
      first | refine sx_gtr rfl rfl rfl ?_ | refine sx_sgtr rfl rfl rfl ?_
      refine sx_nil (hZ _ _ ?_)
      refine awp_forget [(0, _), (3, _), (4, _), (5, _), (6, _), (7, _), (8, _), (9, _), (17, _)] (Kn.cons rfl (Kn.cons rfl (Kn.cons rfl (Kn.cons rfl (Kn.cons rfl (Kn.cons rfl (Kn.cons rfl (Kn.cons rfl (Kn.cons rfl (Kn.nil)))))))))) ?_
      first | refine awp_cond rfl (fun hp => ?_) (fun hp => ?_) | refine awp_seq (awp_cond rfl (fun hp => ?_) (fun hp => ?_))
      · have hkp : 0 < k := by simpa using hp
        have hpx := hpl hkp
        have q0 : rdV false 1 (ecells L) ((k - 1) * 4) = some (uq p.id) := by have := fm_rd1 (j := 0) en_len hpx rfl; simpa using this
        have q1 : rdV false 1 (ecells L) ((k - 1) * 4 + 1) = some (uq p.off) := fm_rd1 (j := 1) en_len hpx rfl
        have q2 : rdV false 1 (ecells L) ((k - 1) * 4 + 2) = some (wq4 p.len) := fm_rd1 (j := 2) en_len hpx rfl
        refine awq_region mixed (by kernel_rfl) (fun Z hZ => ?_)
        refine sq_move rfl rfl ?_
        refine sq_move rfl rfl ?_
        refine sq_sub rfl rfl ((k - 1 : Nat) : Int) (by rw [IntWalk.i64_in _ (by omega)]; omega) rfl ?_
        refine sq_indexAddr (o + (k - 1) * 4) Try.underlying22 tyS61 rfl rfl (by omega) (by simp) rfl ?_
        refine sq_fieldAddr rfl tyF61_0 (by first | (simp only [Nat.reduceAdd, Nat.add_zero, Nat.zero_add]; first | done | rfl) | rfl) rfl ?_
        refine sq_loadRo 0 rfl rfl ((k - 1) * 4) rfl tyA48 tyS48 q0 rfl ?_
        refine sq_move rfl rfl ?_
        refine sq_move rfl rfl ?_
        refine sq_sub rfl rfl ((k - 1 : Nat) : Int) (by rw [IntWalk.i64_in _ (by omega)]; omega) rfl ?_
        refine sq_indexAddr (o + (k - 1) * 4) Try.underlying22 tyS61 rfl rfl (by omega) (by simp) rfl ?_
        refine sq_fieldAddr rfl tyF61_1 (by first | (simp only [Nat.reduceAdd, Nat.add_zero, Nat.zero_add]; first | done | rfl) | rfl) rfl ?_
        refine sq_loadRo 0 rfl rfl ((k - 1) * 4 + 1) rfl tyA48 tyS48 q1 rfl ?_
        refine sq_move rfl rfl ?_
        refine sq_move rfl rfl ?_
        refine sq_sub rfl rfl ((k - 1 : Nat) : Int) (by rw [IntWalk.i64_in _ (by omega)]; omega) rfl ?_
        refine sq_indexAddr (o + (k - 1) * 4) Try.underlying22 tyS61 rfl rfl (by omega) (by simp) rfl ?_
        refine sq_fieldAddr rfl tyF61_2 (by first | (simp only [Nat.reduceAdd, Nat.add_zero, Nat.zero_add]; first | done | rfl) | rfl) rfl ?_
        refine sq_loadRo 0 rfl rfl ((k - 1) * 4 + 2) rfl tyA49 tyS49 q2 rfl ?_
        refine sq_conv Try.underlying49 Try.underlying48 rfl ((p.len : Nat) : Int) (by rw [IntWalk.u64_in _ (by omega)]) rfl ?_
        refine sq_add rfl rfl ((p.next : Nat) : Int) (by rw [← Int.natCast_add, u64_w]; rfl) rfl ?_
        refine sq_assign rfl rfl ?_
        refine sq_assign rfl rfl ?_
        refine sq_nil (hZ _ _ ?_)
        refine nx_forget [(0, _), (3, _), (4, _), (5, _), (6, _), (7, _), (8, _), (9, _)] (Kn.cons rfl (Kn.cons rfl (Kn.cons rfl (Kn.cons rfl (Kn.cons rfl (Kn.cons rfl (Kn.cons rfl (Kn.cons rfl (Kn.nil))))))))) ?_
        exact nx_cut () trivial (Kn.cons rfl (Kn.cons rfl (Kn.cons rfl (Kn.cons rfl (Kn.cons rfl (Kn.cons rfl (Kn.cons rfl (Kn.cons rfl Kn.nil)))))))) (HLe.refl _)
      · have hk0 : k = 0 := by simp at hp; omega
        have hpz := hp0 hk0
        subst hpz
        refine awp_skip ?_
        exact nx_cut () trivial (Kn.cons rfl (Kn.cons rfl (Kn.cons rfl (Kn.cons rfl (Kn.cons rfl (Kn.cons rfl (Kn.cons rfl (Kn.cons rfl Kn.nil)))))))) (HLe.refl _)
    · rintro ⟨⟩ -
      refine awp_seq_region (fun Z hZ => ?_)
      refine sx_move rfl rfl ?_
      refine sx_move rfl rfl ?_
      refine sx_move rfl rfl ?_
      refine sx_indexAddr (o + k * 4) Try.underlying22 tyS61 rfl rfl (by omega) (by simp) rfl ?_
      refine sx_fieldAddr rfl tyF61_0 (by first | (simp only [Nat.reduceAdd, Nat.add_zero, Nat.zero_add]; first | done | rfl) | rfl) rfl ?_
      refine sx_loadRo 0 rfl rfl (k * 4) rfl tyA48 tyS48 c0 rfl ?_
      refine sx_move rfl rfl ?_
      refine sx_sub rfl rfl _ (u64_sub x1 p1) rfl ?_
      refine sx_callP (rbytes_fn _ m0) rfl rfl ?_
      refine sx_cat rfl rfl (by omega) rfl ?_
      rw [← e0]
      refine sx_assign rfl rfl ?_
      refine sx_nil (hZ _ _ ?_)
      refine awp_forget [(0, _), (3, _), (4, _), (5, _), (6, _), (7, _), (9, _)] (Kn.cons rfl (Kn.cons rfl (Kn.cons rfl (Kn.cons rfl (Kn.cons rfl (Kn.cons rfl (Kn.cons rfl (Kn.nil)))))))) ?_
      refine awp_seq_region (fun Z hZ => ?_)
      refine sx_move rfl rfl ?_
      refine sx_move rfl rfl ?_
      refine sx_move rfl rfl ?_
      refine sx_indexAddr (o + k * 4) Try.underlying22 tyS61 rfl rfl (by omega) (by simp) rfl ?_
      refine sx_fieldAddr rfl tyF61_3 (by first | (simp only [Nat.reduceAdd, Nat.add_zero, Nat.zero_add]; first | done | rfl) | rfl) rfl ?_
      refine sx_loadRo 0 rfl rfl (k * 4 + 3) rfl tyA49 tyS49 c3 rfl ?_
      refine sx_conv Try.underlying49 Try.underlying48 rfl ((x.run : Nat) : Int) (by rw [IntWalk.u64_in _ (by omega)]) rfl ?_
      refine sx_callP (rbytes_fn x.run (by omega)) rfl rfl ?_
      refine sx_cat rfl rfl (by omega) rfl ?_
      rw [← e1]
      refine sx_assign rfl rfl ?_
      refine sx_nil (hZ _ _ ?_)
      refine awp_forget [(0, _), (3, _), (4, _), (5, _), (6, _), (7, _), (9, _)] (Kn.cons rfl (Kn.cons rfl (Kn.cons rfl (Kn.cons rfl (Kn.cons rfl (Kn.cons rfl (Kn.cons rfl (Kn.nil)))))))) ?_
      refine awp_seq_region (fun Z hZ => ?_)
      refine sx_move rfl rfl ?_
      refine sx_move rfl rfl ?_
      refine sx_move rfl rfl ?_
      refine sx_indexAddr (o + k * 4) Try.underlying22 tyS61 rfl rfl (by omega) (by simp) rfl ?_
      refine sx_fieldAddr rfl tyF61_2 (by first | (simp only [Nat.reduceAdd, Nat.add_zero, Nat.zero_add]; first | done | rfl) | rfl) rfl ?_
      refine sx_loadRo 0 rfl rfl (k * 4 + 2) rfl tyA49 tyS49 c2 rfl ?_
      refine sx_conv Try.underlying49 Try.underlying48 rfl ((x.len : Nat) : Int) (by rw [IntWalk.u64_in _ (by omega)]) rfl ?_
      refine sx_callP (rbytes_fn x.len (by omega)) rfl rfl ?_
      refine sx_cat rfl rfl (by omega) rfl ?_
      rw [← e2]
      refine sx_assign rfl rfl ?_
      refine sx_nil (hZ _ _ ?_)
      refine awp_forget [(0, _), (3, _), (4, _), (5, _), (6, _), (7, _), (9, _)] (Kn.cons rfl (Kn.cons rfl (Kn.cons rfl (Kn.cons rfl (Kn.cons rfl (Kn.cons rfl (Kn.cons rfl (Kn.nil)))))))) ?_
      refine awp_seq_meet [(0, .slice (some ⟨g, o, none⟩) L.length c), (3, .string (str (colB L 0 (k + 1)))), (4, .string (str (colB L 1 (k + 1)))), (5, .string (str (colB L 2 (k + 1)))), (6, .string (str (colB L 3 k))), (7, iq (k : Nat)), (76, .bool (decide (0 < k ∧ x.off = p.next)))] [.ro g o (ecells L)] (fun Z hZ => ?_) ?_
      · refine sx_move rfl rfl ?_
        first | refine sx_gtr rfl rfl rfl ?_ | refine sx_sgtr rfl rfl rfl ?_
        refine sx_move rfl rfl ?_
        refine sx_split 68 rfl (fun hb2 => ?_) (fun hb2 => ?_)
        · refine sx_on rfl rfl rfl ?_
          refine sx_move rfl rfl ?_
          refine sx_on rfl rfl rfl ?_
          refine sx_move rfl rfl ?_
          refine sx_on rfl rfl rfl ?_
          refine sx_indexAddr (o + k * 4) Try.underlying22 tyS61 rfl rfl (by omega) (by simp) rfl ?_
          refine sx_on rfl rfl rfl ?_
          refine sx_fieldAddr rfl tyF61_1 (by first | (simp only [Nat.reduceAdd, Nat.add_zero, Nat.zero_add]; first | done | rfl) | rfl) rfl ?_
          refine sx_on rfl rfl rfl ?_
          refine sx_loadRo 0 rfl rfl (k * 4 + 1) rfl tyA48 tyS48 c1 rfl ?_
          refine sx_on rfl rfl rfl ?_
          refine sx_move rfl rfl ?_
          refine sx_on rfl rfl rfl ?_
          first | refine sx_eql rfl rfl rfl ?_ | refine sx_seql rfl rfl rfl ?_
          refine sx_pick rfl rfl rfl ?_
          refine sx_nil (hZ _ _ ?_ ?_)
          · exact Kn.cons rfl (Kn.cons rfl (Kn.cons rfl (Kn.cons rfl (Kn.cons rfl (Kn.cons rfl (Kn.cons (congrArg some (congrArg Value.bool (by simp at hb2; rw [Bool.eq_iff_iff]; simp; omega))) Kn.nil))))))
          · exact HLe.refl _
        · refine sx_off rfl rfl rfl rfl rfl ?_
          refine sx_off rfl rfl rfl rfl rfl ?_
          refine sx_off rfl rfl rfl rfl rfl ?_
          refine sx_off rfl rfl rfl rfl rfl ?_
          refine sx_off rfl rfl rfl rfl rfl ?_
          refine sx_off rfl rfl rfl rfl rfl ?_
          refine sx_off rfl rfl rfl rfl rfl ?_
          refine sx_pick rfl rfl rfl ?_
          refine sx_nil (hZ _ _ ?_ ?_)
          · exact Kn.cons rfl (Kn.cons rfl (Kn.cons rfl (Kn.cons rfl (Kn.cons rfl (Kn.cons rfl (Kn.cons (congrArg some (congrArg Value.bool (by simp at hb2; rw [Bool.eq_iff_iff]; simp; omega))) Kn.nil))))))
          · exact HLe.refl _
      first | refine awp_cond rfl (fun h3 => ?_) (fun h3 => ?_) | refine awp_seq (awp_cond rfl (fun h3 => ?_) (fun h3 => ?_))
      · have h3' : 0 < k ∧ x.off = p.next := by simpa using h3
        rw [numQ_3, if_pos h3'] at e3 n3
        refine awp_region (fun Z hZ => ?_)
        refine sx_move rfl rfl ?_
        refine sx_callP (rbytes_fn 0 (by omega)) rfl rfl ?_
        refine sx_cat rfl rfl (by omega) rfl ?_
        rw [← e3]
        refine sx_assign rfl rfl ?_
        refine sx_nil (hZ _ _ ?_)
        refine nx_forget [(0, _), (3, _), (4, _), (5, _), (6, _), (7, _)] (Kn.cons rfl (Kn.cons rfl (Kn.cons rfl (Kn.cons rfl (Kn.cons rfl (Kn.cons rfl (Kn.nil))))))) ?_
        repeat (with_reducible (first | refine nx_block_normal ?_ | refine nx_scope_normal ?_))
        with_reducible first | refine nx_normal ?_ | refine nx_normalM ?_
        refine awp_region (fun Z hZ => ?_)
        refine sx_move rfl rfl ?_
        refine sx_add rfl rfl ((k + 1 : Nat) : Int) (by rw [IntWalk.i64_in _ (by omega)]; omega) rfl ?_
        refine sx_assign rfl rfl ?_
        refine sx_nil (hZ _ _ ?_)
        refine nx_forget [(0, _), (3, _), (4, _), (5, _), (6, _), (7, _)] (Kn.cons rfl (Kn.cons rfl (Kn.cons rfl (Kn.cons rfl (Kn.cons rfl (Kn.cons rfl (Kn.nil))))))) ?_
        exact nx_round (k + 1) (by omega) (by omega) (Kn.cons rfl (Kn.cons rfl (Kn.cons rfl (Kn.cons rfl (Kn.cons rfl (Kn.cons rfl Kn.nil)))))) (HLe.refl _)
      · have h3' : ¬ (0 < k ∧ x.off = p.next) := by simpa using h3
        rw [numQ_3, if_neg h3'] at e3 n3
        refine awp_region (fun Z hZ => ?_)
        refine sx_move rfl rfl ?_
        refine sx_move rfl rfl ?_
        refine sx_move rfl rfl ?_
        refine sx_indexAddr (o + k * 4) Try.underlying22 tyS61 rfl rfl (by omega) (by simp) rfl ?_
        refine sx_fieldAddr rfl tyF61_1 (by first | (simp only [Nat.reduceAdd, Nat.add_zero, Nat.zero_add]; first | done | rfl) | rfl) rfl ?_
        refine sx_loadRo 0 rfl rfl (k * 4 + 1) rfl tyA48 tyS48 c1 rfl ?_
        refine sx_add rfl rfl (((x.off + 1) % 18446744073709551616 : Nat) : Int) (by rw [show (x.off : Int) + 1 = ((x.off + 1 : Nat) : Int) by omega, u64_w]) rfl ?_
        refine sx_callP (rbytes_fn _ (by omega)) rfl rfl ?_
        refine sx_cat rfl rfl (by omega) rfl ?_
        rw [← e3]
        refine sx_assign rfl rfl ?_
        refine sx_nil (hZ _ _ ?_)
        refine nx_forget [(0, _), (3, _), (4, _), (5, _), (6, _), (7, _)] (Kn.cons rfl (Kn.cons rfl (Kn.cons rfl (Kn.cons rfl (Kn.cons rfl (Kn.cons rfl (Kn.nil))))))) ?_
        repeat (with_reducible (first | refine nx_block_normal ?_ | refine nx_scope_normal ?_))
        with_reducible first | refine nx_normal ?_ | refine nx_normalM ?_
        refine awp_region (fun Z hZ => ?_)
        refine sx_move rfl rfl ?_
        refine sx_add rfl rfl ((k + 1 : Nat) : Int) (by rw [IntWalk.i64_in _ (by omega)]; omega) rfl ?_
        refine sx_assign rfl rfl ?_
        refine sx_nil (hZ _ _ ?_)
        refine nx_forget [(0, _), (3, _), (4, _), (5, _), (6, _), (7, _)] (Kn.cons rfl (Kn.cons rfl (Kn.cons rfl (Kn.cons rfl (Kn.cons rfl (Kn.cons rfl (Kn.nil))))))) ?_
        exact nx_round (k + 1) (by omega) (by omega) (Kn.cons rfl (Kn.cons rfl (Kn.cons rfl (Kn.cons rfl (Kn.cons rfl (Kn.cons rfl Kn.nil)))))) (HLe.refl _)
  · refine awp_exit ?_
    repeat (with_reducible (first | refine nx_then_exit ?_ | refine nx_block_other (by decide) ?_ | refine nx_scope_exit ?_))
    with_reducible refine nx_block_exit ?_
    repeat (with_reducible (first | refine nx_block_normal ?_ | refine nx_scope_normal ?_))
    with_reducible first | refine nx_normal ?_ | refine nx_normalM ?_
    have hke : k = L.length := by simp at h; omega
    subst hke
    have n0 := vb_len10 (x := L.length) (by omega)
    refine awp_seq_region (fun Z hZ => ?_)
    refine sx_move rfl rfl ?_
    first | refine sx_len Try.underlying22 rfl rfl ?_ | refine sx_lenS Try.underlying22 rfl rfl ?_
    refine sx_conv Try.underlying3 Try.underlying48 rfl ((L.length : Nat) : Int) (by rw [IntWalk.u64_in _ (by omega)]) rfl ?_
    refine sx_callP (rbytes_fn L.length (by omega)) rfl rfl ?_
    refine sx_move rfl rfl ?_
    refine sx_cat rfl rfl (by omega) rfl ?_
    refine sx_move rfl rfl ?_
    refine sx_cat rfl rfl (by simp; omega) rfl ?_
    refine sx_move rfl rfl ?_
    refine sx_cat rfl rfl (by simp; omega) rfl ?_
    refine sx_move rfl rfl ?_
    refine sx_cat rfl rfl (by simp; omega) rfl ?_
    rw [← numsQ_cols]
    refine sx_assign rfl rfl ?_
    refine sx_nil (hZ _ _ ?_)
    refine awp_forget [(2, _)] (Kn.cons rfl (Kn.nil)) ?_
    refine awp_ret ?_
    repeat (with_reducible (first | refine nx_then_ret ?_ | refine nx_block_ret ?_ | refine nx_scope_ret ?_))
    exact nx_ret1 rfl rfl rfl
theorem rencode_fn (A : Option Addr) (c : Nat) (L : List En) (T : Heap) (hA : ArgOk A L.length) (hT : 0 < L.length → T = roE A (ecells L)) (hro : Ro T) (hL : L.length ≤ 10000) (hE : EnsOk L) :
    Fn Try.prog 11 [.slice A L.length c] T fun v _ => v = .tuple #[.string (str (encQ L).1), iq (encQ L).2] := by
  have hmax : L.length ≤ maxLen := by show _ ≤ 9223372036854775807; omega
  have hall := allB_len (numsQ_lt hE (by omega))
  have hlen := numsQ_len L
  refine Fn.enter (N := 17) Try.func11 rfl (by kernel_rfl) rfl (fun w0 => ?_)

  refine awp_seq_region (fun Z hZ => ?_)
  refine sx_assign rfl rfl ?_
  refine sx_assign rfl rfl ?_
  refine sx_nil (hZ _ _ ?_)
  refine awp_forget [(0, _)] (Kn.cons rfl (Kn.nil)) ?_
  refine awp_seq ?_
  refine awp_seq_region (fun Z hZ => ?_)
  refine sx_move rfl rfl ?_
  refine sx_callPT T (rrow_fn A c L T hA hT hro hmax hE) rfl (List.Sublist.refl _) hro rfl ?_
  refine sx_assign rfl rfl ?_
  refine sx_nil (hZ _ _ ?_)
  refine awp_forget [(0, _), (4, _)] (Kn.cons rfl (Kn.cons rfl (Kn.nil))) ?_
  refine awp_seq_region (fun Z hZ => ?_)
  refine sx_move rfl rfl ?_
  first | refine sx_neq rfl rfl rfl ?_ | refine sx_sneq rfl rfl rfl ?_
  refine sx_nil (hZ _ _ ?_)
  refine awp_forget [(0, _), (4, _), (9, _)] (Kn.cons rfl (Kn.cons rfl (Kn.cons rfl (Kn.nil)))) ?_
  first | refine awp_cond rfl (fun h => ?_) (fun h => ?_) | refine awp_seq (awp_cond rfl (fun h => ?_) (fun h => ?_))
  · have h0 : rowC L ≠ 0 := by simp at h; omega
    rw [show encQ L = ([], rowC L) by unfold encQ; rw [if_neg h0]]
    refine awp_seq_region (fun Z hZ => ?_)
    refine sx_move rfl rfl ?_
    refine sx_assign rfl rfl ?_
    refine sx_assign rfl rfl ?_
    refine sx_nil (hZ _ _ ?_)
    refine awp_forget [(2, _), (3, _)] (Kn.cons rfl (Kn.cons rfl (Kn.nil))) ?_
    refine awp_ret ?_
    repeat (with_reducible (first | refine nx_then_ret ?_ | refine nx_block_ret ?_ | refine nx_scope_ret ?_))
    exact nx_ret2 rfl rfl rfl rfl
  have h0 : rowC L = 0 := by simp at h; omega
  refine awp_skip ?_
  repeat (with_reducible (first | refine nx_block_normal ?_ | refine nx_scope_normal ?_))
  with_reducible first | refine nx_normal ?_ | refine nx_normalM ?_
  refine awp_seq_region (fun Z hZ => ?_)
  refine sx_move rfl rfl ?_
  refine sx_callPT T (rtext_fn A c L T hA hT hro hL hE) rfl (List.Sublist.refl _) hro rfl ?_
  refine sx_assign rfl rfl ?_
  refine sx_nil (hZ _ _ ?_)
  refine awp_forget [(5, _)] (Kn.cons rfl (Kn.nil)) ?_
  refine awp_seq ?_
  refine awp_seq_region (fun Z hZ => ?_)
  refine sx_move rfl rfl ?_
  first | refine sx_len Try.underlying9 rfl rfl ?_ | refine sx_lenS Try.underlying9 rfl rfl ?_
  first | refine sx_gtr rfl rfl rfl ?_ | refine sx_sgtr rfl rfl rfl ?_
  refine sx_nil (hZ _ _ ?_)
  refine awp_forget [(5, _), (15, _)] (Kn.cons rfl (Kn.cons rfl (Kn.nil))) ?_
  first | refine awp_cond rfl (fun h1 => ?_) (fun h1 => ?_) | refine awp_seq (awp_cond rfl (fun h1 => ?_) (fun h1 => ?_))
  · have h1' : 65536 < sumB (numsQ L) := by unfold sumB; simp at h1; omega
    rw [show encQ L = ([], 5) by unfold encQ; rw [if_pos h0, if_pos h1']]
    refine awp_seq_region (fun Z hZ => ?_)
    refine sx_assign rfl rfl ?_
    refine sx_assign rfl rfl ?_
    refine sx_nil (hZ _ _ ?_)
    refine awp_forget [(2, _), (3, _)] (Kn.cons rfl (Kn.cons rfl (Kn.nil))) ?_
    refine awp_ret ?_
    repeat (with_reducible (first | refine nx_then_ret ?_ | refine nx_block_ret ?_ | refine nx_scope_ret ?_))
    exact nx_ret2 rfl rfl rfl rfl
  have h1' : ¬ 65536 < sumB (numsQ L) := by unfold sumB; simp at h1; omega
  rw [show encQ L = (allB (numsQ L), 0) by unfold encQ; rw [if_pos h0, if_neg h1']]
  refine awp_skip ?_
  repeat (with_reducible (first | refine nx_block_normal ?_ | refine nx_scope_normal ?_))
  with_reducible first | refine nx_normal ?_ | refine nx_normalM ?_
  refine awp_seq_region (fun Z hZ => ?_)
  refine sx_move rfl rfl ?_
  refine sx_assign rfl rfl ?_
  refine sx_assign rfl rfl ?_
  refine sx_nil (hZ _ _ ?_)
  refine awp_forget [(2, _), (3, _)] (Kn.cons rfl (Kn.cons rfl (Kn.nil))) ?_
  refine awp_ret ?_
  repeat (with_reducible (first | refine nx_then_ret ?_ | refine nx_block_ret ?_ | refine nx_scope_ret ?_))
  exact nx_ret2 rfl rfl rfl rfl
theorem rsize_fn (A : Option Addr) (c : Nat) (L : List En) (T : Heap) (hA : ArgOk A L.length) (hT : 0 < L.length → T = roE A (ecells L)) (hro : Ro T) (hL : L.length ≤ 10000) (hE : EnsOk L) :
    Fn Try.prog 13 [.slice A L.length c] T fun v _ => v = iq (sizeQ L) := by
  have hmax : L.length ≤ maxLen := by show _ ≤ 9223372036854775807; omega
  have hall := allB_len (numsQ_lt hE (by omega))
  have hlen := numsQ_len L
  refine Fn.enter (N := 9) Try.func13 rfl (by kernel_rfl) rfl (fun w0 => ?_)

  refine awp_seq_region (fun Z hZ => ?_)
  refine sx_assign rfl rfl ?_
  refine sx_nil (hZ _ _ ?_)
  refine awp_forget [(0, _)] (Kn.cons rfl (Kn.nil)) ?_
  refine awp_seq ?_
  refine awp_seq_region (fun Z hZ => ?_)
  refine sx_move rfl rfl ?_
  refine sx_callPT T (rrow_fn A c L T hA hT hro hmax hE) rfl (List.Sublist.refl _) hro rfl ?_
  first | refine sx_neq rfl rfl rfl ?_ | refine sx_sneq rfl rfl rfl ?_
  refine sx_nil (hZ _ _ ?_)
  refine awp_forget [(0, _), (5, _)] (Kn.cons rfl (Kn.cons rfl (Kn.nil))) ?_
  first | refine awp_cond rfl (fun h => ?_) (fun h => ?_) | refine awp_seq (awp_cond rfl (fun h => ?_) (fun h => ?_))
  · have h0 : rowC L ≠ 0 := by simp at h; omega
    rw [show sizeQ L = 0 by unfold sizeQ; rw [if_neg h0]]
    refine awp_seq_region (fun Z hZ => ?_)
    refine sx_assign rfl rfl ?_
    refine sx_nil (hZ _ _ ?_)
    refine awp_forget [(2, _)] (Kn.cons rfl (Kn.nil)) ?_
    refine awp_ret ?_
    repeat (with_reducible (first | refine nx_then_ret ?_ | refine nx_block_ret ?_ | refine nx_scope_ret ?_))
    exact nx_ret1 rfl rfl rfl
  have h0 : rowC L = 0 := by simp at h; omega
  rw [show sizeQ L = sumB (numsQ L) by unfold sizeQ; rw [if_pos h0]]
  refine awp_skip ?_
  repeat (with_reducible (first | refine nx_block_normal ?_ | refine nx_scope_normal ?_))
  with_reducible first | refine nx_normal ?_ | refine nx_normalM ?_
  refine awp_seq_region (fun Z hZ => ?_)
  refine sx_move rfl rfl ?_
  refine sx_callPT T (rtext_fn A c L T hA hT hro hL hE) rfl (List.Sublist.refl _) hro rfl ?_
  first | refine sx_len Try.underlying9 rfl rfl ?_ | refine sx_lenS Try.underlying9 rfl rfl ?_
  refine sx_assign rfl rfl ?_
  refine sx_nil (hZ _ _ ?_)
  refine awp_forget [(2, _)] (Kn.cons rfl (Kn.nil)) ?_
  refine awp_ret ?_
  repeat (with_reducible (first | refine nx_then_ret ?_ | refine nx_block_ret ?_ | refine nx_scope_ret ?_))
  exact nx_ret1 rfl rfl rfl
end Go.Proofs.Ytfffhnefjaomnaa
