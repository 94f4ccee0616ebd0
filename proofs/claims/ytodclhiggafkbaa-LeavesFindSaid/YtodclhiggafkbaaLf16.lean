/- The walks of package seek: the entry that tells of an identifier. Conditions: the lists are not too long. -/
import Derived.Test.YtodclhiggafkbaaLf15
namespace Go.Proofs.Ytodclhiggafkbaa
open Go.RowKit
set_option linter.unusedVariables false
set_option linter.unusedSimpArgs false
/-- How many entries stand ahead of the first one that is beyond. -/
def leQ (k : Nat) : List En → Nat
  | [] => 0
  | e :: r => if e.id ≤ k then leQ k r + 1 else 0
theorem leQ_eq (k : Nat) : ∀ (L : List En) (p : Nat), p ≤ L.length → (∀ i, i < p → (atE L i).id ≤ k) → (p < L.length → k < (atE L p).id) → leQ k L = p
  | [], p, hp, _, _ => by simp at hp; rw [hp]; rfl
  | e :: r, 0, _, _, h => by
    have h1 : k < e.id := h (by simp)
    rw [leQ, if_neg (by omega)]
  | e :: r, p + 1, hp, h1, h2 => by
    have e1 : ∀ j, atE (e :: r) (j + 1) = atE r j := fun j => by simp [atE]
    have h3 : e.id ≤ k := h1 0 (by omega)
    rw [leQ, if_pos h3, leQ_eq k r p (by simpa using hp) (fun i hi => by rw [← e1]; exact h1 (i + 1) (by omega)) (fun hl => by rw [← e1]; exact h2 (by simpa using hl))]
theorem leQ_facts (k : Nat) : ∀ (L : List En), leQ k L ≤ L.length ∧ (∀ i, i < leQ k L → (atE L i).id ≤ k) ∧ (leQ k L < L.length → k < (atE L (leQ k L)).id)
  | [] => ⟨Nat.le_refl _, fun i hi => by simp [leQ] at hi, fun h => by simp at h⟩
  | e :: r => by
    obtain ⟨h1, h2, h3⟩ := leQ_facts k r
    have e1 : ∀ j, atE (e :: r) (j + 1) = atE r j := fun j => by simp [atE]
    rw [leQ]
    by_cases h : e.id ≤ k
    · rw [if_pos h]
      refine ⟨by simpa using h1, fun i hi => ?_, fun hl => ?_⟩
      · cases i with
        | zero => exact h
        | succ i => rw [e1]; exact h2 i (by omega)
      · rw [e1]; exact h3 (by simpa using hl)
    · rw [if_neg h]
      exact ⟨Nat.zero_le _, fun i hi => by omega, fun _ => by show k < e.id; omega⟩
/-- Identifiers rise. -/
theorem ids_le {L : List En} (hr : rowC L = 0) (hE : EnsOk L) : ∀ (j i : Nat), i ≤ j → j < L.length → (atE L i).id ≤ (atE L j).id
  | 0, i, hi, _ => by
    obtain rfl : i = 0 := Nat.le_zero.1 hi
    exact Nat.le_refl _
  | j + 1, i, hi, hj => by
    rcases Nat.lt_or_ge i (j + 1) with h | h
    · have h1 := ids_le hr hE j i (by omega) (by omega)
      have h2 := ((rowC_at hr hE).2 (j + 1) hj).1
      rw [prevE_succ] at h2
      omega
    · obtain rfl : i = j + 1 := by omega
      exact Nat.le_refl _
def hasQ (e : En) (k : Nat) : Bool := decide (chkE e = 0 ∧ 0 < e.run ∧ e.id ≤ k ∧ k ≤ lastE e)
def findQ (L : List En) (k : Nat) : En × Bool :=
  if rowC L ≠ 0 then (zeroEn, false) else if leQ k L = 0 then (zeroEn, false)
  else if 0 < (atE L (leQ k L - 1)).run ∧ hasQ (atE L (leQ k L - 1)) k = false then (zeroEn, false) else (atE L (leQ k L - 1), true)
theorem sid_fn (e : En) : Fn Try.prog 58 [e.val] [] fun v _ => v = uq e.id := by
  refine Fn.enter (N := 5) Try.func58 rfl (by kernel_rfl) rfl (fun w0 => ?_)

  refine awp_seq_region (fun Z hZ => ?_)
  refine sx_box rfl rfl rfl (fun g1 => ?_)
  refine sx_assign rfl rfl ?_
  refine sx_nil (hZ _ _ ?_)
  refine awp_forget [(1, _)] (Kn.cons rfl (Kn.nil)) ?_
  refine awp_seq_region (fun Z hZ => ?_)
  refine sx_fieldAddr rfl tyF52_0 (by first | (simp only [Nat.reduceAdd, Nat.add_zero, Nat.zero_add]; first | done | rfl) | rfl) rfl ?_
  first | refine sx_load 0 rfl rfl tyA47 tyS47 rfl rfl ?_
  refine sx_assign rfl rfl ?_
  refine sx_nil (hZ _ _ ?_)
  refine awp_forget [(2, _)] (Kn.cons rfl (Kn.nil)) ?_
  refine awp_ret ?_
  repeat (with_reducible (first | refine nx_then_ret ?_ | refine nx_block_ret ?_ | refine nx_scope_ret ?_))
  exact nx_ret1 rfl rfl rfl
theorem has_fn (e : En) (h : e.ok) (k : Nat) : Fn Try.prog 41 [e.val, uq k] [] fun v _ => v = .bool (hasQ e k) := by
  refine Fn.enter (N := 24) Try.func41 rfl (by kernel_rfl) rfl (fun w0 => ?_)

  refine awp_seq_region (fun Z hZ => ?_)
  refine sx_box rfl rfl rfl (fun g1 => ?_)
  refine sx_assign rfl rfl ?_
  refine sx_nil (hZ _ _ ?_)
  refine awp_forget [(1, _), (2, _)] (Kn.cons rfl (Kn.cons rfl (Kn.nil))) ?_
  refine awp_seq_meet [(4, .bool (hasQ e k))] [] (fun Z hZ => ?_) ?_
  · first | refine sx_loadA 0 rfl rfl tyA52 tyS52 (by first | (simp only [List.length_cons, List.length_nil, Nat.reduceAdd, Nat.zero_add, Nat.add_zero]; first | done | rfl) | rfl) (by first | (simp only [List.take_succ_cons, List.take_zero, List.drop_succ_cons, List.drop_zero, List.cons_append, List.nil_append, List.append_nil, List.length_cons, List.length_nil, Nat.reduceAdd, Nat.zero_add, Nat.add_zero, Value.cells, wrV]; first | done | rfl) | rfl) rfl ?_
    refine sx_callP (emay_fn e h) rfl rfl ?_
    refine sx_move rfl rfl ?_
    refine sx_split 7 rfl (fun hb2 => ?_) (fun hb2 => ?_)
    · refine sx_on rfl rfl rfl ?_
      refine sx_fieldAddr rfl tyF52_3 (by first | (simp only [Nat.reduceAdd, Nat.add_zero, Nat.zero_add]; first | done | rfl) | rfl) rfl ?_
      refine sx_on rfl rfl rfl ?_
      first | refine sx_load 0 rfl rfl tyA50 tyS50 rfl rfl ?_
      refine sx_on rfl rfl rfl ?_
      first | refine sx_gtr rfl rfl rfl ?_ | refine sx_sgtr rfl rfl rfl ?_
      refine sx_pick rfl rfl rfl ?_
      refine sx_move rfl rfl ?_
      refine sx_split 12 rfl (fun hb7 => ?_) (fun hb7 => ?_)
      · refine sx_on rfl rfl rfl ?_
        refine sx_fieldAddr rfl tyF52_0 (by first | (simp only [Nat.reduceAdd, Nat.add_zero, Nat.zero_add]; first | done | rfl) | rfl) rfl ?_
        refine sx_on rfl rfl rfl ?_
        first | refine sx_load 0 rfl rfl tyA47 tyS47 rfl rfl ?_
        refine sx_on rfl rfl rfl ?_
        refine sx_move rfl rfl ?_
        refine sx_on rfl rfl rfl ?_
        first | refine sx_leq rfl rfl rfl ?_ | refine sx_sleq rfl rfl rfl ?_
        refine sx_pick rfl rfl rfl ?_
        refine sx_move rfl rfl ?_
        refine sx_split 18 rfl (fun hb13 => ?_) (fun hb13 => ?_)
        · refine sx_on rfl rfl rfl ?_
          refine sx_move rfl rfl ?_
          refine sx_on rfl rfl rfl ?_
          first | refine sx_loadA 0 rfl rfl tyA52 tyS52 (by first | (simp only [List.length_cons, List.length_nil, Nat.reduceAdd, Nat.zero_add, Nat.add_zero]; first | done | rfl) | rfl) (by first | (simp only [List.take_succ_cons, List.take_zero, List.drop_succ_cons, List.drop_zero, List.cons_append, List.nil_append, List.append_nil, List.length_cons, List.length_nil, Nat.reduceAdd, Nat.zero_add, Nat.add_zero, Value.cells, wrV]; first | done | rfl) | rfl) rfl ?_
          refine sx_on rfl rfl rfl ?_
          refine sx_callP (elast_fn e h) rfl rfl ?_
          refine sx_on rfl rfl rfl ?_
          first | refine sx_leq rfl rfl rfl ?_ | refine sx_sleq rfl rfl rfl ?_
          refine sx_pick rfl rfl rfl ?_
          refine sx_assign rfl rfl ?_
          refine sx_nil (hZ _ _ ?_ ?_)
          · exact Kn.cons (congrArg some (congrArg Value.bool (by unfold hasQ; first | (simp at *; done) | (simp at *; omega) | (simp at *; simp_all; done) | (simp at *; simp_all; omega)))) Kn.nil
          · exact HLe.sub (List.nil_sublist _)
        · refine sx_off rfl rfl rfl rfl rfl ?_
          refine sx_off rfl rfl rfl rfl rfl ?_
          refine sx_off rfl rfl rfl rfl rfl ?_
          refine sx_off rfl rfl rfl rfl rfl ?_
          refine sx_pick rfl rfl rfl ?_
          refine sx_assign rfl rfl ?_
          refine sx_nil (hZ _ _ ?_ ?_)
          · exact Kn.cons (congrArg some (congrArg Value.bool (by unfold hasQ; first | (simp at *; done) | (simp at *; omega) | (simp at *; simp_all; done) | (simp at *; simp_all; omega)))) Kn.nil
          · exact HLe.sub (List.nil_sublist _)
      · refine sx_off rfl rfl rfl rfl rfl ?_
        refine sx_off rfl rfl rfl rfl rfl ?_
        refine sx_off rfl rfl rfl rfl rfl ?_
        refine sx_off rfl rfl rfl rfl rfl ?_
        refine sx_pick rfl rfl rfl ?_
        refine sx_move rfl rfl ?_
        refine sx_off rfl rfl rfl rfl rfl ?_
        refine sx_off rfl rfl rfl rfl rfl ?_
        refine sx_off rfl rfl rfl rfl rfl ?_
        refine sx_off rfl rfl rfl rfl rfl ?_
        refine sx_pick rfl rfl rfl ?_
        refine sx_assign rfl rfl ?_
        refine sx_nil (hZ _ _ ?_ ?_)
        · exact Kn.cons (congrArg some (congrArg Value.bool (by unfold hasQ; first | (simp at *; done) | (simp at *; omega) | (simp at *; simp_all; done) | (simp at *; simp_all; omega)))) Kn.nil
        · exact HLe.sub (List.nil_sublist _)
    · refine sx_off rfl rfl rfl rfl rfl ?_
      refine sx_off rfl rfl rfl rfl rfl ?_
      refine sx_off rfl rfl rfl rfl rfl ?_
      refine sx_pick rfl rfl rfl ?_
      refine sx_move rfl rfl ?_
      refine sx_off rfl rfl rfl rfl rfl ?_
      refine sx_off rfl rfl rfl rfl rfl ?_
      refine sx_off rfl rfl rfl rfl rfl ?_
      refine sx_off rfl rfl rfl rfl rfl ?_
      refine sx_pick rfl rfl rfl ?_
      refine sx_move rfl rfl ?_
      refine sx_off rfl rfl rfl rfl rfl ?_
      refine sx_off rfl rfl rfl rfl rfl ?_
      refine sx_off rfl rfl rfl rfl rfl ?_
      refine sx_off rfl rfl rfl rfl rfl ?_
      refine sx_pick rfl rfl rfl ?_
      refine sx_assign rfl rfl ?_
      refine sx_nil (hZ _ _ ?_ ?_)
      · exact Kn.cons (congrArg some (congrArg Value.bool (by unfold hasQ; first | (simp at *; done) | (simp at *; omega) | (simp at *; simp_all; done) | (simp at *; simp_all; omega)))) Kn.nil
      · exact HLe.sub (List.nil_sublist _)
  refine awp_ret ?_
  repeat (with_reducible (first | refine nx_then_ret ?_ | refine nx_block_ret ?_ | refine nx_scope_ret ?_))
  exact nx_ret1 rfl rfl rfl
theorem last_fn (A : Option Addr) (c : Nat) (L : List En) (T : Heap) (hA : ArgOk A L.length) (hT : 0 < L.length → T = roE A (ecells L)) (hL : L.length ≤ 1000000) (hE : EnsOk L) (hr : rowC L = 0) (k : Nat) :
    Fn Try.prog 57 [.slice A L.length c, uq k, .func (.func 58) #[] #[]] T fun v _ => v = iq ((leQ k L : Int) - 1) := by
  refine Fn.enter (N := 34) Try.func57 rfl (by kernel_rfl) rfl (fun w0 => ?_)

  refine awp_seq_region (fun Z hZ => ?_)
  refine sx_assign rfl rfl ?_
  refine sx_nil (hZ _ _ ?_)
  refine awp_forget [(0, _), (1, _), (2, _)] (Kn.cons rfl (Kn.cons rfl (Kn.cons rfl (Kn.nil)))) ?_
  refine awp_seq_region (fun Z hZ => ?_)
  refine sx_move rfl rfl ?_
  first | refine sx_len Try.underlying24 rfl rfl ?_ | refine sx_lenS Try.underlying24 rfl rfl ?_
  refine sx_assign rfl rfl ?_
  refine sx_assign rfl rfl ?_
  refine sx_nil (hZ _ _ ?_)
  refine awp_forget [(0, _), (1, _), (2, _), (7, _), (8, _)] (Kn.cons rfl (Kn.cons rfl (Kn.cons rfl (Kn.cons rfl (Kn.cons rfl (Kn.nil)))))) ?_
  refine awp_cut (ι := Unit) (fun _ => [(7, iq (leQ k L : Nat))]) (fun _ => []) (fun _ => True) ?_ ?_
  · refine awp_block ?_
    refine awp_loop (ι := Nat × Nat) (fun i => [(0, .slice A L.length c), (1, uq k), (2, .func (.func 58) #[] #[]), (7, iq (i.1 : Nat)), (8, iq (i.2 : Nat))]) (fun _ => T)
      (fun i => i.1 ≤ i.2 ∧ i.2 ≤ L.length ∧ (∀ j, j < i.1 → (atE L j).id ≤ k) ∧ (i.2 < L.length → k < (atE L i.2).id)) (fun i => i.2 - i.1) (0, L.length) ⟨by simp, by simp, fun j hj => by omega, fun h => by omega⟩ (Kn.cons rfl (Kn.cons rfl (Kn.cons rfl (Kn.cons rfl (Kn.cons rfl Kn.nil))))) (HLe.refl _) ?_
    rintro ⟨p, q⟩ ⟨h1, h2, h3, h4⟩
    simp only at h1 h2 h3 h4
    refine awp_seq ?_
    refine awp_seq_region (fun Z hZ => ?_)
    refine sx_move rfl rfl ?_
    refine sx_move rfl rfl ?_
    first | refine sx_lss rfl rfl rfl ?_ | refine sx_slss rfl rfl rfl ?_
    refine sx_nil (hZ _ _ ?_)
    refine awp_forget [(0, _), (1, _), (2, _), (7, _), (8, _), (14, _)] (Kn.cons rfl (Kn.cons rfl (Kn.cons rfl (Kn.cons rfl (Kn.cons rfl (Kn.cons rfl (Kn.nil))))))) ?_
    first | refine awp_cond rfl (fun h => ?_) (fun h => ?_) | refine awp_seq (awp_cond rfl (fun h => ?_) (fun h => ?_))
    · have hlt : p < q := by simpa using h
      obtain ⟨m, hm⟩ : ∃ m, (p + q) / 2 = m := ⟨_, rfl⟩
      have hx := atE_at (L := L) (i := m) (by omega)
      obtain ⟨g, o, rfl⟩ := hA (by omega)
      obtain rfl := hT (by omega)
      refine awp_skip ?_
      repeat (with_reducible (first | refine nx_block_normal ?_ | refine nx_scope_normal ?_))
      with_reducible first | refine nx_normal ?_ | refine nx_normalM ?_
      refine awp_block ?_

      refine awp_seq_region (fun Z hZ => ?_)
      refine sx_move rfl rfl ?_
      refine sx_move rfl rfl ?_
      refine sx_add rfl rfl ((p + q : Nat) : Int) (by rw [IntWalk.i64_in _ (by omega)]; omega) rfl ?_
      refine sx_conv Try.underlying3 Try.underlying111 rfl ((p + q : Nat) : Int) (by rw [IntWalk.u64_in _ (by omega)]) rfl ?_
      refine sx_shr rfl rfl (by decide) ((m : Nat) : Int) (by show ((p + q : Nat) : Int).fdiv 2 = _; rw [Int.fdiv_eq_ediv_of_nonneg _ (by omega)]; omega) rfl ?_
      refine sx_conv Try.underlying111 Try.underlying3 rfl ((m : Nat) : Int) (by rw [IntWalk.i64_in _ (by omega)]) rfl ?_
      refine sx_assign rfl rfl ?_
      refine sx_nil (hZ _ _ ?_)
      refine awp_forget [(0, _), (1, _), (2, _), (7, _), (8, _), (9, _)] (Kn.cons rfl (Kn.cons rfl (Kn.cons rfl (Kn.cons rfl (Kn.cons rfl (Kn.cons rfl (Kn.nil))))))) ?_
      refine awp_seq_region (fun Z hZ => ?_)
      refine sx_move rfl rfl ?_
      refine sx_move rfl rfl ?_
      refine sx_move rfl rfl ?_
      refine sx_indexAddr (o + m * 4) Try.underlying24 tyS52 rfl rfl (by omega) (by simp) rfl ?_
      refine sx_loadRo 0 rfl rfl (m * 4) rfl tyA52 tyS52 (ecells_all hx) rfl ?_
      refine sx_callFV (caps := []) (vs := [(atE L m).val]) [] (sid_fn (atE L m)) rfl rfl (HLe.sub (List.nil_sublist _)) Ro.nil rfl ?_
      refine sx_move rfl rfl ?_
      first | refine sx_leq rfl rfl rfl ?_ | refine sx_sleq rfl rfl rfl ?_
      refine sx_nil (hZ _ _ ?_)
      refine awp_forget [(0, _), (1, _), (2, _), (7, _), (8, _), (9, _), (28, _)] (Kn.cons rfl (Kn.cons rfl (Kn.cons rfl (Kn.cons rfl (Kn.cons rfl (Kn.cons rfl (Kn.cons rfl (Kn.nil)))))))) ?_
      first | refine awp_cond rfl (fun h5 => ?_) (fun h5 => ?_) | refine awp_seq (awp_cond rfl (fun h5 => ?_) (fun h5 => ?_))
      · have hle : (atE L m).id ≤ k := by simp at h5; omega
        refine awp_region (fun Z hZ => ?_)
        refine sx_move rfl rfl ?_
        refine sx_add rfl rfl ((m + 1 : Nat) : Int) (by rw [IntWalk.i64_in _ (by omega)]; omega) rfl ?_
        refine sx_assign rfl rfl ?_
        refine sx_nil (hZ _ _ ?_)
        refine nx_forget [(0, _), (1, _), (2, _), (7, _), (8, _)] (Kn.cons rfl (Kn.cons rfl (Kn.cons rfl (Kn.cons rfl (Kn.cons rfl (Kn.nil)))))) ?_
        repeat (with_reducible refine nx_block_normal ?_)
        exact nx_round (m + 1, q) ⟨by show m + 1 ≤ q; omega, h2, fun j hj => Nat.le_trans (ids_le hr hE m j (by simp only at hj; omega) (by omega)) hle, h4⟩ (by show q - (m + 1) < q - p; omega) (Kn.cons rfl (Kn.cons rfl (Kn.cons rfl (Kn.cons rfl (Kn.cons rfl Kn.nil))))) (HLe.refl _)
      · have hgt : k < (atE L m).id := by simp at h5; omega
        refine awp_region (fun Z hZ => ?_)
        refine sx_move rfl rfl ?_
        refine sx_assign rfl rfl ?_
        refine sx_nil (hZ _ _ ?_)
        refine nx_forget [(0, _), (1, _), (2, _), (7, _), (8, _)] (Kn.cons rfl (Kn.cons rfl (Kn.cons rfl (Kn.cons rfl (Kn.cons rfl (Kn.nil)))))) ?_
        repeat (with_reducible refine nx_block_normal ?_)
        exact nx_round (p, m) ⟨by show p ≤ m; omega, by show m ≤ _; omega, h3, fun _ => hgt⟩ (by show m - p < q - p; omega) (Kn.cons rfl (Kn.cons rfl (Kn.cons rfl (Kn.cons rfl (Kn.cons rfl Kn.nil))))) (HLe.refl _)
    · have hge : p = q := by simp at h; omega
      subst hge
      have := leQ_eq k L p h2 h3 h4
      refine awp_exit ?_
      repeat (with_reducible (first | refine nx_then_exit ?_ | refine nx_block_other (by decide) ?_ | refine nx_scope_exit ?_))
      with_reducible refine nx_block_exit ?_
      repeat (with_reducible (first | refine nx_block_normal ?_ | refine nx_scope_normal ?_))
      exact nx_cut () trivial (Kn.cons (by rw [this]; rfl) Kn.nil) (HLe.sub (List.nil_sublist _))
  rintro ⟨⟩ -
  have := (leQ_facts k L).1
  refine awp_seq_region (fun Z hZ => ?_)
  refine sx_move rfl rfl ?_
  refine sx_sub rfl rfl ((leQ k L : Int) - 1) (by rw [IntWalk.i64_in _ (by omega)]) rfl ?_
  refine sx_assign rfl rfl ?_
  refine sx_nil (hZ _ _ ?_)
  refine awp_forget [(6, _)] (Kn.cons rfl (Kn.nil)) ?_
  refine awp_ret ?_
  repeat (with_reducible (first | refine nx_then_ret ?_ | refine nx_block_ret ?_ | refine nx_scope_ret ?_))
  exact nx_ret1 rfl rfl rfl
theorem place_fn (A : Option Addr) (c : Nat) (L : List En) (T : Heap) (hA : ArgOk A L.length) (hT : 0 < L.length → T = roE A (ecells L)) (hro : Ro T) (hL : L.length ≤ 1000000) (hE : EnsOk L) (k : Nat) :
    Fn Try.prog 40 [.slice A L.length c, uq k] T fun v _ => v = iq (if rowC L ≠ 0 then -1 else (leQ k L : Int) - 1) := by
  have hmax : L.length ≤ maxLen := by show _ ≤ 9223372036854775807; omega
  refine Fn.enter (N := 11) Try.func40 rfl (by kernel_rfl) rfl (fun w0 => ?_)

  refine awp_seq_region (fun Z hZ => ?_)
  refine sx_assign rfl rfl ?_
  refine sx_nil (hZ _ _ ?_)
  refine awp_forget [(0, _), (1, _)] (Kn.cons rfl (Kn.cons rfl (Kn.nil))) ?_
  refine awp_seq ?_
  refine awp_seq_region (fun Z hZ => ?_)
  refine sx_move rfl rfl ?_
  refine sx_callPT T (erow_fn A c L T hA hT hro hmax hE) rfl (List.Sublist.refl _) hro rfl ?_
  first | refine sx_neq rfl rfl rfl ?_ | refine sx_sneq rfl rfl rfl ?_
  refine sx_nil (hZ _ _ ?_)
  refine awp_forget [(0, _), (1, _), (7, _)] (Kn.cons rfl (Kn.cons rfl (Kn.cons rfl (Kn.nil)))) ?_
  first | refine awp_cond rfl (fun h => ?_) (fun h => ?_) | refine awp_seq (awp_cond rfl (fun h => ?_) (fun h => ?_))
  · have hr : rowC L ≠ 0 := by simp at h; omega
    rw [if_pos hr]
    refine awp_seq_region (fun Z hZ => ?_)
    refine sx_assign rfl rfl ?_
    refine sx_nil (hZ _ _ ?_)
    refine awp_forget [(4, _)] (Kn.cons rfl (Kn.nil)) ?_
    refine awp_ret ?_
    repeat (with_reducible (first | refine nx_then_ret ?_ | refine nx_block_ret ?_ | refine nx_scope_ret ?_))
    exact nx_ret1 rfl rfl rfl
  have hr : rowC L = 0 := by simp at h; omega
  rw [if_neg (by simpa using hr)]
  refine awp_skip ?_
  repeat (with_reducible (first | refine nx_block_normal ?_ | refine nx_scope_normal ?_))
  with_reducible first | refine nx_normal ?_ | refine nx_normalM ?_
  refine awp_seq_region (fun Z hZ => ?_)
  refine sx_move rfl rfl ?_
  refine sx_move rfl rfl ?_
  refine sx_callPT T (last_fn A c L T hA hT hL hE hr k) rfl (List.Sublist.refl _) hro rfl ?_
  refine sx_assign rfl rfl ?_
  refine sx_nil (hZ _ _ ?_)
  refine awp_forget [(4, _)] (Kn.cons rfl (Kn.nil)) ?_
  refine awp_ret ?_
  repeat (with_reducible (first | refine nx_then_ret ?_ | refine nx_block_ret ?_ | refine nx_scope_ret ?_))
  exact nx_ret1 rfl rfl rfl
theorem find_fn (A : Option Addr) (c : Nat) (L : List En) (T : Heap) (hA : ArgOk A L.length) (hT : 0 < L.length → T = roE A (ecells L)) (hro : Ro T) (hL : L.length ≤ 1000000) (hE : EnsOk L) (k : Nat) :
    Fn Try.prog 21 [.slice A L.length c, uq k] T fun v _ => v = .tuple #[(findQ L k).1.val, .bool (findQ L k).2] := by
  have hle := (leQ_facts k L).1
  refine Fn.enter (N := 34) Try.func21 rfl (by kernel_rfl) rfl (fun w0 => ?_)

  refine awp_seq_region (fun Z hZ => ?_)
  refine sx_alloc tyZ52 rfl (fun g1 => ?_)
  refine sx_assign rfl rfl ?_
  refine sx_nil (hZ _ _ ?_)
  refine awp_forget [(0, _), (1, _), (4, _)] (Kn.cons rfl (Kn.cons rfl (Kn.cons rfl (Kn.nil)))) ?_

  refine awp_seq_region (fun Z hZ => ?_)
  refine sx_move rfl rfl ?_
  refine sx_move rfl rfl ?_
  refine sx_callPT T (place_fn A c L T hA hT hro hL hE k) rfl (List.sublist_cons_self _ _) hro rfl ?_
  refine sx_assign rfl rfl ?_
  refine sx_nil (hZ _ _ ?_)
  refine awp_forget [(0, _), (1, _), (4, _), (6, _)] (Kn.cons rfl (Kn.cons rfl (Kn.cons rfl (Kn.cons rfl (Kn.nil))))) ?_
  by_cases hneg : rowC L ≠ 0 ∨ leQ k L = 0
  · have hf : findQ L k = (zeroEn, false) := by
      unfold findQ
      by_cases h1 : rowC L ≠ 0
      · rw [if_pos h1]
      · rw [if_neg h1, if_pos (hneg.resolve_left h1)]
    have hv : (if rowC L ≠ 0 then -1 else (leQ k L : Int) - 1) = -1 := by
      by_cases h1 : rowC L ≠ 0
      · rw [if_pos h1]
      · rw [if_neg h1, hneg.resolve_left h1]; rfl
    rw [hf, hv]
    refine awp_seq ?_
    refine awp_seq_meet [(4, ptr g1 0), (28, .bool true)] [.own g1 52 zeroEn.cells] (fun Z hZ => ?_) ?_
    · refine sx_move rfl rfl ?_
      first | refine sx_lss rfl rfl rfl ?_ | refine sx_slss rfl rfl rfl ?_
      refine sx_move rfl rfl ?_
      refine sx_force 12 rfl true (by rfl) ?_
      refine sx_off rfl rfl rfl rfl rfl ?_
      refine sx_off rfl rfl rfl rfl rfl ?_
      refine sx_off rfl rfl rfl rfl rfl ?_
      refine sx_off rfl rfl rfl rfl rfl ?_
      refine sx_off rfl rfl rfl rfl rfl ?_
      refine sx_off rfl rfl rfl rfl rfl ?_
      refine sx_off rfl rfl rfl rfl rfl ?_
      refine sx_offU rfl rfl rfl rfl ?_
      refine sx_offU rfl rfl rfl rfl ?_
      refine sx_offU rfl rfl rfl rfl ?_
      refine sx_offU rfl rfl rfl rfl ?_
      refine sx_offU rfl rfl rfl rfl ?_
      refine sx_offU rfl rfl rfl rfl ?_
      refine sx_offU rfl rfl rfl rfl ?_
      refine sx_off rfl rfl rfl rfl rfl ?_
      refine sx_pick rfl rfl rfl ?_
      refine sx_nil (hZ _ _ ?_ ?_)
      · exact Kn.cons rfl (Kn.cons rfl Kn.nil)
      · exact HLe.sub (List.Sublist.cons_cons _ (List.nil_sublist _))
    first | refine awp_cond rfl (fun h2 => ?_) (fun h2 => ?_) | refine awp_seq (awp_cond rfl (fun h2 => ?_) (fun h2 => ?_))
    · refine awp_seq_region (fun Z hZ => ?_)
      refine sx_build tyZ52 tyP52 rfl rfl (by first | (simp only [List.take_succ_cons, List.take_zero, List.drop_succ_cons, List.drop_zero, List.cons_append, List.nil_append, List.append_nil, List.length_cons, List.length_nil, Nat.reduceAdd, Nat.zero_add, Nat.add_zero, Value.cells, wrV, zrep_one, List.replicate_succ, List.replicate_zero, Nat.reduceMul, Nat.zero_mul]; first | done | rfl) | rfl) rfl ?_
      first | refine sx_store 0 rfl rfl rfl tyS52 (by first | (simp only [Value.cells]; first | done | rfl) | rfl) rfl rfl (by first | (simp only [List.length_cons, List.length_nil, Nat.reduceAdd, Nat.zero_add, Nat.add_zero]; first | done | rfl) | rfl) (by first | (simp only [List.take_succ_cons, List.take_zero, List.drop_succ_cons, List.drop_zero, List.cons_append, List.nil_append, List.append_nil, List.length_cons, List.length_nil, Nat.reduceAdd, Nat.zero_add, Nat.add_zero, Value.cells, wrV]; first | done | rfl) | rfl) (by first | (simp only [List.set_cons_succ, List.set_cons_zero]; first | done | rfl) | rfl) ?_
      refine sx_assign rfl rfl ?_
      refine sx_nil (hZ _ _ ?_)
      refine awp_forget [(4, _), (5, _)] (Kn.cons rfl (Kn.cons rfl (Kn.nil))) ?_
      refine awp_ret ?_
      repeat (with_reducible (first | refine nx_then_ret ?_ | refine nx_block_ret ?_ | refine nx_scope_ret ?_))
      exact nx_ret2 rfl (ResOk.cell 0 rfl rfl tyA52 tyS52 rfl) rfl rfl
    · cases h2
  have hr : rowC L = 0 := by omega
  have h0 : leQ k L ≠ 0 := by omega
  obtain ⟨i, hi⟩ : ∃ i, leQ k L = i + 1 := ⟨leQ k L - 1, by omega⟩
  obtain ⟨x, hxe⟩ : ∃ x, atE L i = x := ⟨_, rfl⟩
  have hx := atE_at (L := L) (i := i) (by omega)
  have hxo := atE_ok hE i
  rw [hxe] at hx hxo
  have hv : (if rowC L ≠ 0 then -1 else (leQ k L : Int) - 1) = (i : Nat) := by rw [if_neg (by simpa using hr), hi]; omega
  have hf : findQ L k = if 0 < x.run ∧ hasQ x k = false then (zeroEn, false) else (x, true) := by
    unfold findQ
    rw [if_neg (by simpa using hr), if_neg h0, hi, Nat.add_sub_cancel, hxe]
  rw [hf, hv]
  obtain ⟨g, o, rfl⟩ := hA (by omega)
  obtain rfl := hT (by omega)

  refine awp_seq ?_
  refine awp_seq_meet [(0, .slice (some ⟨g, o, none⟩) L.length c), (4, ptr g1 0), (6, iq (i : Nat)), (28, .bool (decide (0 < x.run ∧ hasQ x k = false)))] [.own g1 52 zeroEn.cells, .ro g o (ecells L)] (fun Z hZ => ?_) ?_
  · refine sx_move rfl rfl ?_
    first | refine sx_lss rfl rfl rfl ?_ | refine sx_slss rfl rfl rfl ?_
    refine sx_move rfl rfl ?_
    refine sx_split 12 rfl (fun hb2 => ?_) (fun hb2 => ?_)
    · refine sx_off rfl rfl rfl rfl rfl ?_
      refine sx_off rfl rfl rfl rfl rfl ?_
      refine sx_off rfl rfl rfl rfl rfl ?_
      refine sx_off rfl rfl rfl rfl rfl ?_
      refine sx_off rfl rfl rfl rfl rfl ?_
      refine sx_off rfl rfl rfl rfl rfl ?_
      refine sx_off rfl rfl rfl rfl rfl ?_
      refine sx_offU rfl rfl rfl rfl ?_
      refine sx_offU rfl rfl rfl rfl ?_
      refine sx_offU rfl rfl rfl rfl ?_
      refine sx_offU rfl rfl rfl rfl ?_
      refine sx_offU rfl rfl rfl rfl ?_
      refine sx_offU rfl rfl rfl rfl ?_
      refine sx_offU rfl rfl rfl rfl ?_
      refine sx_off rfl rfl rfl rfl rfl ?_
      refine sx_pick rfl rfl rfl ?_
      refine sx_nil (hZ _ _ ?_ ?_)
      · first | (exfalso; simp at hb2; omega) | exact Kn.cons rfl (Kn.cons rfl (Kn.cons rfl (Kn.cons (congrArg some (congrArg Value.bool (by first | (simp at hb9; simp [hb9]; done) | (simp at hb9; rw [Bool.eq_iff_iff]; simp; omega)))) Kn.nil)))
      · exact HLe.refl _
    · refine sx_on rfl rfl rfl ?_
      refine sx_move rfl rfl ?_
      refine sx_on rfl rfl rfl ?_
      refine sx_move rfl rfl ?_
      refine sx_on rfl rfl rfl ?_
      refine sx_indexAddr (o + i * 4) Try.underlying24 tyS52 rfl rfl (by omega) (by simp) rfl ?_
      refine sx_on rfl rfl rfl ?_
      refine sx_fieldAddr rfl tyF52_3 (by first | (simp only [Nat.reduceAdd, Nat.add_zero, Nat.zero_add]; first | done | rfl) | rfl) rfl ?_
      refine sx_on rfl rfl rfl ?_
      refine sx_loadRo 1 rfl rfl (i * 4 + 3) rfl tyA50 tyS50 (rd_run hx) rfl ?_
      refine sx_on rfl rfl rfl ?_
      first | refine sx_gtr rfl rfl rfl ?_ | refine sx_sgtr rfl rfl rfl ?_
      refine sx_on rfl rfl rfl ?_
      refine sx_move rfl rfl ?_
      refine sx_split 19 rfl (fun hb9 => ?_) (fun hb9 => ?_)
      · refine sx_on rfl rfl rfl ?_
        refine sx_move rfl rfl ?_
        refine sx_on rfl rfl rfl ?_
        refine sx_move rfl rfl ?_
        refine sx_on rfl rfl rfl ?_
        refine sx_indexAddr (o + i * 4) Try.underlying24 tyS52 rfl rfl (by omega) (by simp) rfl ?_
        refine sx_on rfl rfl rfl ?_
        refine sx_loadRo 1 rfl rfl (i * 4) rfl tyA52 tyS52 (ecells_all hx) rfl ?_
        refine sx_on rfl rfl rfl ?_
        refine sx_move rfl rfl ?_
        refine sx_on rfl rfl rfl ?_
        refine sx_callP (has_fn x hxo k) rfl rfl ?_
        refine sx_on rfl rfl rfl ?_
        refine sx_not rfl rfl ?_
        refine sx_on rfl rfl rfl ?_
        refine sx_pick rfl rfl rfl ?_
        refine sx_pick rfl rfl rfl ?_
        refine sx_nil (hZ _ _ ?_ ?_)
        · first | (exfalso; simp at hb2; omega) | exact Kn.cons rfl (Kn.cons rfl (Kn.cons rfl (Kn.cons (congrArg some (congrArg Value.bool (by first | (simp at hb9; simp [hb9]; done) | (simp at hb9; rw [Bool.eq_iff_iff]; simp; omega)))) Kn.nil)))
        · exact HLe.refl _
      · refine sx_off rfl rfl rfl rfl rfl ?_
        refine sx_off rfl rfl rfl rfl rfl ?_
        refine sx_off rfl rfl rfl rfl rfl ?_
        refine sx_off rfl rfl rfl rfl rfl ?_
        refine sx_off rfl rfl rfl rfl rfl ?_
        refine sx_off rfl rfl rfl rfl rfl ?_
        refine sx_off rfl rfl rfl rfl rfl ?_
        refine sx_on rfl rfl rfl ?_
        refine sx_pick rfl rfl rfl ?_
        refine sx_pick rfl rfl rfl ?_
        refine sx_nil (hZ _ _ ?_ ?_)
        · first | (exfalso; simp at hb2; omega) | exact Kn.cons rfl (Kn.cons rfl (Kn.cons rfl (Kn.cons (congrArg some (congrArg Value.bool (by first | (simp at hb9; simp [hb9]; done) | (simp at hb9; rw [Bool.eq_iff_iff]; simp; omega)))) Kn.nil)))
        · exact HLe.refl _
  first | refine awp_cond rfl (fun h2 => ?_) (fun h2 => ?_) | refine awp_seq (awp_cond rfl (fun h2 => ?_) (fun h2 => ?_))
  · have hc : 0 < x.run ∧ hasQ x k = false := by simpa using h2
    rw [if_pos hc]
    refine awp_seq_region (fun Z hZ => ?_)
    refine sx_build tyZ52 tyP52 rfl rfl (by first | (simp only [List.take_succ_cons, List.take_zero, List.drop_succ_cons, List.drop_zero, List.cons_append, List.nil_append, List.append_nil, List.length_cons, List.length_nil, Nat.reduceAdd, Nat.zero_add, Nat.add_zero, Value.cells, wrV, zrep_one, List.replicate_succ, List.replicate_zero, Nat.reduceMul, Nat.zero_mul]; first | done | rfl) | rfl) rfl ?_
    first | refine sx_store 0 rfl rfl rfl tyS52 (by first | (simp only [Value.cells]; first | done | rfl) | rfl) rfl rfl (by first | (simp only [List.length_cons, List.length_nil, Nat.reduceAdd, Nat.zero_add, Nat.add_zero]; first | done | rfl) | rfl) (by first | (simp only [List.take_succ_cons, List.take_zero, List.drop_succ_cons, List.drop_zero, List.cons_append, List.nil_append, List.append_nil, List.length_cons, List.length_nil, Nat.reduceAdd, Nat.zero_add, Nat.add_zero, Value.cells, wrV]; first | done | rfl) | rfl) (by first | (simp only [List.set_cons_succ, List.set_cons_zero]; first | done | rfl) | rfl) ?_ | refine sx_store 1 rfl rfl rfl tyS52 (by first | (simp only [Value.cells]; first | done | rfl) | rfl) rfl rfl (by first | (simp only [List.length_cons, List.length_nil, Nat.reduceAdd, Nat.zero_add, Nat.add_zero]; first | done | rfl) | rfl) (by first | (simp only [List.take_succ_cons, List.take_zero, List.drop_succ_cons, List.drop_zero, List.cons_append, List.nil_append, List.append_nil, List.length_cons, List.length_nil, Nat.reduceAdd, Nat.zero_add, Nat.add_zero, Value.cells, wrV]; first | done | rfl) | rfl) (by first | (simp only [List.set_cons_succ, List.set_cons_zero]; first | done | rfl) | rfl) ?_
    refine sx_assign rfl rfl ?_
    refine sx_nil (hZ _ _ ?_)
    refine awp_forget [(4, _), (5, _)] (Kn.cons rfl (Kn.cons rfl (Kn.nil))) ?_
    refine awp_ret ?_
    repeat (with_reducible (first | refine nx_then_ret ?_ | refine nx_block_ret ?_ | refine nx_scope_ret ?_))
    exact nx_ret2 rfl (ResOk.cell 0 rfl rfl tyA52 tyS52 rfl) rfl rfl
  have hc : ¬ (0 < x.run ∧ hasQ x k = false) := by simpa using h2
  rw [if_neg hc]
  refine awp_skip ?_
  repeat (with_reducible (first | refine nx_block_normal ?_ | refine nx_scope_normal ?_))
  with_reducible first | refine nx_normal ?_ | refine nx_normalM ?_
  refine awp_seq_region (fun Z hZ => ?_)
  refine sx_move rfl rfl ?_
  refine sx_move rfl rfl ?_
  refine sx_indexAddr (o + i * 4) Try.underlying24 tyS52 rfl rfl (by omega) (by simp) rfl ?_
  refine sx_loadRo 1 rfl rfl (i * 4) rfl tyA52 tyS52 (ecells_all hx) rfl ?_
  first | refine sx_store 0 rfl rfl rfl tyS52 (by first | (simp only [Value.cells]; first | done | rfl) | rfl) rfl rfl (by first | (simp only [List.length_cons, List.length_nil, Nat.reduceAdd, Nat.zero_add, Nat.add_zero]; first | done | rfl) | rfl) (by first | (simp only [List.take_succ_cons, List.take_zero, List.drop_succ_cons, List.drop_zero, List.cons_append, List.nil_append, List.append_nil, List.length_cons, List.length_nil, Nat.reduceAdd, Nat.zero_add, Nat.add_zero, Value.cells, wrV]; first | done | rfl) | rfl) (by first | (simp only [List.set_cons_succ, List.set_cons_zero]; first | done | rfl) | rfl) ?_ | refine sx_store 1 rfl rfl rfl tyS52 (by first | (simp only [Value.cells]; first | done | rfl) | rfl) rfl rfl (by first | (simp only [List.length_cons, List.length_nil, Nat.reduceAdd, Nat.zero_add, Nat.add_zero]; first | done | rfl) | rfl) (by first | (simp only [List.take_succ_cons, List.take_zero, List.drop_succ_cons, List.drop_zero, List.cons_append, List.nil_append, List.append_nil, List.length_cons, List.length_nil, Nat.reduceAdd, Nat.zero_add, Nat.add_zero, Value.cells, wrV]; first | done | rfl) | rfl) (by first | (simp only [List.set_cons_succ, List.set_cons_zero]; first | done | rfl) | rfl) ?_
  refine sx_assign rfl rfl ?_
  refine sx_nil (hZ _ _ ?_)
  refine awp_forget [(4, _), (5, _)] (Kn.cons rfl (Kn.cons rfl (Kn.nil))) ?_
  refine awp_ret ?_
  repeat (with_reducible (first | refine nx_then_ret ?_ | refine nx_block_ret ?_ | refine nx_scope_ret ?_))
  exact nx_ret2 rfl (ResOk.cell 0 rfl rfl tyA52 tyS52 rfl) rfl rfl
end Go.Proofs.Ytodclhiggafkbaa
