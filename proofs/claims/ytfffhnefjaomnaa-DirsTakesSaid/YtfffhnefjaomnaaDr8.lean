/- The walk of dirs.Decode. Conditions: the text is not too long. -/
import Derived.Test.YtfffhnefjaomnaaDr7
namespace Go.Proofs.Ytfffhnefjaomnaa
open Go.RowKit
set_option linter.unusedVariables false
set_option linter.unusedSimpArgs false
/-- The numbers behind the first one, from the j-th on, so many more. -/
def decG (s : List UInt8) : Nat → Nat → List En → Nat → List En × Nat × Nat
  | 0, _, L, p => if p < s.length then ([], p, 4) else if rowC L ≠ 0 then ([], s.length, rowC L) else (L, s.length, 0)
  | k + 1, j, L, p =>
    if (getQ s p).2.2 ≠ 0 then ([], p, (getQ s p).2.2)
    else if errQ (j / L.length) (j % L.length) (prevE L (j % L.length)) (getQ s p).1 ≠ 0 then ([], p, errQ (j / L.length) (j % L.length) (prevE L (j % L.length)) (getQ s p).1)
    else decG s k (j + 1) (L.set (j % L.length) (putQ (j / L.length) (prevE L (j % L.length)) (atE L (j % L.length)) (getQ s p).1)) (getQ s p).2.1
def decQ (s : List UInt8) : List En × Nat × Nat :=
  if 65536 < s.length then ([], 0, 5) else if (getQ s 0).2.2 ≠ 0 then ([], 0, (getQ s 0).2.2)
  else if 4096 < (getQ s 0).1 then ([], 0, 21) else decG s (4 * (getQ s 0).1) 0 (List.replicate (getQ s 0).1 zeroEn) (getQ s 0).2.1
theorem getQ_facts (s : List UInt8) (p : Nat) (hp : p ≤ s.length) : (getQ s p).1 < 18446744073709551616 ∧ (getQ s p).2.1 ≤ s.length ∧ (getQ s p).2.2 ≤ 11 := by
  unfold getQ
  have hl : (s.drop p).length = s.length - p := List.length_drop
  by_cases h : (wrongQ (s.drop p)).1 = 0
  · rw [if_pos h]
    obtain ⟨h1, h2, h3, h4⟩ := wrong_ok h
    refine ⟨?_, ?_, by show 0 ≤ 11; omega⟩
    · show valL _ < _
      rw [h1]
      have := valL_mod (t := s.drop p) (k := cnt 10 (s.drop p)) (by omega) h3 h4
      omega
    · show p + _ ≤ _
      rw [h1]
      omega
  · rw [if_neg h]
    refine ⟨by show 0 < _; omega, hp, ?_⟩
    show (wrongQ _).1 ≤ 11
    unfold wrongQ
    split
    · exact Nat.le_refl _
    split
    · show 3 ≤ 11; omega
    split
    · exact Nat.le_refl _
    split
    · show 4 ≤ 11; omega
    · show 0 ≤ 11; omega
theorem errQ_le (c i : Nat) (a : En) (x : Nat) : errQ c i a x ≤ 11 := by
  unfold errQ
  split
  · split <;> omega
  split
  · split <;> omega
  split <;> omega
theorem decG_0 (s : List UInt8) (j : Nat) (L : List En) (p : Nat) : decG s 0 j L p = if p < s.length then ([], p, 4) else if rowC L ≠ 0 then ([], s.length, rowC L) else (L, s.length, 0) := rfl
theorem decG_s {s : List UInt8} {k j c i n : Nat} {L : List En} {p x q : Nat} (hn : L.length = n) (hj : j = c * n + i) (hi : i < n) (hg : getQ s p = (x, q, 0)) :
    decG s (k + 1) j L p = if errQ c i (prevE L i) x ≠ 0 then ([], p, errQ c i (prevE L i) x) else decG s k (j + 1) (L.set i (putQ c (prevE L i) (atE L i) x)) q := by
  have h1 : j / n = c := by rw [hj, Nat.mul_comm, Nat.mul_add_div (by omega), Nat.div_eq_of_lt hi, Nat.add_zero]
  have h2 : j % n = i := by rw [hj, Nat.mul_comm, Nat.mul_add_mod, Nat.mod_eq_of_lt hi]
  rw [decG, hg, hn, h1, h2]
  simp only [ne_eq, not_true_eq_false, if_false]
theorem decG_e {s : List UInt8} {k j : Nat} {L : List En} {p x q e : Nat} (hg : getQ s p = (x, q, e)) (he : e ≠ 0) : decG s (k + 1) j L p = ([], p, e) := by
  rw [decG, hg]
  simp only [ne_eq, he, not_false_eq_true, if_true]
theorem ens_zero (n : Nat) : EnsOk (List.replicate n zeroEn) := fun e he => by rw [(List.mem_replicate.1 he).2]; exact zero_ok
theorem ens_set {L : List En} {i : Nat} {y : En} (h : EnsOk L) (hy : y.ok) : EnsOk (L.set i y) := fun e he => by
  rcases List.mem_or_eq_of_mem_set he with h1 | rfl
  · exact h e h1
  · exact hy
theorem ecells_zero (n : Nat) : (List.replicate n ([uq 0, uq 0, wq4 0, wq4 0] : List Value)).flatten = ecells (List.replicate n zeroEn) := by
  simp only [ecells, List.flatMap, List.map_replicate]
  rfl
theorem vget_fn' (s : List UInt8) (p x q e : Nat) (hp : p ≤ s.length) (hs : s.length ≤ 1000000) (hg : getQ s p = (x, q, e)) : Fn Try.prog 27 [.agg #[.string (str s), iq p, iq 0]] [] fun v _ => v = .tuple #[uq x, .agg #[.string (str s), iq q, iq e]] := by
  have h := vget_fn s p hp hs
  rw [hg] at h
  exact h
theorem ddecode_fn (s : List UInt8) (hs : s.length ≤ 1000000) :
    Fn Try.prog 14 [.string (str s)] [] fun v H' => ∃ u, v = .tuple #[u, iq (decQ s).2.1, iq (decQ s).2.2] ∧ RowOk u (decQ s).1.length ∧ H' = rowE u 51 4 (ecells (decQ s).1) := by
  refine Fn.enter (N := 92) Try.func14 rfl (by kernel_rfl) rfl (fun w0 => ?_)

  refine awp_seq_region (fun Z hZ => ?_)
  refine sx_assign rfl rfl ?_
  refine sx_assign rfl rfl ?_
  refine sx_assign rfl rfl ?_
  refine sx_nil (hZ _ _ ?_)
  refine awp_forget [(0, _)] (Kn.cons rfl (Kn.nil)) ?_
  refine awp_seq ?_
  refine awp_seq_region (fun Z hZ => ?_)
  refine sx_move rfl rfl ?_
  first | refine sx_len Try.underlying9 rfl rfl ?_ | refine sx_lenS Try.underlying9 rfl rfl ?_
  first | refine sx_gtr rfl rfl rfl ?_ | refine sx_sgtr rfl rfl rfl ?_
  refine sx_nil (hZ _ _ ?_)
  refine awp_forget [(0, _), (17, _)] (Kn.cons rfl (Kn.cons rfl (Kn.nil))) ?_
  first | refine awp_cond rfl (fun h => ?_) (fun h => ?_) | refine awp_seq (awp_cond rfl (fun h => ?_) (fun h => ?_))
  · have h0 : 65536 < s.length := by simp at h; omega
    rw [show decQ s = ([], 0, 5) by unfold decQ; rw [if_pos h0]]
    refine awp_seq_region (fun Z hZ => ?_)
    refine sx_assign rfl rfl ?_
    refine sx_assign rfl rfl ?_
    refine sx_assign rfl rfl ?_
    refine sx_nil (hZ _ _ ?_)
    refine awp_forget [(2, _), (3, _), (4, _)] (Kn.cons rfl (Kn.cons rfl (Kn.cons rfl (Kn.nil)))) ?_
    refine awp_ret ?_
    repeat (with_reducible (first | refine nx_then_ret ?_ | refine nx_block_ret ?_ | refine nx_scope_ret ?_))
    exact nx_ret3h [] rfl rfl rfl rfl (HLe.sub (List.nil_sublist _)) ⟨_, rfl, RowOk.nil, rfl⟩
  have h0 : ¬ 65536 < s.length := by simp at h; omega
  refine awp_skip ?_
  repeat (with_reducible (first | refine nx_block_normal ?_ | refine nx_scope_normal ?_))
  with_reducible first | refine nx_normal ?_ | refine nx_normalM ?_
  obtain ⟨n, p0, e0, hg0⟩ : ∃ n p0 e0, getQ s 0 = (n, p0, e0) := ⟨_, _, _, rfl⟩
  obtain ⟨f1, f2, f3⟩ := getQ_facts s 0 (by omega)
  rw [hg0] at f1 f2 f3
  simp only at f1 f2 f3
  refine awp_seq_region (fun Z hZ => ?_)
  refine sx_move rfl rfl ?_
  refine sx_build tyZ65 tyP65 rfl rfl (by first | (simp only [List.take_succ_cons, List.take_zero, List.drop_succ_cons, List.drop_zero, List.cons_append, List.nil_append, List.append_nil, List.length_cons, List.length_nil, Nat.reduceAdd, Nat.zero_add, Nat.add_zero, Value.cells, wrV, zrep_one, List.replicate_succ, List.replicate_zero, Nat.reduceMul, Nat.zero_mul]; first | done | rfl) | rfl) rfl ?_
  refine sx_callP (vget_fn' s 0 n p0 e0 (by omega) hs hg0) rfl rfl ?_
  refine sx_move rfl rfl ?_
  refine sx_extract rfl rfl rfl ?_
  refine sx_extract rfl rfl rfl ?_
  refine sx_alloc tyZ65 rfl (fun g1 => ?_)
  refine sx_assign rfl rfl ?_
  first | refine sx_store 0 rfl rfl rfl tyS65 (by first | (simp only [Value.cells]; first | done | rfl) | rfl) rfl rfl (by first | (simp only [List.length_cons, List.length_nil, Nat.reduceAdd, Nat.zero_add, Nat.add_zero]; first | done | rfl) | rfl) (by first | (simp only [List.take_succ_cons, List.take_zero, List.drop_succ_cons, List.drop_zero, List.cons_append, List.nil_append, List.append_nil, List.length_cons, List.length_nil, Nat.reduceAdd, Nat.zero_add, Nat.add_zero, Value.cells, wrV]; first | done | rfl) | rfl) (by first | (simp only [List.set_cons_succ, List.set_cons_zero]; first | done | rfl) | rfl) ?_
  refine sx_nil (hZ _ _ ?_)
  refine awp_forget [(0, _), (5, _), (6, _)] (Kn.cons rfl (Kn.cons rfl (Kn.cons rfl (Kn.nil)))) ?_
  refine awp_seq (awp_block ?_)

  refine awp_seq_region (fun Z hZ => ?_)
  refine sx_fieldAddr rfl tyF65_2 (by first | (simp only [Nat.reduceAdd, Nat.add_zero, Nat.zero_add]; first | done | rfl) | rfl) rfl ?_
  first | refine sx_load 0 rfl rfl tyA24 tyS24 rfl rfl ?_
  first | refine sx_neq rfl rfl rfl ?_ | refine sx_sneq rfl rfl rfl ?_
  refine sx_assign rfl rfl ?_
  refine sx_nil (hZ _ _ ?_)
  refine awp_forget [(0, _), (5, _), (6, _), (24, _)] (Kn.cons rfl (Kn.cons rfl (Kn.cons rfl (Kn.cons rfl (Kn.nil))))) ?_
  first | refine awp_cond rfl (fun h1 => ?_) (fun h1 => ?_) | refine awp_seq (awp_cond rfl (fun h1 => ?_) (fun h1 => ?_))
  · have he : e0 ≠ 0 := by simp at h1; omega
    rw [show decQ s = ([], 0, e0) by unfold decQ; rw [if_neg h0, hg0, if_pos he]]
    refine awq_seq_region mixed (by kernel_rfl) (fun Z hZ => ?_)
    refine sq_fieldAddr rfl tyF65_2 (by first | (simp only [Nat.reduceAdd, Nat.add_zero, Nat.zero_add]; first | done | rfl) | rfl) rfl ?_
    first | refine sq_load 0 rfl rfl tyA24 tyS24 rfl rfl ?_
    refine sq_assign rfl rfl ?_
    refine sq_assign rfl rfl ?_
    refine sq_assign rfl rfl ?_
    refine sq_nil (hZ _ _ ?_)
    refine awp_forget [(2, _), (3, _), (4, _)] (Kn.cons rfl (Kn.cons rfl (Kn.cons rfl (Kn.nil)))) ?_
    refine awp_ret ?_
    repeat (with_reducible (first | refine nx_then_ret ?_ | refine nx_block_ret ?_ | refine nx_scope_ret ?_))
    exact nx_ret3h [] rfl rfl rfl rfl (HLe.sub (List.nil_sublist _)) ⟨_, rfl, RowOk.nil, rfl⟩
  have he : e0 = 0 := by simp at h1; omega
  subst he
  refine awp_seq_region (fun Z hZ => ?_)
  refine sx_move rfl rfl ?_
  first | refine sx_gtr rfl rfl rfl ?_ | refine sx_sgtr rfl rfl rfl ?_
  refine sx_assign rfl rfl ?_
  refine sx_nil (hZ _ _ ?_)
  refine awp_forget [(0, _), (5, _), (6, _), (30, _)] (Kn.cons rfl (Kn.cons rfl (Kn.cons rfl (Kn.cons rfl (Kn.nil))))) ?_
  first | refine awp_cond rfl (fun h2 => ?_) (fun h2 => ?_) | refine awp_seq (awp_cond rfl (fun h2 => ?_) (fun h2 => ?_))
  · have hn : 4096 < n := by simp at h2; omega
    rw [show decQ s = ([], 0, 21) by unfold decQ; rw [if_neg h0, hg0, if_neg (by simp), if_pos hn]]
    refine awp_seq_region (fun Z hZ => ?_)
    refine sx_assign rfl rfl ?_
    refine sx_assign rfl rfl ?_
    refine sx_assign rfl rfl ?_
    refine sx_nil (hZ _ _ ?_)
    refine awp_forget [(2, _), (3, _), (4, _)] (Kn.cons rfl (Kn.cons rfl (Kn.cons rfl (Kn.nil)))) ?_
    refine awp_ret ?_
    repeat (with_reducible (first | refine nx_then_ret ?_ | refine nx_block_ret ?_ | refine nx_scope_ret ?_))
    exact nx_ret3h [] rfl rfl rfl rfl (HLe.sub (List.nil_sublist _)) ⟨_, rfl, RowOk.nil, rfl⟩
  have hn : n ≤ 4096 := by simp at h2; omega
  have hD : decQ s = decG s (4 * n) 0 (List.replicate n zeroEn) p0 := by unfold decQ; rw [if_neg h0, hg0, if_neg (by simp), if_neg (by simp; omega)]
  rw [hD]
  obtain ⟨D, hDD⟩ : ∃ D, decG s (4 * n) 0 (List.replicate n zeroEn) p0 = D := ⟨_, rfl⟩
  rw [hDD]
  refine awp_skip ?_
  repeat (with_reducible (first | refine nx_block_normal ?_ | refine nx_scope_normal ?_))
  with_reducible first | refine nx_normal ?_ | refine nx_normalM ?_
  refine awp_seq_region (fun Z hZ => ?_)
  refine sx_move rfl rfl ?_
  refine sx_makeSlice (zs := [uq 0, uq 0, wq4 0, wq4 0]) (bytes := 24) (size := 4) (z := .agg #[uq 0, uq 0, wq4 0, wq4 0]) Try.underlying27 (by kernel_rfl) rfl rfl rfl rfl (by omega) (by show _ ≤ 9223372036854775807; omega) rfl (fun ga => ?_)
  rw [ecells_zero]
  refine sx_assign rfl rfl ?_
  refine sx_nil (hZ _ _ ?_)
  refine awp_forget [(0, _), (6, _), (7, _)] (Kn.cons rfl (Kn.cons rfl (Kn.cons rfl (Kn.nil)))) ?_
  refine awp_seq ?_
  refine awp_seq_region (fun Z hZ => ?_)
  refine sx_move rfl rfl ?_
  refine sx_nil (hZ _ _ ?_)
  refine awp_forget [(0, _), (6, _), (7, _), (35, _)] (Kn.cons rfl (Kn.cons rfl (Kn.cons rfl (Kn.cons rfl (Kn.nil))))) ?_
  refine awp_block ?_
  refine awp_loop (ι := Nat × List En × Nat) (fun i => [(0, .string (str s)), (6, ptr g1 0), (7, .slice (some ⟨ga, 0, none⟩) n n), (35, iq (i.1 : Nat))]) (fun i => [.own ga 51 (ecells i.2.1), .own g1 65 [.string (str s), iq (i.2.2 : Nat), iq 0]])
    (fun i => i.1 ≤ 4 ∧ i.2.1.length = n ∧ EnsOk i.2.1 ∧ i.2.2 ≤ s.length ∧ decG s (4 * n - i.1 * n) (i.1 * n) i.2.1 i.2.2 = D) (fun i => 4 - i.1) (0, List.replicate n zeroEn, p0) ⟨by simp, by simp, ens_zero n, f2, by simpa using hDD⟩ (Kn.cons rfl (Kn.cons rfl (Kn.cons rfl (Kn.cons rfl Kn.nil)))) (HLe.refl _) ?_
  rintro ⟨c, M, p⟩ ⟨hc, hM, hE, hp, hq⟩
  simp only at hc hM hE hp hq

  refine awp_seq_region (fun Z hZ => ?_)
  first | refine sx_lss rfl rfl rfl ?_ | refine sx_slss rfl rfl rfl ?_
  refine sx_nil (hZ _ _ ?_)
  refine awp_forget [(0, _), (6, _), (7, _), (35, _), (36, _)] (Kn.cons rfl (Kn.cons rfl (Kn.cons rfl (Kn.cons rfl (Kn.cons rfl (Kn.nil)))))) ?_
  first | refine awp_cond rfl (fun h3 => ?_) (fun h3 => ?_) | refine awp_seq (awp_cond rfl (fun h3 => ?_) (fun h3 => ?_))
  · have hc4 : c < 4 := by simp at h3; omega
    have hcn : c * n ≤ 3 * n := Nat.mul_le_mul_right _ (by omega)
    refine awp_skip ?_
    repeat (with_reducible (first | refine nx_block_normal ?_ | refine nx_scope_normal ?_))
    with_reducible first | refine nx_normal ?_ | refine nx_normalM ?_
    refine awp_seq (awp_block ?_)
    refine awp_seq_region (fun Z hZ => ?_)
    refine sx_move rfl rfl ?_
    refine sx_assign rfl rfl ?_
    refine sx_nil (hZ _ _ ?_)
    refine awp_forget [(0, _), (6, _), (7, _), (8, _), (35, _)] (Kn.cons rfl (Kn.cons rfl (Kn.cons rfl (Kn.cons rfl (Kn.cons rfl (Kn.nil)))))) ?_
    refine awp_seq_region (fun Z hZ => ?_)
    refine sx_alloc tyZ51 rfl (fun g2 => ?_)
    refine sx_nil (hZ _ _ ?_)
    refine awp_forget [(0, _), (6, _), (7, _), (8, _), (9, _), (35, _)] (Kn.cons rfl (Kn.cons rfl (Kn.cons rfl (Kn.cons rfl (Kn.cons rfl (Kn.cons rfl (Kn.nil))))))) ?_
    refine awp_seq_region (fun Z hZ => ?_)
    refine sx_move rfl rfl ?_
    first | refine sx_len Try.underlying27 rfl rfl ?_ | refine sx_lenS Try.underlying27 rfl rfl ?_
    refine sx_move rfl rfl ?_
    refine sx_nil (hZ _ _ ?_)
    refine awp_forget [(0, _), (6, _), (7, _), (8, _), (9, _), (35, _), (39, _), (40, _)] (Kn.cons rfl (Kn.cons rfl (Kn.cons rfl (Kn.cons rfl (Kn.cons rfl (Kn.cons rfl (Kn.cons rfl (Kn.cons rfl (Kn.nil))))))))) ?_
    refine awp_block ?_
    refine awp_loop (ι := Nat × List En × Nat) (fun i => [(0, .string (str s)), (6, ptr g1 0), (7, .slice (some ⟨ga, 0, none⟩) n n), (8, iq (c : Nat)), (9, ptr g2 0), (35, iq (c : Nat)), (39, iq (n : Nat)), (40, iq (i.1 : Nat))]) (fun i => [.own g2 51 (prevE i.2.1 i.1).cells, .own ga 51 (ecells i.2.1), .own g1 65 [.string (str s), iq (i.2.2 : Nat), iq 0]])
      (fun i => i.1 ≤ n ∧ i.2.1.length = n ∧ EnsOk i.2.1 ∧ i.2.2 ≤ s.length ∧ decG s (4 * n - (c * n + i.1)) (c * n + i.1) i.2.1 i.2.2 = D) (fun i => n - i.1) (0, M, p) ⟨by simp, hM, hE, hp, hq⟩ (Kn.cons rfl (Kn.cons rfl (Kn.cons rfl (Kn.cons rfl (Kn.cons rfl (Kn.cons rfl (Kn.cons rfl (Kn.cons rfl Kn.nil)))))))) (HLe.refl _) ?_
    rintro ⟨i, M, p⟩ ⟨hi, hM, hE, hp, hq⟩
    simp only at hi hM hE hp hq

    refine awp_seq_region (fun Z hZ => ?_)
    first | refine sx_lss rfl rfl rfl ?_ | refine sx_slss rfl rfl rfl ?_
    refine sx_nil (hZ _ _ ?_)
    refine awp_forget [(0, _), (6, _), (7, _), (8, _), (9, _), (35, _), (39, _), (40, _), (41, _)] (Kn.cons rfl (Kn.cons rfl (Kn.cons rfl (Kn.cons rfl (Kn.cons rfl (Kn.cons rfl (Kn.cons rfl (Kn.cons rfl (Kn.cons rfl (Kn.nil)))))))))) ?_
    first | refine awp_cond rfl (fun h4 => ?_) (fun h4 => ?_) | refine awp_seq (awp_cond rfl (fun h4 => ?_) (fun h4 => ?_))
    · have hlt : i < n := by simpa using h4
      have hat := atE_at (L := M) (i := i) (by omega)
      have hpo := prevE_ok hE i
      have hao := atE_ok hE i
      obtain ⟨x, q, e, hg⟩ : ∃ x q e, getQ s p = (x, q, e) := ⟨_, _, _, rfl⟩
      obtain ⟨g1', g2', g3'⟩ := getQ_facts s p hp
      rw [hg] at g1' g2' g3'
      simp only at g1' g2' g3'
      obtain ⟨m, hm⟩ : ∃ m, 4 * n - (c * n + i) = m + 1 := ⟨4 * n - (c * n + i) - 1, by omega⟩
      rw [hm] at hq
      refine awp_skip ?_
      repeat (with_reducible (first | refine nx_block_normal ?_ | refine nx_scope_normal ?_))
      with_reducible first | refine nx_normal ?_ | refine nx_normalM ?_
      refine awp_seq (awp_block ?_)
      refine awp_seq_region (fun Z hZ => ?_)
      refine sx_move rfl rfl ?_
      refine sx_assign rfl rfl ?_
      refine sx_nil (hZ _ _ ?_)
      refine awp_forget [(0, _), (6, _), (7, _), (8, _), (9, _), (10, _), (35, _), (39, _), (40, _)] (Kn.cons rfl (Kn.cons rfl (Kn.cons rfl (Kn.cons rfl (Kn.cons rfl (Kn.cons rfl (Kn.cons rfl (Kn.cons rfl (Kn.cons rfl (Kn.nil)))))))))) ?_
      refine awp_seq_region (fun Z hZ => ?_)
      first | refine sx_loadA 0 rfl rfl tyA65 tyS65 (by first | (simp only [List.length_cons, List.length_nil, Nat.reduceAdd, Nat.zero_add, Nat.add_zero]; first | done | rfl) | rfl) (by first | (simp only [List.take_succ_cons, List.take_zero, List.drop_succ_cons, List.drop_zero, List.cons_append, List.nil_append, List.append_nil, List.length_cons, List.length_nil, Nat.reduceAdd, Nat.zero_add, Nat.add_zero, Value.cells, wrV]; first | done | rfl) | rfl) rfl ?_ | refine sx_loadA 1 rfl rfl tyA65 tyS65 (by first | (simp only [List.length_cons, List.length_nil, Nat.reduceAdd, Nat.zero_add, Nat.add_zero]; first | done | rfl) | rfl) (by first | (simp only [List.take_succ_cons, List.take_zero, List.drop_succ_cons, List.drop_zero, List.cons_append, List.nil_append, List.append_nil, List.length_cons, List.length_nil, Nat.reduceAdd, Nat.zero_add, Nat.add_zero, Value.cells, wrV]; first | done | rfl) | rfl) rfl ?_ | refine sx_loadA 2 rfl rfl tyA65 tyS65 (by first | (simp only [List.length_cons, List.length_nil, Nat.reduceAdd, Nat.zero_add, Nat.add_zero]; first | done | rfl) | rfl) (by first | (simp only [List.take_succ_cons, List.take_zero, List.drop_succ_cons, List.drop_zero, List.cons_append, List.nil_append, List.append_nil, List.length_cons, List.length_nil, Nat.reduceAdd, Nat.zero_add, Nat.add_zero, Value.cells, wrV]; first | done | rfl) | rfl) rfl ?_
      refine sx_callP (vget_fn' s p x q e hp hs hg) rfl rfl ?_
      refine sx_move rfl rfl ?_
      refine sx_extract rfl rfl rfl ?_
      refine sx_extract rfl rfl rfl ?_
      refine sx_alloc tyZ65 rfl (fun g3 => ?_)
      refine sx_assign rfl rfl ?_
      first | refine sx_store 0 rfl rfl rfl tyS65 (by first | (simp only [Value.cells]; first | done | rfl) | rfl) rfl rfl (by first | (simp only [List.length_cons, List.length_nil, Nat.reduceAdd, Nat.zero_add, Nat.add_zero]; first | done | rfl) | rfl) (by first | (simp only [List.take_succ_cons, List.take_zero, List.drop_succ_cons, List.drop_zero, List.cons_append, List.nil_append, List.append_nil, List.length_cons, List.length_nil, Nat.reduceAdd, Nat.zero_add, Nat.add_zero, Value.cells, wrV]; first | done | rfl) | rfl) (by first | (simp only [List.set_cons_succ, List.set_cons_zero]; first | done | rfl) | rfl) ?_ | refine sx_store 1 rfl rfl rfl tyS65 (by first | (simp only [Value.cells]; first | done | rfl) | rfl) rfl rfl (by first | (simp only [List.length_cons, List.length_nil, Nat.reduceAdd, Nat.zero_add, Nat.add_zero]; first | done | rfl) | rfl) (by first | (simp only [List.take_succ_cons, List.take_zero, List.drop_succ_cons, List.drop_zero, List.cons_append, List.nil_append, List.append_nil, List.length_cons, List.length_nil, Nat.reduceAdd, Nat.zero_add, Nat.add_zero, Value.cells, wrV]; first | done | rfl) | rfl) (by first | (simp only [List.set_cons_succ, List.set_cons_zero]; first | done | rfl) | rfl) ?_ | refine sx_store 2 rfl rfl rfl tyS65 (by first | (simp only [Value.cells]; first | done | rfl) | rfl) rfl rfl (by first | (simp only [List.length_cons, List.length_nil, Nat.reduceAdd, Nat.zero_add, Nat.add_zero]; first | done | rfl) | rfl) (by first | (simp only [List.take_succ_cons, List.take_zero, List.drop_succ_cons, List.drop_zero, List.cons_append, List.nil_append, List.append_nil, List.length_cons, List.length_nil, Nat.reduceAdd, Nat.zero_add, Nat.add_zero, Value.cells, wrV]; first | done | rfl) | rfl) (by first | (simp only [List.set_cons_succ, List.set_cons_zero]; first | done | rfl) | rfl) ?_ | refine sx_store 3 rfl rfl rfl tyS65 (by first | (simp only [Value.cells]; first | done | rfl) | rfl) rfl rfl (by first | (simp only [List.length_cons, List.length_nil, Nat.reduceAdd, Nat.zero_add, Nat.add_zero]; first | done | rfl) | rfl) (by first | (simp only [List.take_succ_cons, List.take_zero, List.drop_succ_cons, List.drop_zero, List.cons_append, List.nil_append, List.append_nil, List.length_cons, List.length_nil, Nat.reduceAdd, Nat.zero_add, Nat.add_zero, Value.cells, wrV]; first | done | rfl) | rfl) (by first | (simp only [List.set_cons_succ, List.set_cons_zero]; first | done | rfl) | rfl) ?_
      refine sx_nil (hZ _ _ ?_)
      refine awp_forget [(0, _), (6, _), (7, _), (8, _), (9, _), (10, _), (11, _), (12, _), (35, _), (39, _), (40, _)] (Kn.cons rfl (Kn.cons rfl (Kn.cons rfl (Kn.cons rfl (Kn.cons rfl (Kn.cons rfl (Kn.cons rfl (Kn.cons rfl (Kn.cons rfl (Kn.cons rfl (Kn.cons rfl (Kn.nil)))))))))))) ?_

      refine awp_seq ?_
      refine awp_seq_region (fun Z hZ => ?_)
      refine sx_fieldAddr rfl tyF65_2 (by first | (simp only [Nat.reduceAdd, Nat.add_zero, Nat.zero_add]; first | done | rfl) | rfl) rfl ?_
      first | refine sx_load 0 rfl rfl tyA24 tyS24 rfl rfl ?_ | refine sx_load 1 rfl rfl tyA24 tyS24 rfl rfl ?_ | refine sx_load 2 rfl rfl tyA24 tyS24 rfl rfl ?_ | refine sx_load 3 rfl rfl tyA24 tyS24 rfl rfl ?_
      first | refine sx_neq rfl rfl rfl ?_ | refine sx_sneq rfl rfl rfl ?_
      refine sx_nil (hZ _ _ ?_)
      refine awp_forget [(0, _), (6, _), (7, _), (8, _), (9, _), (10, _), (11, _), (12, _), (35, _), (39, _), (40, _), (50, _)] (Kn.cons rfl (Kn.cons rfl (Kn.cons rfl (Kn.cons rfl (Kn.cons rfl (Kn.cons rfl (Kn.cons rfl (Kn.cons rfl (Kn.cons rfl (Kn.cons rfl (Kn.cons rfl (Kn.cons rfl (Kn.nil))))))))))))) ?_
      first | refine awp_cond rfl (fun h5 => ?_) (fun h5 => ?_) | refine awp_seq (awp_cond rfl (fun h5 => ?_) (fun h5 => ?_))
      · have he : e ≠ 0 := by simp at h5; omega
        rw [decG_e hg he] at hq
        rw [← hq]
        refine awq_seq_region mixed (by kernel_rfl) (fun Z hZ => ?_)
        refine sq_fieldAddr rfl tyF65_1 (by first | (simp only [Nat.reduceAdd, Nat.add_zero, Nat.zero_add]; first | done | rfl) | rfl) rfl ?_
        first | refine sq_load 0 rfl rfl tyA3 tyS3 rfl rfl ?_ | refine sq_load 1 rfl rfl tyA3 tyS3 rfl rfl ?_ | refine sq_load 2 rfl rfl tyA3 tyS3 rfl rfl ?_ | refine sq_load 3 rfl rfl tyA3 tyS3 rfl rfl ?_
        refine sq_fieldAddr rfl tyF65_2 (by first | (simp only [Nat.reduceAdd, Nat.add_zero, Nat.zero_add]; first | done | rfl) | rfl) rfl ?_
        first | refine sq_load 0 rfl rfl tyA24 tyS24 rfl rfl ?_ | refine sq_load 1 rfl rfl tyA24 tyS24 rfl rfl ?_ | refine sq_load 2 rfl rfl tyA24 tyS24 rfl rfl ?_ | refine sq_load 3 rfl rfl tyA24 tyS24 rfl rfl ?_
        refine sq_assign rfl rfl ?_
        refine sq_assign rfl rfl ?_
        refine sq_assign rfl rfl ?_
        refine sq_nil (hZ _ _ ?_)
        refine awp_forget [(2, _), (3, _), (4, _)] (Kn.cons rfl (Kn.cons rfl (Kn.cons rfl (Kn.nil)))) ?_
        refine awp_ret ?_
        repeat (with_reducible (first | refine nx_then_ret ?_ | refine nx_block_ret ?_ | refine nx_scope_ret ?_))
        exact nx_ret3h [] rfl rfl rfl rfl (HLe.sub (List.nil_sublist _)) ⟨_, rfl, RowOk.nil, rfl⟩
      have he : e = 0 := by simp at h5; omega
      subst he
      rw [decG_s hM rfl hlt hg] at hq
      refine awp_skip ?_
      repeat (with_reducible (first | refine nx_block_normal ?_ | refine nx_scope_normal ?_))
      with_reducible first | refine nx_normal ?_ | refine nx_normalM ?_
      refine awp_seq ?_
      refine aww_seq_region _ [(0, true), (1, true), (2, true), (3, true), (4, true), (5, true), (6, true), (7, false), (8, true)] mixed (by kernel_rfl) (HLe.pick [1] (by simp) (by simp only [pick, List.filterMap_cons, List.filterMap_nil, List.getElem?_cons_succ, List.getElem?_cons_zero]; rfl)) (fun Z hZ => ?_)
      refine tw_p rfl ?_
      refine sv_move rfl rfl ?_
      refine sv_nil ?_
      refine tw_p rfl ?_
      refine sv_move rfl rfl ?_
      refine sv_nil ?_
      refine tw_p rfl ?_
      first | refine sv_loadA 0 rfl rfl tyA51 tyS51 (by first | (simp only [List.length_cons, List.length_nil, Nat.reduceAdd, Nat.zero_add, Nat.add_zero]; first | done | rfl) | rfl) (by first | (simp only [List.take_succ_cons, List.take_zero, List.drop_succ_cons, List.drop_zero, List.cons_append, List.nil_append, List.append_nil, List.length_cons, List.length_nil, Nat.reduceAdd, Nat.zero_add, Nat.add_zero, Value.cells, wrV]; first | done | rfl) | rfl) rfl ?_
      refine sv_nil ?_
      refine tw_p rfl ?_
      refine sv_move rfl rfl ?_
      refine sv_nil ?_
      refine tw_p rfl ?_
      refine sv_move rfl rfl ?_
      refine sv_nil ?_
      refine tw_p rfl ?_
      refine sv_indexAddr (i * 4) Try.underlying27 tyS51 rfl rfl (by omega) (by simp) rfl ?_
      refine sv_nil ?_
      refine tw_p rfl ?_
      refine sv_move rfl rfl ?_
      refine sv_nil ?_
      refine tw_g rfl ?_
      refine sx_callO [_] [_, _, _] (dset_fn c i i ga (prevE M i) (atE M i) x M hc4 (by omega) hpo g1' hat) rfl (HLe.pick [2, 1, 0, 3] (by simp) rfl) rfl ?_
      rintro v H' ⟨rfl, M', rfl, hM'⟩
      refine sx_nil ⟨HLe.pick [1] (by simp) rfl, ?_⟩
      refine tw_p rfl ?_
      refine sv_assign rfl rfl ?_
      refine sv_nil ?_
      refine tw_nil (hZ _ _ ?_)
      refine awp_forget [(0, _), (6, _), (7, _), (8, _), (9, _), (10, _), (12, _), (13, _), (35, _), (39, _), (40, _)] (Kn.cons rfl (Kn.cons rfl (Kn.cons rfl (Kn.cons rfl (Kn.cons rfl (Kn.cons rfl (Kn.cons rfl (Kn.cons rfl (Kn.cons rfl (Kn.cons rfl (Kn.cons rfl (Kn.nil)))))))))))) ?_
      refine awp_seq_region (fun Z hZ => ?_)
      refine sx_move rfl rfl ?_
      first | refine sx_neq rfl rfl rfl ?_ | refine sx_sneq rfl rfl rfl ?_
      refine sx_nil (hZ _ _ ?_)
      refine awp_forget [(0, _), (6, _), (7, _), (8, _), (9, _), (10, _), (12, _), (13, _), (35, _), (39, _), (40, _), (64, _)] (Kn.cons rfl (Kn.cons rfl (Kn.cons rfl (Kn.cons rfl (Kn.cons rfl (Kn.cons rfl (Kn.cons rfl (Kn.cons rfl (Kn.cons rfl (Kn.cons rfl (Kn.cons rfl (Kn.cons rfl (Kn.nil))))))))))))) ?_
      first | refine awp_cond rfl (fun h6 => ?_) (fun h6 => ?_) | refine awp_seq (awp_cond rfl (fun h6 => ?_) (fun h6 => ?_))
      · have he : errQ c i (prevE M i) x ≠ 0 := by simp at h6; omega
        rw [if_pos he] at hq
        rw [← hq]
        refine awq_seq_region mixed (by kernel_rfl) (fun Z hZ => ?_)
        refine sq_fieldAddr rfl tyF65_1 (by first | (simp only [Nat.reduceAdd, Nat.add_zero, Nat.zero_add]; first | done | rfl) | rfl) rfl ?_
        first | refine sq_load 0 rfl rfl tyA3 tyS3 rfl rfl ?_ | refine sq_load 1 rfl rfl tyA3 tyS3 rfl rfl ?_ | refine sq_load 2 rfl rfl tyA3 tyS3 rfl rfl ?_ | refine sq_load 3 rfl rfl tyA3 tyS3 rfl rfl ?_
        refine sq_move rfl rfl ?_
        refine sq_assign rfl rfl ?_
        refine sq_assign rfl rfl ?_
        refine sq_assign rfl rfl ?_
        refine sq_nil (hZ _ _ ?_)
        refine awp_forget [(2, _), (3, _), (4, _)] (Kn.cons rfl (Kn.cons rfl (Kn.cons rfl (Kn.nil)))) ?_
        refine awp_ret ?_
        repeat (with_reducible (first | refine nx_then_ret ?_ | refine nx_block_ret ?_ | refine nx_scope_ret ?_))
        exact nx_ret3h [] rfl rfl rfl rfl (HLe.sub (List.nil_sublist _)) ⟨_, rfl, RowOk.nil, rfl⟩
      have he : errQ c i (prevE M i) x = 0 := by simp at h6; omega
      rw [if_neg (by simpa using he)] at hq
      have hM' := hM' he
      subst hM'
      have hat' : (M.set i (putQ c (prevE M i) (atE M i) x))[i]? = some (putQ c (prevE M i) (atE M i) x) := at_set hat
      have hE' : EnsOk (M.set i (putQ c (prevE M i) (atE M i) x)) := ens_set hE (putQ_ok hao g1')
      refine awp_skip ?_
      repeat (with_reducible (first | refine nx_block_normal ?_ | refine nx_scope_normal ?_))
      with_reducible first | refine nx_normal ?_ | refine nx_normalM ?_
      refine aww_region _ [(0, true), (1, true), (2, true), (3, true), (4, true), (5, false), (6, false)] mixed (by kernel_rfl) (HLe.pick [0, 2] (by simp) (by simp only [pick, List.filterMap_cons, List.filterMap_nil, List.getElem?_cons_succ, List.getElem?_cons_zero]; rfl)) (fun Z hZ => ?_)
      refine tw_p rfl ?_
      refine sv_move rfl rfl ?_
      refine sv_nil ?_
      refine tw_p rfl ?_
      refine sv_move rfl rfl ?_
      refine sv_nil ?_
      refine tw_p rfl ?_
      refine sv_indexAddr (i * 4) Try.underlying27 tyS51 rfl rfl (by omega) (by simp) rfl ?_
      refine sv_nil ?_
      refine tw_p rfl ?_
      refine sv_load 0 rfl rfl tyA51 tyS51 (ecells_all hat') rfl ?_
      refine sv_nil ?_
      refine tw_p rfl ?_
      first | refine sv_loadA 0 rfl rfl tyA65 tyS65 (by first | (simp only [List.length_cons, List.length_nil, Nat.reduceAdd, Nat.zero_add, Nat.add_zero]; first | done | rfl) | rfl) (by first | (simp only [List.take_succ_cons, List.take_zero, List.drop_succ_cons, List.drop_zero, List.cons_append, List.nil_append, List.append_nil, List.length_cons, List.length_nil, Nat.reduceAdd, Nat.zero_add, Nat.add_zero, Value.cells, wrV]; first | done | rfl) | rfl) rfl ?_ | refine sv_loadA 1 rfl rfl tyA65 tyS65 (by first | (simp only [List.length_cons, List.length_nil, Nat.reduceAdd, Nat.zero_add, Nat.add_zero]; first | done | rfl) | rfl) (by first | (simp only [List.take_succ_cons, List.take_zero, List.drop_succ_cons, List.drop_zero, List.cons_append, List.nil_append, List.append_nil, List.length_cons, List.length_nil, Nat.reduceAdd, Nat.zero_add, Nat.add_zero, Value.cells, wrV]; first | done | rfl) | rfl) rfl ?_
      refine sv_nil ?_
      refine tw_g rfl ?_
      first | refine sx_store 0 rfl rfl rfl tyS51 (by first | (simp only [Value.cells]; first | done | rfl) | rfl) rfl rfl (by first | (simp only [List.length_cons, List.length_nil, Nat.reduceAdd, Nat.zero_add, Nat.add_zero]; first | done | rfl) | rfl) (by first | (simp only [List.take_succ_cons, List.take_zero, List.drop_succ_cons, List.drop_zero, List.cons_append, List.nil_append, List.append_nil, List.length_cons, List.length_nil, Nat.reduceAdd, Nat.zero_add, Nat.add_zero, Value.cells, wrV]; first | done | rfl) | rfl) (by first | (simp only [List.set_cons_succ, List.set_cons_zero]; first | done | rfl) | rfl) ?_ | refine sx_store 1 rfl rfl rfl tyS51 (by first | (simp only [Value.cells]; first | done | rfl) | rfl) rfl rfl (by first | (simp only [List.length_cons, List.length_nil, Nat.reduceAdd, Nat.zero_add, Nat.add_zero]; first | done | rfl) | rfl) (by first | (simp only [List.take_succ_cons, List.take_zero, List.drop_succ_cons, List.drop_zero, List.cons_append, List.nil_append, List.append_nil, List.length_cons, List.length_nil, Nat.reduceAdd, Nat.zero_add, Nat.add_zero, Value.cells, wrV]; first | done | rfl) | rfl) (by first | (simp only [List.set_cons_succ, List.set_cons_zero]; first | done | rfl) | rfl) ?_ | refine sx_store 2 rfl rfl rfl tyS51 (by first | (simp only [Value.cells]; first | done | rfl) | rfl) rfl rfl (by first | (simp only [List.length_cons, List.length_nil, Nat.reduceAdd, Nat.zero_add, Nat.add_zero]; first | done | rfl) | rfl) (by first | (simp only [List.take_succ_cons, List.take_zero, List.drop_succ_cons, List.drop_zero, List.cons_append, List.nil_append, List.append_nil, List.length_cons, List.length_nil, Nat.reduceAdd, Nat.zero_add, Nat.add_zero, Value.cells, wrV]; first | done | rfl) | rfl) (by first | (simp only [List.set_cons_succ, List.set_cons_zero]; first | done | rfl) | rfl) ?_ | refine sx_store 3 rfl rfl rfl tyS51 (by first | (simp only [Value.cells]; first | done | rfl) | rfl) rfl rfl (by first | (simp only [List.length_cons, List.length_nil, Nat.reduceAdd, Nat.zero_add, Nat.add_zero]; first | done | rfl) | rfl) (by first | (simp only [List.take_succ_cons, List.take_zero, List.drop_succ_cons, List.drop_zero, List.cons_append, List.nil_append, List.append_nil, List.length_cons, List.length_nil, Nat.reduceAdd, Nat.zero_add, Nat.add_zero, Value.cells, wrV]; first | done | rfl) | rfl) (by first | (simp only [List.set_cons_succ, List.set_cons_zero]; first | done | rfl) | rfl) ?_
      refine sx_nil ⟨HLe.pick [0, 2] (by simp) rfl, ?_⟩
      refine tw_g rfl ?_
      first | refine sx_store 0 rfl rfl rfl tyS65 (by first | (simp only [Value.cells]; first | done | rfl) | rfl) rfl rfl (by first | (simp only [List.length_cons, List.length_nil, Nat.reduceAdd, Nat.zero_add, Nat.add_zero]; first | done | rfl) | rfl) (by first | (simp only [List.take_succ_cons, List.take_zero, List.drop_succ_cons, List.drop_zero, List.cons_append, List.nil_append, List.append_nil, List.length_cons, List.length_nil, Nat.reduceAdd, Nat.zero_add, Nat.add_zero, Value.cells, wrV]; first | done | rfl) | rfl) (by first | (simp only [List.set_cons_succ, List.set_cons_zero]; first | done | rfl) | rfl) ?_ | refine sx_store 1 rfl rfl rfl tyS65 (by first | (simp only [Value.cells]; first | done | rfl) | rfl) rfl rfl (by first | (simp only [List.length_cons, List.length_nil, Nat.reduceAdd, Nat.zero_add, Nat.add_zero]; first | done | rfl) | rfl) (by first | (simp only [List.take_succ_cons, List.take_zero, List.drop_succ_cons, List.drop_zero, List.cons_append, List.nil_append, List.append_nil, List.length_cons, List.length_nil, Nat.reduceAdd, Nat.zero_add, Nat.add_zero, Value.cells, wrV]; first | done | rfl) | rfl) (by first | (simp only [List.set_cons_succ, List.set_cons_zero]; first | done | rfl) | rfl) ?_ | refine sx_store 2 rfl rfl rfl tyS65 (by first | (simp only [Value.cells]; first | done | rfl) | rfl) rfl rfl (by first | (simp only [List.length_cons, List.length_nil, Nat.reduceAdd, Nat.zero_add, Nat.add_zero]; first | done | rfl) | rfl) (by first | (simp only [List.take_succ_cons, List.take_zero, List.drop_succ_cons, List.drop_zero, List.cons_append, List.nil_append, List.append_nil, List.length_cons, List.length_nil, Nat.reduceAdd, Nat.zero_add, Nat.add_zero, Value.cells, wrV]; first | done | rfl) | rfl) (by first | (simp only [List.set_cons_succ, List.set_cons_zero]; first | done | rfl) | rfl) ?_ | refine sx_store 3 rfl rfl rfl tyS65 (by first | (simp only [Value.cells]; first | done | rfl) | rfl) rfl rfl (by first | (simp only [List.length_cons, List.length_nil, Nat.reduceAdd, Nat.zero_add, Nat.add_zero]; first | done | rfl) | rfl) (by first | (simp only [List.take_succ_cons, List.take_zero, List.drop_succ_cons, List.drop_zero, List.cons_append, List.nil_append, List.append_nil, List.length_cons, List.length_nil, Nat.reduceAdd, Nat.zero_add, Nat.add_zero, Value.cells, wrV]; first | done | rfl) | rfl) (by first | (simp only [List.set_cons_succ, List.set_cons_zero]; first | done | rfl) | rfl) ?_
      refine sx_nil ⟨HLe.pick [0, 2] (by simp) rfl, ?_⟩
      refine tw_nil (hZ _ _ ?_)
      refine nx_forget [(0, _), (6, _), (7, _), (8, _), (9, _), (35, _), (39, _), (40, _)] (Kn.cons rfl (Kn.cons rfl (Kn.cons rfl (Kn.cons rfl (Kn.cons rfl (Kn.cons rfl (Kn.cons rfl (Kn.cons rfl (Kn.nil))))))))) ?_
      repeat (with_reducible (first | refine nx_block_normal ?_ | refine nx_scope_normal ?_))
      with_reducible first | refine nx_normal ?_ | refine nx_normalM ?_
      refine awp_region (fun Z hZ => ?_)
      refine sx_add rfl rfl ((i + 1 : Nat) : Int) (by rw [IntWalk.i64_in _ (by omega)]; omega) rfl ?_
      refine sx_move rfl rfl ?_
      refine sx_nil (hZ _ _ ?_)
      refine nx_forget [(0, _), (6, _), (7, _), (8, _), (9, _), (35, _), (39, _), (40, _)] (Kn.cons rfl (Kn.cons rfl (Kn.cons rfl (Kn.cons rfl (Kn.cons rfl (Kn.cons rfl (Kn.cons rfl (Kn.cons rfl (Kn.nil))))))))) ?_
      refine nx_round (i + 1, M.set i (putQ c (prevE M i) (atE M i) x), q) ⟨by show i + 1 ≤ _; omega, by simpa using hM, hE', g2', ?_⟩ (by simp; omega) (Kn.cons rfl (Kn.cons rfl (Kn.cons rfl (Kn.cons rfl (Kn.cons rfl (Kn.cons rfl (Kn.cons rfl (Kn.cons rfl Kn.nil)))))))) ?_
      · show decG s (4 * n - (c * n + (i + 1))) (c * n + (i + 1)) _ _ = D
        rw [show 4 * n - (c * n + (i + 1)) = m by omega, ← Nat.add_assoc]
        exact hq
      · simp only [prevE_succ]
        have : atE (M.set i (putQ c (prevE M i) (atE M i) x)) i = putQ c (prevE M i) (atE M i) x := Option.some.inj ((atE_at (by simp; omega)).symm.trans hat')
        rw [this]
        exact HLe.pick [1, 0, 3] (by simp) rfl
    · refine awp_exit ?_
      repeat (with_reducible (first | refine nx_then_exit ?_ | refine nx_block_other (by decide) ?_ | refine nx_scope_exit ?_))
      with_reducible refine nx_block_exit ?_
      repeat (with_reducible (first | refine nx_block_normal ?_ | refine nx_scope_normal ?_))
      with_reducible first | refine nx_normal ?_ | refine nx_normalM ?_
      have hie : i = n := by simp at h4; omega
      subst hie
      refine awp_region (fun Z hZ => ?_)
      refine sx_add rfl rfl ((c + 1 : Nat) : Int) (by rw [IntWalk.i64_in _ (by omega)]; omega) rfl ?_
      refine sx_move rfl rfl ?_
      refine sx_nil (hZ _ _ ?_)
      refine nx_forget [(0, _), (6, _), (7, _), (35, _)] (Kn.cons rfl (Kn.cons rfl (Kn.cons rfl (Kn.cons rfl (Kn.nil))))) ?_
      refine nx_round (c + 1, M, p) ⟨by show c + 1 ≤ _; omega, hM, hE, hp, ?_⟩ (by simp; omega) (Kn.cons rfl (Kn.cons rfl (Kn.cons rfl (Kn.cons rfl Kn.nil)))) (HLe.drop 1 rfl)
      show decG s (4 * i - (c + 1) * i) ((c + 1) * i) M p = D
      rw [Nat.add_mul, Nat.one_mul]
      exact hq
  · have hc4 : c = 4 := by simp at h3; omega
    subst hc4
    rw [Nat.sub_self, decG_0] at hq
    refine awp_exit ?_
    repeat (with_reducible (first | refine nx_then_exit ?_ | refine nx_block_other (by decide) ?_ | refine nx_scope_exit ?_))
    with_reducible refine nx_block_exit ?_
    repeat (with_reducible (first | refine nx_block_normal ?_ | refine nx_scope_normal ?_))
    with_reducible first | refine nx_normal ?_ | refine nx_normalM ?_
    refine awp_seq ?_
    refine awp_seq_region (fun Z hZ => ?_)
    refine sx_fieldAddr rfl tyF65_1 (by first | (simp only [Nat.reduceAdd, Nat.add_zero, Nat.zero_add]; first | done | rfl) | rfl) rfl ?_
    first | refine sx_load 0 rfl rfl tyA3 tyS3 rfl rfl ?_ | refine sx_load 1 rfl rfl tyA3 tyS3 rfl rfl ?_ | refine sx_load 2 rfl rfl tyA3 tyS3 rfl rfl ?_ | refine sx_load 3 rfl rfl tyA3 tyS3 rfl rfl ?_
    refine sx_move rfl rfl ?_
    first | refine sx_len Try.underlying9 rfl rfl ?_ | refine sx_lenS Try.underlying9 rfl rfl ?_
    first | refine sx_lss rfl rfl rfl ?_ | refine sx_slss rfl rfl rfl ?_
    refine sx_nil (hZ _ _ ?_)
    refine awp_forget [(0, _), (6, _), (7, _), (79, _)] (Kn.cons rfl (Kn.cons rfl (Kn.cons rfl (Kn.cons rfl (Kn.nil))))) ?_
    first | refine awp_cond rfl (fun h4 => ?_) (fun h4 => ?_) | refine awp_seq (awp_cond rfl (fun h4 => ?_) (fun h4 => ?_))
    · have hl : p < s.length := by simp at h4; omega
      rw [if_pos hl] at hq
      rw [← hq]
      refine awq_seq_region mixed (by kernel_rfl) (fun Z hZ => ?_)
      refine sq_fieldAddr rfl tyF65_1 (by first | (simp only [Nat.reduceAdd, Nat.add_zero, Nat.zero_add]; first | done | rfl) | rfl) rfl ?_
      first | refine sq_load 0 rfl rfl tyA3 tyS3 rfl rfl ?_ | refine sq_load 1 rfl rfl tyA3 tyS3 rfl rfl ?_ | refine sq_load 2 rfl rfl tyA3 tyS3 rfl rfl ?_ | refine sq_load 3 rfl rfl tyA3 tyS3 rfl rfl ?_
      refine sq_assign rfl rfl ?_
      refine sq_assign rfl rfl ?_
      refine sq_assign rfl rfl ?_
      refine sq_nil (hZ _ _ ?_)
      refine awp_forget [(2, _), (3, _), (4, _)] (Kn.cons rfl (Kn.cons rfl (Kn.cons rfl (Kn.nil)))) ?_
      refine awp_ret ?_
      repeat (with_reducible (first | refine nx_then_ret ?_ | refine nx_block_ret ?_ | refine nx_scope_ret ?_))
      exact nx_ret3h [] rfl rfl rfl rfl (HLe.sub (List.nil_sublist _)) ⟨_, rfl, RowOk.nil, rfl⟩
    have hl : ¬ p < s.length := by simp at h4; omega
    rw [if_neg hl] at hq
    have hmax : M.length ≤ maxLen := by show _ ≤ 9223372036854775807; omega
    refine awp_skip ?_
    repeat (with_reducible (first | refine nx_block_normal ?_ | refine nx_scope_normal ?_))
    with_reducible first | refine nx_normal ?_ | refine nx_normalM ?_
    subst hM
    refine awp_seq ?_
    refine awp_seq_region (fun Z hZ => ?_)
    refine sx_move rfl rfl ?_
    refine sx_callV [.ro ga 0 (ecells M)] (erow_fn (some ⟨ga, 0, none⟩) M.length M _ (fun _ => ⟨_, _, rfl⟩) (fun _ => rfl) (Ro.roE (some ⟨ga, 0, none⟩) (ecells M)) hmax hE) rfl ((HLe.toRo [] []).trans (HLe.pick [0] (by simp) rfl)) (Ro.roE (some ⟨ga, 0, none⟩) (ecells M)) rfl ?_
    refine sx_assign rfl rfl ?_
    refine sx_nil (hZ _ _ ?_)
    refine awp_forget [(0, _), (7, _), (14, _)] (Kn.cons rfl (Kn.cons rfl (Kn.cons rfl (Kn.nil)))) ?_
    refine awp_seq_region (fun Z hZ => ?_)
    refine sx_move rfl rfl ?_
    first | refine sx_neq rfl rfl rfl ?_ | refine sx_sneq rfl rfl rfl ?_
    refine sx_nil (hZ _ _ ?_)
    refine awp_forget [(0, _), (7, _), (14, _), (85, _)] (Kn.cons rfl (Kn.cons rfl (Kn.cons rfl (Kn.cons rfl (Kn.nil))))) ?_
    first | refine awp_cond rfl (fun h5 => ?_) (fun h5 => ?_) | refine awp_seq (awp_cond rfl (fun h5 => ?_) (fun h5 => ?_))
    · have hr : rowC M ≠ 0 := by simp at h5; omega
      rw [if_pos hr] at hq
      rw [← hq]
      refine awp_seq_region (fun Z hZ => ?_)
      refine sx_move rfl rfl ?_
      first | refine sx_len Try.underlying9 rfl rfl ?_ | refine sx_lenS Try.underlying9 rfl rfl ?_
      refine sx_move rfl rfl ?_
      refine sx_assign rfl rfl ?_
      refine sx_assign rfl rfl ?_
      refine sx_assign rfl rfl ?_
      refine sx_nil (hZ _ _ ?_)
      refine awp_forget [(2, _), (3, _), (4, _)] (Kn.cons rfl (Kn.cons rfl (Kn.cons rfl (Kn.nil)))) ?_
      refine awp_ret ?_
      repeat (with_reducible (first | refine nx_then_ret ?_ | refine nx_block_ret ?_ | refine nx_scope_ret ?_))
      exact nx_ret3h [] rfl rfl rfl rfl (HLe.sub (List.nil_sublist _)) ⟨_, rfl, RowOk.nil, rfl⟩
    have hr : rowC M = 0 := by simp at h5; omega
    rw [if_neg (by simpa using hr)] at hq
    rw [← hq]
    refine awp_skip ?_
    repeat (with_reducible (first | refine nx_block_normal ?_ | refine nx_scope_normal ?_))
    with_reducible first | refine nx_normal ?_ | refine nx_normalM ?_
    refine awp_seq_region (fun Z hZ => ?_)
    refine sx_move rfl rfl ?_
    refine sx_move rfl rfl ?_
    first | refine sx_len Try.underlying9 rfl rfl ?_ | refine sx_lenS Try.underlying9 rfl rfl ?_
    refine sx_assign rfl rfl ?_
    refine sx_assign rfl rfl ?_
    refine sx_assign rfl rfl ?_
    refine sx_nil (hZ _ _ ?_)
    refine awp_forget [(2, _), (3, _), (4, _)] (Kn.cons rfl (Kn.cons rfl (Kn.cons rfl (Kn.nil)))) ?_
    refine awp_ret ?_
    repeat (with_reducible (first | refine nx_then_ret ?_ | refine nx_block_ret ?_ | refine nx_scope_ret ?_))
    exact nx_ret3h _ rfl rfl rfl rfl ((HLe.ownRow [] [] (ecells_len M) hmax).trans (HLe.pick [0] (by simp) rfl)) ⟨_, rfl, RowOk.mk _ _ _, rfl⟩
end Go.Proofs.Ytfffhnefjaomnaa
