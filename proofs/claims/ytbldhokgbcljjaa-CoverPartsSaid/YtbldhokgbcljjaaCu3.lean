/- The walk of the program's curve.Point. No conditions. -/
import Derived.Test.YtbldhokgbcljjaaCu2
namespace Go.Proofs.Ytbldhokgbcljjaa
open Go.RowKit
set_option linter.unusedVariables false
set_option linter.unusedSimpArgs false
set_option maxRecDepth 100000
def qx (k : Nat) : Nat := if k = 2 ∨ k = 3 then 1 else 0
def qy (k : Nat) : Nat := if k = 1 ∨ k = 2 then 1 else 0
theorem pt_turn {i k a b d : Nat} (hk : d / 4 ^ i % 4 = k) (hab : pt i (d % 4 ^ i) = (a, b)) (ha : a < 2 ^ i) (hb : b < 2 ^ i) : pt (i + 1) (d % 4 ^ (i + 1)) = (qx k * 2 ^ i + (turnQ k a b i).1, qy k * 2 ^ i + (turnQ k a b i).2) ∧ (turnQ k a b i).1 < 2 ^ i ∧ (turnQ k a b i).2 < 2 ^ i := by
  have h4 : k < 4 := by rw [← hk]; exact Nat.mod_lt _ (by decide)
  have hp0 := pow2_pos i
  rw [pt, Nat.pow_succ, Nat.mod_mul_right_div_self, Nat.mod_mul_right_mod, hk, hab]
  have h1 := Nat.mod_eq_of_lt ha
  have h2 := Nat.mod_eq_of_lt hb
  obtain rfl | rfl | rfl | rfl : k = 0 ∨ k = 1 ∨ k = 2 ∨ k = 3 := by omega
  · rw [show turnQ 0 a b i = (b % 2 ^ i, a % 2 ^ i) from rfl, h1, h2, show qx 0 = 0 from rfl, show qy 0 = 0 from rfl, if_pos rfl, Nat.zero_mul, Nat.zero_add, Nat.zero_add]
    exact ⟨rfl, hb, ha⟩
  · rw [show turnQ 1 a b i = (a % 2 ^ i, b % 2 ^ i) from rfl, h1, h2, show qx 1 = 0 from rfl, show qy 1 = 1 from rfl, if_neg (by decide), if_pos rfl, Nat.zero_mul, Nat.zero_add, Nat.one_mul, Nat.add_comm (2 ^ i)]
    exact ⟨rfl, ha, hb⟩
  · rw [show turnQ 2 a b i = (a % 2 ^ i, b % 2 ^ i) from rfl, h1, h2, show qx 2 = 1 from rfl, show qy 2 = 1 from rfl, if_neg (by decide), if_neg (by decide), if_pos rfl, Nat.one_mul, Nat.add_comm (2 ^ i), Nat.add_comm (2 ^ i)]
    exact ⟨rfl, ha, hb⟩
  · rw [show turnQ 3 a b i = (2 ^ i - 1 - b % 2 ^ i, 2 ^ i - 1 - a % 2 ^ i) from rfl, h1, h2, show qx 3 = 1 from rfl, show qy 3 = 0 from rfl, if_neg (by decide), if_neg (by decide), if_neg (by decide), Nat.one_mul, Nat.zero_mul, Nat.zero_add, Nat.add_comm (2 ^ i)]
    exact ⟨rfl, by show 2 ^ i - 1 - b < 2 ^ i; omega, by show 2 ^ i - 1 - a < 2 ^ i; omega⟩
theorem qx_le (k m : Nat) : qx k * m ≤ m := by
  unfold qx
  split
  · rw [Nat.one_mul]; exact Nat.le_refl _
  · rw [Nat.zero_mul]; exact Nat.zero_le _
theorem qy_le (k m : Nat) : qy k * m ≤ m := by
  unfold qy
  split
  · rw [Nat.one_mul]; exact Nat.le_refl _
  · rw [Nat.zero_mul]; exact Nat.zero_le _
theorem four_two (i : Nat) : (2 : Nat) ^ (2 * i) = 4 ^ i := by rw [Nat.pow_mul]
theorem cPoint_fn (n d : Nat) (hn : n ≤ 26) (hd : d < 4 ^ n) : Fn Try.prog 99 [iq (n : Nat), uq d] [] fun v _ => v = .tuple #[iq ((pt n d).1 : Nat), iq ((pt n d).2 : Nat), iq (0 : Int)] := by
  have hs := cside_fn n hn
  have hp0 := pow2_pos n
  have hq4 : 4 ^ n ≤ 4 ^ 26 := Nat.pow_le_pow_right (by decide) hn
  have hdl : d < 18446744073709551616 := by
    have : (4 : Nat) ^ 26 < 18446744073709551616 := by decide
    omega
  have hsh := shr_at d (2 * n) (by omega)
  rw [four_two, Nat.div_eq_of_lt hd] at hsh
  obtain ⟨p, hpn⟩ : ∃ p, 2 ^ n = p := ⟨_, rfl⟩
  rw [hpn] at hs hp0
  refine Fn.enter (N := 61) Try.func99 rfl (by kernel_rfl) rfl (fun w0 => ?_)

  refine awp_seq_region (fun Z hZ => ?_)
  refine sx_assign rfl rfl ?_
  refine sx_assign rfl rfl ?_
  refine sx_assign rfl rfl ?_
  refine sx_nil (hZ _ _ ?_)
  refine awp_forget [(0, _), (1, _)] (Kn.cons rfl (Kn.cons rfl (Kn.nil))) ?_
  refine awp_seq_region (fun Z hZ => ?_)
  refine sx_move rfl rfl ?_
  refine sx_callP (hs) rfl rfl ?_
  refine sx_assign rfl rfl ?_
  refine sx_nil (hZ _ _ ?_)
  refine awp_forget [(0, _), (1, _), (7, _)] (Kn.cons rfl (Kn.cons rfl (Kn.cons rfl (Kn.nil)))) ?_
  refine awp_seq (awp_block ?_)
  refine awp_seq_region (fun Z hZ => ?_)
  refine sx_move rfl rfl ?_
  refine sx_eql rfl rfl rfl ?_
  refine sx_assign rfl rfl ?_
  refine sx_nil (hZ _ _ ?_)
  refine awp_forget [(0, _), (1, _), (15, _)] (Kn.cons rfl (Kn.cons rfl (Kn.cons rfl (Kn.nil)))) ?_
  refine awp_cond rfl (fun h1 => ?_) (fun h1 => ?_)
  · exfalso
    simp at h1
    omega
  refine awp_seq_region (fun Z hZ => ?_)
  refine sx_move rfl rfl ?_
  refine sx_move rfl rfl ?_
  refine sx_mul rfl rfl ((2 * n : Nat) : Int) (by rw [IntWalk.i64_in _ (by omega)]; omega) rfl ?_
  refine sx_shr rfl rfl (by omega) ((0 : Nat) : Int) hsh rfl ?_
  refine sx_neq rfl rfl rfl ?_
  refine sx_assign rfl rfl ?_
  refine sx_nil (hZ _ _ ?_)
  refine awp_forget [(0, _), (1, _), (18, _)] (Kn.cons rfl (Kn.cons rfl (Kn.cons rfl (Kn.nil)))) ?_
  refine awp_cond rfl (fun h2 => ?_) (fun h2 => ?_)
  · cases h2
  refine awp_skip ?_
  repeat (with_reducible refine nx_block_normal ?_)
  with_reducible refine nx_normal ?_

  refine awp_seq_region (fun Z hZ => ?_)
  refine sx_callP (cquarters_fn) rfl rfl ?_
  refine sx_alloc tyZ114 rfl (fun g1 => ?_)
  first | refine sx_store 0 rfl rfl rfl tyS114 (by first | (simp only [Value.cells]; first | done | rfl) | rfl) rfl rfl (by first | (simp only [List.length_cons, List.length_nil, Nat.reduceAdd, Nat.zero_add, Nat.add_zero]; first | done | rfl) | rfl) (by first | (simp only [List.take_succ_cons, List.take_zero, List.drop_succ_cons, List.drop_zero, List.cons_append, List.nil_append, List.append_nil, List.length_cons, List.length_nil, Nat.reduceAdd, Nat.zero_add, Nat.add_zero, Value.cells, wrV]; first | done | rfl) | rfl) (by first | (simp only [List.set_cons_succ, List.set_cons_zero]; first | done | rfl) | rfl) ?_
  refine sx_nil (hZ _ _ ?_)
  refine awp_forget [(0, _), (1, _), (8, _)] (Kn.cons rfl (Kn.cons rfl (Kn.cons rfl (Kn.nil)))) ?_
  refine awp_seq_region (fun Z hZ => ?_)
  refine sx_assign rfl rfl ?_
  refine sx_assign rfl rfl ?_
  refine sx_nil (hZ _ _ ?_)
  refine awp_forget [(0, _), (1, _), (8, _), (9, _), (10, _)] (Kn.cons rfl (Kn.cons rfl (Kn.cons rfl (Kn.cons rfl (Kn.cons rfl (Kn.nil)))))) ?_
  refine awp_seq ?_
  refine awp_seq_region (fun Z hZ => ?_)
  refine sx_move rfl rfl ?_
  refine sx_move rfl rfl ?_
  refine sx_nil (hZ _ _ ?_)
  refine awp_forget [(1, _), (8, _), (9, _), (10, _), (25, _), (26, _)] (Kn.cons rfl (Kn.cons rfl (Kn.cons rfl (Kn.cons rfl (Kn.cons rfl (Kn.cons rfl (Kn.nil))))))) ?_
  refine awp_block ?_
  refine awp_loop (ι := Nat × Nat × Nat) (fun s => [(1, uq d), (8, ptr g1 0), (9, uq s.1), (10, uq s.2.1), (25, iq n), (26, iq (s.2.2 : Nat))]) (fun _ => [.own g1 114 quarters]) (fun s => s.2.2 ≤ n ∧ pt s.2.2 (d % 4 ^ s.2.2) = (s.1, s.2.1)) (fun s => n - s.2.2) (0, 0, 0) ⟨Nat.zero_le _, rfl⟩ (Kn.cons rfl (Kn.cons rfl (Kn.cons rfl (Kn.cons rfl (Kn.cons rfl (Kn.cons rfl Kn.nil)))))) (HLe.refl _) ?_
  rintro ⟨a, b, i⟩ ⟨hi, hab⟩
  replace hi : i ≤ n := hi
  replace hab : pt i (d % 4 ^ i) = (a, b) := hab
  refine awp_forget [(1, uq d), (8, ptr g1 0), (9, uq a), (10, uq b), (25, iq n), (26, iq i)] (Kn.cons rfl (Kn.cons rfl (Kn.cons rfl (Kn.cons rfl (Kn.cons rfl (Kn.cons rfl Kn.nil)))))) ?_
  have hlt2 := pt_lt i (d % 4 ^ i) (Nat.mod_lt _ (pow4_pos i))
  rw [hab] at hlt2
  obtain ⟨ha, hb⟩ : a < 2 ^ i ∧ b < 2 ^ i := hlt2
  have hil := pow2_le26 (show i ≤ 26 by omega)
  refine awp_seq_region (fun Z hZ => ?_)
  refine sx_lss rfl rfl rfl ?_
  refine sx_nil (hZ _ _ ?_)
  refine awp_forget [(1, _), (8, _), (9, _), (10, _), (25, _), (26, _), (27, _)] (Kn.cons rfl (Kn.cons rfl (Kn.cons rfl (Kn.cons rfl (Kn.cons rfl (Kn.cons rfl (Kn.cons rfl (Kn.nil)))))))) ?_
  refine awp_seq (awp_cond rfl (fun h9 => ?_) (fun h9 => ?_))
  · have hlt : i < n := by simpa using h9
    obtain ⟨k, hk⟩ : ∃ k, d / 4 ^ i % 4 = k := ⟨_, rfl⟩
    have hk4 : k < 4 := by rw [← hk]; exact Nat.mod_lt _ (by decide)
    obtain ⟨e1, e2, e3⟩ := pt_turn hk hab ha hb
    have hct := cturn_fn k a b i hk4 (by omega) (by omega) (by omega)
    obtain ⟨t, ht⟩ : ∃ t, turnQ k a b i = t := ⟨_, rfl⟩
    obtain ⟨ta, tb⟩ := t
    rw [ht] at e1 e2 e3 hct
    replace e1 : pt (i + 1) (d % 4 ^ (i + 1)) = (qx k * 2 ^ i + ta, qy k * 2 ^ i + tb) := e1
    replace e2 : ta < 2 ^ i := e2
    replace e3 : tb < 2 ^ i := e3
    have h7 := shr_at d (2 * i) (by omega)
    rw [four_two] at h7
    have h8 := and_3 (d / 4 ^ i) (Nat.lt_of_le_of_lt (Nat.div_le_self _ _) hdl)
    rw [hk] at h8
    have hqa := quarters_at hk4
    have hsx := shl_at .u64 (qx k) i rfl (by omega) (fun x hx => IntWalk.u64_in _ (by have := qx_le k (2 ^ i); omega))
    have hsy := shl_at .u64 (qy k) i rfl (by omega) (fun x hx => IntWalk.u64_in _ (by have := qy_le k (2 ^ i); omega))
    have hox := or_at' (qx k) ta i e2 (by have := qx_le k (2 ^ i); omega)
    have hoy := or_at' (qy k) tb i e3 (by have := qy_le k (2 ^ i); omega)
    obtain ⟨nx, hnx⟩ : ∃ x, qx k * 2 ^ i + ta = x := ⟨_, rfl⟩
    obtain ⟨ny, hny⟩ : ∃ x, qy k * 2 ^ i + tb = x := ⟨_, rfl⟩
    obtain ⟨sx, hsx0⟩ : ∃ x, qx k * 2 ^ i = x := ⟨_, rfl⟩
    obtain ⟨sy, hsy0⟩ : ∃ x, qy k * 2 ^ i = x := ⟨_, rfl⟩
    obtain ⟨dd, hdd⟩ : ∃ x, d / 4 ^ i = x := ⟨_, rfl⟩
    rw [hnx] at e1 hox
    rw [hny] at e1 hoy
    rw [hsx0] at hsx hox
    rw [hsy0] at hsy hoy
    rw [hdd] at h7 h8
    refine awp_skip ?_
    with_reducible refine nx_normal ?_
    refine awp_seq (awp_block ?_)
    refine awp_seq_region (fun Z hZ => ?_)
    refine sx_move rfl rfl ?_
    refine sx_assign rfl rfl ?_
    refine sx_nil (hZ _ _ ?_)
    refine awp_forget [(1, _), (8, _), (9, _), (10, _), (11, _), (25, _), (26, _)] (Kn.cons rfl (Kn.cons rfl (Kn.cons rfl (Kn.cons rfl (Kn.cons rfl (Kn.cons rfl (Kn.cons rfl (Kn.nil)))))))) ?_
    clear hk hnx hny hsx0 hsy0 ht hd hdd
    obtain rfl | rfl | rfl | rfl : k = 0 ∨ k = 1 ∨ k = 2 ∨ k = 3 := by omega
    · replace hct : Fn Try.prog 98 [.agg #[uq 0, uq 0, .bool true, .bool false], uq a, uq b, iq i] [] fun v _ => v = .tuple #[uq ta, uq tb] := hct

      refine awp_seq_region (fun Z hZ => ?_)
      refine sx_move rfl rfl ?_
      refine sx_move rfl rfl ?_
      refine sx_mul rfl rfl ((2 * i : Nat) : Int) (by rw [IntWalk.i64_in _ (by omega)]; omega) rfl ?_
      refine sx_shr rfl rfl (by omega) ((dd : Nat) : Int) h7 rfl ?_
      refine sx_bits (.inl rfl) rfl rfl ((0 : Nat) : Int) h8 rfl ?_
      refine sx_indexAddrA 0 Try.underlying114 tyS113 rfl rfl (by decide) rfl rfl ?_
      first | refine sx_loadA 0 rfl rfl tyA113 tyS113 (by first | (simp only [List.length_cons, List.length_nil, Nat.reduceAdd, Nat.zero_add, Nat.add_zero]; first | done | rfl) | rfl) (by first | (simp only [List.take_succ_cons, List.take_zero, List.drop_succ_cons, List.drop_zero, List.cons_append, List.nil_append, List.append_nil, List.length_cons, List.length_nil, Nat.reduceAdd, Nat.zero_add, Nat.add_zero, Value.cells, wrV]; first | done | rfl) | rfl) rfl ?_
      refine sx_alloc tyZ113 rfl (fun g2 => ?_)
      refine sx_store 0 rfl rfl rfl tyS113 (by first | (simp only [Value.cells]; first | done | rfl) | rfl) rfl rfl (by first | (simp only [List.length_cons, List.length_nil, Nat.reduceAdd, Nat.zero_add, Nat.add_zero]; first | done | rfl) | rfl) (by first | (simp only [List.take_succ_cons, List.take_zero, List.drop_succ_cons, List.drop_zero, List.cons_append, List.nil_append, List.append_nil, List.length_cons, List.length_nil, Nat.reduceAdd, Nat.zero_add, Nat.add_zero, Value.cells, wrV]; first | done | rfl) | rfl) (by first | (simp only [List.set_cons_succ, List.set_cons_zero]; first | done | rfl) | rfl) ?_
      refine sx_nil (hZ _ _ ?_)
      refine awp_forget [(1, _), (8, _), (9, _), (10, _), (11, _), (12, _), (25, _), (26, _)] (Kn.cons rfl (Kn.cons rfl (Kn.cons rfl (Kn.cons rfl (Kn.cons rfl (Kn.cons rfl (Kn.cons rfl (Kn.cons rfl (Kn.nil))))))))) ?_
      refine awp_seq_region (fun Z hZ => ?_)
      refine sx_loadA 0 rfl rfl tyA113 tyS113 (by first | (simp only [List.length_cons, List.length_nil, Nat.reduceAdd, Nat.zero_add, Nat.add_zero]; first | done | rfl) | rfl) (by first | (simp only [List.take_succ_cons, List.take_zero, List.drop_succ_cons, List.drop_zero, List.cons_append, List.nil_append, List.append_nil, List.length_cons, List.length_nil, Nat.reduceAdd, Nat.zero_add, Nat.add_zero, Value.cells, wrV]; first | done | rfl) | rfl) rfl ?_
      refine sx_move rfl rfl ?_
      refine sx_move rfl rfl ?_
      refine sx_move rfl rfl ?_
      refine sx_callP (hct) rfl rfl ?_
      refine sx_move rfl rfl ?_
      refine sx_extract rfl rfl rfl ?_
      refine sx_extract rfl rfl rfl ?_
      refine sx_assign rfl rfl ?_
      refine sx_assign rfl rfl ?_
      refine sx_nil (hZ _ _ ?_)
      refine awp_forget [(1, _), (8, _), (9, _), (10, _), (11, _), (12, _), (25, _), (26, _)] (Kn.cons rfl (Kn.cons rfl (Kn.cons rfl (Kn.cons rfl (Kn.cons rfl (Kn.cons rfl (Kn.cons rfl (Kn.cons rfl (Kn.nil))))))))) ?_
      refine awq_region mixed (by kernel_rfl) (fun Z hZ => ?_)
      refine sq_move rfl rfl ?_
      refine sq_fieldAddr rfl tyF113_0 (by first | (simp only [Nat.reduceAdd, Nat.add_zero, Nat.zero_add]; first | done | rfl) | rfl) rfl ?_
      refine sq_load 0 rfl rfl tyA36 tyS36 rfl rfl ?_
      refine sq_move rfl rfl ?_
      refine sq_shl rfl rfl (by omega) ((sx : Nat) : Int) hsx rfl ?_
      refine sq_bits (.inr (.inl rfl)) rfl rfl ((nx : Nat) : Int) hox rfl ?_
      refine sq_move rfl rfl ?_
      refine sq_fieldAddr rfl tyF113_1 (by first | (simp only [Nat.reduceAdd, Nat.add_zero, Nat.zero_add]; first | done | rfl) | rfl) rfl ?_
      refine sq_load 0 rfl rfl tyA36 tyS36 rfl rfl ?_
      refine sq_move rfl rfl ?_
      refine sq_shl rfl rfl (by omega) ((sy : Nat) : Int) hsy rfl ?_
      refine sq_bits (.inr (.inl rfl)) rfl rfl ((ny : Nat) : Int) hoy rfl ?_
      refine sq_assign rfl rfl ?_
      refine sq_assign rfl rfl ?_
      refine sq_nil (hZ _ _ ?_)
      refine nx_forget [(1, _), (8, _), (9, _), (10, _), (25, _), (26, _)] (Kn.cons rfl (Kn.cons rfl (Kn.cons rfl (Kn.cons rfl (Kn.cons rfl (Kn.cons rfl (Kn.nil))))))) ?_
      repeat (with_reducible refine nx_block_normal ?_)
      with_reducible refine nx_normal ?_
      refine awp_region (fun Z hZ => ?_)
      refine sx_add rfl rfl ((i + 1 : Nat) : Int) (by rw [IntWalk.i64_in _ (by omega)]; omega) rfl ?_
      refine sx_move rfl rfl ?_
      refine sx_nil (hZ _ _ ?_)
      refine nx_forget [(1, _), (8, _), (9, _), (10, _), (25, _), (26, _)] (Kn.cons rfl (Kn.cons rfl (Kn.cons rfl (Kn.cons rfl (Kn.cons rfl (Kn.cons rfl (Kn.nil))))))) ?_
      exact nx_round (nx, ny, i + 1) ⟨hlt, e1⟩ (show n - (i + 1) < n - i by omega) (Kn.cons rfl (Kn.cons rfl (Kn.cons rfl (Kn.cons rfl (Kn.cons rfl (Kn.cons rfl Kn.nil)))))) (HLe.drop 1 rfl)
    · replace hct : Fn Try.prog 98 [.agg #[uq 0, uq 1, .bool false, .bool false], uq a, uq b, iq i] [] fun v _ => v = .tuple #[uq ta, uq tb] := hct

      refine awp_seq_region (fun Z hZ => ?_)
      refine sx_move rfl rfl ?_
      refine sx_move rfl rfl ?_
      refine sx_mul rfl rfl ((2 * i : Nat) : Int) (by rw [IntWalk.i64_in _ (by omega)]; omega) rfl ?_
      refine sx_shr rfl rfl (by omega) ((dd : Nat) : Int) h7 rfl ?_
      refine sx_bits (.inl rfl) rfl rfl ((1 : Nat) : Int) h8 rfl ?_
      refine sx_indexAddrA 4 Try.underlying114 tyS113 rfl rfl (by decide) rfl rfl ?_
      first | refine sx_loadA 0 rfl rfl tyA113 tyS113 (by first | (simp only [List.length_cons, List.length_nil, Nat.reduceAdd, Nat.zero_add, Nat.add_zero]; first | done | rfl) | rfl) (by first | (simp only [List.take_succ_cons, List.take_zero, List.drop_succ_cons, List.drop_zero, List.cons_append, List.nil_append, List.append_nil, List.length_cons, List.length_nil, Nat.reduceAdd, Nat.zero_add, Nat.add_zero, Value.cells, wrV]; first | done | rfl) | rfl) rfl ?_
      refine sx_alloc tyZ113 rfl (fun g3 => ?_)
      refine sx_store 0 rfl rfl rfl tyS113 (by first | (simp only [Value.cells]; first | done | rfl) | rfl) rfl rfl (by first | (simp only [List.length_cons, List.length_nil, Nat.reduceAdd, Nat.zero_add, Nat.add_zero]; first | done | rfl) | rfl) (by first | (simp only [List.take_succ_cons, List.take_zero, List.drop_succ_cons, List.drop_zero, List.cons_append, List.nil_append, List.append_nil, List.length_cons, List.length_nil, Nat.reduceAdd, Nat.zero_add, Nat.add_zero, Value.cells, wrV]; first | done | rfl) | rfl) (by first | (simp only [List.set_cons_succ, List.set_cons_zero]; first | done | rfl) | rfl) ?_
      refine sx_nil (hZ _ _ ?_)
      refine awp_forget [(1, _), (8, _), (9, _), (10, _), (11, _), (12, _), (25, _), (26, _)] (Kn.cons rfl (Kn.cons rfl (Kn.cons rfl (Kn.cons rfl (Kn.cons rfl (Kn.cons rfl (Kn.cons rfl (Kn.cons rfl (Kn.nil))))))))) ?_
      refine awp_seq_region (fun Z hZ => ?_)
      refine sx_loadA 0 rfl rfl tyA113 tyS113 (by first | (simp only [List.length_cons, List.length_nil, Nat.reduceAdd, Nat.zero_add, Nat.add_zero]; first | done | rfl) | rfl) (by first | (simp only [List.take_succ_cons, List.take_zero, List.drop_succ_cons, List.drop_zero, List.cons_append, List.nil_append, List.append_nil, List.length_cons, List.length_nil, Nat.reduceAdd, Nat.zero_add, Nat.add_zero, Value.cells, wrV]; first | done | rfl) | rfl) rfl ?_
      refine sx_move rfl rfl ?_
      refine sx_move rfl rfl ?_
      refine sx_move rfl rfl ?_
      refine sx_callP (hct) rfl rfl ?_
      refine sx_move rfl rfl ?_
      refine sx_extract rfl rfl rfl ?_
      refine sx_extract rfl rfl rfl ?_
      refine sx_assign rfl rfl ?_
      refine sx_assign rfl rfl ?_
      refine sx_nil (hZ _ _ ?_)
      refine awp_forget [(1, _), (8, _), (9, _), (10, _), (11, _), (12, _), (25, _), (26, _)] (Kn.cons rfl (Kn.cons rfl (Kn.cons rfl (Kn.cons rfl (Kn.cons rfl (Kn.cons rfl (Kn.cons rfl (Kn.cons rfl (Kn.nil))))))))) ?_
      refine awq_region mixed (by kernel_rfl) (fun Z hZ => ?_)
      refine sq_move rfl rfl ?_
      refine sq_fieldAddr rfl tyF113_0 (by first | (simp only [Nat.reduceAdd, Nat.add_zero, Nat.zero_add]; first | done | rfl) | rfl) rfl ?_
      refine sq_load 0 rfl rfl tyA36 tyS36 rfl rfl ?_
      refine sq_move rfl rfl ?_
      refine sq_shl rfl rfl (by omega) ((sx : Nat) : Int) hsx rfl ?_
      refine sq_bits (.inr (.inl rfl)) rfl rfl ((nx : Nat) : Int) hox rfl ?_
      refine sq_move rfl rfl ?_
      refine sq_fieldAddr rfl tyF113_1 (by first | (simp only [Nat.reduceAdd, Nat.add_zero, Nat.zero_add]; first | done | rfl) | rfl) rfl ?_
      refine sq_load 0 rfl rfl tyA36 tyS36 rfl rfl ?_
      refine sq_move rfl rfl ?_
      refine sq_shl rfl rfl (by omega) ((sy : Nat) : Int) hsy rfl ?_
      refine sq_bits (.inr (.inl rfl)) rfl rfl ((ny : Nat) : Int) hoy rfl ?_
      refine sq_assign rfl rfl ?_
      refine sq_assign rfl rfl ?_
      refine sq_nil (hZ _ _ ?_)
      refine nx_forget [(1, _), (8, _), (9, _), (10, _), (25, _), (26, _)] (Kn.cons rfl (Kn.cons rfl (Kn.cons rfl (Kn.cons rfl (Kn.cons rfl (Kn.cons rfl (Kn.nil))))))) ?_
      repeat (with_reducible refine nx_block_normal ?_)
      with_reducible refine nx_normal ?_
      refine awp_region (fun Z hZ => ?_)
      refine sx_add rfl rfl ((i + 1 : Nat) : Int) (by rw [IntWalk.i64_in _ (by omega)]; omega) rfl ?_
      refine sx_move rfl rfl ?_
      refine sx_nil (hZ _ _ ?_)
      refine nx_forget [(1, _), (8, _), (9, _), (10, _), (25, _), (26, _)] (Kn.cons rfl (Kn.cons rfl (Kn.cons rfl (Kn.cons rfl (Kn.cons rfl (Kn.cons rfl (Kn.nil))))))) ?_
      exact nx_round (nx, ny, i + 1) ⟨hlt, e1⟩ (show n - (i + 1) < n - i by omega) (Kn.cons rfl (Kn.cons rfl (Kn.cons rfl (Kn.cons rfl (Kn.cons rfl (Kn.cons rfl Kn.nil)))))) (HLe.drop 1 rfl)
    · replace hct : Fn Try.prog 98 [.agg #[uq 1, uq 1, .bool false, .bool false], uq a, uq b, iq i] [] fun v _ => v = .tuple #[uq ta, uq tb] := hct

      refine awp_seq_region (fun Z hZ => ?_)
      refine sx_move rfl rfl ?_
      refine sx_move rfl rfl ?_
      refine sx_mul rfl rfl ((2 * i : Nat) : Int) (by rw [IntWalk.i64_in _ (by omega)]; omega) rfl ?_
      refine sx_shr rfl rfl (by omega) ((dd : Nat) : Int) h7 rfl ?_
      refine sx_bits (.inl rfl) rfl rfl ((2 : Nat) : Int) h8 rfl ?_
      refine sx_indexAddrA 8 Try.underlying114 tyS113 rfl rfl (by decide) rfl rfl ?_
      first | refine sx_loadA 0 rfl rfl tyA113 tyS113 (by first | (simp only [List.length_cons, List.length_nil, Nat.reduceAdd, Nat.zero_add, Nat.add_zero]; first | done | rfl) | rfl) (by first | (simp only [List.take_succ_cons, List.take_zero, List.drop_succ_cons, List.drop_zero, List.cons_append, List.nil_append, List.append_nil, List.length_cons, List.length_nil, Nat.reduceAdd, Nat.zero_add, Nat.add_zero, Value.cells, wrV]; first | done | rfl) | rfl) rfl ?_
      refine sx_alloc tyZ113 rfl (fun g4 => ?_)
      refine sx_store 0 rfl rfl rfl tyS113 (by first | (simp only [Value.cells]; first | done | rfl) | rfl) rfl rfl (by first | (simp only [List.length_cons, List.length_nil, Nat.reduceAdd, Nat.zero_add, Nat.add_zero]; first | done | rfl) | rfl) (by first | (simp only [List.take_succ_cons, List.take_zero, List.drop_succ_cons, List.drop_zero, List.cons_append, List.nil_append, List.append_nil, List.length_cons, List.length_nil, Nat.reduceAdd, Nat.zero_add, Nat.add_zero, Value.cells, wrV]; first | done | rfl) | rfl) (by first | (simp only [List.set_cons_succ, List.set_cons_zero]; first | done | rfl) | rfl) ?_
      refine sx_nil (hZ _ _ ?_)
      refine awp_forget [(1, _), (8, _), (9, _), (10, _), (11, _), (12, _), (25, _), (26, _)] (Kn.cons rfl (Kn.cons rfl (Kn.cons rfl (Kn.cons rfl (Kn.cons rfl (Kn.cons rfl (Kn.cons rfl (Kn.cons rfl (Kn.nil))))))))) ?_
      refine awp_seq_region (fun Z hZ => ?_)
      refine sx_loadA 0 rfl rfl tyA113 tyS113 (by first | (simp only [List.length_cons, List.length_nil, Nat.reduceAdd, Nat.zero_add, Nat.add_zero]; first | done | rfl) | rfl) (by first | (simp only [List.take_succ_cons, List.take_zero, List.drop_succ_cons, List.drop_zero, List.cons_append, List.nil_append, List.append_nil, List.length_cons, List.length_nil, Nat.reduceAdd, Nat.zero_add, Nat.add_zero, Value.cells, wrV]; first | done | rfl) | rfl) rfl ?_
      refine sx_move rfl rfl ?_
      refine sx_move rfl rfl ?_
      refine sx_move rfl rfl ?_
      refine sx_callP (hct) rfl rfl ?_
      refine sx_move rfl rfl ?_
      refine sx_extract rfl rfl rfl ?_
      refine sx_extract rfl rfl rfl ?_
      refine sx_assign rfl rfl ?_
      refine sx_assign rfl rfl ?_
      refine sx_nil (hZ _ _ ?_)
      refine awp_forget [(1, _), (8, _), (9, _), (10, _), (11, _), (12, _), (25, _), (26, _)] (Kn.cons rfl (Kn.cons rfl (Kn.cons rfl (Kn.cons rfl (Kn.cons rfl (Kn.cons rfl (Kn.cons rfl (Kn.cons rfl (Kn.nil))))))))) ?_
      refine awq_region mixed (by kernel_rfl) (fun Z hZ => ?_)
      refine sq_move rfl rfl ?_
      refine sq_fieldAddr rfl tyF113_0 (by first | (simp only [Nat.reduceAdd, Nat.add_zero, Nat.zero_add]; first | done | rfl) | rfl) rfl ?_
      refine sq_load 0 rfl rfl tyA36 tyS36 rfl rfl ?_
      refine sq_move rfl rfl ?_
      refine sq_shl rfl rfl (by omega) ((sx : Nat) : Int) hsx rfl ?_
      refine sq_bits (.inr (.inl rfl)) rfl rfl ((nx : Nat) : Int) hox rfl ?_
      refine sq_move rfl rfl ?_
      refine sq_fieldAddr rfl tyF113_1 (by first | (simp only [Nat.reduceAdd, Nat.add_zero, Nat.zero_add]; first | done | rfl) | rfl) rfl ?_
      refine sq_load 0 rfl rfl tyA36 tyS36 rfl rfl ?_
      refine sq_move rfl rfl ?_
      refine sq_shl rfl rfl (by omega) ((sy : Nat) : Int) hsy rfl ?_
      refine sq_bits (.inr (.inl rfl)) rfl rfl ((ny : Nat) : Int) hoy rfl ?_
      refine sq_assign rfl rfl ?_
      refine sq_assign rfl rfl ?_
      refine sq_nil (hZ _ _ ?_)
      refine nx_forget [(1, _), (8, _), (9, _), (10, _), (25, _), (26, _)] (Kn.cons rfl (Kn.cons rfl (Kn.cons rfl (Kn.cons rfl (Kn.cons rfl (Kn.cons rfl (Kn.nil))))))) ?_
      repeat (with_reducible refine nx_block_normal ?_)
      with_reducible refine nx_normal ?_
      refine awp_region (fun Z hZ => ?_)
      refine sx_add rfl rfl ((i + 1 : Nat) : Int) (by rw [IntWalk.i64_in _ (by omega)]; omega) rfl ?_
      refine sx_move rfl rfl ?_
      refine sx_nil (hZ _ _ ?_)
      refine nx_forget [(1, _), (8, _), (9, _), (10, _), (25, _), (26, _)] (Kn.cons rfl (Kn.cons rfl (Kn.cons rfl (Kn.cons rfl (Kn.cons rfl (Kn.cons rfl (Kn.nil))))))) ?_
      exact nx_round (nx, ny, i + 1) ⟨hlt, e1⟩ (show n - (i + 1) < n - i by omega) (Kn.cons rfl (Kn.cons rfl (Kn.cons rfl (Kn.cons rfl (Kn.cons rfl (Kn.cons rfl Kn.nil)))))) (HLe.drop 1 rfl)
    · replace hct : Fn Try.prog 98 [.agg #[uq 1, uq 0, .bool true, .bool true], uq a, uq b, iq i] [] fun v _ => v = .tuple #[uq ta, uq tb] := hct

      refine awp_seq_region (fun Z hZ => ?_)
      refine sx_move rfl rfl ?_
      refine sx_move rfl rfl ?_
      refine sx_mul rfl rfl ((2 * i : Nat) : Int) (by rw [IntWalk.i64_in _ (by omega)]; omega) rfl ?_
      refine sx_shr rfl rfl (by omega) ((dd : Nat) : Int) h7 rfl ?_
      refine sx_bits (.inl rfl) rfl rfl ((3 : Nat) : Int) h8 rfl ?_
      refine sx_indexAddrA 12 Try.underlying114 tyS113 rfl rfl (by decide) rfl rfl ?_
      first | refine sx_loadA 0 rfl rfl tyA113 tyS113 (by first | (simp only [List.length_cons, List.length_nil, Nat.reduceAdd, Nat.zero_add, Nat.add_zero]; first | done | rfl) | rfl) (by first | (simp only [List.take_succ_cons, List.take_zero, List.drop_succ_cons, List.drop_zero, List.cons_append, List.nil_append, List.append_nil, List.length_cons, List.length_nil, Nat.reduceAdd, Nat.zero_add, Nat.add_zero, Value.cells, wrV]; first | done | rfl) | rfl) rfl ?_
      refine sx_alloc tyZ113 rfl (fun g5 => ?_)
      refine sx_store 0 rfl rfl rfl tyS113 (by first | (simp only [Value.cells]; first | done | rfl) | rfl) rfl rfl (by first | (simp only [List.length_cons, List.length_nil, Nat.reduceAdd, Nat.zero_add, Nat.add_zero]; first | done | rfl) | rfl) (by first | (simp only [List.take_succ_cons, List.take_zero, List.drop_succ_cons, List.drop_zero, List.cons_append, List.nil_append, List.append_nil, List.length_cons, List.length_nil, Nat.reduceAdd, Nat.zero_add, Nat.add_zero, Value.cells, wrV]; first | done | rfl) | rfl) (by first | (simp only [List.set_cons_succ, List.set_cons_zero]; first | done | rfl) | rfl) ?_
      refine sx_nil (hZ _ _ ?_)
      refine awp_forget [(1, _), (8, _), (9, _), (10, _), (11, _), (12, _), (25, _), (26, _)] (Kn.cons rfl (Kn.cons rfl (Kn.cons rfl (Kn.cons rfl (Kn.cons rfl (Kn.cons rfl (Kn.cons rfl (Kn.cons rfl (Kn.nil))))))))) ?_
      refine awp_seq_region (fun Z hZ => ?_)
      refine sx_loadA 0 rfl rfl tyA113 tyS113 (by first | (simp only [List.length_cons, List.length_nil, Nat.reduceAdd, Nat.zero_add, Nat.add_zero]; first | done | rfl) | rfl) (by first | (simp only [List.take_succ_cons, List.take_zero, List.drop_succ_cons, List.drop_zero, List.cons_append, List.nil_append, List.append_nil, List.length_cons, List.length_nil, Nat.reduceAdd, Nat.zero_add, Nat.add_zero, Value.cells, wrV]; first | done | rfl) | rfl) rfl ?_
      refine sx_move rfl rfl ?_
      refine sx_move rfl rfl ?_
      refine sx_move rfl rfl ?_
      refine sx_callP (hct) rfl rfl ?_
      refine sx_move rfl rfl ?_
      refine sx_extract rfl rfl rfl ?_
      refine sx_extract rfl rfl rfl ?_
      refine sx_assign rfl rfl ?_
      refine sx_assign rfl rfl ?_
      refine sx_nil (hZ _ _ ?_)
      refine awp_forget [(1, _), (8, _), (9, _), (10, _), (11, _), (12, _), (25, _), (26, _)] (Kn.cons rfl (Kn.cons rfl (Kn.cons rfl (Kn.cons rfl (Kn.cons rfl (Kn.cons rfl (Kn.cons rfl (Kn.cons rfl (Kn.nil))))))))) ?_
      refine awq_region mixed (by kernel_rfl) (fun Z hZ => ?_)
      refine sq_move rfl rfl ?_
      refine sq_fieldAddr rfl tyF113_0 (by first | (simp only [Nat.reduceAdd, Nat.add_zero, Nat.zero_add]; first | done | rfl) | rfl) rfl ?_
      refine sq_load 0 rfl rfl tyA36 tyS36 rfl rfl ?_
      refine sq_move rfl rfl ?_
      refine sq_shl rfl rfl (by omega) ((sx : Nat) : Int) hsx rfl ?_
      refine sq_bits (.inr (.inl rfl)) rfl rfl ((nx : Nat) : Int) hox rfl ?_
      refine sq_move rfl rfl ?_
      refine sq_fieldAddr rfl tyF113_1 (by first | (simp only [Nat.reduceAdd, Nat.add_zero, Nat.zero_add]; first | done | rfl) | rfl) rfl ?_
      refine sq_load 0 rfl rfl tyA36 tyS36 rfl rfl ?_
      refine sq_move rfl rfl ?_
      refine sq_shl rfl rfl (by omega) ((sy : Nat) : Int) hsy rfl ?_
      refine sq_bits (.inr (.inl rfl)) rfl rfl ((ny : Nat) : Int) hoy rfl ?_
      refine sq_assign rfl rfl ?_
      refine sq_assign rfl rfl ?_
      refine sq_nil (hZ _ _ ?_)
      refine nx_forget [(1, _), (8, _), (9, _), (10, _), (25, _), (26, _)] (Kn.cons rfl (Kn.cons rfl (Kn.cons rfl (Kn.cons rfl (Kn.cons rfl (Kn.cons rfl (Kn.nil))))))) ?_
      repeat (with_reducible refine nx_block_normal ?_)
      with_reducible refine nx_normal ?_
      refine awp_region (fun Z hZ => ?_)
      refine sx_add rfl rfl ((i + 1 : Nat) : Int) (by rw [IntWalk.i64_in _ (by omega)]; omega) rfl ?_
      refine sx_move rfl rfl ?_
      refine sx_nil (hZ _ _ ?_)
      refine nx_forget [(1, _), (8, _), (9, _), (10, _), (25, _), (26, _)] (Kn.cons rfl (Kn.cons rfl (Kn.cons rfl (Kn.cons rfl (Kn.cons rfl (Kn.cons rfl (Kn.nil))))))) ?_
      exact nx_round (nx, ny, i + 1) ⟨hlt, e1⟩ (show n - (i + 1) < n - i by omega) (Kn.cons rfl (Kn.cons rfl (Kn.cons rfl (Kn.cons rfl (Kn.cons rfl (Kn.cons rfl Kn.nil)))))) (HLe.drop 1 rfl)
  · refine awp_exit ?_
    repeat (with_reducible refine nx_then_exit ?_)
    with_reducible refine nx_block_exit ?_
    with_reducible refine nx_normal ?_
    obtain rfl : i = n := by simp at h9; omega
    rw [Nat.mod_eq_of_lt hd] at hab
    rw [hab]
    refine awp_seq_region (fun Z hZ => ?_)
    refine sx_move rfl rfl ?_
    refine sx_conv Try.underlying36 Try.underlying3 rfl ((a : Nat) : Int) (by rw [IntWalk.i64_in _ (by omega)]) rfl ?_
    refine sx_move rfl rfl ?_
    refine sx_conv Try.underlying36 Try.underlying3 rfl ((b : Nat) : Int) (by rw [IntWalk.i64_in _ (by omega)]) rfl ?_
    refine sx_assign rfl rfl ?_
    refine sx_assign rfl rfl ?_
    refine sx_assign rfl rfl ?_
    refine sx_nil (hZ _ _ ?_)
    refine awp_forget [(4, _), (5, _), (6, _)] (Kn.cons rfl (Kn.cons rfl (Kn.cons rfl (Kn.nil)))) ?_
    refine awp_ret ?_
    exact nx_ret3 rfl rfl rfl rfl rfl
end Go.Proofs.Ytbldhokgbcljjaa
