/- The walks of the program's curve: Place and Point. No conditions. -/
import Derived.Test.YtbldhokgbcljjaaCu1
namespace Go.Proofs.Ytbldhokgbcljjaa
open Go.RowKit
set_option linter.unusedVariables false
set_option linter.unusedSimpArgs false
set_option maxRecDepth 100000
theorem dig_ways {n a : Nat} (ha : a < 2 ^ (n + 1)) : (a < 2 ^ n ∧ a / 2 ^ n = 0 ∧ a % 2 ^ n = a) ∨ (¬ a < 2 ^ n ∧ a / 2 ^ n = 1 ∧ a % 2 ^ n = a - 2 ^ n) := by
  have hp := pow2_pos n
  rw [Nat.pow_succ] at ha
  by_cases h : a < 2 ^ n
  · exact .inl ⟨h, Nat.div_eq_of_lt h, Nat.mod_eq_of_lt h⟩
  · refine .inr ⟨h, ?_⟩
    obtain ⟨p, hpn⟩ : ∃ p, 2 ^ n = p := ⟨_, rfl⟩
    rw [hpn] at ha h hp ⊢
    obtain ⟨b, rfl⟩ : ∃ b, a = p + b := ⟨a - p, by omega⟩
    have hb : b < p := by omega
    rw [Nat.add_mod_left, Nat.mod_eq_of_lt hb, Nat.add_div_left _ hp, Nat.div_eq_of_lt hb]
    exact ⟨rfl, by omega⟩
theorem hp_turn {n a b : Nat} (ha : a < 2 ^ (n + 1)) (hb : b < 2 ^ (n + 1)) : a / 2 ^ n < 2 ∧ b / 2 ^ n < 2 ∧ quQ (a / 2 ^ n) (b / 2 ^ n) < 4 ∧ (turnQ (quQ (a / 2 ^ n) (b / 2 ^ n)) a b n).1 < 2 ^ n ∧ (turnQ (quQ (a / 2 ^ n) (b / 2 ^ n)) a b n).2 < 2 ^ n ∧ hp (n + 1) a b = quQ (a / 2 ^ n) (b / 2 ^ n) * 4 ^ n + hp n (turnQ (quQ (a / 2 ^ n) (b / 2 ^ n)) a b n).1 (turnQ (quQ (a / 2 ^ n) (b / 2 ^ n)) a b n).2 := by
  have hp0 := pow2_pos n
  have h4 : (2 : Nat) ^ (n + 1) = 2 ^ n * 2 := Nat.pow_succ ..
  rw [hp]
  rcases dig_ways ha with ⟨h1, h2, h3⟩ | ⟨h1, h2, h3⟩
  · rcases dig_ways hb with ⟨g1, g2, g3⟩ | ⟨g1, g2, g3⟩
    · rw [if_pos h1, if_pos g1, h2, g2, show quQ 0 0 = 0 from rfl, show turnQ 0 a b n = (b % 2 ^ n, a % 2 ^ n) from rfl, h3, g3]
      exact ⟨by omega, by omega, by omega, g1, h1, by rw [Nat.zero_mul, Nat.zero_add]⟩
    · rw [if_pos h1, if_neg g1, h2, g2, show quQ 0 1 = 1 from rfl, show turnQ 1 a b n = (a % 2 ^ n, b % 2 ^ n) from rfl, h3, g3]
      exact ⟨by omega, by omega, by omega, h1, by show b - 2 ^ n < 2 ^ n; omega, by rw [Nat.one_mul]⟩
  · rcases dig_ways hb with ⟨g1, g2, g3⟩ | ⟨g1, g2, g3⟩
    · rw [if_neg h1, if_pos g1, h2, g2, show quQ 1 0 = 3 from rfl, show turnQ 3 a b n = (2 ^ n - 1 - b % 2 ^ n, 2 ^ n - 1 - a % 2 ^ n) from rfl, h3, g3]
      exact ⟨by omega, by omega, by omega, by show 2 ^ n - 1 - b < 2 ^ n; omega, by show 2 ^ n - 1 - (a - 2 ^ n) < 2 ^ n; omega, rfl⟩
    · rw [if_neg h1, if_neg g1, h2, g2, show quQ 1 1 = 2 from rfl, show turnQ 2 a b n = (a % 2 ^ n, b % 2 ^ n) from rfl, h3, g3]
      exact ⟨by omega, by omega, by omega, by show a - 2 ^ n < 2 ^ n; omega, by show b - 2 ^ n < 2 ^ n; omega, rfl⟩
theorem cPlace_fn (z x y : Int) : Fn Try.prog 70 [iq z, iq x, iq y] [] fun v _ => v = .tuple #[uq (placeV z x y), iq (placeE z x y)] := by
  refine Fn.enter (N := 76) Try.func70 rfl (by kernel_rfl) rfl (fun w0 => ?_)

  rcases place_ways z x y with h | ⟨n, rfl, hn, h⟩ | ⟨n, a0, b0, rfl, rfl, rfl, hn, ha0, hb0⟩
  · rw [(place_e2 h x y).1, (place_e2 h x y).2]
    refine awp_seq_region (fun Z hZ => ?_)
    refine sx_assign rfl rfl ?_
    refine sx_assign rfl rfl ?_
    refine sx_nil (hZ _ _ ?_)
    refine awp_forget [(0, _), (1, _), (2, _)] (Kn.cons rfl (Kn.cons rfl (Kn.cons rfl (Kn.nil)))) ?_
    refine awp_seq_region (fun Z hZ => ?_)
    refine sx_move rfl rfl ?_
    refine sx_callP (cside_no z h) rfl rfl ?_
    refine sx_assign rfl rfl ?_
    refine sx_nil (hZ _ _ ?_)
    refine awp_forget [(0, _), (1, _), (2, _), (8, _)] (Kn.cons rfl (Kn.cons rfl (Kn.cons rfl (Kn.cons rfl (Kn.nil))))) ?_
    refine awp_seq (awp_block ?_)
    refine awp_seq_region (fun Z hZ => ?_)
    refine sx_move rfl rfl ?_
    refine sx_eql rfl rfl rfl ?_
    refine sx_assign rfl rfl ?_
    refine sx_nil (hZ _ _ ?_)
    refine awp_forget [(0, _), (1, _), (2, _), (8, _), (18, _)] (Kn.cons rfl (Kn.cons rfl (Kn.cons rfl (Kn.cons rfl (Kn.cons rfl (Kn.nil)))))) ?_
    refine awp_cond rfl (fun h1 => ?_) (fun h1 => ?_)
    · refine awp_seq_region (fun Z hZ => ?_)
      refine sx_assign rfl rfl ?_
      refine sx_assign rfl rfl ?_
      refine sx_nil (hZ _ _ ?_)
      refine awp_forget [(6, _), (7, _)] (Kn.cons rfl (Kn.cons rfl (Kn.nil))) ?_
      refine awp_ret ?_
      repeat (with_reducible (first | refine nx_then_ret ?_ | refine nx_block_ret ?_))
      exact nx_ret2 rfl rfl rfl rfl
    cases h1
  · rw [(place_e8 hn h).1, (place_e8 hn h).2]
    have hs := cside_fn n hn
    have hp0 := pow2_pos n
    obtain ⟨p, hp⟩ : ∃ p, 2 ^ n = p := ⟨_, rfl⟩
    rw [hp] at hs h hp0
    refine awp_seq_region (fun Z hZ => ?_)
    refine sx_assign rfl rfl ?_
    refine sx_assign rfl rfl ?_
    refine sx_nil (hZ _ _ ?_)
    refine awp_forget [(0, _), (1, _), (2, _)] (Kn.cons rfl (Kn.cons rfl (Kn.cons rfl (Kn.nil)))) ?_
    refine awp_seq_region (fun Z hZ => ?_)
    refine sx_move rfl rfl ?_
    refine sx_callP (hs) rfl rfl ?_
    refine sx_assign rfl rfl ?_
    refine sx_nil (hZ _ _ ?_)
    refine awp_forget [(0, _), (1, _), (2, _), (8, _)] (Kn.cons rfl (Kn.cons rfl (Kn.cons rfl (Kn.cons rfl (Kn.nil))))) ?_
    refine awp_seq (awp_block ?_)
    refine awp_seq_region (fun Z hZ => ?_)
    refine sx_move rfl rfl ?_
    refine sx_eql rfl rfl rfl ?_
    refine sx_assign rfl rfl ?_
    refine sx_nil (hZ _ _ ?_)
    refine awp_forget [(0, _), (1, _), (2, _), (8, _), (18, _)] (Kn.cons rfl (Kn.cons rfl (Kn.cons rfl (Kn.cons rfl (Kn.cons rfl (Kn.nil)))))) ?_
    refine awp_cond rfl (fun h1 => ?_) (fun h1 => ?_)
    · exfalso
      simp at h1
      omega
    refine awp_seq_meet [(21, .bool true)] [] (fun Z hZ => ?_) ?_
    · refine sx_move rfl rfl ?_
      refine sx_lss rfl rfl rfl ?_
      refine sx_move rfl rfl ?_
      refine sx_split 24 rfl (fun hb2 => ?_) (fun hb2 => ?_)
      · refine sx_off rfl rfl rfl rfl rfl ?_
        refine sx_off rfl rfl rfl rfl rfl ?_
        refine sx_pick rfl rfl rfl ?_
        refine sx_move rfl rfl ?_
        refine sx_off rfl rfl rfl rfl rfl ?_
        refine sx_off rfl rfl rfl rfl rfl ?_
        refine sx_off rfl rfl rfl rfl rfl ?_
        refine sx_pick rfl rfl rfl ?_
        refine sx_move rfl rfl ?_
        refine sx_off rfl rfl rfl rfl rfl ?_
        refine sx_off rfl rfl rfl rfl rfl ?_
        refine sx_off rfl rfl rfl rfl rfl ?_
        refine sx_pick rfl rfl rfl ?_
        refine sx_assign rfl rfl ?_
        refine sx_nil (hZ _ _ ?_ ?_)
        · exact Kn.cons (congrArg some (congrArg Value.bool (by first | rfl | (simp at *; done) | (simp at *; omega)))) Kn.nil
        · exact HLe.refl _
      · refine sx_on rfl rfl rfl ?_
        refine sx_move rfl rfl ?_
        refine sx_on rfl rfl rfl ?_
        refine sx_lss rfl rfl rfl ?_
        refine sx_pick rfl rfl rfl ?_
        refine sx_move rfl rfl ?_
        refine sx_split 28 rfl (fun hb6 => ?_) (fun hb6 => ?_)
        · refine sx_off rfl rfl rfl rfl rfl ?_
          refine sx_off rfl rfl rfl rfl rfl ?_
          refine sx_off rfl rfl rfl rfl rfl ?_
          refine sx_pick rfl rfl rfl ?_
          refine sx_move rfl rfl ?_
          refine sx_off rfl rfl rfl rfl rfl ?_
          refine sx_off rfl rfl rfl rfl rfl ?_
          refine sx_off rfl rfl rfl rfl rfl ?_
          refine sx_pick rfl rfl rfl ?_
          refine sx_assign rfl rfl ?_
          refine sx_nil (hZ _ _ ?_ ?_)
          · exact Kn.cons (congrArg some (congrArg Value.bool (by first | rfl | (simp at *; done) | (simp at *; omega)))) Kn.nil
          · exact HLe.refl _
        · refine sx_on rfl rfl rfl ?_
          refine sx_move rfl rfl ?_
          refine sx_on rfl rfl rfl ?_
          refine sx_move rfl rfl ?_
          refine sx_on rfl rfl rfl ?_
          refine sx_geq rfl rfl rfl ?_
          refine sx_pick rfl rfl rfl ?_
          refine sx_move rfl rfl ?_
          refine sx_split 33 rfl (fun hb11 => ?_) (fun hb11 => ?_)
          · refine sx_off rfl rfl rfl rfl rfl ?_
            refine sx_off rfl rfl rfl rfl rfl ?_
            refine sx_off rfl rfl rfl rfl rfl ?_
            refine sx_pick rfl rfl rfl ?_
            refine sx_assign rfl rfl ?_
            refine sx_nil (hZ _ _ ?_ ?_)
            · exact Kn.cons (congrArg some (congrArg Value.bool (by first | rfl | (simp at *; done) | (simp at *; omega)))) Kn.nil
            · exact HLe.refl _
          · refine sx_on rfl rfl rfl ?_
            refine sx_move rfl rfl ?_
            refine sx_on rfl rfl rfl ?_
            refine sx_move rfl rfl ?_
            refine sx_on rfl rfl rfl ?_
            refine sx_geq rfl rfl rfl ?_
            refine sx_pick rfl rfl rfl ?_
            refine sx_assign rfl rfl ?_
            refine sx_nil (hZ _ _ ?_ ?_)
            · exact Kn.cons (congrArg some (congrArg Value.bool (by first | rfl | (simp at *; done) | (simp at *; omega)))) Kn.nil
            · exact HLe.refl _
    refine awp_cond rfl (fun h2 => ?_) (fun h2 => ?_)
    · refine awp_seq_region (fun Z hZ => ?_)
      refine sx_assign rfl rfl ?_
      refine sx_assign rfl rfl ?_
      refine sx_nil (hZ _ _ ?_)
      refine awp_forget [(6, _), (7, _)] (Kn.cons rfl (Kn.cons rfl (Kn.nil))) ?_
      refine awp_ret ?_
      repeat (with_reducible (first | refine nx_then_ret ?_ | refine nx_block_ret ?_))
      exact nx_ret2 rfl rfl rfl rfl
    cases h2
  · rw [(place_e0 hn ha0 hb0).1, (place_e0 hn ha0 hb0).2]
    have hs := cside_fn n hn
    have hp0 := pow2_pos n
    have hpl := pow2_le26 hn
    have hal : a0 < 67108864 := by omega
    have hbl : b0 < 67108864 := by omega
    have hhl := hp_lt n a0 b0 ha0 hb0
    have hq4 : 4 ^ n ≤ 4 ^ 26 := Nat.pow_le_pow_right (by decide) hn
    have hA : a0 < 2 ^ (n - 0) := ha0
    have hB : b0 < 2 ^ (n - 0) := hb0
    obtain ⟨p, hpn⟩ : ∃ p, 2 ^ n = p := ⟨_, rfl⟩
    rw [hpn] at hs hp0 ha0 hb0
    refine awp_seq_region (fun Z hZ => ?_)
    refine sx_assign rfl rfl ?_
    refine sx_assign rfl rfl ?_
    refine sx_nil (hZ _ _ ?_)
    refine awp_forget [(0, _), (1, _), (2, _)] (Kn.cons rfl (Kn.cons rfl (Kn.cons rfl (Kn.nil)))) ?_
    refine awp_seq_region (fun Z hZ => ?_)
    refine sx_move rfl rfl ?_
    refine sx_callP (hs) rfl rfl ?_
    refine sx_assign rfl rfl ?_
    refine sx_nil (hZ _ _ ?_)
    refine awp_forget [(0, _), (1, _), (2, _), (8, _)] (Kn.cons rfl (Kn.cons rfl (Kn.cons rfl (Kn.cons rfl (Kn.nil))))) ?_
    refine awp_seq (awp_block ?_)
    refine awp_seq_region (fun Z hZ => ?_)
    refine sx_move rfl rfl ?_
    refine sx_eql rfl rfl rfl ?_
    refine sx_assign rfl rfl ?_
    refine sx_nil (hZ _ _ ?_)
    refine awp_forget [(0, _), (1, _), (2, _), (8, _), (18, _)] (Kn.cons rfl (Kn.cons rfl (Kn.cons rfl (Kn.cons rfl (Kn.cons rfl (Kn.nil)))))) ?_
    refine awp_cond rfl (fun h1 => ?_) (fun h1 => ?_)
    · exfalso
      simp at h1
      omega
    refine awp_seq_meet [(0, iq n), (1, iq a0), (2, iq b0), (21, .bool false)] [] (fun Z hZ => ?_) ?_
    · refine sx_move rfl rfl ?_
      refine sx_lss rfl rfl rfl ?_
      refine sx_move rfl rfl ?_
      refine sx_split 24 rfl (fun hb2 => ?_) (fun hb2 => ?_)
      · refine sx_off rfl rfl rfl rfl rfl ?_
        refine sx_off rfl rfl rfl rfl rfl ?_
        refine sx_pick rfl rfl rfl ?_
        refine sx_move rfl rfl ?_
        refine sx_off rfl rfl rfl rfl rfl ?_
        refine sx_off rfl rfl rfl rfl rfl ?_
        refine sx_off rfl rfl rfl rfl rfl ?_
        refine sx_pick rfl rfl rfl ?_
        refine sx_move rfl rfl ?_
        refine sx_off rfl rfl rfl rfl rfl ?_
        refine sx_off rfl rfl rfl rfl rfl ?_
        refine sx_off rfl rfl rfl rfl rfl ?_
        refine sx_pick rfl rfl rfl ?_
        refine sx_assign rfl rfl ?_
        refine sx_nil (hZ _ _ ?_ ?_)
        · exact Kn.cons rfl (Kn.cons rfl (Kn.cons rfl (Kn.cons (congrArg some (congrArg Value.bool (by first | rfl | (simp at *; done) | (simp at *; omega)))) Kn.nil)))
        · exact HLe.refl _
      · refine sx_on rfl rfl rfl ?_
        refine sx_move rfl rfl ?_
        refine sx_on rfl rfl rfl ?_
        refine sx_lss rfl rfl rfl ?_
        refine sx_pick rfl rfl rfl ?_
        refine sx_move rfl rfl ?_
        refine sx_split 28 rfl (fun hb6 => ?_) (fun hb6 => ?_)
        · refine sx_off rfl rfl rfl rfl rfl ?_
          refine sx_off rfl rfl rfl rfl rfl ?_
          refine sx_off rfl rfl rfl rfl rfl ?_
          refine sx_pick rfl rfl rfl ?_
          refine sx_move rfl rfl ?_
          refine sx_off rfl rfl rfl rfl rfl ?_
          refine sx_off rfl rfl rfl rfl rfl ?_
          refine sx_off rfl rfl rfl rfl rfl ?_
          refine sx_pick rfl rfl rfl ?_
          refine sx_assign rfl rfl ?_
          refine sx_nil (hZ _ _ ?_ ?_)
          · exact Kn.cons rfl (Kn.cons rfl (Kn.cons rfl (Kn.cons (congrArg some (congrArg Value.bool (by first | rfl | (simp at *; done) | (simp at *; omega)))) Kn.nil)))
          · exact HLe.refl _
        · refine sx_on rfl rfl rfl ?_
          refine sx_move rfl rfl ?_
          refine sx_on rfl rfl rfl ?_
          refine sx_move rfl rfl ?_
          refine sx_on rfl rfl rfl ?_
          refine sx_geq rfl rfl rfl ?_
          refine sx_pick rfl rfl rfl ?_
          refine sx_move rfl rfl ?_
          refine sx_split 33 rfl (fun hb11 => ?_) (fun hb11 => ?_)
          · refine sx_off rfl rfl rfl rfl rfl ?_
            refine sx_off rfl rfl rfl rfl rfl ?_
            refine sx_off rfl rfl rfl rfl rfl ?_
            refine sx_pick rfl rfl rfl ?_
            refine sx_assign rfl rfl ?_
            refine sx_nil (hZ _ _ ?_ ?_)
            · exact Kn.cons rfl (Kn.cons rfl (Kn.cons rfl (Kn.cons (congrArg some (congrArg Value.bool (by first | rfl | (simp at *; done) | (simp at *; omega)))) Kn.nil)))
            · exact HLe.refl _
          · refine sx_on rfl rfl rfl ?_
            refine sx_move rfl rfl ?_
            refine sx_on rfl rfl rfl ?_
            refine sx_move rfl rfl ?_
            refine sx_on rfl rfl rfl ?_
            refine sx_geq rfl rfl rfl ?_
            refine sx_pick rfl rfl rfl ?_
            refine sx_assign rfl rfl ?_
            refine sx_nil (hZ _ _ ?_ ?_)
            · exact Kn.cons rfl (Kn.cons rfl (Kn.cons rfl (Kn.cons (congrArg some (congrArg Value.bool (by first | rfl | (simp at *; done) | (simp at *; omega)))) Kn.nil)))
            · exact HLe.refl _
    refine awp_cond rfl (fun h2 => ?_) (fun h2 => ?_)
    · cases h2
    refine awp_skip ?_
    repeat (with_reducible refine nx_block_normal ?_)
    with_reducible refine nx_normal ?_

    refine awp_seq_region (fun Z hZ => ?_)
    refine sx_callP (cquarters_fn) rfl rfl ?_
    refine sx_alloc tyZ114 rfl (fun g1 => ?_)
    first | refine sx_store 0 rfl rfl rfl tyS114 (by first | (simp only [Value.cells]; first | done | rfl) | rfl) rfl rfl (by first | (simp only [List.length_cons, List.length_nil, Nat.reduceAdd, Nat.zero_add, Nat.add_zero]; first | done | rfl) | rfl) (by first | (simp only [List.take_succ_cons, List.take_zero, List.drop_succ_cons, List.drop_zero, List.cons_append, List.nil_append, List.append_nil, List.length_cons, List.length_nil, Nat.reduceAdd, Nat.zero_add, Nat.add_zero, Value.cells, wrV]; first | done | rfl) | rfl) (by first | (simp only [List.set_cons_succ, List.set_cons_zero]; first | done | rfl) | rfl) ?_
    refine sx_nil (hZ _ _ ?_)
    refine awp_forget [(0, _), (1, _), (2, _), (9, _)] (Kn.cons rfl (Kn.cons rfl (Kn.cons rfl (Kn.cons rfl (Kn.nil))))) ?_
    refine awp_seq_region (fun Z hZ => ?_)
    refine sx_move rfl rfl ?_
    refine sx_conv Try.underlying3 Try.underlying36 rfl ((a0 : Nat) : Int) (by rw [IntWalk.u64_in _ (by omega)]) rfl ?_
    refine sx_move rfl rfl ?_
    refine sx_conv Try.underlying3 Try.underlying36 rfl ((b0 : Nat) : Int) (by rw [IntWalk.u64_in _ (by omega)]) rfl ?_
    refine sx_assign rfl rfl ?_
    refine sx_assign rfl rfl ?_
    refine sx_assign rfl rfl ?_
    refine sx_nil (hZ _ _ ?_)
    refine awp_forget [(0, _), (9, _), (10, _), (11, _), (12, _)] (Kn.cons rfl (Kn.cons rfl (Kn.cons rfl (Kn.cons rfl (Kn.cons rfl (Kn.nil)))))) ?_
    refine awp_seq ?_
    refine awp_seq_region (fun Z hZ => ?_)
    refine sx_move rfl rfl ?_
    refine sx_move rfl rfl ?_
    refine sx_nil (hZ _ _ ?_)
    refine awp_forget [(0, _), (9, _), (10, _), (11, _), (12, _), (43, _), (44, _)] (Kn.cons rfl (Kn.cons rfl (Kn.cons rfl (Kn.cons rfl (Kn.cons rfl (Kn.cons rfl (Kn.cons rfl (Kn.nil)))))))) ?_
    refine awp_block ?_
    refine awp_loop (ι := Nat × Nat × Nat × Nat) (fun s => [(0, iq n), (9, ptr g1 0), (10, uq s.1), (11, uq s.2.1), (12, uq s.2.2.1), (43, iq n), (44, iq (s.2.2.2 : Nat))]) (fun _ => [.own g1 114 quarters]) (fun s => s.2.2.2 ≤ n ∧ s.1 < 2 ^ (n - s.2.2.2) ∧ s.2.1 < 2 ^ (n - s.2.2.2) ∧ hp n a0 b0 = s.2.2.1 * 4 ^ (n - s.2.2.2) + hp (n - s.2.2.2) s.1 s.2.1) (fun s => n - s.2.2.2) (a0, b0, 0, 0) ⟨Nat.zero_le _, hA, hB, by show hp n a0 b0 = 0 * 4 ^ (n - 0) + hp (n - 0) a0 b0; rw [Nat.zero_mul, Nat.zero_add, Nat.sub_zero]⟩ (Kn.cons rfl (Kn.cons rfl (Kn.cons rfl (Kn.cons rfl (Kn.cons rfl (Kn.cons rfl (Kn.cons rfl Kn.nil))))))) (HLe.refl _) ?_
    rintro ⟨a, b, d, i⟩ ⟨hi, ha, hb, hd⟩
    replace hi : i ≤ n := hi
    replace ha : a < 2 ^ (n - i) := ha
    replace hb : b < 2 ^ (n - i) := hb
    replace hd : hp n a0 b0 = d * 4 ^ (n - i) + hp (n - i) a b := hd
    refine awp_forget [(0, iq n), (9, ptr g1 0), (10, uq a), (11, uq b), (12, uq d), (43, iq n), (44, iq i)] (Kn.cons rfl (Kn.cons rfl (Kn.cons rfl (Kn.cons rfl (Kn.cons rfl (Kn.cons rfl (Kn.cons rfl Kn.nil))))))) ?_
    refine awp_seq_region (fun Z hZ => ?_)
    refine sx_lss rfl rfl rfl ?_
    refine sx_nil (hZ _ _ ?_)
    refine awp_forget [(0, _), (9, _), (10, _), (11, _), (12, _), (43, _), (44, _), (45, _)] (Kn.cons rfl (Kn.cons rfl (Kn.cons rfl (Kn.cons rfl (Kn.cons rfl (Kn.cons rfl (Kn.cons rfl (Kn.cons rfl (Kn.nil))))))))) ?_
    refine awp_seq (awp_cond rfl (fun h9 => ?_) (fun h9 => ?_))
    · have hlt : i < n := by simpa using h9
      obtain ⟨m, hm⟩ : ∃ m, n - i = m + 1 := ⟨n - i - 1, by omega⟩
      have hm1 : n - 1 - i = m := by omega
      have hm2 : n - (i + 1) = m := by omega
      rw [hm] at ha hb hd
      have hml := pow2_le26 (show m + 1 ≤ 26 by omega)
      obtain ⟨e1, e2, e3, e4, e5, e6⟩ := hp_turn ha hb
      have h7 := shr_at a m (by omega)
      have h8 := shr_at b m (by omega)
      have hct := cturn_fn (quQ (a / 2 ^ m) (b / 2 ^ m)) a b m e3 (by omega) (by omega) (by omega)
      have hcn := cnum_fn (a / 2 ^ m) (b / 2 ^ m) e1 e2
      obtain ⟨pa, hpa⟩ : ∃ x, a / 2 ^ m = x := ⟨_, rfl⟩
      obtain ⟨pb, hpb⟩ : ∃ x, b / 2 ^ m = x := ⟨_, rfl⟩
      rw [hpa] at e1 e3 e4 e5 e6 h7 hct hcn
      rw [hpb] at e2 e3 e4 e5 e6 h8 hct hcn
      obtain ⟨k, hk⟩ : ∃ k, quQ pa pb = k := ⟨_, rfl⟩
      rw [hk] at e3 e4 e5 e6 hct hcn
      obtain ⟨t, ht⟩ : ∃ t, turnQ k a b m = t := ⟨_, rfl⟩
      rw [ht] at e4 e5 e6 hct
      obtain ⟨ta, tb⟩ := t
      replace e4 : ta < 2 ^ m := e4
      replace e5 : tb < 2 ^ m := e5
      replace e6 : hp (m + 1) a b = k * 4 ^ m + hp m ta tb := e6
      replace hct : Fn Try.prog 98 [qval k, uq a, uq b, iq m] [] fun v _ => v = .tuple #[uq ta, uq tb] := hct
      have hd2 : hp n a0 b0 = (d * 2 ^ 2 + k) * 4 ^ m + hp m ta tb := by
        rw [hd, e6, Nat.pow_succ, Nat.add_mul, Nat.mul_assoc d (2 ^ 2), show (2 : Nat) ^ 2 * 4 ^ m = 4 ^ m * 4 from Nat.mul_comm _ _]
        omega
      have hdl : d * 2 ^ 2 + k ≤ hp n a0 b0 := by
        rw [hd2]
        have := Nat.le_mul_of_pos_right (d * 2 ^ 2 + k) (pow4_pos m)
        omega
      have hbig : d * 2 ^ 2 + k < 18446744073709551616 := by
        have : (4 : Nat) ^ 26 < 18446744073709551616 := by decide
        omega
      have hsh := shl_at .u64 d 2 rfl (by decide) (fun x hx => IntWalk.u64_in _ (by omega))
      have hor := or_at d k 2 (by omega) hbig
      have ha1 := and_one pa (by omega)
      have hb1 := and_one pb (by omega)
      rw [Nat.mod_eq_of_lt e1] at ha1
      rw [Nat.mod_eq_of_lt e2] at hb1
      have hqa := quarters_at e3
      clear hd e6 hs hA hB hpn
      refine awp_skip ?_
      with_reducible refine nx_normal ?_
      refine awp_seq (awp_block ?_)
      refine awp_seq_region (fun Z hZ => ?_)
      refine sx_move rfl rfl ?_
      refine sx_assign rfl rfl ?_
      refine sx_nil (hZ _ _ ?_)
      refine awp_forget [(0, _), (9, _), (10, _), (11, _), (12, _), (13, _), (43, _), (44, _)] (Kn.cons rfl (Kn.cons rfl (Kn.cons rfl (Kn.cons rfl (Kn.cons rfl (Kn.cons rfl (Kn.cons rfl (Kn.cons rfl (Kn.nil))))))))) ?_
      refine awp_seq_region (fun Z hZ => ?_)
      refine sx_move rfl rfl ?_
      refine sx_sub rfl rfl ((n - 1 : Nat) : Int) (by rw [IntWalk.i64_in _ (by omega)]; omega) rfl ?_
      refine sx_move rfl rfl ?_
      refine sx_sub rfl rfl ((m : Nat) : Int) (by rw [IntWalk.i64_in _ (by omega)]; omega) rfl ?_
      refine sx_assign rfl rfl ?_
      refine sx_nil (hZ _ _ ?_)
      refine awp_forget [(0, _), (9, _), (10, _), (11, _), (12, _), (14, _), (43, _), (44, _)] (Kn.cons rfl (Kn.cons rfl (Kn.cons rfl (Kn.cons rfl (Kn.cons rfl (Kn.cons rfl (Kn.cons rfl (Kn.cons rfl (Kn.nil))))))))) ?_
      refine awq_seq_region mixed (by kernel_rfl) (fun Z hZ => ?_)
      refine sq_move rfl rfl ?_
      refine sq_move rfl rfl ?_
      refine sq_shr rfl rfl (by omega) ((pa : Nat) : Int) h7 rfl ?_
      refine sq_bits (.inl rfl) rfl rfl ((pa : Nat) : Int) ha1 rfl ?_
      refine sq_move rfl rfl ?_
      refine sq_move rfl rfl ?_
      refine sq_shr rfl rfl (by omega) ((pb : Nat) : Int) h8 rfl ?_
      refine sq_bits (.inl rfl) rfl rfl ((pb : Nat) : Int) hb1 rfl ?_
      refine sq_callP (hcn) rfl rfl ?_
      refine sq_assign rfl rfl ?_
      refine sq_nil (hZ _ _ ?_)
      refine awp_forget [(0, _), (9, _), (10, _), (11, _), (12, _), (14, _), (15, _), (43, _), (44, _)] (Kn.cons rfl (Kn.cons rfl (Kn.cons rfl (Kn.cons rfl (Kn.cons rfl (Kn.cons rfl (Kn.cons rfl (Kn.cons rfl (Kn.cons rfl (Kn.nil)))))))))) ?_
      refine awp_seq_region (fun Z hZ => ?_)
      refine sx_move rfl rfl ?_
      refine sx_shl rfl rfl (by decide) ((d * 2 ^ 2 : Nat) : Int) hsh rfl ?_
      refine sx_move rfl rfl ?_
      refine sx_bits (.inr (.inl rfl)) rfl rfl ((d * 2 ^ 2 + k : Nat) : Int) hor rfl ?_
      refine sx_assign rfl rfl ?_
      refine sx_nil (hZ _ _ ?_)
      refine awp_forget [(0, _), (9, _), (10, _), (11, _), (12, _), (14, _), (15, _), (43, _), (44, _)] (Kn.cons rfl (Kn.cons rfl (Kn.cons rfl (Kn.cons rfl (Kn.cons rfl (Kn.cons rfl (Kn.cons rfl (Kn.cons rfl (Kn.cons rfl (Kn.nil)))))))))) ?_
      refine awp_region (fun Z hZ => ?_)
      refine sx_move rfl rfl ?_
      refine sx_indexAddrA (k * 4) Try.underlying114 tyS113 rfl rfl (by omega) (by simp) rfl ?_
      refine sx_load 0 rfl rfl tyA113 tyS113 hqa rfl ?_
      refine sx_move rfl rfl ?_
      refine sx_move rfl rfl ?_
      refine sx_move rfl rfl ?_
      refine sx_callP (hct) rfl rfl ?_
      refine sx_move rfl rfl ?_
      refine sx_extract rfl rfl rfl ?_
      refine sx_extract rfl rfl rfl ?_
      refine sx_assign rfl rfl ?_
      refine sx_assign rfl rfl ?_
      refine sx_nil (hZ _ _ ?_)
      refine nx_forget [(0, _), (9, _), (10, _), (11, _), (12, _), (43, _), (44, _)] (Kn.cons rfl (Kn.cons rfl (Kn.cons rfl (Kn.cons rfl (Kn.cons rfl (Kn.cons rfl (Kn.cons rfl (Kn.nil)))))))) ?_
      repeat (with_reducible refine nx_block_normal ?_)
      with_reducible refine nx_normal ?_
      refine awp_region (fun Z hZ => ?_)
      refine sx_add rfl rfl ((i + 1 : Nat) : Int) (by rw [IntWalk.i64_in _ (by omega)]; omega) rfl ?_
      refine sx_move rfl rfl ?_
      refine sx_nil (hZ _ _ ?_)
      refine nx_forget [(0, _), (9, _), (10, _), (11, _), (12, _), (43, _), (44, _)] (Kn.cons rfl (Kn.cons rfl (Kn.cons rfl (Kn.cons rfl (Kn.cons rfl (Kn.cons rfl (Kn.cons rfl (Kn.nil)))))))) ?_
      exact nx_round (ta, tb, d * 2 ^ 2 + k, i + 1) ⟨hlt, by show ta < 2 ^ (n - (i + 1)); rw [hm2]; exact e4, by show tb < 2 ^ (n - (i + 1)); rw [hm2]; exact e5, by show hp n a0 b0 = (d * 2 ^ 2 + k) * 4 ^ (n - (i + 1)) + hp (n - (i + 1)) ta tb; rw [hm2]; exact hd2⟩ (show n - (i + 1) < n - i by omega) (Kn.cons rfl (Kn.cons rfl (Kn.cons rfl (Kn.cons rfl (Kn.cons rfl (Kn.cons rfl (Kn.cons rfl Kn.nil))))))) (HLe.refl _)
    · refine awp_exit ?_
      repeat (with_reducible refine nx_then_exit ?_)
      with_reducible refine nx_block_exit ?_
      with_reducible refine nx_normal ?_
      obtain rfl : i = n := by simp at h9; omega
      rw [Nat.sub_self] at hd
      rw [show hp i a0 b0 = d by rw [hd]; simp [hp]]
      refine awp_seq_region (fun Z hZ => ?_)
      refine sx_move rfl rfl ?_
      refine sx_assign rfl rfl ?_
      refine sx_assign rfl rfl ?_
      refine sx_nil (hZ _ _ ?_)
      refine awp_forget [(6, _), (7, _)] (Kn.cons rfl (Kn.cons rfl (Kn.nil))) ?_
      refine awp_ret ?_
      exact nx_ret2 rfl rfl rfl rfl
end Go.Proofs.Ytbldhokgbcljjaa
