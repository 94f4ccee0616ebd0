/- Plain: numbers as bytes, there and back; what a directory told of bytes has. No conditions. -/
import Derived.Test.YtfffhnefjaomnaaDr12
namespace Go.Proofs.Ytfffhnefjaomnaa
open Go.RowKit
set_option linter.unusedVariables false
set_option linter.unusedSimpArgs false
theorem decG_ok {s : List UInt8} : ∀ (k j : Nat) (M : List En) (p : Nat), M.length ≤ 4096 → EnsOk M → p ≤ s.length →
    (decG s k j M p).1.length ≤ 4096 ∧ EnsOk (decG s k j M p).1 ∧ (decG s k j M p).2.1 ≤ s.length ∧ ((decG s k j M p).2.2 ≠ 0 → (decG s k j M p).1 = [])
  | 0, j, M, p, hM, hE, hp => by
    rw [decG_0]
    have he : EnsOk [] := fun e h => by cases h
    split
    · exact ⟨Nat.zero_le _, he, hp, fun _ => rfl⟩
    split
    · exact ⟨Nat.zero_le _, he, Nat.le_refl _, fun _ => rfl⟩
    · exact ⟨hM, hE, Nat.le_refl _, fun h => absurd rfl h⟩
  | k + 1, j, M, p, hM, hE, hp => by
    have he : EnsOk [] := fun e h => by cases h
    obtain ⟨f1, f2, _⟩ := getQ_facts s p hp
    rw [decG]
    split
    · exact ⟨Nat.zero_le _, he, hp, fun _ => rfl⟩
    split
    · exact ⟨Nat.zero_le _, he, hp, fun _ => rfl⟩
    · exact decG_ok k (j + 1) _ _ (by simpa using hM) (ens_set hE (putQ_ok (atE_ok hE _) f1)) f2
theorem decQ_ok (s : List UInt8) : (decQ s).1.length ≤ 4096 ∧ EnsOk (decQ s).1 ∧ (decQ s).2.1 ≤ s.length ∧ ((decQ s).2.2 ≠ 0 → (decQ s).1 = []) := by
  have he : EnsOk [] := fun e h => by cases h
  unfold decQ
  split
  · exact ⟨Nat.zero_le _, he, Nat.zero_le _, fun _ => rfl⟩
  split
  · exact ⟨Nat.zero_le _, he, Nat.zero_le _, fun _ => rfl⟩
  split
  · exact ⟨Nat.zero_le _, he, Nat.zero_le _, fun _ => rfl⟩
  · exact decG_ok _ _ _ _ (by simp; omega) (ens_zero _) (getQ_facts s 0 (by omega)).2.1
theorem u8_of {x : Nat} (h : x < 256) : (UInt8.ofNat x).toNat = x := by simp; omega
theorem valL_vb (x : Nat) : valL (vb x) = x := by
  induction x using Nat.strongRecOn with
  | _ x ih =>
    rcases Nat.lt_or_ge x 128 with h | h
    · rw [vb_lt h]
      simp only [valL, u8_of (show x < 256 by omega)]
      omega
    · rw [vb_ge h]
      simp only [valL, u8_of (show x % 128 + 128 < 256 by omega), ih (x / 128) (by omega)]
      omega
theorem cnt_vb (x : Nat) : ∀ (k : Nat) (r : List UInt8), (vb x).length ≤ k → cnt k (vb x ++ r) = (vb x).length - 1 := by
  induction x using Nat.strongRecOn with
  | _ x ih =>
    intro k r hk
    have := vb_pos x
    obtain ⟨k, rfl⟩ : ∃ m, k = m + 1 := ⟨k - 1, by omega⟩
    rcases Nat.lt_or_ge x 128 with h | h
    · rw [vb_lt h, List.singleton_append, cnt, if_neg (by rw [u8_of (by omega)]; omega)]
      rfl
    · have hp := vb_pos (x / 128)
      rw [vb_ge h, List.length_cons] at hk
      rw [vb_ge h, List.cons_append, cnt, if_pos (by rw [u8_of (by omega)]; omega), ih (x / 128) (by omega) k r (by omega), List.length_cons]
      omega
theorem last_vb (x : Nat) : ∀ r : List UInt8, dat (vb x ++ r) ((vb x).length - 1) = x / 128 ^ ((vb x).length - 1) ∧ ((vb x).length = 1 ∨ 128 ^ ((vb x).length - 1) ≤ x) := by
  induction x using Nat.strongRecOn with
  | _ x ih =>
    intro r
    rcases Nat.lt_or_ge x 128 with h | h
    · rw [vb_lt h]
      refine ⟨?_, .inl rfl⟩
      show (UInt8.ofNat x).toNat = x / 128 ^ 0
      rw [u8_of (by omega)]
      simp
    · have hp := vb_pos (x / 128)
      obtain ⟨h1, h2⟩ := ih (x / 128) (by omega) r
      rw [vb_ge h, List.length_cons, List.cons_append, Nat.add_sub_cancel]
      obtain ⟨m, hm⟩ : ∃ m, (vb (x / 128)).length = m + 1 := ⟨_, (Nat.sub_add_cancel hp).symm⟩
      rw [hm, Nat.add_sub_cancel] at h1 h2
      rw [hm, dat_cons, h1, Nat.pow_succ, Nat.mul_comm (128 ^ m), ← Nat.div_div_eq_div_mul]
      refine ⟨rfl, .inr ?_⟩
      rcases h2 with h2 | h2
      · obtain rfl : m = 0 := by omega
        simpa using h
      · calc 128 * 128 ^ m ≤ 128 * (x / 128) := Nat.mul_le_mul_left _ h2
          _ ≤ x := Nat.mul_div_le _ _
/-- A number's bytes tell it, whatever stands behind them. -/
theorem wrong_vb {x : Nat} (hx : x < 18446744073709551616) (r : List UInt8) : wrongQ (vb x ++ r) = (0, (vb x).length) := by
  have h10 := vb_len10 hx
  have hp := vb_pos x
  have hc := cnt_vb x 10 r h10
  obtain ⟨hl, ho⟩ := last_vb x r
  have h1 : cnt 10 (vb x ++ r) ≠ 10 := by omega
  have h2 : cnt 10 (vb x ++ r) ≠ (vb x ++ r).length := by rw [hc, List.length_append]; omega
  have h3 : ¬ (cnt 10 (vb x ++ r) = 9 ∧ 1 < dat (vb x ++ r) 9) := by
    rintro ⟨h3, h4⟩
    rw [hc] at h3
    rw [h3] at hl
    rw [hl] at h4
    have : x / 128 ^ 9 < 2 := Nat.div_lt_of_lt_mul (by omega)
    omega
  have h4 : ¬ (0 < cnt 10 (vb x ++ r) ∧ dat (vb x ++ r) (cnt 10 (vb x ++ r)) = 0) := by
    rintro ⟨h4, h5⟩
    rw [hc] at h4 h5
    rw [hl] at h5
    rcases ho with ho | ho
    · omega
    · have := Nat.div_pos ho (Nat.pow_pos (by omega))
      omega
  unfold wrongQ
  rw [if_neg h1, if_neg h2, if_neg h3, if_neg h4, hc, Nat.sub_add_cancel hp]
theorem get_vb {s r : List UInt8} {p x : Nat} (hx : x < 18446744073709551616) (h : s.drop p = vb x ++ r) : getQ s p = (x, p + (vb x).length, 0) := by
  unfold getQ
  rw [h, wrong_vb hx r, if_pos rfl, List.take_left, valL_vb]
theorem cnt_cut (x : Nat) : ∀ (k m : Nat), m < (vb x).length → (vb x).length ≤ k → cnt k ((vb x).take m) = m := by
  induction x using Nat.strongRecOn with
  | _ x ih =>
    intro k m hm hk
    obtain ⟨k, rfl⟩ : ∃ j, k = j + 1 := ⟨k - 1, by omega⟩
    cases m with
    | zero => simp [cnt]
    | succ m =>
      rcases Nat.lt_or_ge x 128 with h | h
      · rw [vb_lt h] at hm
        simp at hm
      · rw [vb_ge h, List.length_cons] at hm hk
        rw [vb_ge h, List.take_succ_cons, cnt, if_pos (by rw [u8_of (by omega)]; omega), ih (x / 128) (by omega) k m (by omega) (by omega)]
theorem get_cut {s : List UInt8} {p x m : Nat} (hx : x < 18446744073709551616) (hm : m < (vb x).length) (h : s.drop p = (vb x).take m) : getQ s p = (0, p, 3) := by
  have h10 := vb_len10 hx
  have hc := cnt_cut x 10 m hm h10
  have hw : wrongQ ((vb x).take m) = (3, 0) := by
    unfold wrongQ
    rw [if_neg (by omega), if_pos (by rw [hc, List.length_take]; omega)]
  unfold getQ
  rw [h, hw, if_neg (by decide)]
/-- Bytes of which all but the last say that more follow, and the last is not zero. -/
def tailG : List UInt8 → Prop
  | [] => False
  | [b] => b.toNat < 128 ∧ b.toNat ≠ 0
  | b :: c :: r => 128 ≤ b.toNat ∧ tailG (c :: r)
theorem tailG_vb : ∀ l : List UInt8, tailG l → 0 < valL l ∧ vb (valL l) = l
  | [], h => h.elim
  | [b], h => by
    obtain ⟨h1, h2⟩ := h
    have e : valL [b] = b.toNat := by simp only [valL]; omega
    rw [e, vb_lt h1]
    exact ⟨by omega, by simp⟩
  | b :: c :: r, h => by
    obtain ⟨h1, h2⟩ := h
    obtain ⟨h3, h4⟩ := tailG_vb (c :: r) h2
    have hb := b.toNat_lt
    have e : valL (b :: c :: r) = b.toNat % 128 + 128 * valL (c :: r) := rfl
    rw [e]
    refine ⟨by omega, ?_⟩
    rw [vb_ge (by omega), show (b.toNat % 128 + 128 * valL (c :: r)) / 128 = valL (c :: r) by omega, h4, show (b.toNat % 128 + 128 * valL (c :: r)) % 128 + 128 = b.toNat by omega]
    simp
theorem tailG_cnt : ∀ (k : Nat) (t : List UInt8), cnt k t < k → cnt k t < t.length → dat t (cnt k t) ≠ 0 → tailG (t.take (cnt k t + 1))
  | 0, t, h, _, _ => by omega
  | k + 1, [], _, h, _ => by simp [cnt] at h
  | k + 1, b :: r, h1, h2, h3 => by
    simp only [cnt] at h1 h2 h3 ⊢
    split
    · rename_i hb
      rw [if_pos hb] at h1 h2 h3
      rw [dat_cons] at h3
      have hl : cnt k r < r.length := by simpa using h2
      have ih := tailG_cnt k r (by omega) hl h3
      rw [List.take_succ_cons]
      cases hr : r.take (cnt k r + 1) with
      | nil => rw [hr] at ih; exact ih.elim
      | cons c q => rw [hr] at ih; exact ⟨hb, ih⟩
    · rename_i hb
      rw [if_neg hb] at h3
      simp only [Nat.zero_add, List.take_succ_cons, List.take_zero]
      exact ⟨by omega, by simpa [dat] using h3⟩
/-- Bytes that tell a number are its own. -/
theorem vb_get {s : List UInt8} {p x q : Nat} (hp : p ≤ s.length) (h : getQ s p = (x, q, 0)) : s.drop p = vb x ++ s.drop q ∧ q ≤ s.length := by
  obtain ⟨t, ht⟩ : ∃ t, s.drop p = t := ⟨_, rfl⟩
  have htl : t.length = s.length - p := by rw [← ht, List.length_drop]
  unfold getQ at h
  rw [ht] at h
  by_cases h0 : (wrongQ t).1 = 0
  · rw [if_pos h0] at h
    obtain ⟨h1, h2, h3, h4⟩ := wrong_ok h0
    rw [h1] at h
    obtain ⟨rfl, hq⟩ := Prod.mk.inj h
    obtain ⟨rfl, _⟩ := Prod.mk.inj hq
    have hz : 0 < cnt 10 t → dat t (cnt 10 t) ≠ 0 := fun hc hd => by
      unfold wrongQ at h0
      rw [if_neg (by omega), if_neg (by omega)] at h0
      split at h0
      · cases h0
      rw [if_pos ⟨hc, hd⟩] at h0
      cases h0
    have hv : vb (valL (t.take (cnt 10 t + 1))) = t.take (cnt 10 t + 1) := by
      by_cases hd : dat t (cnt 10 t) = 0
      · have hc : cnt 10 t = 0 := by
          rcases Nat.eq_zero_or_pos (cnt 10 t) with hc | hc
          · exact hc
          · exact absurd hd (hz hc)
        rw [hc] at hd h3 ⊢
        cases t with
        | nil => simp at h3
        | cons b r =>
          have hb : b.toNat = 0 := by simpa [dat] using hd
          simp only [Nat.zero_add, List.take_succ_cons, List.take_zero, valL, hb]
          rw [vb_lt (by omega)]
          have : b = 0 := UInt8.toNat_inj.1 hb
          rw [this]
          rfl
      · exact (tailG_vb _ (tailG_cnt 10 t h2 h3 hd)).2
    rw [ht, hv]
    refine ⟨?_, by omega⟩
    rw [← List.drop_drop, ht]
    exact (List.take_append_drop _ _).symm
  · rw [if_neg h0] at h
    obtain ⟨_, hq⟩ := Prod.mk.inj h
    obtain ⟨_, he⟩ := Prod.mk.inj hq
    exact absurd he h0
end Go.Proofs.Ytfffhnefjaomnaa
