/- A rectangle's tiles as places on the curve, one behind the other: plain laws. -/
import Derived.Test.YtbldhokgbcljjaaCv3
import Derived.Test.YtbldhokgbcljjaaCv2
namespace Go.Proofs.Ytbldhokgbcljjaa
open Go.RowKit
set_option linter.unusedVariables false
set_option linter.unusedSimpArgs false
/-- A plain list of those places below D that have a property. -/
structure DoneQ (Z : Nat) (P : Nat → Nat → Prop) (D : Nat) (L : List Sp) : Prop where
  plain : Plain L
  is_ : ∀ k, inS L k ↔ base4 Z ≤ k ∧ k < base4 Z + D ∧ P (pt Z (k - base4 Z)).1 (pt Z (k - base4 Z)).2
section
variable {Z D : Nat} {P : Nat → Nat → Prop} {L M : List Sp}
theorem DoneQ.nil : DoneQ Z P 0 [] := ⟨Plain.nil, fun k => ⟨fun h => absurd h (inS_nil k), fun h => by omega⟩⟩
theorem DoneQ.skip (h : DoneQ Z P D L) (m : Nat) (hn : ∀ e, D ≤ e → e < D + m → ¬ P (pt Z e).1 (pt Z e).2) : DoneQ Z P (D + m) L := ⟨h.plain, fun k => by
  rw [h.is_ k]
  constructor
  · rintro ⟨h1, h2, h3⟩
    exact ⟨h1, by omega, h3⟩
  · rintro ⟨h1, h2, h3⟩
    refine ⟨h1, ?_, h3⟩
    rcases Nat.lt_or_ge k (base4 Z + D) with h4 | h4
    · exact h4
    · exact absurd h3 (hn (k - base4 Z) (by omega) (by omega))⟩
theorem DoneQ.join (h : DoneQ Z P D L) {m : Nat} (hm : 0 < m) (hp : ∀ e, D ≤ e → e < D + m → P (pt Z e).1 (pt Z e).2) : DoneQ Z P (D + m) (joinQ L ⟨base4 Z + D, base4 Z + D + m - 1⟩) := by
  obtain ⟨j1, j2, -⟩ := joinQ_ok h.plain (s := ⟨base4 Z + D, base4 Z + D + m - 1⟩) (by show base4 Z + D ≤ base4 Z + D + m - 1; omega) (fun t ht => by
    have := ((h.is_ t.a).1 ⟨t, ht, Nat.le_refl _, h.plain.ok t ht⟩).2.1
    show t.a ≤ base4 Z + D
    omega)
  refine ⟨j1, fun k => ?_⟩
  rw [j2, h.is_ k]
  constructor
  · rintro (⟨h1, h2, h3⟩ | ⟨h1, h2⟩)
    · exact ⟨h1, by omega, h3⟩
    · replace h1 : base4 Z + D ≤ k := h1
      replace h2 : k ≤ base4 Z + D + m - 1 := h2
      exact ⟨by omega, by omega, hp _ (by omega) (by omega)⟩
  · rintro ⟨h1, h2, h3⟩
    rcases Nat.lt_or_ge k (base4 Z + D) with h4 | h4
    · exact .inl ⟨h1, h4, h3⟩
    · exact .inr ⟨h4, by show k ≤ base4 Z + D + m - 1; omega⟩
theorem DoneQ.uniq (h : DoneQ Z P D L) (k : DoneQ Z P D M) : L = M := plain_ext h.plain k.plain fun x => (h.is_ x).trans (k.is_ x).symm
theorem done_ex (Z : Nat) (P : Nat → Nat → Prop) : ∀ D, ∃ L, DoneQ Z P D L
  | 0 => ⟨[], DoneQ.nil⟩
  | D + 1 => by
    obtain ⟨L, hL⟩ := done_ex Z P D
    by_cases hp : P (pt Z D).1 (pt Z D).2
    · exact ⟨_, hL.join (m := 1) Nat.one_pos fun e h1 h2 => by obtain rfl : e = D := (by omega); exact hp⟩
    · exact ⟨_, hL.skip 1 fun e h1 h2 => by obtain rfl : e = D := (by omega); exact hp⟩
theorem DoneQ.below (h : DoneQ Z P D L) : BelowS (base4 Z + D) L := (below_in h.plain).2 fun k hk => ((h.is_ k).1 hk).2.1
end
/-- What of a plain list lies below a number is not more. -/
def cutQ (n : Nat) (L : List Sp) : List Sp := (L.filter fun s => decide (s.a < n)).map fun s => ⟨s.a, min s.b (n - 1)⟩
theorem cut_plain {n : Nat} {L : List Sp} (h : Plain L) : Plain (cutQ n L) := by
  refine ⟨List.pairwise_map.2 ((h.gap.sublist List.filter_sublist).imp fun {s t} hg => by show min s.b (n - 1) + 1 < t.a; omega), fun s hs => ?_⟩
  obtain ⟨t, ht, rfl⟩ := List.mem_map.1 hs
  obtain ⟨h1, h2⟩ := List.mem_filter.1 ht
  have := h.ok t h1
  simp only [decide_eq_true_eq] at h2
  show t.a ≤ min t.b (n - 1)
  omega
theorem cut_in {n : Nat} {L : List Sp} (k : Nat) : inS (cutQ n L) k ↔ inS L k ∧ k < n := by
  constructor
  · rintro ⟨s, hs, h1, h2⟩
    obtain ⟨t, ht, rfl⟩ := List.mem_map.1 hs
    obtain ⟨h3, h4⟩ := List.mem_filter.1 ht
    simp only [decide_eq_true_eq] at h4
    replace h1 : t.a ≤ k := h1
    replace h2 : k ≤ min t.b (n - 1) := h2
    exact ⟨⟨t, h3, h1, by omega⟩, by omega⟩
  · rintro ⟨⟨t, ht, h1, h2⟩, h3⟩
    refine ⟨⟨t.a, min t.b (n - 1)⟩, List.mem_map.2 ⟨t, List.mem_filter.2 ⟨ht, by simp only [decide_eq_true_eq]; omega⟩, rfl⟩, h1, ?_⟩
    show k ≤ min t.b (n - 1)
    omega
theorem cut_le (n : Nat) (L : List Sp) : (cutQ n L).length ≤ L.length := by
  unfold cutQ
  rw [List.length_map]
  exact List.length_filter_le _ _
theorem DoneQ.mono {Z D E : Nat} {P : Nat → Nat → Prop} {L M : List Sp} (h : DoneQ Z P D L) (k : DoneQ Z P E M) (hde : D ≤ E) : L.length ≤ M.length := by
  have e : L = cutQ (base4 Z + D) M := plain_ext h.plain (cut_plain k.plain) fun x => by
    rw [cut_in, h.is_, k.is_]
    constructor
    · rintro ⟨h1, h2, h3⟩
      exact ⟨⟨h1, by omega, h3⟩, h2⟩
    · rintro ⟨⟨h1, _, h3⟩, h2⟩
      exact ⟨h1, h2, h3⟩
  rw [e]
  exact cut_le _ _
/-- The places that lie in a tile, so many zooms below it. -/
theorem sq_pt {z n a b e : Nat} (ha : a < 2 ^ z) (hb : b < 2 ^ z) (he : e < 4 ^ (z + n)) : (hp z a b * 4 ^ n ≤ e ∧ e < hp z a b * 4 ^ n + 4 ^ n) ↔ ((pt (z + n) e).1 / 2 ^ n = a ∧ (pt (z + n) e).2 / 2 ^ n = b) := by
  obtain ⟨h1, h2⟩ := pt_lt _ _ he
  have hl := hp_lift n z _ _ h1 h2
  rw [hp_pt _ _ he] at hl
  have hq := pow4_pos n
  have hd1 : (pt (z + n) e).1 / 2 ^ n < 2 ^ z := (Nat.div_lt_iff_lt_mul (pow2_pos n)).2 (by rw [← Nat.pow_add]; exact h1)
  have hd2 : (pt (z + n) e).2 / 2 ^ n < 2 ^ z := (Nat.div_lt_iff_lt_mul (pow2_pos n)).2 (by rw [← Nat.pow_add]; exact h2)
  have e1 : (hp z a b * 4 ^ n ≤ e ∧ e < hp z a b * 4 ^ n + 4 ^ n) ↔ e / 4 ^ n = hp z a b := by
    rw [← Nat.le_div_iff_mul_le hq, ← Nat.succ_mul, ← Nat.div_lt_iff_lt_mul hq]
    omega
  rw [e1, ← hl]
  constructor
  · intro h
    exact hp_inj hd1 hd2 ha hb h
  · rintro ⟨rfl, rfl⟩
    rfl
theorem sq_rng {n x a : Nat} : x / 2 ^ n = a ↔ a * 2 ^ n ≤ x ∧ x < (a + 1) * 2 ^ n := by
  have hq := pow2_pos n
  rw [← Nat.le_div_iff_mul_le hq, ← Nat.div_lt_iff_lt_mul hq]
  omega
/-- The tiles of a rectangle. -/
def RIn (a b c d x y : Nat) : Prop := (a ≤ x ∧ x ≤ c) ∧ b ≤ y ∧ y ≤ d
instance (a b c d x y : Nat) : Decidable (RIn a b c d x y) := by unfold RIn; infer_instance
theorem base4_succ (z : Nat) : base4 (z + 1) = base4 z + 4 ^ z := rfl
/-- How many they are. -/
theorem done_total {Z a b c d : Nat} {L : List Sp} (hL : DoneQ Z (RIn a b c d) (4 ^ Z) L) (hc : c < 2 ^ Z) (hd : d < 2 ^ Z) : totalQ L = (c + 1 - a) * (d + 1 - b) := by
  rw [total_cnt hL.plain hL.below, cntB_add]
  have h0 : cntB (fun k => decide (inS L k)) (base4 Z) = 0 := by
    rw [cntB_congr (q := fun _ => false) (base4 Z) fun k hk => decide_eq_false fun h => by have := ((hL.is_ k).1 h).1; omega]
    rw [cntB_sum]
    exact sumN_zero _
  rw [h0, Nat.zero_add, cntB_congr (q := fun e => (fun x y => decide (a ≤ x ∧ x ≤ c) && decide (b ≤ y ∧ y ≤ d)) (pt Z e).1 (pt Z e).2) (4 ^ Z) fun e he => by
    rw [Bool.eq_iff_iff, decide_eq_true_iff, hL.is_, Nat.add_sub_cancel_left]
    simp only [RIn, Bool.and_eq_true, decide_eq_true_eq]
    exact ⟨fun h => h.2.2, fun h => ⟨Nat.le_add_right _ _, by omega, h⟩⟩]
  have h3 := cnt_pt Z (fun x y => decide (a ≤ x ∧ x ≤ c) && decide (b ≤ y ∧ y ≤ d))
  rw [grid_rect a c b d _ _ hc hd] at h3
  exact h3
/-- A tile's identifier is in the list just if the tile is in the rectangle. -/
theorem done_has {Z a b c d x y : Nat} {L : List Sp} (hL : DoneQ Z (RIn a b c d) (4 ^ Z) L) (hx : x < 2 ^ Z) (hy : y < 2 ^ Z) : inS L (base4 Z + hp Z x y) ↔ RIn a b c d x y := by
  have hl := hp_lt Z x y hx hy
  rw [hL.is_, Nat.add_sub_cancel_left, pt_hp Z x y hx hy]
  exact ⟨fun h => h.2.2, fun h => ⟨Nat.le_add_right _ _, by omega, h⟩⟩
theorem done_ids {Z a b c d : Nat} {L : List Sp} (hp0 : Plain L) (hc : c < 2 ^ Z) (hd : d < 2 ^ Z) (h : ∀ k, inS L k ↔ ∃ x y, RIn a b c d x y ∧ k = base4 Z + hp Z x y) : DoneQ Z (RIn a b c d) (4 ^ Z) L := ⟨hp0, fun k => by
  rw [h k]
  constructor
  · rintro ⟨x, y, hr, rfl⟩
    have hr' := hr
    obtain ⟨⟨h1, h2⟩, h3, h4⟩ := hr'
    have hl := hp_lt Z x y (by omega) (by omega)
    rw [Nat.add_sub_cancel_left, pt_hp Z x y (by omega) (by omega)]
    exact ⟨Nat.le_add_right _ _, by omega, hr⟩
  · rintro ⟨h1, h2, h3⟩
    refine ⟨_, _, h3, ?_⟩
    rw [hp_pt Z _ (by omega)]
    omega⟩
/-- A rectangle that is cut in two. -/
theorem done_parts {Z a b c d t : Nat} {L M K : List Sp} (hL : DoneQ Z (RIn a b c d) (4 ^ Z) L) (hM : DoneQ Z (RIn a b t d) (4 ^ Z) M) (hK : DoneQ Z (RIn (t + 1) b c d) (4 ^ Z) K) (h1 : a ≤ t) (h2 : t < c) : unQ M K = L := plain_ext (un_plain _ _) hL.plain fun k => by
  rw [un_in, hL.is_, hM.is_, hK.is_]
  simp only [RIn]
  omega
theorem done_pos {Z a b c d : Nat} {L : List Sp} (hL : DoneQ Z (RIn a b c d) (4 ^ Z) L) (h1 : a ≤ c) (h2 : b ≤ d) (hc : c < 2 ^ Z) (hd : d < 2 ^ Z) : 0 < L.length := by
  obtain ⟨s, hs, _⟩ := (done_has hL hc hd).2 ⟨⟨h1, Nat.le_refl _⟩, h2, Nat.le_refl _⟩
  exact List.length_pos_of_mem hs
end Go.Proofs.Ytbldhokgbcljjaa
