/- Hilbert's curve, plain: a tile's place, the tile of a place, there and back, the place of the tile over one. -/
import Derived.Test.YtbldhokgbcljjaaGsx4
namespace Go.Proofs.Ytbldhokgbcljjaa
open Go.RowKit
set_option linter.unusedVariables false
set_option linter.unusedSimpArgs false
def hp : Nat → Nat → Nat → Nat
  | 0, _, _ => 0
  | z + 1, x, y =>
    if x < 2 ^ z then (if y < 2 ^ z then hp z y x else 4 ^ z + hp z x (y - 2 ^ z))
    else (if y < 2 ^ z then 3 * 4 ^ z + hp z (2 ^ z - 1 - y) (2 ^ z - 1 - (x - 2 ^ z)) else 2 * 4 ^ z + hp z (x - 2 ^ z) (y - 2 ^ z))
def pt : Nat → Nat → Nat × Nat
  | 0, _ => (0, 0)
  | z + 1, d =>
    if d / 4 ^ z = 0 then ((pt z (d % 4 ^ z)).2, (pt z (d % 4 ^ z)).1)
    else if d / 4 ^ z = 1 then ((pt z (d % 4 ^ z)).1, (pt z (d % 4 ^ z)).2 + 2 ^ z)
    else if d / 4 ^ z = 2 then ((pt z (d % 4 ^ z)).1 + 2 ^ z, (pt z (d % 4 ^ z)).2 + 2 ^ z)
    else (2 ^ z - 1 - (pt z (d % 4 ^ z)).2 + 2 ^ z, 2 ^ z - 1 - (pt z (d % 4 ^ z)).1)
theorem pow2_pos (z : Nat) : 0 < 2 ^ z := Nat.pow_pos (by decide)
theorem pow4_pos (z : Nat) : 0 < 4 ^ z := Nat.pow_pos (by decide)
theorem pow4_sq (z : Nat) : 4 ^ z = 2 ^ z * 2 ^ z := by rw [← Nat.mul_pow]
theorem hp_lt : ∀ (z x y : Nat), x < 2 ^ z → y < 2 ^ z → hp z x y < 4 ^ z
  | 0, _, _, _, _ => Nat.one_pos
  | z + 1, x, y, hx, hy => by
    have hq := pow4_pos z
    rw [Nat.pow_succ] at hx hy ⊢
    rw [hp]
    split
    · split
      · have := hp_lt z y x (by assumption) (by assumption); omega
      · have := hp_lt z x (y - 2 ^ z) (by assumption) (by omega); omega
    · split
      · have := hp_lt z (2 ^ z - 1 - y) (2 ^ z - 1 - (x - 2 ^ z)) (by omega) (by omega); omega
      · have := hp_lt z (x - 2 ^ z) (y - 2 ^ z) (by omega) (by omega); omega
theorem pt_lt : ∀ (z d : Nat), d < 4 ^ z → (pt z d).1 < 2 ^ z ∧ (pt z d).2 < 2 ^ z
  | 0, _, _ => ⟨Nat.one_pos, Nat.one_pos⟩
  | z + 1, d, hd => by
    have hm := pt_lt z (d % 4 ^ z) (Nat.mod_lt _ (pow4_pos z))
    rw [Nat.pow_succ 2 z]
    rw [pt]
    split
    · exact ⟨by show (pt z _).2 < _; omega, by show (pt z _).1 < _; omega⟩
    · split
      · exact ⟨by show (pt z _).1 < _; omega, by show (pt z _).2 + 2 ^ z < _; omega⟩
      · split
        · exact ⟨by show (pt z _).1 + 2 ^ z < _; omega, by show (pt z _).2 + 2 ^ z < _; omega⟩
        · exact ⟨by show 2 ^ z - 1 - (pt z _).2 + 2 ^ z < _; omega, by show 2 ^ z - 1 - (pt z _).1 < _; omega⟩
theorem quo_mod (q d k : Nat) (hq : 0 < q) (h : d / q = k) : d = k * q + d % q := by
  have := Nat.div_add_mod d q
  rw [h, Nat.mul_comm] at this
  exact this.symm
theorem div_is {q k m : Nat} (hm : m < q) : (k * q + m) / q = k ∧ (k * q + m) % q = m := by
  have hq : 0 < q := by omega
  rw [Nat.add_comm, Nat.add_mul_div_right _ _ hq, Nat.div_eq_of_lt hm, Nat.add_mul_mod_self_right, Nat.mod_eq_of_lt hm]
  exact ⟨Nat.zero_add _, rfl⟩
theorem hp_pt : ∀ (z d : Nat), d < 4 ^ z → hp z (pt z d).1 (pt z d).2 = d
  | 0, d, hd => by
    have : d = 0 := by simp at hd; omega
    subst this
    rfl
  | z + 1, d, hd => by
    have hq := pow4_pos z
    have hh := pow2_pos z
    have hml := Nat.mod_lt d hq
    have ih := hp_pt z (d % 4 ^ z) hml
    obtain ⟨h1, h2⟩ := pt_lt z (d % 4 ^ z) hml
    rw [Nat.pow_succ] at hd
    rw [pt]
    obtain ⟨p, hp0⟩ : ∃ p, pt z (d % 4 ^ z) = p := ⟨_, rfl⟩
    rw [hp0] at ih h1 h2 ⊢
    obtain ⟨a, b⟩ := p
    simp only at ih h1 h2
    split
    · rename_i h
      have := quo_mod _ d _ hq h
      show hp (z + 1) b a = d
      rw [hp, if_pos h2, if_pos h1, ih]
      omega
    · split
      · rename_i h
        have := quo_mod _ d _ hq h
        show hp (z + 1) a (b + 2 ^ z) = d
        rw [hp, if_pos h1, if_neg (by omega), Nat.add_sub_cancel, ih]
        omega
      · split
        · rename_i h
          have := quo_mod _ d _ hq h
          show hp (z + 1) (a + 2 ^ z) (b + 2 ^ z) = d
          rw [hp, if_neg (by omega), if_neg (by omega), Nat.add_sub_cancel, Nat.add_sub_cancel, ih]
          omega
        · rename_i n0 n1 n2
          have h3 : d / 4 ^ z = 3 := by
            have h4 : d / 4 ^ z < 4 := Nat.div_lt_of_lt_mul hd
            generalize d / 4 ^ z = t at n0 n1 n2 h4
            omega
          have := quo_mod _ d _ hq h3
          show hp (z + 1) (2 ^ z - 1 - b + 2 ^ z) (2 ^ z - 1 - a) = d
          rw [hp, if_neg (by omega), if_pos (by omega), Nat.add_sub_cancel, show 2 ^ z - 1 - (2 ^ z - 1 - a) = a by omega, show 2 ^ z - 1 - (2 ^ z - 1 - b) = b by omega, ih]
          omega
theorem pt_hp : ∀ (z x y : Nat), x < 2 ^ z → y < 2 ^ z → pt z (hp z x y) = (x, y)
  | 0, x, y, hx, hy => by
    have : x = 0 := by simp at hx; omega
    have : y = 0 := by simp at hy; omega
    subst x; subst y
    rfl
  | z + 1, x, y, hx, hy => by
    have hh := pow2_pos z
    rw [Nat.pow_succ] at hx hy
    rw [hp]
    by_cases h1 : x < 2 ^ z <;> by_cases h2 : y < 2 ^ z
    · rw [if_pos h1, if_pos h2]
      have hl := hp_lt z y x h2 h1
      have ih := pt_hp z y x h2 h1
      have hd := div_is (k := 0) hl
      rw [Nat.zero_mul, Nat.zero_add] at hd
      rw [pt, hd.1, hd.2, if_pos rfl, ih]
    · rw [if_pos h1, if_neg h2]
      have hl := hp_lt z x (y - 2 ^ z) h1 (by omega)
      have ih := pt_hp z x (y - 2 ^ z) h1 (by omega)
      have hd := div_is (k := 1) hl
      rw [Nat.one_mul] at hd
      rw [pt, hd.1, hd.2, if_neg (by decide), if_pos rfl, ih]
      show (x, y - 2 ^ z + 2 ^ z) = _
      congr 1
      omega
    · rw [if_neg h1, if_pos h2]
      have hl := hp_lt z (2 ^ z - 1 - y) (2 ^ z - 1 - (x - 2 ^ z)) (by omega) (by omega)
      have ih := pt_hp z (2 ^ z - 1 - y) (2 ^ z - 1 - (x - 2 ^ z)) (by omega) (by omega)
      have hd := div_is (k := 3) hl
      rw [pt, hd.1, hd.2, if_neg (by decide), if_neg (by decide), if_neg (by decide), ih]
      show (2 ^ z - 1 - (2 ^ z - 1 - (x - 2 ^ z)) + 2 ^ z, 2 ^ z - 1 - (2 ^ z - 1 - y)) = _
      congr 1 <;> omega
    · rw [if_neg h1, if_neg h2]
      have hl := hp_lt z (x - 2 ^ z) (y - 2 ^ z) (by omega) (by omega)
      have ih := pt_hp z (x - 2 ^ z) (y - 2 ^ z) (by omega) (by omega)
      have hd := div_is (k := 2) hl
      rw [pt, hd.1, hd.2, if_neg (by decide), if_neg (by decide), if_pos rfl, ih]
      show (x - 2 ^ z + 2 ^ z, y - 2 ^ z + 2 ^ z) = _
      congr 1 <;> omega
theorem hp_inj {z x y u v : Nat} (hx : x < 2 ^ z) (hy : y < 2 ^ z) (hu : u < 2 ^ z) (hv : v < 2 ^ z) (h : hp z x y = hp z u v) : x = u ∧ y = v := by
  have := pt_hp z x y hx hy
  rw [h, pt_hp z u v hu hv] at this
  injection this with a b
  exact ⟨a.symm, b.symm⟩
/-- The tile over a tile stands at a quarter of its place. -/
theorem hp_up : ∀ (z x y : Nat), x < 2 ^ (z + 1) → y < 2 ^ (z + 1) → hp z (x / 2) (y / 2) = hp (z + 1) x y / 4
  | 0, x, y, hx, hy => by
    have := hp_lt 1 x y hx hy
    have e : hp 0 (x / 2) (y / 2) = 0 := rfl
    rw [e]
    rw [Nat.pow_one] at this
    show 0 = hp 1 x y / 4
    omega
  | z + 1, x, y, hx, hy => by
    have hh := pow2_pos z
    have hq := pow4_pos z
    rw [hp, hp]
    rw [Nat.pow_succ 2 (z + 1)] at hx hy
    have e2 : 2 ^ (z + 1) = 2 * 2 ^ z := by rw [Nat.pow_succ]; omega
    have e4 : 4 ^ (z + 1) = 4 * 4 ^ z := by rw [Nat.pow_succ]; omega
    by_cases h1 : x < 2 ^ (z + 1) <;> by_cases h2 : y < 2 ^ (z + 1)
    · rw [if_pos h1, if_pos h2, if_pos (by omega), if_pos (by omega)]
      exact hp_up z y x h2 h1
    · rw [if_pos h1, if_neg h2, if_pos (by omega), if_neg (by omega), e4]
      have := hp_up z x (y - 2 ^ (z + 1)) h1 (by omega)
      rw [show (y - 2 ^ (z + 1)) / 2 = y / 2 - 2 ^ z by omega] at this
      rw [this]
      omega
    · rw [if_neg h1, if_pos h2, if_neg (by omega), if_pos (by omega), e4]
      have := hp_up z (2 ^ (z + 1) - 1 - y) (2 ^ (z + 1) - 1 - (x - 2 ^ (z + 1))) (by omega) (by omega)
      rw [show (2 ^ (z + 1) - 1 - y) / 2 = 2 ^ z - 1 - y / 2 by omega, show (2 ^ (z + 1) - 1 - (x - 2 ^ (z + 1))) / 2 = 2 ^ z - 1 - (x / 2 - 2 ^ z) by omega] at this
      rw [this]
      omega
    · rw [if_neg h1, if_neg h2, if_neg (by omega), if_neg (by omega), e4]
      have := hp_up z (x - 2 ^ (z + 1)) (y - 2 ^ (z + 1)) (by omega) (by omega)
      rw [show (x - 2 ^ (z + 1)) / 2 = x / 2 - 2 ^ z by omega, show (y - 2 ^ (z + 1)) / 2 = y / 2 - 2 ^ z by omega] at this
      rw [this]
      omega
theorem pt_up (z d : Nat) (hd : d < 4 ^ (z + 1)) : pt z (d / 4) = ((pt (z + 1) d).1 / 2, (pt (z + 1) d).2 / 2) := by
  obtain ⟨h1, h2⟩ := pt_lt (z + 1) d hd
  have h3 := hp_up z _ _ h1 h2
  rw [hp_pt (z + 1) d hd] at h3
  rw [← h3]
  have e2 : 2 ^ (z + 1) = 2 * 2 ^ z := by rw [Nat.pow_succ]; omega
  exact pt_hp z _ _ (by omega) (by omega)
/-- So many zooms over a tile. -/
theorem hp_lift : ∀ (n z x y : Nat), x < 2 ^ (z + n) → y < 2 ^ (z + n) → hp z (x / 2 ^ n) (y / 2 ^ n) = hp (z + n) x y / 4 ^ n
  | 0, z, x, y, _, _ => by simp
  | n + 1, z, x, y, hx, hy => by
    have h1 := hp_up (z + n) x y hx hy
    have e2 : 2 ^ (z + (n + 1)) = 2 * 2 ^ (z + n) := by rw [← Nat.add_assoc, Nat.pow_succ]; omega
    have h2 := hp_lift n z (x / 2) (y / 2) (by omega) (by omega)
    rw [h1, Nat.div_div_eq_div_mul, Nat.div_div_eq_div_mul, Nat.div_div_eq_div_mul] at h2
    rw [show 2 ^ (n + 1) = 2 * 2 ^ n by rw [Nat.pow_succ]; omega, show 4 ^ (n + 1) = 4 * 4 ^ n by rw [Nat.pow_succ]; omega]
    exact h2
end Go.Proofs.Ytbldhokgbcljjaa
