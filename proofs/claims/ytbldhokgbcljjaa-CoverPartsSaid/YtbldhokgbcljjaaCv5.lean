/- What lies over, and in, an identifier's tile, plain. No conditions. -/
import Derived.Test.YtbldhokgbcljjaaCv2
import Derived.Test.YtbldhokgbcljjaaRv3
namespace Go.Proofs.Ytbldhokgbcljjaa
open Go.RowKit
set_option linter.unusedVariables false
set_option linter.unusedSimpArgs false
/-- k is over j, or in it. -/
def relM (up : Bool) (j k : Nat) : Prop := if up then 1 ≤ zN j ∧ upK j = k else k < 6004799503160661 ∧ 1 ≤ zN k ∧ upK k = j
theorem zoom_ex1 {k : Nat} (h : k < 6004799503160661) (h1 : 1 ≤ zN k) : ∃ n d, n + 1 ≤ 26 ∧ d < 4 ^ (n + 1) ∧ k = base4 (n + 1) + d ∧ upK k = base4 n + d / 4 ∧ d / 4 < 4 ^ n := by
  obtain ⟨z, d, hz, hd, rfl⟩ := id_ex h
  rw [zN_is hz hd] at h1
  obtain ⟨n, rfl⟩ : ∃ n, z = n + 1 := ⟨z - 1, by omega⟩
  refine ⟨n, d, hz, hd, rfl, upK_is hz hd, ?_⟩
  rw [Nat.pow_succ] at hd
  omega
theorem upK_lt {k : Nat} (h : k < 6004799503160661) (h1 : 1 ≤ zN k) : upK k < 6004799503160661 := by
  obtain ⟨n, d, hn, _, _, e, hd⟩ := zoom_ex1 h h1
  rw [e]
  exact base4_lt (by omega) hd
theorem rel_up (a : List Sp) (k : Nat) : UpIn a k ↔ ∃ j, inS (plainQ a) j ∧ relM true j k := by
  constructor
  · rintro ⟨j, h1, h2, h3, h4⟩
    exact ⟨j, (plain_in a j).2 ⟨h2, h1⟩, h3, h4⟩
  · rintro ⟨j, h1, h3, h4⟩
    obtain ⟨h2, h1⟩ := (plain_in a j).1 h1
    exact ⟨j, h1, h2, h3, h4⟩
theorem rel_down (a : List Sp) (k : Nat) : DownIn a k ↔ ∃ j, inS (plainQ a) j ∧ relM false j k := by
  constructor
  · rintro ⟨h1, h2, h3⟩
    exact ⟨upK k, (plain_in a _).2 ⟨h3, upK_lt h1 h2⟩, h1, h2, rfl⟩
  · rintro ⟨j, h1, h2, h3, rfl⟩
    exact ⟨h2, h3, ((plain_in a _).1 h1).1⟩
/-- Tiles of a zoom, whose identifiers are just these. -/
structure Tgts (z : Nat) (L : List (Nat × Nat)) (R : Nat → Prop) : Prop where
  zo : z ≤ 26
  ok : ∀ p ∈ L, p.1 < 2 ^ z ∧ p.2 < 2 ^ z
  len : L.length ≤ 4
  is_ : ∀ k, (∃ p ∈ L, base4 z + hp z p.1 p.2 = k) ↔ R k
theorem tgt_up0 : Tgts 0 [] (relM true (base4 0 + 0)) where
  zo := by decide
  ok p hp := by cases hp
  len := by decide
  is_ k := by
    have h0 : zN (base4 0 + 0) = 0 := zN_is (by decide) (by decide)
    constructor
    · rintro ⟨p, hp, _⟩
      cases hp
    · rintro ⟨h, _⟩
      rw [h0] at h
      omega
theorem tgt_up {n d : Nat} (hn : n + 1 ≤ 26) (hd : d < 4 ^ (n + 1)) : Tgts n [((pt (n + 1) d).1 / 2, (pt (n + 1) d).2 / 2)] (relM true (base4 (n + 1) + d)) where
  zo := by omega
  ok p hp := by
    rw [List.mem_singleton.1 hp]
    obtain ⟨h1, h2⟩ := pt_lt (n + 1) d hd
    rw [Nat.pow_succ] at h1 h2
    exact ⟨by show (pt (n + 1) d).1 / 2 < _; omega, by show (pt (n + 1) d).2 / 2 < _; omega⟩
  len := by show 1 ≤ 4; decide
  is_ k := by
    obtain ⟨h1, h2⟩ := pt_lt (n + 1) d hd
    have h3 : base4 n + hp n ((pt (n + 1) d).1 / 2) ((pt (n + 1) d).2 / 2) = base4 n + d / 4 := by rw [hp_up n _ _ h1 h2, hp_pt (n + 1) d hd]
    have h4 := upK_is hn hd
    have h5 : zN (base4 (n + 1) + d) = n + 1 := zN_is hn hd
    constructor
    · rintro ⟨p, hp, rfl⟩
      rw [List.mem_singleton.1 hp]
      exact ⟨by omega, by rw [h4]; exact h3.symm⟩
    · rintro ⟨_, rfl⟩
      exact ⟨_, List.mem_singleton.2 rfl, by rw [h4]; exact h3⟩
theorem tgt_top {d : Nat} (hd : d < 4 ^ 26) : Tgts 26 [] (relM false (base4 26 + d)) where
  zo := by decide
  ok p hp := by cases hp
  len := by decide
  is_ k := by
    constructor
    · rintro ⟨p, hp, _⟩
      cases hp
    · rintro ⟨h1, h2, h3⟩
      exfalso
      obtain ⟨n, e, hn, he, rfl, h4, h5⟩ := zoom_ex1 h1 h2
      rw [h4] at h3
      have h6 := zN_is (show n ≤ 26 by omega) h5
      rw [h3, zN_is (by decide) hd] at h6
      omega
theorem kids_mem {a b : Nat} {p : Nat × Nat} : p ∈ kids a b 4 ↔ p.1 / 2 = a ∧ p.2 / 2 = b := by
  obtain ⟨x, y⟩ := p
  unfold kids
  simp only [List.mem_map, List.mem_range, Prod.mk.injEq]
  constructor
  · rintro ⟨i, hi, rfl, rfl⟩
    omega
  · rintro ⟨h1, h2⟩
    exact ⟨x % 2 + 2 * (y % 2), by omega, by omega, by omega⟩
theorem tgt_down {z d : Nat} (hz : z + 1 ≤ 26) (hd : d < 4 ^ z) {L : List (Nat × Nat)} (hL : L.Perm (kids (pt z d).1 (pt z d).2 4)) : Tgts (z + 1) L (relM false (base4 z + d)) := by
  obtain ⟨g1, g2⟩ := pt_lt z d hd
  have ok : ∀ p ∈ L, p.1 < 2 ^ (z + 1) ∧ p.2 < 2 ^ (z + 1) := fun p hp => by
    obtain ⟨h1, h2⟩ := kids_mem.1 (hL.mem_iff.1 hp)
    rw [Nat.pow_succ]
    omega
  refine ⟨hz, ok, by rw [hL.length_eq]; exact Nat.le_refl _, fun k => ⟨?_, ?_⟩⟩
  · rintro ⟨p, hp, rfl⟩
    obtain ⟨h1, h2⟩ := kids_mem.1 (hL.mem_iff.1 hp)
    obtain ⟨h3, h4⟩ := ok p hp
    have hl := hp_lt (z + 1) p.1 p.2 h3 h4
    refine ⟨base4_lt hz hl, by rw [zN_is hz hl]; omega, ?_⟩
    rw [upK_is hz hl, ← hp_up z _ _ h3 h4, h1, h2, hp_pt z d hd]
  · rintro ⟨h1, h2, h3⟩
    obtain ⟨n, e, hn, he, rfl, h4, h5⟩ := zoom_ex1 h1 h2
    rw [h4] at h3
    have h6 := zN_is (show n ≤ 26 by omega) h5
    rw [h3, zN_is (by omega) hd] at h6
    subst h6
    have h7 : e / 4 = d := by omega
    have h8 := pt_up z e he
    rw [h7] at h8
    refine ⟨pt (z + 1) e, hL.mem_iff.2 (kids_mem.2 ?_), by rw [hp_pt _ _ he]⟩
    rw [h8]
    exact ⟨rfl, rfl⟩
end Go.Proofs.Ytbldhokgbcljjaa
