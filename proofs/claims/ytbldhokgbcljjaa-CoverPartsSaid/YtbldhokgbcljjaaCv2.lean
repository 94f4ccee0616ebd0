/- The tiles over those of a set, and those in them, as sets of identifiers. Plain laws. -/
import Derived.Test.YtbldhokgbcljjaaCv3
import Derived.Test.YtbldhokgbcljjaaZo1
namespace Go.Proofs.Ytbldhokgbcljjaa
open Go.RowKit
set_option linter.unusedVariables false
set_option linter.unusedSimpArgs false
/-- An identifier's zoom, as a number. -/
def zN (k : Nat) : Nat := (zoomQ k).toNat
theorem zN_at {k z : Nat} (hz : z ≤ 26) (h1 : base4 z ≤ k) (h2 : k < base4 (z + 1)) : zN k = z := by
  unfold zN
  rw [zoom_at hz h1 h2]
  rfl
theorem zN_ex {k : Nat} (h : k < 6004799503160661) : zN k ≤ 26 ∧ zoomQ k = (zN k : Int) ∧ base4 (zN k) ≤ k ∧ k < base4 (zN k + 1) := by
  obtain ⟨z, h1, h2, h3, h4⟩ := zoom_ex h
  have : zN k = z := by unfold zN; rw [h2]; rfl
  rw [this]
  exact ⟨h1, h2, h3, h4⟩
theorem base4_lt {z d : Nat} (hz : z ≤ 26) (hd : d < 4 ^ z) : base4 z + d < 6004799503160661 := by
  have h1 : base4 (z + 1) ≤ base4 27 := base4_mono (by omega)
  rw [base4_27] at h1
  have h2 : base4 (z + 1) = base4 z + 4 ^ z := rfl
  omega
theorem zN_is {z d : Nat} (hz : z ≤ 26) (hd : d < 4 ^ z) : zN (base4 z + d) = z := zN_at hz (Nat.le_add_right _ _) (by have h2 : base4 (z + 1) = base4 z + 4 ^ z := rfl; omega)
/-- Each identifier is a zoom's place. -/
theorem id_ex {k : Nat} (h : k < 6004799503160661) : ∃ z d, z ≤ 26 ∧ d < 4 ^ z ∧ k = base4 z + d := by
  obtain ⟨h1, _, h3, h4⟩ := zN_ex h
  have h2 : base4 (zN k + 1) = base4 (zN k) + 4 ^ zN k := rfl
  exact ⟨zN k, k - base4 (zN k), h1, by omega, by omega⟩
/-- The identifier of the tile over one. -/
def upK (k : Nat) : Nat := base4 (zN k - 1) + (k - base4 (zN k)) / 4
theorem upK_is {z d : Nat} (hz : z + 1 ≤ 26) (hd : d < 4 ^ (z + 1)) : upK (base4 (z + 1) + d) = base4 z + d / 4 := by
  unfold upK
  rw [zN_is hz hd, Nat.add_sub_cancel, Nat.add_sub_cancel_left]
def UpIn (a : List Sp) (k : Nat) : Prop := ∃ j, j < 6004799503160661 ∧ inS a j ∧ 1 ≤ zN j ∧ upK j = k
def DownIn (a : List Sp) (k : Nat) : Prop := k < 6004799503160661 ∧ 1 ≤ zN k ∧ inS a (upK k)
/-- What one has of a zoom. -/
def zoS (a : List Sp) (z : Nat) : List Sp := andQ a [⟨base4 z, base4 (z + 1) - 1⟩]
theorem zo_in (a : List Sp) {z : Nat} (hz : z ≤ 26) (k : Nat) : inS (zoS a z) k ↔ inS a k ∧ base4 z ≤ k ∧ k < base4 (z + 1) := by
  unfold zoS
  rw [and_in, inS_one]
  have h1 : base4 (z + 1) ≤ base4 27 := base4_mono (by omega)
  rw [base4_27] at h1
  have h2 := pow4_pos z
  have h3 : base4 (z + 1) = base4 z + 4 ^ z := rfl
  constructor
  · rintro ⟨_, p, q, r⟩
    have q : base4 z ≤ k := q
    have r : k ≤ base4 (z + 1) - 1 := r
    exact ⟨p, q, by omega⟩
  · rintro ⟨p, q, r⟩
    exact ⟨by omega, p, q, by show k ≤ base4 (z + 1) - 1; omega⟩
theorem zo_plain (a : List Sp) (z : Nat) : Plain (zoS a z) := and_plain _ _
theorem zo_mem {a : List Sp} {z : Nat} (hz : z ≤ 26) {s : Sp} (hs : s ∈ zoS a z) : s.a ≤ s.b ∧ base4 z ≤ s.a ∧ s.b < base4 (z + 1) := by
  have h1 := (zo_plain a z).ok s hs
  exact ⟨h1, ((zo_in a hz s.a).1 ⟨s, hs, Nat.le_refl _, h1⟩).2.1, ((zo_in a hz s.b).1 ⟨s, hs, h1, Nat.le_refl _⟩).2.2⟩
def mkUp (z : Nat) (s : Sp) : Option Sp := if z = 0 then none else some ⟨base4 (z - 1) + s.a / 4, base4 (z - 1) + s.b / 4⟩
def mkDown (z : Nat) (s : Sp) : Option Sp := if z = 26 then none else some ⟨base4 (z + 1) + 4 * s.a, base4 (z + 1) + (4 * s.b + 3)⟩
def relS (z : Nat) (s : Sp) : Sp := ⟨s.a - base4 z, s.b - base4 z⟩
/-- What a function makes of what one has of each zoom. -/
def eachQ (a : List Sp) (mk : Nat → Sp → Option Sp) (n : Nat) : List Sp := (List.range n).flatMap fun z => (zoS a z).filterMap fun s => mk z (relS z s)
theorem each_in {a : List Sp} {mk : Nat → Sp → Option Sp} {k n : Nat} : inS (eachQ a mk n) k ↔ ∃ z, z < n ∧ ∃ s ∈ zoS a z, ∃ t, mk z (relS z s) = some t ∧ t.has k := by
  unfold eachQ
  constructor
  · rintro ⟨t, ht, hk⟩
    obtain ⟨z, hz, ht⟩ := List.mem_flatMap.1 ht
    obtain ⟨s, hs, hm⟩ := List.mem_filterMap.1 ht
    exact ⟨z, List.mem_range.1 hz, s, hs, t, hm, hk⟩
  · rintro ⟨z, hz, s, hs, t, hm, hk⟩
    exact ⟨t, List.mem_flatMap.2 ⟨z, List.mem_range.2 hz, List.mem_filterMap.2 ⟨s, hs, hm⟩⟩, hk⟩
theorem up_in (a : List Sp) (k : Nat) : inS (eachQ a mkUp 27) k ↔ UpIn a k := by
  rw [each_in]
  constructor
  · rintro ⟨z, hz, s, hs, t, hm, hk⟩
    obtain ⟨s1, s2, s3⟩ := zo_mem (by omega) hs
    unfold mkUp at hm
    split at hm
    · cases hm
    · rename_i h0
      injection hm with hm
      subst hm
      obtain ⟨y, rfl⟩ : ∃ y, z = y + 1 := ⟨z - 1, by omega⟩
      have e : base4 (y + 1 + 1) = base4 (y + 1) + 4 ^ (y + 1) := rfl
      obtain ⟨h1, h2⟩ := hk
      have h1 : base4 y + (s.a - base4 (y + 1)) / 4 ≤ k := h1
      have h2 : k ≤ base4 y + (s.b - base4 (y + 1)) / 4 := h2
      have hin : ∀ j, s.a ≤ j → j ≤ s.b → inS a j := fun j p q => ((zo_in a (by omega) j).1 ⟨s, hs, p, q⟩).1
      obtain ⟨d, hd, hdl, hds, hdb⟩ : ∃ d, base4 y + d / 4 = k ∧ d < 4 ^ (y + 1) ∧ s.a ≤ base4 (y + 1) + d ∧ base4 (y + 1) + d ≤ s.b := by
        rcases Nat.lt_or_ge (base4 (y + 1) + 4 * (k - base4 y)) s.a with hlt | hge
        · exact ⟨s.a - base4 (y + 1), by omega, by omega, by omega, by omega⟩
        · exact ⟨4 * (k - base4 y), by omega, by omega, by omega, by omega⟩
      exact ⟨base4 (y + 1) + d, base4_lt (by omega) hdl, hin _ hds hdb, by rw [zN_is (by omega) hdl]; omega, by rw [upK_is (by omega) hdl]; exact hd⟩
  · rintro ⟨j, h1, h2, h3, h4⟩
    obtain ⟨z, d, hz, hd, rfl⟩ := id_ex h1
    rw [zN_is hz hd] at h3
    obtain ⟨y, rfl⟩ : ∃ y, z = y + 1 := ⟨z - 1, by omega⟩
    rw [upK_is hz hd] at h4
    have e : base4 (y + 1 + 1) = base4 (y + 1) + 4 ^ (y + 1) := rfl
    obtain ⟨s, hs, hk⟩ := (zo_in a hz (base4 (y + 1) + d)).2 ⟨h2, by omega, by omega⟩
    obtain ⟨s1, s2, s3⟩ := zo_mem hz hs
    obtain ⟨k1, k2⟩ := hk
    refine ⟨y + 1, by omega, s, hs, _, by unfold mkUp; rw [if_neg (by omega)], ?_, ?_⟩
    · show base4 y + (s.a - base4 (y + 1)) / 4 ≤ k
      omega
    · show k ≤ base4 y + (s.b - base4 (y + 1)) / 4
      omega
theorem down_in (a : List Sp) (k : Nat) : inS (eachQ a mkDown 27) k ↔ DownIn a k := by
  rw [each_in]
  constructor
  · rintro ⟨z, hz, s, hs, t, hm, hk⟩
    obtain ⟨s1, s2, s3⟩ := zo_mem (by omega) hs
    unfold mkDown at hm
    split at hm
    · cases hm
    · rename_i h0
      injection hm with hm
      subst hm
      have e : base4 (z + 1) = base4 z + 4 ^ z := rfl
      have e4 : 4 ^ (z + 1) = 4 * 4 ^ z := by rw [Nat.pow_succ]; omega
      obtain ⟨h1, h2⟩ := hk
      have h1 : base4 (z + 1) + 4 * (s.a - base4 z) ≤ k := h1
      have h2 : k ≤ base4 (z + 1) + (4 * (s.b - base4 z) + 3) := h2
      obtain ⟨d, rfl⟩ : ∃ d, k = base4 (z + 1) + d := ⟨k - base4 (z + 1), by omega⟩
      have hd : d < 4 ^ (z + 1) := by omega
      refine ⟨base4_lt (by omega) hd, by rw [zN_is (by omega) hd]; omega, ?_⟩
      rw [upK_is (by omega) hd]
      exact ((zo_in a (by omega) _).1 ⟨s, hs, by omega, by omega⟩).1
  · rintro ⟨h1, h2, h3⟩
    obtain ⟨z, d, hz, hd, rfl⟩ := id_ex h1
    rw [zN_is hz hd] at h2
    obtain ⟨y, rfl⟩ : ∃ y, z = y + 1 := ⟨z - 1, by omega⟩
    rw [upK_is hz hd] at h3
    have e : base4 (y + 1) = base4 y + 4 ^ y := rfl
    have e4 : 4 ^ (y + 1) = 4 * 4 ^ y := by rw [Nat.pow_succ]; omega
    obtain ⟨s, hs, k1, k2⟩ := (zo_in a (by omega : y ≤ 26) (base4 y + d / 4)).2 ⟨h3, by omega, by omega⟩
    obtain ⟨s1, s2, s3⟩ := zo_mem (by omega) hs
    refine ⟨y, by omega, s, hs, _, by unfold mkDown; rw [if_neg (by omega)], ?_, ?_⟩
    · show base4 (y + 1) + 4 * (s.a - base4 y) ≤ _
      omega
    · show _ ≤ base4 (y + 1) + (4 * (s.b - base4 y) + 3)
      omega
theorem each_len (a : List Sp) (mk : Nat → Sp → Option Sp) : ∀ n, (eachQ a mk n).length ≤ n * (a.length + 4)
  | 0 => by simp [eachQ]
  | n + 1 => by
    have h1 := each_len a mk n
    have h2 : eachQ a mk (n + 1) = eachQ a mk n ++ (zoS a n).filterMap fun s => mk n (relS n s) := by simp [eachQ, List.range_succ]
    have h3 := List.length_filterMap_le (fun s => mk n (relS n s)) (zoS a n)
    have h4 := and_len a [⟨base4 n, base4 (n + 1) - 1⟩]
    rw [h2, List.length_append, Nat.add_mul]
    unfold zoS at h3 ⊢
    simp only [List.length_cons, List.length_nil] at h4
    omega
theorem each_succ (a : List Sp) (mk : Nat → Sp → Option Sp) (n : Nat) : eachQ a mk (n + 1) = eachQ a mk n ++ (zoS a n).filterMap fun s => mk n (relS n s) := by simp [eachQ, List.range_succ]
end Go.Proofs.Ytbldhokgbcljjaa
