/- Walks and plain laws for this claim (texts Gcw1, Cw2, SxFO, Kv1, KvCat, Kv2, Kv3, SxRs, joined). Each theorem states its own conditions. -/
import Derived.Test.YtkojkeabelckjaaGreatDoorJ26
import Derived.Test.YtkojkeabelckjaaGreatDoorJ27
import Derived.Test.YtkojkeabelckjaaGreatDoorJ08
import Derived.Test.YtkojkeabelckjaaGreatDoorJ06
import Derived.Test.YtkojkeabelckjaaGreatDoorJ05
import Derived.Test.YtkojkeabelckjaaGreatDoorJ11
import Derived.Test.YtkojkeabelckjaaGreatDoorJ09
import Derived.Test.YtkojkeabelckjaaGreatDoorJ15

section
set_option linter.all false
namespace Go.Proofs.YtkojkeabelckjaaGreatDoor
open Go.RowKit
structure DoneQ (Z : Nat) (P : Nat → Nat → Prop) (D : Nat) (L : List Sp) : Prop where
  plain : Plain L
  is_ : ∀ k, inS L k ↔ jB8 Z ≤ k ∧ k < jB8 Z + D ∧ P (pt Z (k - jB8 Z)).1 (pt Z (k - jB8 Z)).2
section
variable {Z D : Nat} {P : Nat → Nat → Prop} {L M : List Sp}
theorem DoneQ.nil : DoneQ Z P 0 [] := ⟨Plain.nil, fun k => ⟨fun h => absurd h (inS_nil k), fun h => by omega⟩⟩
theorem DoneQ.skip (h : DoneQ Z P D L) (m : Nat) (hn : ∀ e, D ≤ e → e < D + m → ¬ P (pt Z e).1 (pt Z e).2) : DoneQ Z P (D + m) L := ⟨h.plain, fun k => by
  rw [h.is_ k]
  constructor
  · rintro ⟨h1, h2, h3⟩
    exact ⟨h1, by omega, h3⟩
  · rintro ⟨h1, h2, h3⟩
    refine ⟨h1, ?_, h3⟩
    rcases Nat.lt_or_ge k (jB8 Z + D) with h4 | h4
    · exact h4
    · exact absurd h3 (hn (k - jB8 Z) (by omega) (by omega))⟩
theorem DoneQ.join (h : DoneQ Z P D L) {m : Nat} (hm : 0 < m) (hp : ∀ e, D ≤ e → e < D + m → P (pt Z e).1 (pt Z e).2) : DoneQ Z P (D + m) (jH4 L ⟨jB8 Z + D, jB8 Z + D + m - 1⟩) := by
  obtain ⟨j1, j2, -⟩ := joinQ_ok h.plain (s := ⟨jB8 Z + D, jB8 Z + D + m - 1⟩) (by show jB8 Z + D ≤ jB8 Z + D + m - 1; omega) (fun t ht => by
    have := ((h.is_ t.a).1 ⟨t, ht, Nat.le_refl _, h.plain.ok t ht⟩).2.1
    show t.a ≤ jB8 Z + D
    omega)
  refine ⟨j1, fun k => ?_⟩
  rw [j2, h.is_ k]
  constructor
  · rintro (⟨h1, h2, h3⟩ | ⟨h1, h2⟩)
    · exact ⟨h1, by omega, h3⟩
    · replace h1 : jB8 Z + D ≤ k := h1
      replace h2 : k ≤ jB8 Z + D + m - 1 := h2
      exact ⟨by omega, by omega, hp _ (by omega) (by omega)⟩
  · rintro ⟨h1, h2, h3⟩
    rcases Nat.lt_or_ge k (jB8 Z + D) with h4 | h4
    · exact .inl ⟨h1, h4, h3⟩
    · exact .inr ⟨h4, by show k ≤ jB8 Z + D + m - 1; omega⟩
theorem DoneQ.uniq (h : DoneQ Z P D L) (k : DoneQ Z P D M) : L = M := plain_ext h.plain k.plain fun x => (h.is_ x).trans (k.is_ x).symm
theorem DoneQ.below (h : DoneQ Z P D L) : BelowS (jB8 Z + D) L := (below_in h.plain).2 fun k hk => ((h.is_ k).1 hk).2.1
end
def cutQ (n : Nat) (L : List Sp) : List Sp := (L.filter fun s => decide (s.a < n)).map fun s => ⟨s.a, min s.b (n - 1)⟩
theorem cut_plain {n : Nat} {L : List Sp} (h : Plain L) : Plain (cutQ n L) := by
  refine ⟨List.pairwise_map.2 ((h.gap.sublist List.filter_sublist).imp fun {s t} hg => by show min s.b (n - 1) + 1 < t.a; omega), fun s hs => ?_⟩
  obtain ⟨t, ht, rfl⟩ := List.mem_map.1 hs
  obtain ⟨h1, h2⟩ := List.mem_filter.1 ht
  have := h.ok t h1
  simp only [decide_eq_true_eq] at h2
  show t.a ≤ min t.b (n - 1)
  omega
theorem cut_in {n : Nat} {L : List Sp} (k : Nat) : inS (cutQ n L) k ↔ inS L k ∧ k < n := by
  constructor
  · rintro ⟨s, hs, h1, h2⟩
    obtain ⟨t, ht, rfl⟩ := List.mem_map.1 hs
    obtain ⟨h3, h4⟩ := List.mem_filter.1 ht
    simp only [decide_eq_true_eq] at h4
    replace h1 : t.a ≤ k := h1
    replace h2 : k ≤ min t.b (n - 1) := h2
    exact ⟨⟨t, h3, h1, by omega⟩, by omega⟩
  · rintro ⟨⟨t, ht, h1, h2⟩, h3⟩
    refine ⟨⟨t.a, min t.b (n - 1)⟩, List.mem_map.2 ⟨t, List.mem_filter.2 ⟨ht, by simp only [decide_eq_true_eq]; omega⟩, rfl⟩, h1, ?_⟩
    show k ≤ min t.b (n - 1)
    omega
theorem cut_le (n : Nat) (L : List Sp) : (cutQ n L).length ≤ L.length := by
  unfold cutQ
  rw [List.length_map]
  exact List.length_filter_le _ _
theorem DoneQ.mono {Z D E : Nat} {P : Nat → Nat → Prop} {L M : List Sp} (h : DoneQ Z P D L) (k : DoneQ Z P E M) (hde : D ≤ E) : L.length ≤ M.length := by
  have e : L = cutQ (jB8 Z + D) M := plain_ext h.plain (cut_plain k.plain) fun x => by
    rw [cut_in, h.is_, k.is_]
    constructor
    · rintro ⟨h1, h2, h3⟩
      exact ⟨⟨h1, by omega, h3⟩, h2⟩
    · rintro ⟨⟨h1, _, h3⟩, h2⟩
      exact ⟨h1, h2, h3⟩
  rw [e]
  exact cut_le _ _
theorem sq_pt {z n a b e : Nat} (ha : a < 2 ^ z) (hb : b < 2 ^ z) (he : e < 4 ^ (z + n)) : (hp z a b * 4 ^ n ≤ e ∧ e < hp z a b * 4 ^ n + 4 ^ n) ↔ ((pt (z + n) e).1 / 2 ^ n = a ∧ (pt (z + n) e).2 / 2 ^ n = b) := by
  obtain ⟨h1, h2⟩ := pt_lt _ _ he
  have hl := hp_lift n z _ _ h1 h2
  rw [hp_pt _ _ he] at hl
  have hq := pow4_pos n
  have hd1 : (pt (z + n) e).1 / 2 ^ n < 2 ^ z := (Nat.div_lt_iff_lt_mul (jG3 n)).2 (by rw [← Nat.pow_add]; exact h1)
  have hd2 : (pt (z + n) e).2 / 2 ^ n < 2 ^ z := (Nat.div_lt_iff_lt_mul (jG3 n)).2 (by rw [← Nat.pow_add]; exact h2)
  have e1 : (hp z a b * 4 ^ n ≤ e ∧ e < hp z a b * 4 ^ n + 4 ^ n) ↔ e / 4 ^ n = hp z a b := by
    rw [← Nat.le_div_iff_mul_le hq, ← Nat.succ_mul, ← Nat.div_lt_iff_lt_mul hq]
    omega
  rw [e1, ← hl]
  constructor
  · intro h
    exact hp_inj hd1 hd2 ha hb h
  · rintro ⟨rfl, rfl⟩
    rfl
theorem sq_rng {n x a : Nat} : x / 2 ^ n = a ↔ a * 2 ^ n ≤ x ∧ x < (a + 1) * 2 ^ n := by
  have hq := jG3 n
  rw [← Nat.le_div_iff_mul_le hq, ← Nat.div_lt_iff_lt_mul hq]
  omega
def RIn (a b c d x y : Nat) : Prop := (a ≤ x ∧ x ≤ c) ∧ b ≤ y ∧ y ≤ d
instance (a b c d x y : Nat) : Decidable (RIn a b c d x y) := by unfold RIn; infer_instance
theorem base4_succ (z : Nat) : jB8 (z + 1) = jB8 z + 4 ^ z := rfl
end Go.Proofs.YtkojkeabelckjaaGreatDoor
namespace Go.Proofs.YtkojkeabelckjaaGreatDoor
open Go.RowKit
set_option maxRecDepth 100000
theorem nb_no {p : Prop} [Decidable p] (h : (!decide p) = true) : ¬ p := by simpa using h
theorem nb_yes {p : Prop} [Decidable p] (h : (!decide p) = false) : p := by simpa using h
structure Rc where
  z : Int
  a : Int
  b : Int
  c : Int
  d : Int
abbrev Rc.cells (r : Rc) : List Value := [iq r.z, iq r.a, iq r.b, iq r.c, iq r.d]
abbrev Rc.val (r : Rc) : Value := .agg r.cells.toArray
def sideI (z : Int) : Int := if z < 0 ∨ 26 < z then 0 else ((2 ^ z.toNat : Nat) : Int)
theorem side_no {z : Int} (h : z < 0 ∨ 26 < z) : sideI z = 0 := if_pos h
theorem side_is {z : Nat} (h : z ≤ 26) : sideI z = ((2 ^ z : Nat) : Int) := by
  unfold sideI
  rw [if_neg (by omega), Int.toNat_natCast]
theorem cside_any (z : Int) : Fn Tryz.prog 74 [iq z] [] fun v _ => v = iq (sideI z) := by
  by_cases h : z < 0 ∨ 26 < z
  · rw [side_no h]
    exact cside_no z h
  · obtain ⟨n, rfl⟩ : ∃ n : Nat, z = n := ⟨z.toNat, by omega⟩
    rw [side_is (by omega)]
    exact cside_fn n (by omega)
def chkE (r : Rc) : Int := if sideI r.z = 0 then 2 else if (0 ≤ r.a ∧ r.a ≤ r.c ∧ r.c < sideI r.z) ∧ (0 ≤ r.b ∧ r.b ≤ r.d ∧ r.d < sideI r.z) then 0 else 8
structure Rc.Ok (r : Rc) (Z a b c d : Nat) : Prop where
  is_ : r = ⟨Z, a, b, c, d⟩
  zo : Z ≤ 26
  x : a ≤ c
  y : b ≤ d
  xl : c < 2 ^ Z
  yl : d < 2 ^ Z
theorem chk_ok {r : Rc} (h : chkE r = 0) : ∃ Z a b c d, r.Ok Z a b c d := by
  obtain ⟨z, a, b, c, d⟩ := r
  unfold chkE at h
  split at h
  · cases h
  · rename_i hs
    split at h
    · rename_i hr
      simp only at hs hr
      by_cases hz : z < 0 ∨ 26 < z
      · exact absurd (side_no hz) hs
      · obtain ⟨n, rfl⟩ : ∃ n : Nat, z = n := ⟨z.toNat, by omega⟩
        rw [side_is (by omega)] at hr
        have hb := jG3 n
        refine ⟨n, a.toNat, b.toNat, c.toNat, d.toNat, ?_, by omega, by omega, by omega, by omega, by omega⟩
        congr 1 <;> omega
    · cases h
theorem Rc.Ok.chk {r : Rc} {Z a b c d : Nat} (h : r.Ok Z a b c d) : chkE r = 0 := by
  obtain ⟨rfl, h1, h2, h3, h4, h5⟩ := h
  have hb := jG3 Z
  unfold chkE
  simp only
  rw [side_is h1, if_neg (by omega), if_pos (by omega)]
def sizeQ (r : Rc) : Nat := if chkE r = 0 then ((r.c - r.a + 1) * (r.d - r.b + 1)).toNat else 0
theorem Rc.Ok.size {r : Rc} {Z a b c d : Nat} (h : r.Ok Z a b c d) : sizeQ r = (c + 1 - a) * (d + 1 - b) := by
  have hc := h.chk
  obtain ⟨rfl, h1, h2, h3, h4, h5⟩ := h
  unfold sizeQ
  rw [if_pos hc]
  simp only
  rw [show ((c : Int) - a + 1) = ((c + 1 - a : Nat) : Int) by omega, show ((d : Int) - b + 1) = ((d + 1 - b : Nat) : Int) by omega, ← Int.natCast_mul, Int.toNat_natCast]
theorem mul_le26 {m n : Nat} (hm : m ≤ 67108864) (hn : n ≤ 67108864) : m * n ≤ 4503599627370496 := Nat.mul_le_mul hm hn
theorem Rc.Ok.sizeLe {r : Rc} {Z a b c d : Nat} (h : r.Ok Z a b c d) : (c + 1 - a) * (d + 1 - b) ≤ 4503599627370496 := by
  have hb := pow2_le26 h.zo
  have := h.xl
  have := h.yl
  exact mul_le26 (by omega) (by omega)
theorem cok_fn (a b n : Int) : Fn Tryz.prog 75 [iq a, iq b, iq n] [] fun v _ => v = .bool (decide (0 ≤ a ∧ a ≤ b ∧ b < n)) := by
  refine Fn.enter (N := 19) Tryz.func75 rfl (by kernel_rfl) rfl (fun w0 => ?_)
  refine aR fun Z hZ => sA rfl rfl <| sN (hZ _ _ ?_)
  refine aF [(0, _), (1, _), (2, _)] (Kn.cons rfl (Kn.cons rfl (Kn.cons rfl (Kn.nil)))) ?_
  refine jA1 [(6, .bool (decide (0 ≤ a ∧ a ≤ b ∧ b < n)))] [] (fun Z hZ => ?_) ?_
  · refine sM rfl rfl ?_
    refine sx_geq rfl rfl rfl ?_
    refine sM rfl rfl ?_
    refine jB6 9 rfl (fun hb2 => ?_) (fun hb2 => ?_)
    · refine sOn rfl rfl rfl ?_
      refine sM rfl rfl ?_
      refine sOn rfl rfl rfl ?_
      refine sM rfl rfl ?_
      refine sOn rfl rfl rfl ?_
      refine sx_leq rfl rfl rfl ?_
      refine sP rfl rfl rfl <| sM rfl rfl ?_
      refine jB6 14 rfl (fun hb7 => ?_) (fun hb7 => ?_)
      · refine sOn rfl rfl rfl ?_
        refine sM rfl rfl ?_
        refine sOn rfl rfl rfl ?_
        refine sM rfl rfl ?_
        refine sOn rfl rfl rfl ?_
        refine jC3 rfl rfl rfl ?_
        refine sP rfl rfl rfl <| sA rfl rfl ?_
        refine sN (hZ _ _ ?_ ?_)
        · exact Kn.cons (congrArg some (congrArg Value.bool (by first | (exfalso; simp at *; omega) | (simp at *; done) | (simp at *; omega) | (rw [Bool.eq_iff_iff]; simp at *; omega)))) Kn.nil
        · exact HLe.sub (List.nil_sublist _)
      · refine sO rfl rfl rfl rfl rfl ?_
        refine sO rfl rfl rfl rfl rfl ?_
        refine sO rfl rfl rfl rfl rfl ?_
        refine sP rfl rfl rfl <| sA rfl rfl ?_
        refine sN (hZ _ _ ?_ ?_)
        · exact Kn.cons (congrArg some (congrArg Value.bool (by first | (exfalso; simp at *; omega) | (simp at *; done) | (simp at *; omega) | (rw [Bool.eq_iff_iff]; simp at *; omega)))) Kn.nil
        · exact HLe.sub (List.nil_sublist _)
    · refine sO rfl rfl rfl rfl rfl ?_
      refine sO rfl rfl rfl rfl rfl ?_
      refine sO rfl rfl rfl rfl rfl ?_
      refine sP rfl rfl rfl <| sM rfl rfl ?_
      refine sO rfl rfl rfl rfl rfl ?_
      refine sO rfl rfl rfl rfl rfl ?_
      refine sO rfl rfl rfl rfl rfl ?_
      refine sP rfl rfl rfl <| sA rfl rfl ?_
      refine sN (hZ _ _ ?_ ?_)
      · exact Kn.cons (congrArg some (congrArg Value.bool (by first | (exfalso; simp at *; omega) | (simp at *; done) | (simp at *; omega) | (rw [Bool.eq_iff_iff]; simp at *; omega)))) Kn.nil
      · exact HLe.sub (List.nil_sublist _)
  refine aE ?_
  exact nR1 rfl rfl rfl
theorem cCheck_fn (r : Rc) : Fn Tryz.prog 33 [r.val] [] fun v _ => v = iq (chkE r) := by
  have hs := cside_any r.z
  unfold chkE
  obtain ⟨n, hn⟩ : ∃ n, sideI r.z = n := ⟨_, rfl⟩
  rw [hn] at hs ⊢
  refine Fn.enter (N := 27) Tryz.func33 rfl (by kernel_rfl) rfl (fun w0 => ?_)
  refine aR (fun Z hZ => ?_)
  refine jA5 rfl rfl rfl (fun g1 => ?_)
  refine sA rfl rfl <| sN (hZ _ _ ?_)
  refine aF [(1, _)] (Kn.cons rfl (Kn.nil)) ?_
  refine aR (fun Z hZ => ?_)
  refine sFA rfl tyF50_0 (by simp only [Nat.add_zero]; rfl) rfl ?_
  first | refine sL 0 rfl rfl tyA3 tyS3 rfl rfl ?_
  refine sCP (hs) rfl rfl ?_
  refine sA rfl rfl <| sN (hZ _ _ ?_)
  refine aF [(1, _), (3, _)] (Kn.cons rfl (Kn.cons rfl (Kn.nil))) ?_
  refine aS (aB ?_)
  refine aR fun Z hZ => sM rfl rfl ?_
  refine jD7 rfl rfl rfl ?_
  refine sA rfl rfl <| sN (hZ _ _ ?_)
  refine aF [(1, _), (3, _), (7, _)] (Kn.cons rfl (Kn.cons rfl (Kn.cons rfl (Kn.nil)))) ?_
  refine aC rfl (fun h1 => ?_) (fun h1 => ?_)
  · have hz : n = 0 := by simpa using h1
    rw [if_pos hz]
    refine aR fun Z hZ => sA rfl rfl <| sN (hZ _ _ ?_)
    refine aF [(2, _)] (Kn.cons rfl (Kn.nil)) ?_
    refine aE ?_
    repeat (with_reducible (first | refine nTR ?_ | refine nBR ?_))
    exact nR1 rfl rfl rfl
  have hz : ¬ n = 0 := by simpa using h1
  rw [if_neg hz]
  refine jA1 [(10, .bool (!decide ((0 ≤ r.a ∧ r.a ≤ r.c ∧ r.c < n) ∧ (0 ≤ r.b ∧ r.b ≤ r.d ∧ r.d < n))))] [] (fun Z hZ => ?_) ?_
  · refine sFA rfl tyF50_1 (by simp only [Nat.zero_add]; rfl) rfl ?_
    first | refine sL 0 rfl rfl tyA3 tyS3 rfl rfl ?_
    refine sFA rfl tyF50_3 (by simp only [Nat.zero_add]; rfl) rfl ?_
    first | refine sL 0 rfl rfl tyA3 tyS3 rfl rfl ?_
    refine sM rfl rfl ?_
    refine sCP (cok_fn r.a r.c n) rfl rfl ?_
    refine sx_not rfl rfl ?_
    refine sM rfl rfl ?_
    refine jB6 18 rfl (fun hb7 => ?_) (fun hb7 => ?_)
    · refine sO rfl rfl rfl rfl rfl ?_
      refine sO rfl rfl rfl rfl rfl ?_
      refine sO rfl rfl rfl rfl rfl ?_
      refine sO rfl rfl rfl rfl rfl ?_
      refine sO rfl rfl rfl rfl rfl ?_
      refine sO rfl rfl rfl rfl rfl ?_
      refine sO rfl rfl rfl rfl rfl ?_
      refine sP rfl rfl rfl <| sA rfl rfl ?_
      refine sN (hZ _ _ ?_ ?_)
      · exact Kn.cons (congrArg some (congrArg Value.bool (by first | (exfalso; simp at *; omega) | (simp at *; done) | (simp at *; omega) | (rw [Bool.eq_iff_iff]; simp at *; omega)))) Kn.nil
      · exact HLe.sub (List.nil_sublist _)
    · refine sOn rfl rfl rfl ?_
      refine sFA rfl tyF50_2 (by simp only [Nat.zero_add]; rfl) rfl ?_
      refine sOn rfl rfl rfl ?_
      first | refine sL 0 rfl rfl tyA3 tyS3 rfl rfl ?_
      refine sOn rfl rfl rfl ?_
      refine sFA rfl tyF50_4 (by simp only [Nat.zero_add]; rfl) rfl ?_
      refine sOn rfl rfl rfl ?_
      first | refine sL 0 rfl rfl tyA3 tyS3 rfl rfl ?_
      refine sOn rfl rfl rfl ?_
      refine sM rfl rfl ?_
      refine sOn rfl rfl rfl ?_
      refine sCP (cok_fn r.b r.d n) rfl rfl ?_
      refine sOn rfl rfl rfl ?_
      refine sx_not rfl rfl ?_
      refine sP rfl rfl rfl <| sA rfl rfl ?_
      refine sN (hZ _ _ ?_ ?_)
      · exact Kn.cons (congrArg some (congrArg Value.bool (by first | (exfalso; simp at *; omega) | (simp at *; done) | (simp at *; omega) | (rw [Bool.eq_iff_iff]; simp at *; omega)))) Kn.nil
      · exact HLe.sub (List.nil_sublist _)
  refine aC rfl (fun h2 => ?_) (fun h2 => ?_)
  · have h2' : ¬ ((0 ≤ r.a ∧ r.a ≤ r.c ∧ r.c < n) ∧ (0 ≤ r.b ∧ r.b ≤ r.d ∧ r.d < n)) := nb_no h2
    rw [if_neg h2']
    refine aR fun Z hZ => sA rfl rfl <| sN (hZ _ _ ?_)
    refine aF [(2, _)] (Kn.cons rfl (Kn.nil)) ?_
    refine aE ?_
    repeat (with_reducible (first | refine nTR ?_ | refine nBR ?_))
    exact nR1 rfl rfl rfl
  have h2' : (0 ≤ r.a ∧ r.a ≤ r.c ∧ r.c < n) ∧ (0 ≤ r.b ∧ r.b ≤ r.d ∧ r.d < n) := nb_yes h2
  rw [if_pos h2']
  refine aK ?_
  repeat (with_reducible refine nBN ?_)
  with_reducible refine nN ?_
  refine aR fun Z hZ => sA rfl rfl <| sN (hZ _ _ ?_)
  refine aF [(2, _)] (Kn.cons rfl (Kn.nil)) ?_
  refine aE ?_
  exact nR1 rfl rfl rfl
theorem cSize_fn (r : Rc) : Fn Tryz.prog 15 [r.val] [] fun v _ => v = iq (sizeQ r : Nat) := by
  rcases Decidable.em (chkE r = 0) with h | h
  · obtain ⟨Z, a, b, c, d, hr⟩ := chk_ok h
    rw [hr.size]
    have hl := hr.sizeLe
    have hb := pow2_le26 hr.zo
    have hck := cCheck_fn r
    rw [h] at hck
    obtain ⟨rfl, h1, h2, h3, h4, h5⟩ := hr
    obtain ⟨m, hm⟩ : ∃ m, c + 1 - a = m := ⟨_, rfl⟩
    obtain ⟨n, hn⟩ : ∃ n, d + 1 - b = n := ⟨_, rfl⟩
    rw [hm, hn] at hl ⊢
    refine Fn.enter (N := 19) Tryz.func15 rfl (by kernel_rfl) rfl (fun w0 => ?_)
    refine aR (fun Z hZ => ?_)
    refine jA5 rfl rfl rfl (fun g1 => ?_)
    refine sA rfl rfl <| sN (hZ _ _ ?_)
    refine aF [(1, _)] (Kn.cons rfl (Kn.nil)) ?_
    refine aS ?_
    refine aR (fun Z hZ => ?_)
    first | refine sLA 0 rfl rfl tyA50 tyS50 rfl (by simp only [List.take_succ_cons, List.take_zero, List.drop_zero, Value.cells]; rfl) rfl ?_
    refine sCP (hck) rfl rfl ?_
    refine jC9 rfl rfl rfl ?_
    refine sN (hZ _ _ ?_)
    refine aF [(1, _), (5, _)] (Kn.cons rfl (Kn.cons rfl (Kn.nil))) ?_
    refine aC rfl (fun h6 => ?_) (fun h6 => ?_)
    · cases h6
    refine aK ?_
    with_reducible refine nN ?_
    refine aR (fun Z hZ => ?_)
    refine sFA rfl tyF50_3 (by simp only [Nat.zero_add]; rfl) rfl ?_
    first | refine sL 0 rfl rfl tyA3 tyS3 rfl rfl ?_
    refine sFA rfl tyF50_1 (by simp only [Nat.zero_add]; rfl) rfl ?_
    first | refine sL 0 rfl rfl tyA3 tyS3 rfl rfl ?_
    refine jG4 rfl rfl ((c : Int) - a) (by show IntKind.i64.wrap ((c : Int) - (a : Int)) = _; rw [IntWalk.i64_in _ (by omega)]) rfl ?_
    refine jA7 rfl rfl ((m : Nat) : Int) (by rw [IntWalk.i64_in _ (by omega)]; omega) rfl ?_
    refine sFA rfl tyF50_4 (by simp only [Nat.zero_add]; rfl) rfl ?_
    first | refine sL 0 rfl rfl tyA3 tyS3 rfl rfl ?_
    refine sFA rfl tyF50_2 (by simp only [Nat.zero_add]; rfl) rfl ?_
    first | refine sL 0 rfl rfl tyA3 tyS3 rfl rfl ?_
    refine jG4 rfl rfl ((d : Int) - b) (by show IntKind.i64.wrap ((d : Int) - (b : Int)) = _; rw [IntWalk.i64_in _ (by omega)]) rfl ?_
    refine jA7 rfl rfl ((n : Nat) : Int) (by rw [IntWalk.i64_in _ (by omega)]; omega) rfl ?_
    refine sx_mul rfl rfl ((m * n : Nat) : Int) (by rw [← Int.natCast_mul, IntWalk.i64_in _ (by omega)]) rfl ?_
    refine sA rfl rfl <| sN (hZ _ _ ?_)
    refine aF [(2, _)] (Kn.cons rfl (Kn.nil)) ?_
    refine aE ?_
    exact nR1 rfl rfl rfl
  · have hz : sizeQ r = 0 := if_neg h
    rw [hz]
    have hck := cCheck_fn r
    obtain ⟨e, he⟩ : ∃ e, chkE r = e := ⟨_, rfl⟩
    rw [he] at h hck
    refine Fn.enter (N := 19) Tryz.func15 rfl (by kernel_rfl) rfl (fun w0 => ?_)
    refine aR (fun Z hZ => ?_)
    refine jA5 rfl rfl rfl (fun g1 => ?_)
    refine sA rfl rfl <| sN (hZ _ _ ?_)
    refine aF [(1, _)] (Kn.cons rfl (Kn.nil)) ?_
    refine aS ?_
    refine aR (fun Z hZ => ?_)
    first | refine sLA 0 rfl rfl tyA50 tyS50 rfl (by simp only [List.take_succ_cons, List.take_zero, List.drop_zero, Value.cells]; rfl) rfl ?_
    refine sCP (hck) rfl rfl ?_
    refine jC9 rfl rfl rfl ?_
    refine sN (hZ _ _ ?_)
    refine aF [(1, _), (5, _)] (Kn.cons rfl (Kn.cons rfl (Kn.nil))) ?_
    refine aC rfl (fun h6 => ?_) (fun h6 => ?_)
    · refine aR (fun Z hZ => ?_)
      refine sA rfl rfl <| sN (hZ _ _ ?_)
      refine aF [(2, _)] (Kn.cons rfl (Kn.nil)) ?_
      refine aE ?_
      repeat (with_reducible refine nTR ?_)
      exact nR1 rfl rfl rfl
    exact absurd (by simpa using h6) h
end Go.Proofs.YtkojkeabelckjaaGreatDoor
end

section
set_option linter.all false
namespace Go.Proofs.YtkojkeabelckjaaGreatDoor
open Go.RowKit
set_option maxRecDepth 100000
theorem apart_fn (r s : Rc) : Fn Tryz.prog 77 [r.val, s.val] [] fun v _ => v = .bool (decide (r.c < s.a ∨ s.c < r.a ∨ r.d < s.b ∨ s.d < r.b)) := by
  refine Fn.enter (N := 31) Tryz.func77 rfl (by kernel_rfl) rfl (fun w0 => ?_)
  refine aR (fun Z hZ => ?_)
  refine jA5 rfl rfl rfl (fun g1 => ?_)
  refine jA5 rfl rfl rfl (fun g2 => ?_)
  refine sA rfl rfl <| sN (hZ _ _ ?_)
  refine aF [(2, _), (3, _)] (Kn.cons rfl (Kn.cons rfl (Kn.nil))) ?_
  refine jA1 [(4, .bool (decide (r.c < s.a ∨ s.c < r.a ∨ r.d < s.b ∨ s.d < r.b)))] [] (fun Z hZ => ?_) ?_
  · refine sFA rfl tyF50_3 (by simp only [Nat.zero_add]; rfl) rfl ?_
    refine sL 1 rfl rfl tyA3 tyS3 rfl rfl ?_
    refine sFA rfl tyF50_1 (by simp only [Nat.zero_add]; rfl) rfl ?_
    refine sL 0 rfl rfl tyA3 tyS3 rfl rfl ?_
    refine jC3 rfl rfl rfl ?_
    refine sM rfl rfl ?_
    refine jB6 10 rfl (fun hb5 => ?_) (fun hb5 => ?_)
    · refine sO rfl rfl rfl rfl rfl ?_
      refine sO rfl rfl rfl rfl rfl ?_
      refine sO rfl rfl rfl rfl rfl ?_
      refine sO rfl rfl rfl rfl rfl ?_
      refine sO rfl rfl rfl rfl rfl ?_
      refine sP rfl rfl rfl <| sM rfl rfl ?_
      refine sO rfl rfl rfl rfl rfl ?_
      refine sO rfl rfl rfl rfl rfl ?_
      refine sO rfl rfl rfl rfl rfl ?_
      refine sO rfl rfl rfl rfl rfl ?_
      refine sO rfl rfl rfl rfl rfl ?_
      refine sP rfl rfl rfl <| sM rfl rfl ?_
      refine sO rfl rfl rfl rfl rfl ?_
      refine sO rfl rfl rfl rfl rfl ?_
      refine sO rfl rfl rfl rfl rfl ?_
      refine sO rfl rfl rfl rfl rfl ?_
      refine sO rfl rfl rfl rfl rfl ?_
      refine sP rfl rfl rfl <| sA rfl rfl ?_
      refine sN (hZ _ _ ?_ ?_)
      · exact Kn.cons (congrArg some (congrArg Value.bool (by first | (exfalso; simp at *; omega) | (simp at *; done) | (simp at *; omega) | (rw [Bool.eq_iff_iff]; simp at *; omega)))) Kn.nil
      · exact HLe.sub (List.nil_sublist _)
    · refine sOn rfl rfl rfl ?_
      refine sFA rfl tyF50_3 (by simp only [Nat.zero_add]; rfl) rfl ?_
      refine sOn rfl rfl rfl ?_
      refine sL 0 rfl rfl tyA3 tyS3 rfl rfl ?_
      refine sOn rfl rfl rfl ?_
      refine sFA rfl tyF50_1 (by simp only [Nat.zero_add]; rfl) rfl ?_
      refine sOn rfl rfl rfl ?_
      refine sL 1 rfl rfl tyA3 tyS3 rfl rfl ?_
      refine sOn rfl rfl rfl ?_
      refine jC3 rfl rfl rfl ?_
      refine sP rfl rfl rfl <| sM rfl rfl ?_
      refine jB6 17 rfl (fun hb12 => ?_) (fun hb12 => ?_)
      · refine sO rfl rfl rfl rfl rfl ?_
        refine sO rfl rfl rfl rfl rfl ?_
        refine sO rfl rfl rfl rfl rfl ?_
        refine sO rfl rfl rfl rfl rfl ?_
        refine sO rfl rfl rfl rfl rfl ?_
        refine sP rfl rfl rfl <| sM rfl rfl ?_
        refine sO rfl rfl rfl rfl rfl ?_
        refine sO rfl rfl rfl rfl rfl ?_
        refine sO rfl rfl rfl rfl rfl ?_
        refine sO rfl rfl rfl rfl rfl ?_
        refine sO rfl rfl rfl rfl rfl ?_
        refine sP rfl rfl rfl <| sA rfl rfl ?_
        refine sN (hZ _ _ ?_ ?_)
        · exact Kn.cons (congrArg some (congrArg Value.bool (by first | (exfalso; simp at *; omega) | (simp at *; done) | (simp at *; omega) | (rw [Bool.eq_iff_iff]; simp at *; omega)))) Kn.nil
        · exact HLe.sub (List.nil_sublist _)
      · refine sOn rfl rfl rfl ?_
        refine sFA rfl tyF50_4 (by simp only [Nat.zero_add]; rfl) rfl ?_
        refine sOn rfl rfl rfl ?_
        refine sL 1 rfl rfl tyA3 tyS3 rfl rfl ?_
        refine sOn rfl rfl rfl ?_
        refine sFA rfl tyF50_2 (by simp only [Nat.zero_add]; rfl) rfl ?_
        refine sOn rfl rfl rfl ?_
        refine sL 0 rfl rfl tyA3 tyS3 rfl rfl ?_
        refine sOn rfl rfl rfl ?_
        refine jC3 rfl rfl rfl ?_
        refine sP rfl rfl rfl <| sM rfl rfl ?_
        refine jB6 24 rfl (fun hb19 => ?_) (fun hb19 => ?_)
        · refine sO rfl rfl rfl rfl rfl ?_
          refine sO rfl rfl rfl rfl rfl ?_
          refine sO rfl rfl rfl rfl rfl ?_
          refine sO rfl rfl rfl rfl rfl ?_
          refine sO rfl rfl rfl rfl rfl ?_
          refine sP rfl rfl rfl <| sA rfl rfl ?_
          refine sN (hZ _ _ ?_ ?_)
          · exact Kn.cons (congrArg some (congrArg Value.bool (by first | (exfalso; simp at *; omega) | (simp at *; done) | (simp at *; omega) | (rw [Bool.eq_iff_iff]; simp at *; omega)))) Kn.nil
          · exact HLe.sub (List.nil_sublist _)
        · refine sOn rfl rfl rfl ?_
          refine sFA rfl tyF50_4 (by simp only [Nat.zero_add]; rfl) rfl ?_
          refine sOn rfl rfl rfl ?_
          refine sL 0 rfl rfl tyA3 tyS3 rfl rfl ?_
          refine sOn rfl rfl rfl ?_
          refine sFA rfl tyF50_2 (by simp only [Nat.zero_add]; rfl) rfl ?_
          refine sOn rfl rfl rfl ?_
          refine sL 1 rfl rfl tyA3 tyS3 rfl rfl ?_
          refine sOn rfl rfl rfl ?_
          refine jC3 rfl rfl rfl ?_
          refine sP rfl rfl rfl <| sA rfl rfl ?_
          refine sN (hZ _ _ ?_ ?_)
          · exact Kn.cons (congrArg some (congrArg Value.bool (by first | (exfalso; simp at *; omega) | (simp at *; done) | (simp at *; omega) | (rw [Bool.eq_iff_iff]; simp at *; omega)))) Kn.nil
          · exact HLe.sub (List.nil_sublist _)
  refine aE ?_
  exact nR1 rfl rfl rfl
theorem within_fn (r s : Rc) : Fn Tryz.prog 78 [r.val, s.val] [] fun v _ => v = .bool (decide (s.a ≤ r.a ∧ r.c ≤ s.c ∧ s.b ≤ r.b ∧ r.d ≤ s.d)) := by
  refine Fn.enter (N := 31) Tryz.func78 rfl (by kernel_rfl) rfl (fun w0 => ?_)
  refine aR (fun Z hZ => ?_)
  refine jA5 rfl rfl rfl (fun g1 => ?_)
  refine jA5 rfl rfl rfl (fun g2 => ?_)
  refine sA rfl rfl <| sN (hZ _ _ ?_)
  refine aF [(2, _), (3, _)] (Kn.cons rfl (Kn.cons rfl (Kn.nil))) ?_
  refine jA1 [(4, .bool (decide (s.a ≤ r.a ∧ r.c ≤ s.c ∧ s.b ≤ r.b ∧ r.d ≤ s.d)))] [] (fun Z hZ => ?_) ?_
  · refine sFA rfl tyF50_1 (by simp only [Nat.zero_add]; rfl) rfl ?_
    refine sL 0 rfl rfl tyA3 tyS3 rfl rfl ?_
    refine sFA rfl tyF50_1 (by simp only [Nat.zero_add]; rfl) rfl ?_
    refine sL 1 rfl rfl tyA3 tyS3 rfl rfl ?_
    refine sx_leq rfl rfl rfl ?_
    refine sM rfl rfl ?_
    refine jB6 10 rfl (fun hb5 => ?_) (fun hb5 => ?_)
    · refine sOn rfl rfl rfl ?_
      refine sFA rfl tyF50_3 (by simp only [Nat.zero_add]; rfl) rfl ?_
      refine sOn rfl rfl rfl ?_
      refine sL 1 rfl rfl tyA3 tyS3 rfl rfl ?_
      refine sOn rfl rfl rfl ?_
      refine sFA rfl tyF50_3 (by simp only [Nat.zero_add]; rfl) rfl ?_
      refine sOn rfl rfl rfl ?_
      refine sL 0 rfl rfl tyA3 tyS3 rfl rfl ?_
      refine sOn rfl rfl rfl ?_
      refine sx_leq rfl rfl rfl ?_
      refine sP rfl rfl rfl <| sM rfl rfl ?_
      refine jB6 17 rfl (fun hb12 => ?_) (fun hb12 => ?_)
      · refine sOn rfl rfl rfl ?_
        refine sFA rfl tyF50_2 (by simp only [Nat.zero_add]; rfl) rfl ?_
        refine sOn rfl rfl rfl ?_
        refine sL 0 rfl rfl tyA3 tyS3 rfl rfl ?_
        refine sOn rfl rfl rfl ?_
        refine sFA rfl tyF50_2 (by simp only [Nat.zero_add]; rfl) rfl ?_
        refine sOn rfl rfl rfl ?_
        refine sL 1 rfl rfl tyA3 tyS3 rfl rfl ?_
        refine sOn rfl rfl rfl ?_
        refine sx_leq rfl rfl rfl ?_
        refine sP rfl rfl rfl <| sM rfl rfl ?_
        refine jB6 24 rfl (fun hb19 => ?_) (fun hb19 => ?_)
        · refine sOn rfl rfl rfl ?_
          refine sFA rfl tyF50_4 (by simp only [Nat.zero_add]; rfl) rfl ?_
          refine sOn rfl rfl rfl ?_
          refine sL 1 rfl rfl tyA3 tyS3 rfl rfl ?_
          refine sOn rfl rfl rfl ?_
          refine sFA rfl tyF50_4 (by simp only [Nat.zero_add]; rfl) rfl ?_
          refine sOn rfl rfl rfl ?_
          refine sL 0 rfl rfl tyA3 tyS3 rfl rfl ?_
          refine sOn rfl rfl rfl ?_
          refine sx_leq rfl rfl rfl ?_
          refine sP rfl rfl rfl <| sA rfl rfl ?_
          refine sN (hZ _ _ ?_ ?_)
          · exact Kn.cons (congrArg some (congrArg Value.bool (by first | (exfalso; simp at *; omega) | (simp at *; done) | (simp at *; omega) | (rw [Bool.eq_iff_iff]; simp at *; omega)))) Kn.nil
          · exact HLe.sub (List.nil_sublist _)
        · refine sO rfl rfl rfl rfl rfl ?_
          refine sO rfl rfl rfl rfl rfl ?_
          refine sO rfl rfl rfl rfl rfl ?_
          refine sO rfl rfl rfl rfl rfl ?_
          refine sO rfl rfl rfl rfl rfl ?_
          refine sP rfl rfl rfl <| sA rfl rfl ?_
          refine sN (hZ _ _ ?_ ?_)
          · exact Kn.cons (congrArg some (congrArg Value.bool (by first | (exfalso; simp at *; omega) | (simp at *; done) | (simp at *; omega) | (rw [Bool.eq_iff_iff]; simp at *; omega)))) Kn.nil
          · exact HLe.sub (List.nil_sublist _)
      · refine sO rfl rfl rfl rfl rfl ?_
        refine sO rfl rfl rfl rfl rfl ?_
        refine sO rfl rfl rfl rfl rfl ?_
        refine sO rfl rfl rfl rfl rfl ?_
        refine sO rfl rfl rfl rfl rfl ?_
        refine sP rfl rfl rfl <| sM rfl rfl ?_
        refine sO rfl rfl rfl rfl rfl ?_
        refine sO rfl rfl rfl rfl rfl ?_
        refine sO rfl rfl rfl rfl rfl ?_
        refine sO rfl rfl rfl rfl rfl ?_
        refine sO rfl rfl rfl rfl rfl ?_
        refine sP rfl rfl rfl <| sA rfl rfl ?_
        refine sN (hZ _ _ ?_ ?_)
        · exact Kn.cons (congrArg some (congrArg Value.bool (by first | (exfalso; simp at *; omega) | (simp at *; done) | (simp at *; omega) | (rw [Bool.eq_iff_iff]; simp at *; omega)))) Kn.nil
        · exact HLe.sub (List.nil_sublist _)
    · refine sO rfl rfl rfl rfl rfl ?_
      refine sO rfl rfl rfl rfl rfl ?_
      refine sO rfl rfl rfl rfl rfl ?_
      refine sO rfl rfl rfl rfl rfl ?_
      refine sO rfl rfl rfl rfl rfl ?_
      refine sP rfl rfl rfl <| sM rfl rfl ?_
      refine sO rfl rfl rfl rfl rfl ?_
      refine sO rfl rfl rfl rfl rfl ?_
      refine sO rfl rfl rfl rfl rfl ?_
      refine sO rfl rfl rfl rfl rfl ?_
      refine sO rfl rfl rfl rfl rfl ?_
      refine sP rfl rfl rfl <| sM rfl rfl ?_
      refine sO rfl rfl rfl rfl rfl ?_
      refine sO rfl rfl rfl rfl rfl ?_
      refine sO rfl rfl rfl rfl rfl ?_
      refine sO rfl rfl rfl rfl rfl ?_
      refine sO rfl rfl rfl rfl rfl ?_
      refine sP rfl rfl rfl <| sA rfl rfl ?_
      refine sN (hZ _ _ ?_ ?_)
      · exact Kn.cons (congrArg some (congrArg Value.bool (by first | (exfalso; simp at *; omega) | (simp at *; done) | (simp at *; omega) | (rw [Bool.eq_iff_iff]; simp at *; omega)))) Kn.nil
      · exact HLe.sub (List.nil_sublist _)
  refine aE ?_
  exact nR1 rfl rfl rfl
def sqR (z n a b : Nat) : Rc := ⟨((z + n : Nat) : Int), ((a * 2 ^ n : Nat) : Int), ((b * 2 ^ n : Nat) : Int), (((a + 1) * 2 ^ n - 1 : Nat) : Int), (((b + 1) * 2 ^ n - 1 : Nat) : Int)⟩
theorem square_fn (z n a b : Nat) (hz : z + n ≤ 26) (ha : a < 2 ^ z) (hb : b < 2 ^ z) : Fn Tryz.prog 76 [tval (z : Nat) a b, iq (z + n : Nat)] [] fun v _ => v = (sqR z n a b).val := by
  have hn := jG3 n
  have h26 := pow2_le26 hz
  rw [Nat.pow_add] at h26
  have hza := pow2_le26 (show z ≤ 26 by omega)
  have h1 : (a + 1) * 2 ^ n ≤ 2 ^ z * 2 ^ n := Nat.mul_le_mul_right _ ha
  have h2 : (b + 1) * 2 ^ n ≤ 2 ^ z * 2 ^ n := Nat.mul_le_mul_right _ hb
  have h3 : a * 2 ^ n ≤ (a + 1) * 2 ^ n := Nat.mul_le_mul_right _ (Nat.le_succ a)
  have h4 : b * 2 ^ n ≤ (b + 1) * 2 ^ n := Nat.mul_le_mul_right _ (Nat.le_succ b)
  have s1 := shl_at .i64 a n rfl (by omega) (fun x hx => IntWalk.i64_in _ (by omega))
  have s2 := shl_at .i64 b n rfl (by omega) (fun x hx => IntWalk.i64_in _ (by omega))
  have s3 := shl_at .i64 (a + 1) n rfl (by omega) (fun x hx => IntWalk.i64_in _ (by omega))
  have s4 := shl_at .i64 (b + 1) n rfl (by omega) (fun x hx => IntWalk.i64_in _ (by omega))
  unfold sqR
  obtain ⟨p1, hp1⟩ : ∃ x, a * 2 ^ n = x := ⟨_, rfl⟩
  obtain ⟨p2, hp2⟩ : ∃ x, b * 2 ^ n = x := ⟨_, rfl⟩
  obtain ⟨p3, hp3⟩ : ∃ x, (a + 1) * 2 ^ n = x := ⟨_, rfl⟩
  obtain ⟨p4, hp4⟩ : ∃ x, (b + 1) * 2 ^ n = x := ⟨_, rfl⟩
  have l3 : 0 < (a + 1) * 2 ^ n := Nat.mul_pos (Nat.succ_pos a) hn
  have l4 : 0 < (b + 1) * 2 ^ n := Nat.mul_pos (Nat.succ_pos b) hn
  rw [hp1] at s1 h3 ⊢
  rw [hp2] at s2 h4 ⊢
  rw [hp3] at s3 h1 l3 ⊢
  rw [hp4] at s4 h2 l4 ⊢
  refine Fn.enter (N := 32) Tryz.func76 rfl (by kernel_rfl) rfl (fun w0 => ?_)
  refine aR (fun Z hZ => ?_)
  refine jA5 rfl rfl rfl (fun g1 => ?_)
  refine sAl tyZ50 rfl (fun g2 => ?_)
  refine sN (hZ _ _ ?_)
  refine aF [(1, _), (2, _), (4, _)] (Kn.cons rfl (Kn.cons rfl (Kn.cons rfl (Kn.nil)))) ?_
  refine aR fun Z hZ => sM rfl rfl ?_
  refine sFA rfl tyF44_0 (by simp only [Nat.add_zero]; rfl) rfl ?_
  refine sL 1 rfl rfl tyA3 tyS3 rfl rfl ?_
  refine jG4 rfl rfl ((n : Nat) : Int) (by rw [IntWalk.i64_in _ (by omega)]; omega) rfl ?_
  refine sA rfl rfl <| sN (hZ _ _ ?_)
  refine aF [(1, _), (2, _), (4, _), (5, _)] (Kn.cons rfl (Kn.cons rfl (Kn.cons rfl (Kn.cons rfl (Kn.nil))))) ?_
  refine awh_seq_region [0, 1, 2, 3, 4, 5, 6, 7, 8, 9, 10, 11, 12, 13, 14, 15, 16, 17, 18, 19, 20, 21] [22] mixed (by kernel_rfl) rfl rfl (fun Z hZ => ?_)
  refine qM rfl rfl ?_
  refine qFA rfl tyF44_1 (by simp only [Nat.zero_add]; rfl) rfl ?_
  refine jA2 1 rfl rfl tyA3 tyS3 rfl rfl ?_
  refine qM rfl rfl ?_
  refine sq_shl rfl rfl (by omega) ((p1 : Nat) : Int) s1 rfl ?_
  refine qFA rfl tyF44_2 (by simp only [Nat.zero_add]; rfl) rfl ?_
  refine jA2 1 rfl rfl tyA3 tyS3 rfl rfl ?_
  refine qM rfl rfl ?_
  refine sq_shl rfl rfl (by omega) ((p2 : Nat) : Int) s2 rfl ?_
  refine qFA rfl tyF44_1 (by simp only [Nat.zero_add]; rfl) rfl ?_
  refine jA2 1 rfl rfl tyA3 tyS3 rfl rfl ?_
  refine sq_add rfl rfl ((a + 1 : Nat) : Int) (by rw [IntWalk.i64_in _ (by omega)]; omega) rfl ?_
  refine qM rfl rfl ?_
  refine sq_shl rfl rfl (by omega) ((p3 : Nat) : Int) s3 rfl ?_
  refine sq_sub rfl rfl ((p3 - 1 : Nat) : Int) (by rw [IntWalk.i64_in _ (by omega)]; omega) rfl ?_
  refine qFA rfl tyF44_2 (by simp only [Nat.zero_add]; rfl) rfl ?_
  refine jA2 1 rfl rfl tyA3 tyS3 rfl rfl ?_
  refine sq_add rfl rfl ((b + 1 : Nat) : Int) (by rw [IntWalk.i64_in _ (by omega)]; omega) rfl ?_
  refine qM rfl rfl ?_
  refine sq_shl rfl rfl (by omega) ((p4 : Nat) : Int) s4 rfl ?_
  refine sq_sub rfl rfl ((p4 - 1 : Nat) : Int) (by rw [IntWalk.i64_in _ (by omega)]; omega) rfl ?_
  refine sq_build tyZ50 tyP50 rfl rfl (by simp only [List.take_succ_cons, List.take_zero, List.drop_succ_cons, List.drop_zero, List.cons_append, List.nil_append, List.append_nil, List.length_cons, List.length_nil, Nat.reduceAdd, Nat.zero_add, Value.cells, wrV]; rfl) rfl ?_
  refine jD0 ?_
  refine sS 0 rfl rfl rfl tyS50 (by simp only [Value.cells]; rfl) rfl rfl rfl (by simp only [List.take_zero, List.drop_succ_cons, List.drop_zero, List.nil_append, List.append_nil, List.length_cons, List.length_nil, Nat.reduceAdd, Nat.zero_add, wrV]; rfl) (by simp only [List.set_cons_zero]; rfl) ?_
  refine sN (hZ _ _ ?_)
  refine aF [(4, _)] (Kn.cons rfl (Kn.nil)) ?_
  refine aE ?_
  exact nR1 rfl (ResOk.cell 0 rfl rfl tyA50 tyS50 rfl) rfl
end Go.Proofs.YtkojkeabelckjaaGreatDoor
end

section
set_option linter.all false
namespace Go.Proofs.YtkojkeabelckjaaGreatDoor
open Go.RowKit
theorem sx_callFO {P : Program} {N : Frm} {w0 : World} {Wr : List Nat} {ops : Array Oper} {rest : List Oper} {fr : Fr} {H : Heap} {Z : Fr → Heap → Prop} {ty : Nat} {pos : String} {after : Array Edge}
    {f : FuncId} {caps : List Value} {x : Operand} {xs : List Operand} {vs : List Value} {ts : Array TypeId} {dst : Option Nat} {R : Value → Heap → Prop} (Hc K : Heap) (hc : Fn P f (vs ++ caps) Hc R) (hf : ev fr x = some (.func (.func f) #[] caps.toArray)) (hx : evs fr xs = some vs) (hH : HLe (Hc ++ K) H) (hN : dstB N dst = true)
    (h : ∀ v H', R v H' → sx P N w0 Wr ops rest (match dst with | some d => (d, v) :: fr | none => fr) (H'.filter Ent.wr ++ K) Z) :
    sx P N w0 Wr ops (⟨dst, .call { callee := .value x, args := xs.toArray, argTypes := ts }, ty, pos, after, none⟩ :: rest) fr H Z :=
  sx_callFW (R := fun v H2 => ∃ H', R v H' ∧ H2 = H'.filter Ent.wr ++ K) hc.1 hf hx hN (fun w hw => by
    have hw' := hH _ _ _ hw
    have hpre : Sat w (wrs Hc) Hc w := by
      have hsub := hw'.sub (List.sublist_append_left Hc K)
      exact ⟨Only.refl _ _, fun e he => ⟨(hsub.ents e he).1, fun h => .inl (mem_wrs.2 ⟨e, he, h, rfl⟩)⟩, hsub.sep⟩
    exact (hc.2 w hpre).mono fun e w' he => by
      obtain ⟨v, H', h1, h2, h3⟩ := he
      exact ⟨v, _, h1, ⟨H', h2, rfl⟩, hw'.callA (U := []) Ro.nil (by rw [List.append_nil]; exact h3)⟩) (fun v H2 hR => by obtain ⟨H', hR, rfl⟩ := hR; exact h v H' hR)
abbrev Sp.cells (e : Sp) : List Value := [uq e.a, uq e.b]
abbrev Sp.val (e : Sp) : Value := .agg e.cells.toArray
abbrev jG6 (L : List Sp) : List Value := L.flatMap Sp.cells
theorem spn_len (e : Sp) : e.cells.length = 2 := rfl
theorem scells_len (L : List Sp) : (jG6 L).length = L.length * 2 := fm_len spn_len L
theorem scells_all {L : List Sp} {i : Nat} {x : Sp} (h : L[i]? = some x) : rdV true 2 (jG6 L) (i * 2) = some x.val := fm_rd spn_len h
theorem scells_b {L : List Sp} {i : Nat} {x : Sp} (h : L[i]? = some x) : rdV false 1 (jG6 L) (i * 2 + 1) = some (uq x.b) := fm_rd1 (j := 1) spn_len h rfl
theorem scells_app (a b : List Sp) : jG6 (a ++ b) = jG6 a ++ jG6 b := List.flatMap_append
theorem scells_setb {L : List Sp} {k : Nat} {e : Sp} (h : L[k]? = some e) (y : Nat) : (jG6 L).set (k * 2 + 1) (uq y) = jG6 (L.set k { e with b := y }) := fm_set (x := e) (y := { e with b := y }) (j := 1) spn_len rfl (by omega) h
theorem elemSp : ElemOk Tryz.prog 51 55 2 16 := ElemOk.mk_ (z := .agg #[uq 0, uq 0]) Tryz.underlying51 (by kernel_rfl) rfl (by omega)
def SpsOk (L : List Sp) : Prop := ∀ s ∈ L, s.a < 18446744073709551616 ∧ s.b < 18446744073709551616
def spq (x y : Sp) : Bool := (x.a == y.a) && (x.b == y.b)
end Go.Proofs.YtkojkeabelckjaaGreatDoor
end

section
set_option linter.all false
namespace Go.Proofs.YtkojkeabelckjaaGreatDoor
open Go.RowKit
set_option maxRecDepth 100000
end Go.Proofs.YtkojkeabelckjaaGreatDoor
end

section
set_option linter.all false
namespace Go.Proofs.YtkojkeabelckjaaGreatDoor
open Go.RowKit Go.Sort
set_option maxRecDepth 100000
theorem joinQ_at {L : List Sp} {m : Nat} {t : Sp} (hm : L.length = m + 1) (ht : L[m]? = some t) (s : Sp) : jH4 L s = if s.a ≤ t.b + 1 then L.set m { t with b := max t.b s.b } else L ++ [s] := by
  have h : L[L.length - 1]? = some t := by rw [hm, Nat.add_sub_cancel]; exact ht
  unfold jH4
  rw [h, hm, Nat.add_sub_cancel]
theorem join_fn (u : Value) (L : List Sp) (s : Sp) (hu : RowOk u L.length) (hL : L.length ≤ 1000000) (ho : SpsOk (s :: L)) :
    Fn Tryz.prog 35 [u, s.val] (rowE u 55 2 (jG6 L)) fun v H' => RowOk v (jH4 L s).length ∧ H' = rowE v 55 2 (jG6 (jH4 L s)) := by
  obtain ⟨s1, s2⟩ := ho s List.mem_cons_self
  obtain ⟨A, c, rfl, hA⟩ := hu.form
  rcases Nat.eq_zero_or_pos L.length with h0 | h0
  · obtain rfl := List.eq_nil_of_length_eq_zero h0
    rw [joinQ_nil]
    refine Fn.enter (N := 49) Tryz.func35 rfl (by kernel_rfl) rfl (fun w0 => ?_)
    refine aR (fun Z hZ => ?_)
    refine jA5 rfl rfl rfl (fun g1 => ?_)
    refine sA rfl rfl <| sN (hZ _ _ ?_)
    refine aF [(0, _), (3, _)] (Kn.cons rfl (Kn.cons rfl (Kn.nil))) ?_
    refine aS ?_
    refine aR fun Z hZ => sM rfl rfl ?_
    refine jE7 Tryz.underlying51 rfl rfl ?_
    refine jG4 rfl rfl (-1) rfl rfl ?_
    refine sA rfl rfl <| sN (hZ _ _ ?_)
    refine aF [(0, _), (3, _), (5, _)] (Kn.cons rfl (Kn.cons rfl (Kn.cons rfl (Kn.nil)))) ?_
    refine jD5 [(0, .slice A ([] : List Sp).length c), (3, ptr g1 0), (31, .bool false)] (.own g1 55 s.cells :: rowE (.slice A ([] : List Sp).length c) 55 2 (jG6 [])) mixed (by kernel_rfl) (fun Z hZ => ?_) ?_
    · refine qM rfl rfl ?_
      refine sq_geq rfl rfl rfl ?_
      refine qM rfl rfl ?_
      refine sq_force 11 rfl false (by rfl) ?_
      refine qO rfl rfl rfl rfl rfl ?_
      refine qO rfl rfl rfl rfl rfl ?_
      refine qO rfl rfl rfl rfl rfl ?_
      refine qO rfl rfl rfl rfl rfl ?_
      refine qO rfl rfl rfl rfl rfl ?_
      refine qO rfl rfl rfl rfl rfl ?_
      refine qO rfl rfl rfl rfl rfl ?_
      refine qO rfl rfl rfl rfl rfl ?_
      refine qO rfl rfl rfl rfl rfl ?_
      refine jE6 rfl rfl rfl rfl ?_
      refine jE6 rfl rfl rfl rfl ?_
      refine jE6 rfl rfl rfl rfl ?_
      refine jE6 rfl rfl rfl rfl ?_
      refine jE6 rfl rfl rfl rfl ?_
      refine jE6 rfl rfl rfl rfl ?_
      refine jE6 rfl rfl rfl rfl ?_
      refine jE6 rfl rfl rfl rfl ?_
      refine jE6 rfl rfl rfl rfl ?_
      refine qO rfl rfl rfl rfl rfl ?_
      refine jC5 rfl rfl rfl ?_
      refine jD0 (hZ _ _ ?_ ?_)
      · exact Kn.cons rfl (Kn.cons rfl (Kn.cons rfl Kn.nil))
      · exact HLe.refl _
    refine aC rfl (fun h => ?_) (fun h => ?_)
    · cases h
    refine aK ?_
    with_reducible refine nN ?_
    refine aR fun Z hZ => sM rfl rfl ?_
    first | refine sLA 0 rfl rfl tyA55 tyS55 rfl (by simp only [List.take_succ_cons, List.take_zero, List.drop_zero]; rfl) rfl ?_
    refine sBS Tryz.underlying51 tyS55 tyZ55 rfl rfl rfl rfl (by simp only [List.take_zero, List.cons_append, List.nil_append, List.length_cons, List.length_nil, Nat.reduceAdd, Nat.zero_add, Value.cells, wrV, Nat.reduceMul, Nat.zero_mul]; rfl) rfl (fun g2 => ?_)
    refine jD8 (xs := jG6 []) (_ :: _ :: []) elemSp rfl hu rfl rfl (fun w hw => rd_own (i := 0) (xs := s.cells) rfl rfl hw) rfl (by decide) (by decide) (HLe.refl _) rfl (fun v2 hv2 => ?_)
    refine sA rfl rfl <| sN (hZ _ _ ?_)
    refine aF [(4, _)] (Kn.cons rfl (Kn.nil)) ?_
    refine aE ?_
    exact jD4 _ rfl rfl (HLe.drop 2 rfl) ⟨hv2, rfl⟩
  · obtain ⟨m, hm⟩ : ∃ m, L.length = m + 1 := ⟨L.length - 1, by omega⟩
    have hml : m < L.length := by omega
    obtain ⟨t, ht⟩ : ∃ t, L[m]? = some t := ⟨_, List.getElem?_eq_getElem hml⟩
    obtain ⟨t1, t2⟩ := ho t (List.mem_cons_of_mem _ (List.mem_of_getElem? ht))
    have hj := joinQ_at hm ht s
    obtain ⟨g, c', hgc⟩ := hu.some h0
    injection hgc with hg1 _ hg2
    subst hg1; subst hg2
    refine Fn.enter (N := 49) Tryz.func35 rfl (by kernel_rfl) rfl (fun w0 => ?_)
    refine aR (fun Z hZ => ?_)
    refine jA5 rfl rfl rfl (fun g1 => ?_)
    refine sA rfl rfl <| sN (hZ _ _ ?_)
    refine aF [(0, _), (3, _)] (Kn.cons rfl (Kn.cons rfl (Kn.nil))) ?_
    refine aS ?_
    refine aR fun Z hZ => sM rfl rfl ?_
    refine jE7 Tryz.underlying51 rfl rfl ?_
    refine jG4 rfl rfl ((m : Nat) : Int) (by rw [IntWalk.i64_in _ (by omega)]; omega) rfl ?_
    refine sA rfl rfl <| sN (hZ _ _ ?_)
    refine aF [(0, _), (3, _), (5, _)] (Kn.cons rfl (Kn.cons rfl (Kn.cons rfl (Kn.nil)))) ?_
    refine jB5 [.own g1 55 s.cells, .ob g (RowP 55 2 L.length c (jG6 L))] (HLe.refl _) ?_
    refine jD5 [(0, .slice (some ⟨g, 0, none⟩) L.length c), (3, ptr g1 0), (5, iq (m : Nat)), (31, .bool (decide (s.a ≤ t.b + 1)))] [.own g1 55 s.cells, .ob g (RowP 55 2 L.length c (jG6 L))] mixed (by kernel_rfl) (fun Z hZ => ?_) ?_
    · refine qM rfl rfl ?_
      refine sq_geq rfl rfl rfl ?_
      refine qM rfl rfl ?_
      refine jH6 11 rfl (fun hb2 => ?_) (fun hb2 => ?_)
      · refine jA4 rfl rfl rfl ?_
        refine qFA rfl tyF55_0 (by simp only [Nat.add_zero]; rfl) rfl ?_
        refine jA4 rfl rfl rfl ?_
        first | refine jA2 0 rfl rfl tyA45 tyS45 rfl rfl ?_
        refine jA4 rfl rfl rfl ?_
        refine qM rfl rfl ?_
        refine jA4 rfl rfl rfl ?_
        refine qM rfl rfl ?_
        refine jA4 rfl rfl rfl ?_
        refine jG5 (0 + m * 2) Tryz.underlying51 tyS55 rfl rfl (by omega) (by simp) rfl ?_
        refine jA4 rfl rfl rfl ?_
        refine qFA rfl tyF55_1 (by simp only [Nat.zero_add]; rfl) rfl ?_
        refine jA4 rfl rfl rfl ?_
        refine sq_loadRd (m * 2 + 1) rfl (by omega) (fun w hw => rd_row (i := 1) rfl hw) h0 tyA45 tyS45 (scells_b ht) rfl ?_
        refine jA4 rfl rfl rfl ?_
        refine sq_leq rfl rfl rfl ?_
        refine jA4 rfl rfl rfl ?_
        refine qM rfl rfl ?_
        refine jH6 20 rfl (fun hb11 => ?_) (fun hb11 => ?_)
        · refine qO rfl rfl rfl rfl rfl ?_
          refine qO rfl rfl rfl rfl rfl ?_
          refine qO rfl rfl rfl rfl rfl ?_
          refine qO rfl rfl rfl rfl rfl ?_
          refine qO rfl rfl rfl rfl rfl ?_
          refine qO rfl rfl rfl rfl rfl ?_
          refine qO rfl rfl rfl rfl rfl ?_
          refine qO rfl rfl rfl rfl rfl ?_
          refine qO rfl rfl rfl rfl rfl ?_
          refine jA4 rfl rfl rfl ?_
          refine jC5 rfl rfl rfl ?_
          refine jC5 rfl rfl rfl ?_
          refine jD0 (hZ _ _ ?_ ?_)
          · exact Kn.cons rfl (Kn.cons rfl (Kn.cons rfl (Kn.cons (congrArg some (congrArg Value.bool (by first | (exfalso; simp at *; done) | (exfalso; simp at *; omega) | (simp at *; omega) | (rw [Bool.eq_iff_iff]; simp at *; omega)))) Kn.nil)))
          · exact HLe.refl _
        · refine jA4 rfl rfl rfl ?_
          refine qFA rfl tyF55_0 (by simp only [Nat.add_zero]; rfl) rfl ?_
          refine jA4 rfl rfl rfl ?_
          first | refine jA2 0 rfl rfl tyA45 tyS45 rfl rfl ?_
          refine jA4 rfl rfl rfl ?_
          refine sq_sub rfl rfl ((s.a - 1 : Nat) : Int) (by simp at hb11; rw [IntWalk.u64_in _ (by omega)]; omega) rfl ?_
          refine jA4 rfl rfl rfl ?_
          refine qM rfl rfl ?_
          refine jA4 rfl rfl rfl ?_
          refine qM rfl rfl ?_
          refine jA4 rfl rfl rfl ?_
          refine jG5 (0 + m * 2) Tryz.underlying51 tyS55 rfl rfl (by omega) (by simp) rfl ?_
          refine jA4 rfl rfl rfl ?_
          refine qFA rfl tyF55_1 (by simp only [Nat.zero_add]; rfl) rfl ?_
          refine jA4 rfl rfl rfl ?_
          refine sq_loadRd (m * 2 + 1) rfl (by omega) (fun w hw => rd_row (i := 1) rfl hw) h0 tyA45 tyS45 (scells_b ht) rfl ?_
          refine jA4 rfl rfl rfl ?_
          refine sq_eql rfl rfl rfl ?_
          refine jA4 rfl rfl rfl ?_
          refine jC5 rfl rfl rfl ?_
          refine jC5 rfl rfl rfl ?_
          refine jD0 (hZ _ _ ?_ ?_)
          · exact Kn.cons rfl (Kn.cons rfl (Kn.cons rfl (Kn.cons (congrArg some (congrArg Value.bool (by first | (exfalso; simp at *; done) | (exfalso; simp at *; omega) | (simp at *; omega) | (rw [Bool.eq_iff_iff]; simp at *; omega)))) Kn.nil)))
          · exact HLe.refl _
      · refine qO rfl rfl rfl rfl rfl ?_
        refine qO rfl rfl rfl rfl rfl ?_
        refine qO rfl rfl rfl rfl rfl ?_
        refine qO rfl rfl rfl rfl rfl ?_
        refine qO rfl rfl rfl rfl rfl ?_
        refine qO rfl rfl rfl rfl rfl ?_
        refine qO rfl rfl rfl rfl rfl ?_
        refine qO rfl rfl rfl rfl rfl ?_
        refine qO rfl rfl rfl rfl rfl ?_
        refine jE6 rfl rfl rfl rfl ?_
        refine jE6 rfl rfl rfl rfl ?_
        refine jE6 rfl rfl rfl rfl ?_
        refine jE6 rfl rfl rfl rfl ?_
        refine jE6 rfl rfl rfl rfl ?_
        refine jE6 rfl rfl rfl rfl ?_
        refine jE6 rfl rfl rfl rfl ?_
        refine jE6 rfl rfl rfl rfl ?_
        refine jE6 rfl rfl rfl rfl ?_
        refine qO rfl rfl rfl rfl rfl ?_
        refine jC5 rfl rfl rfl ?_
        refine jD0 (hZ _ _ ?_ ?_)
        · exact Kn.cons rfl (Kn.cons rfl (Kn.cons rfl (Kn.cons (congrArg some (congrArg Value.bool (by first | (exfalso; simp at *; done) | (exfalso; simp at *; omega) | (simp at *; omega) | (rw [Bool.eq_iff_iff]; simp at *; omega)))) Kn.nil)))
        · exact HLe.refl _
    refine aC rfl (fun h => ?_) (fun h => ?_)
    · have h' : s.a ≤ t.b + 1 := by simpa using h
      rw [if_pos h'] at hj
      refine awf_seq_region _ [(0, true), (1, true), (2, true), (3, true), (4, true), (5, true), (6, true), (7, true), (8, true), (9, true), (10, true), (11, true)] 12 rfl mixed (by kernel_rfl) (HLe.pick [0, 1] (by simp) (by simp only [pick, List.filterMap_cons, List.filterMap_nil, List.getElem?_cons_succ, List.getElem?_cons_zero]; rfl)) (fun Z hZ => ?_)
      refine tw_p rfl ?_
      refine jC8 rfl rfl ?_
      refine vN ?_
      refine tw_p rfl ?_
      refine jC8 rfl rfl ?_
      refine vN ?_
      refine tw_p rfl ?_
      refine jC8 rfl rfl ?_
      refine vN ?_
      refine tw_p rfl ?_
      refine jC8 rfl rfl ?_
      refine vN ?_
      refine tw_p rfl ?_
      refine sv_indexAddr (0 + m * 2) Tryz.underlying51 tyS55 rfl rfl (by omega) (by simp) rfl ?_
      refine vN ?_
      refine tw_p rfl ?_
      refine jC6 rfl tyF55_1 (by simp only [Nat.zero_add]; rfl) rfl ?_
      refine vN ?_
      refine tw_p rfl ?_
      refine sv_loadRd (m * 2 + 1) rfl (by omega) (fun w hw => rd_row (i := 1) rfl hw) h0 tyA45 tyS45 (scells_b ht) rfl ?_
      refine vN ?_
      refine tw_p rfl ?_
      refine jC6 rfl tyF55_1 (by simp only [Nat.zero_add]; rfl) rfl ?_
      refine vN ?_
      refine tw_p rfl ?_
      refine jG7 0 rfl rfl tyA45 tyS45 rfl rfl ?_
      refine vN ?_
      refine tw_p rfl ?_
      refine sv_max rfl rfl ((max t.b s.b : Nat) : Int) (by omega) rfl ?_
      refine vN ?_
      refine tw_p rfl ?_
      refine sv_indexAddr (0 + m * 2) Tryz.underlying51 tyS55 rfl rfl (by omega) (by simp) rfl ?_
      refine vN ?_
      refine tw_p rfl ?_
      refine jC6 rfl tyF55_1 (by simp only [Nat.zero_add]; rfl) rfl ?_
      refine vN ?_
      refine tw_nil ?_
      refine sx_storeRw (o := m * 2 + 1) (ys := jG6 (L.set m { t with b := max t.b s.b })) 1 rfl rfl rfl tyS45 rfl (by omega) (scells_setb ht _) rfl ?_
      refine sN (hZ _ _ ?_)
      refine aF [(0, _)] (Kn.cons rfl (Kn.nil)) ?_
      refine aR fun Z hZ => sM rfl rfl <| sA rfl rfl <| sN (hZ _ _ ?_)
      refine aF [(4, _)] (Kn.cons rfl (Kn.nil)) ?_
      refine aE ?_
      repeat (with_reducible refine nTR ?_)
      rw [hj, List.length_set]
      exact jD4 _ rfl rfl (HLe.drop 1 rfl) ⟨hu, rfl⟩
    have h' : ¬ s.a ≤ t.b + 1 := by simpa using h
    rw [if_neg h'] at hj
    refine aK ?_
    with_reducible refine nN ?_
    refine aR fun Z hZ => sM rfl rfl ?_
    refine sLA 0 rfl rfl tyA55 tyS55 rfl (by simp only [List.take_succ_cons, List.take_zero, List.drop_zero]; rfl) rfl ?_
    refine sBS Tryz.underlying51 tyS55 tyZ55 rfl rfl rfl rfl (by simp only [List.take_zero, List.cons_append, List.nil_append, List.length_cons, List.length_nil, Nat.reduceAdd, Nat.zero_add, Value.cells, wrV, Nat.reduceMul, Nat.zero_mul]; rfl) rfl (fun g2 => ?_)
    refine jD8 (xs := jG6 L) (_ :: _ :: []) elemSp rfl hu (by rw [scells_len]) rfl (fun w hw => rd_own (i := 0) (xs := s.cells) rfl rfl hw) rfl (by show _ ≤ 9223372036854775807; omega) (by omega) (HLe.refl _) rfl (fun v2 hv2 => ?_)
    refine sA rfl rfl <| sN (hZ _ _ ?_)
    refine aF [(4, _)] (Kn.cons rfl (Kn.nil)) ?_
    refine aE ?_
    rw [hj, List.length_append]
    refine jD4 _ rfl rfl (HLe.drop 2 rfl) ⟨hv2, ?_⟩
    rw [scells_app]
    rfl
end Go.Proofs.YtkojkeabelckjaaGreatDoor
end

section
set_option linter.all false
namespace Go.Proofs.YtkojkeabelckjaaGreatDoor
open Go.RowKit
section
variable {P : Program} {N : Frm} {w0 w : World} {Wr : List Nat} {ops : Array Oper} {rest : List Oper} {fr : Fr} {H : Heap} {Z : Fr → Heap → Prop} {d ty : Nat} {pos : String} {after : Array Edge}
end
end Go.Proofs.YtkojkeabelckjaaGreatDoor
end
