/- A rectangle's tiles as places on the curve, one behind the other: plain laws. The walks of a rectangle's Check, Size and Has, of the program and of the document. No conditions. The walks of cover's square, apart and within. No conditions. The walks of cover's walk and Spans. No conditions. -/
import Derived.Test.YtbldhokgbcljjaaCv3
import Derived.Test.YtbldhokgbcljjaaCv2
import Derived.Test.YtbldhokgbcljjaaCu1
import Derived.Test.YtbldhokgbcljjaaRv2
import Derived.Test.YtbldhokgbcljjaaKv3
import Derived.Test.YtbldhokgbcljjaaCu5
namespace Go.Proofs.Ytbldhokgbcljjaa
open Go.RowKit
set_option linter.unusedVariables false
set_option linter.unusedSimpArgs false
/-- A plain list of those places below D that have a property. -/
structure DoneQ (Z : Nat) (P : Nat → Nat → Prop) (D : Nat) (L : List Sp) : Prop where
  plain : Plain L
  is_ : ∀ k, inS L k ↔ base4 Z ≤ k ∧ k < base4 Z + D ∧ P (pt Z (k - base4 Z)).1 (pt Z (k - base4 Z)).2
section
variable {Z D : Nat} {P : Nat → Nat → Prop} {L M : List Sp}
theorem DoneQ.nil : DoneQ Z P 0 [] := ⟨Plain.nil, fun k => ⟨fun h => absurd h (inS_nil k), fun h => by omega⟩⟩
theorem DoneQ.skip (h : DoneQ Z P D L) (m : Nat) (hn : ∀ e, D ≤ e → e < D + m → ¬ P (pt Z e).1 (pt Z e).2) : DoneQ Z P (D + m) L := ⟨h.plain, fun k => by
  rw [h.is_ k]
  constructor
  · rintro ⟨h1, h2, h3⟩
    exact ⟨h1, by omega, h3⟩
  · rintro ⟨h1, h2, h3⟩
    refine ⟨h1, ?_, h3⟩
    rcases Nat.lt_or_ge k (base4 Z + D) with h4 | h4
    · exact h4
    · exact absurd h3 (hn (k - base4 Z) (by omega) (by omega))⟩
theorem DoneQ.join (h : DoneQ Z P D L) {m : Nat} (hm : 0 < m) (hp : ∀ e, D ≤ e → e < D + m → P (pt Z e).1 (pt Z e).2) : DoneQ Z P (D + m) (joinQ L ⟨base4 Z + D, base4 Z + D + m - 1⟩) := by
  obtain ⟨j1, j2, -⟩ := joinQ_ok h.plain (s := ⟨base4 Z + D, base4 Z + D + m - 1⟩) (by show base4 Z + D ≤ base4 Z + D + m - 1; omega) (fun t ht => by
    have := ((h.is_ t.a).1 ⟨t, ht, Nat.le_refl _, h.plain.ok t ht⟩).2.1
    show t.a ≤ base4 Z + D
    omega)
  refine ⟨j1, fun k => ?_⟩
  rw [j2, h.is_ k]
  constructor
  · rintro (⟨h1, h2, h3⟩ | ⟨h1, h2⟩)
    · exact ⟨h1, by omega, h3⟩
    · replace h1 : base4 Z + D ≤ k := h1
      replace h2 : k ≤ base4 Z + D + m - 1 := h2
      exact ⟨by omega, by omega, hp _ (by omega) (by omega)⟩
  · rintro ⟨h1, h2, h3⟩
    rcases Nat.lt_or_ge k (base4 Z + D) with h4 | h4
    · exact .inl ⟨h1, h4, h3⟩
    · exact .inr ⟨h4, by show k ≤ base4 Z + D + m - 1; omega⟩
theorem DoneQ.uniq (h : DoneQ Z P D L) (k : DoneQ Z P D M) : L = M := plain_ext h.plain k.plain fun x => (h.is_ x).trans (k.is_ x).symm
theorem done_ex (Z : Nat) (P : Nat → Nat → Prop) : ∀ D, ∃ L, DoneQ Z P D L
  | 0 => ⟨[], DoneQ.nil⟩
  | D + 1 => by
    obtain ⟨L, hL⟩ := done_ex Z P D
    by_cases hp : P (pt Z D).1 (pt Z D).2
    · exact ⟨_, hL.join (m := 1) Nat.one_pos fun e h1 h2 => by obtain rfl : e = D := (by omega); exact hp⟩
    · exact ⟨_, hL.skip 1 fun e h1 h2 => by obtain rfl : e = D := (by omega); exact hp⟩
theorem DoneQ.below (h : DoneQ Z P D L) : BelowS (base4 Z + D) L := (below_in h.plain).2 fun k hk => ((h.is_ k).1 hk).2.1
end
/-- What of a plain list lies below a number is not more. -/
def cutQ (n : Nat) (L : List Sp) : List Sp := (L.filter fun s => decide (s.a < n)).map fun s => ⟨s.a, min s.b (n - 1)⟩
theorem cut_plain {n : Nat} {L : List Sp} (h : Plain L) : Plain (cutQ n L) := by
  refine ⟨List.pairwise_map.2 ((h.gap.sublist List.filter_sublist).imp fun {s t} hg => by show min s.b (n - 1) + 1 < t.a; omega), fun s hs => ?_⟩
  obtain ⟨t, ht, rfl⟩ := List.mem_map.1 hs
  obtain ⟨h1, h2⟩ := List.mem_filter.1 ht
  have := h.ok t h1
  simp only [decide_eq_true_eq] at h2
  show t.a ≤ min t.b (n - 1)
  omega
theorem cut_in {n : Nat} {L : List Sp} (k : Nat) : inS (cutQ n L) k ↔ inS L k ∧ k < n := by
  constructor
  · rintro ⟨s, hs, h1, h2⟩
    obtain ⟨t, ht, rfl⟩ := List.mem_map.1 hs
    obtain ⟨h3, h4⟩ := List.mem_filter.1 ht
    simp only [decide_eq_true_eq] at h4
    replace h1 : t.a ≤ k := h1
    replace h2 : k ≤ min t.b (n - 1) := h2
    exact ⟨⟨t, h3, h1, by omega⟩, by omega⟩
  · rintro ⟨⟨t, ht, h1, h2⟩, h3⟩
    refine ⟨⟨t.a, min t.b (n - 1)⟩, List.mem_map.2 ⟨t, List.mem_filter.2 ⟨ht, by simp only [decide_eq_true_eq]; omega⟩, rfl⟩, h1, ?_⟩
    show k ≤ min t.b (n - 1)
    omega
theorem cut_le (n : Nat) (L : List Sp) : (cutQ n L).length ≤ L.length := by
  unfold cutQ
  rw [List.length_map]
  exact List.length_filter_le _ _
theorem DoneQ.mono {Z D E : Nat} {P : Nat → Nat → Prop} {L M : List Sp} (h : DoneQ Z P D L) (k : DoneQ Z P E M) (hde : D ≤ E) : L.length ≤ M.length := by
  have e : L = cutQ (base4 Z + D) M := plain_ext h.plain (cut_plain k.plain) fun x => by
    rw [cut_in, h.is_, k.is_]
    constructor
    · rintro ⟨h1, h2, h3⟩
      exact ⟨⟨h1, by omega, h3⟩, h2⟩
    · rintro ⟨⟨h1, _, h3⟩, h2⟩
      exact ⟨h1, h2, h3⟩
  rw [e]
  exact cut_le _ _
/-- The places that lie in a tile, so many zooms below it. -/
theorem sq_pt {z n a b e : Nat} (ha : a < 2 ^ z) (hb : b < 2 ^ z) (he : e < 4 ^ (z + n)) : (hp z a b * 4 ^ n ≤ e ∧ e < hp z a b * 4 ^ n + 4 ^ n) ↔ ((pt (z + n) e).1 / 2 ^ n = a ∧ (pt (z + n) e).2 / 2 ^ n = b) := by
  obtain ⟨h1, h2⟩ := pt_lt _ _ he
  have hl := hp_lift n z _ _ h1 h2
  rw [hp_pt _ _ he] at hl
  have hq := pow4_pos n
  have hd1 : (pt (z + n) e).1 / 2 ^ n < 2 ^ z := (Nat.div_lt_iff_lt_mul (pow2_pos n)).2 (by rw [← Nat.pow_add]; exact h1)
  have hd2 : (pt (z + n) e).2 / 2 ^ n < 2 ^ z := (Nat.div_lt_iff_lt_mul (pow2_pos n)).2 (by rw [← Nat.pow_add]; exact h2)
  have e1 : (hp z a b * 4 ^ n ≤ e ∧ e < hp z a b * 4 ^ n + 4 ^ n) ↔ e / 4 ^ n = hp z a b := by
    rw [← Nat.le_div_iff_mul_le hq, ← Nat.succ_mul, ← Nat.div_lt_iff_lt_mul hq]
    omega
  rw [e1, ← hl]
  constructor
  · intro h
    exact hp_inj hd1 hd2 ha hb h
  · rintro ⟨rfl, rfl⟩
    rfl
theorem sq_rng {n x a : Nat} : x / 2 ^ n = a ↔ a * 2 ^ n ≤ x ∧ x < (a + 1) * 2 ^ n := by
  have hq := pow2_pos n
  rw [← Nat.le_div_iff_mul_le hq, ← Nat.div_lt_iff_lt_mul hq]
  omega
/-- The tiles of a rectangle. -/
def RIn (a b c d x y : Nat) : Prop := (a ≤ x ∧ x ≤ c) ∧ b ≤ y ∧ y ≤ d
instance (a b c d x y : Nat) : Decidable (RIn a b c d x y) := by unfold RIn; infer_instance
theorem base4_succ (z : Nat) : base4 (z + 1) = base4 z + 4 ^ z := rfl
/-- How many they are. -/
theorem done_total {Z a b c d : Nat} {L : List Sp} (hL : DoneQ Z (RIn a b c d) (4 ^ Z) L) (hc : c < 2 ^ Z) (hd : d < 2 ^ Z) : totalQ L = (c + 1 - a) * (d + 1 - b) := by
  rw [total_cnt hL.plain hL.below, cntB_add]
  have h0 : cntB (fun k => decide (inS L k)) (base4 Z) = 0 := by
    rw [cntB_congr (q := fun _ => false) (base4 Z) fun k hk => decide_eq_false fun h => by have := ((hL.is_ k).1 h).1; omega]
    rw [cntB_sum]
    exact sumN_zero _
  rw [h0, Nat.zero_add, cntB_congr (q := fun e => (fun x y => decide (a ≤ x ∧ x ≤ c) && decide (b ≤ y ∧ y ≤ d)) (pt Z e).1 (pt Z e).2) (4 ^ Z) fun e he => by
    rw [Bool.eq_iff_iff, decide_eq_true_iff, hL.is_, Nat.add_sub_cancel_left]
    simp only [RIn, Bool.and_eq_true, decide_eq_true_eq]
    exact ⟨fun h => h.2.2, fun h => ⟨Nat.le_add_right _ _, by omega, h⟩⟩]
  have h3 := cnt_pt Z (fun x y => decide (a ≤ x ∧ x ≤ c) && decide (b ≤ y ∧ y ≤ d))
  rw [grid_rect a c b d _ _ hc hd] at h3
  exact h3
/-- A tile's identifier is in the list just if the tile is in the rectangle. -/
theorem done_has {Z a b c d x y : Nat} {L : List Sp} (hL : DoneQ Z (RIn a b c d) (4 ^ Z) L) (hx : x < 2 ^ Z) (hy : y < 2 ^ Z) : inS L (base4 Z + hp Z x y) ↔ RIn a b c d x y := by
  have hl := hp_lt Z x y hx hy
  rw [hL.is_, Nat.add_sub_cancel_left, pt_hp Z x y hx hy]
  exact ⟨fun h => h.2.2, fun h => ⟨Nat.le_add_right _ _, by omega, h⟩⟩
theorem done_ids {Z a b c d : Nat} {L : List Sp} (hp0 : Plain L) (hc : c < 2 ^ Z) (hd : d < 2 ^ Z) (h : ∀ k, inS L k ↔ ∃ x y, RIn a b c d x y ∧ k = base4 Z + hp Z x y) : DoneQ Z (RIn a b c d) (4 ^ Z) L := ⟨hp0, fun k => by
  rw [h k]
  constructor
  · rintro ⟨x, y, hr, rfl⟩
    have hr' := hr
    obtain ⟨⟨h1, h2⟩, h3, h4⟩ := hr'
    have hl := hp_lt Z x y (by omega) (by omega)
    rw [Nat.add_sub_cancel_left, pt_hp Z x y (by omega) (by omega)]
    exact ⟨Nat.le_add_right _ _, by omega, hr⟩
  · rintro ⟨h1, h2, h3⟩
    refine ⟨_, _, h3, ?_⟩
    rw [hp_pt Z _ (by omega)]
    omega⟩
/-- A rectangle that is cut in two. -/
theorem done_parts {Z a b c d t : Nat} {L M K : List Sp} (hL : DoneQ Z (RIn a b c d) (4 ^ Z) L) (hM : DoneQ Z (RIn a b t d) (4 ^ Z) M) (hK : DoneQ Z (RIn (t + 1) b c d) (4 ^ Z) K) (h1 : a ≤ t) (h2 : t < c) : unQ M K = L := plain_ext (un_plain _ _) hL.plain fun k => by
  rw [un_in, hL.is_, hM.is_, hK.is_]
  simp only [RIn]
  omega
theorem done_pos {Z a b c d : Nat} {L : List Sp} (hL : DoneQ Z (RIn a b c d) (4 ^ Z) L) (h1 : a ≤ c) (h2 : b ≤ d) (hc : c < 2 ^ Z) (hd : d < 2 ^ Z) : 0 < L.length := by
  obtain ⟨s, hs, _⟩ := (done_has hL hc hd).2 ⟨⟨h1, Nat.le_refl _⟩, h2, Nat.le_refl _⟩
  exact List.length_pos_of_mem hs
end Go.Proofs.Ytbldhokgbcljjaa

namespace Go.Proofs.Ytbldhokgbcljjaa
open Go.RowKit
set_option linter.unusedVariables false
set_option linter.unusedSimpArgs false
set_option maxRecDepth 100000
theorem nb_no {p : Prop} [Decidable p] (h : (!decide p) = true) : ¬ p := by simpa using h
theorem nb_yes {p : Prop} [Decidable p] (h : (!decide p) = false) : p := by simpa using h
/-- A rectangle, as it comes. -/
structure Rc where
  z : Int
  a : Int
  b : Int
  c : Int
  d : Int
abbrev Rc.cells (r : Rc) : List Value := [iq r.z, iq r.a, iq r.b, iq r.c, iq r.d]
abbrev Rc.val (r : Rc) : Value := .agg r.cells.toArray
def sideI (z : Int) : Int := if z < 0 ∨ 26 < z then 0 else ((2 ^ z.toNat : Nat) : Int)
theorem side_no {z : Int} (h : z < 0 ∨ 26 < z) : sideI z = 0 := if_pos h
theorem side_is {z : Nat} (h : z ≤ 26) : sideI z = ((2 ^ z : Nat) : Int) := by
  unfold sideI
  rw [if_neg (by omega), Int.toNat_natCast]
theorem cside_any (z : Int) : Fn Try.prog 85 [iq z] [] fun v _ => v = iq (sideI z) := by
  by_cases h : z < 0 ∨ 26 < z
  · rw [side_no h]
    exact cside_no z h
  · obtain ⟨n, rfl⟩ : ∃ n : Nat, z = n := ⟨z.toNat, by omega⟩
    rw [side_is (by omega)]
    exact cside_fn n (by omega)
theorem rside_any (z : Int) : Fn Try.prog 87 [iq z] [] fun v _ => v = iq (sideI z) := by
  by_cases h : z < 0 ∨ 26 < z
  · rw [side_no h]
    exact rside_no z h
  · obtain ⟨n, rfl⟩ : ∃ n : Nat, z = n := ⟨z.toNat, by omega⟩
    rw [side_is (by omega)]
    exact rside_fn n (by omega)
def chkE (r : Rc) : Int := if sideI r.z = 0 then 2 else if (0 ≤ r.a ∧ r.a ≤ r.c ∧ r.c < sideI r.z) ∧ (0 ≤ r.b ∧ r.b ≤ r.d ∧ r.d < sideI r.z) then 0 else 8
/-- A rectangle that may be. -/
structure Rc.Ok (r : Rc) (Z a b c d : Nat) : Prop where
  is_ : r = ⟨Z, a, b, c, d⟩
  zo : Z ≤ 26
  x : a ≤ c
  y : b ≤ d
  xl : c < 2 ^ Z
  yl : d < 2 ^ Z
theorem chk_ok {r : Rc} (h : chkE r = 0) : ∃ Z a b c d, r.Ok Z a b c d := by
  obtain ⟨z, a, b, c, d⟩ := r
  unfold chkE at h
  split at h
  · cases h
  · rename_i hs
    split at h
    · rename_i hr
      simp only at hs hr
      by_cases hz : z < 0 ∨ 26 < z
      · exact absurd (side_no hz) hs
      · obtain ⟨n, rfl⟩ : ∃ n : Nat, z = n := ⟨z.toNat, by omega⟩
        rw [side_is (by omega)] at hr
        have hb := pow2_pos n
        refine ⟨n, a.toNat, b.toNat, c.toNat, d.toNat, ?_, by omega, by omega, by omega, by omega, by omega⟩
        congr 1 <;> omega
    · cases h
theorem Rc.Ok.chk {r : Rc} {Z a b c d : Nat} (h : r.Ok Z a b c d) : chkE r = 0 := by
  obtain ⟨rfl, h1, h2, h3, h4, h5⟩ := h
  have hb := pow2_pos Z
  unfold chkE
  simp only
  rw [side_is h1, if_neg (by omega), if_pos (by omega)]
theorem chk_ways (r : Rc) : chkE r = 0 ∨ chkE r = 2 ∨ chkE r = 8 := by
  unfold chkE
  split
  · exact .inr (.inl rfl)
  · split
    · exact .inl rfl
    · exact .inr (.inr rfl)
/-- How many tiles it has. -/
def sizeQ (r : Rc) : Nat := if chkE r = 0 then ((r.c - r.a + 1) * (r.d - r.b + 1)).toNat else 0
theorem Rc.Ok.size {r : Rc} {Z a b c d : Nat} (h : r.Ok Z a b c d) : sizeQ r = (c + 1 - a) * (d + 1 - b) := by
  have hc := h.chk
  obtain ⟨rfl, h1, h2, h3, h4, h5⟩ := h
  unfold sizeQ
  rw [if_pos hc]
  simp only
  rw [show ((c : Int) - a + 1) = ((c + 1 - a : Nat) : Int) by omega, show ((d : Int) - b + 1) = ((d + 1 - b : Nat) : Int) by omega, ← Int.natCast_mul, Int.toNat_natCast]
theorem mul_le26 {m n : Nat} (hm : m ≤ 67108864) (hn : n ≤ 67108864) : m * n ≤ 4503599627370496 := Nat.mul_le_mul hm hn
theorem Rc.Ok.sizeLe {r : Rc} {Z a b c d : Nat} (h : r.Ok Z a b c d) : (c + 1 - a) * (d + 1 - b) ≤ 4503599627370496 := by
  have hb := pow2_le26 h.zo
  have := h.xl
  have := h.yl
  exact mul_le26 (by omega) (by omega)
def hasQ (r : Rc) (z x y : Int) : Bool := decide (chkE r = 0 ∧ z = r.z ∧ r.a ≤ x ∧ x ≤ r.c ∧ r.b ≤ y ∧ y ≤ r.d)
theorem cok_fn (a b n : Int) : Fn Try.prog 86 [iq a, iq b, iq n] [] fun v _ => v = .bool (decide (0 ≤ a ∧ a ≤ b ∧ b < n)) := by
  refine Fn.enter (N := 19) Try.func86 rfl (by kernel_rfl) rfl (fun w0 => ?_)

  refine awp_seq_region (fun Z hZ => ?_)
  refine sx_assign rfl rfl ?_
  refine sx_nil (hZ _ _ ?_)
  refine awp_forget [(0, _), (1, _), (2, _)] (Kn.cons rfl (Kn.cons rfl (Kn.cons rfl (Kn.nil)))) ?_
  refine awp_seq_meet [(6, .bool (decide (0 ≤ a ∧ a ≤ b ∧ b < n)))] [] (fun Z hZ => ?_) ?_
  · refine sx_move rfl rfl ?_
    refine sx_geq rfl rfl rfl ?_
    refine sx_move rfl rfl ?_
    refine sx_split 9 rfl (fun hb2 => ?_) (fun hb2 => ?_)
    · refine sx_on rfl rfl rfl ?_
      refine sx_move rfl rfl ?_
      refine sx_on rfl rfl rfl ?_
      refine sx_move rfl rfl ?_
      refine sx_on rfl rfl rfl ?_
      refine sx_leq rfl rfl rfl ?_
      refine sx_pick rfl rfl rfl ?_
      refine sx_move rfl rfl ?_
      refine sx_split 14 rfl (fun hb7 => ?_) (fun hb7 => ?_)
      · refine sx_on rfl rfl rfl ?_
        refine sx_move rfl rfl ?_
        refine sx_on rfl rfl rfl ?_
        refine sx_move rfl rfl ?_
        refine sx_on rfl rfl rfl ?_
        refine sx_lss rfl rfl rfl ?_
        refine sx_pick rfl rfl rfl ?_
        refine sx_assign rfl rfl ?_
        refine sx_nil (hZ _ _ ?_ ?_)
        · exact Kn.cons (congrArg some (congrArg Value.bool (by first | (exfalso; simp at *; omega) | (simp at *; done) | (simp at *; omega) | (rw [Bool.eq_iff_iff]; simp at *; omega)))) Kn.nil
        · exact HLe.sub (List.nil_sublist _)
      · refine sx_off rfl rfl rfl rfl rfl ?_
        refine sx_off rfl rfl rfl rfl rfl ?_
        refine sx_off rfl rfl rfl rfl rfl ?_
        refine sx_pick rfl rfl rfl ?_
        refine sx_assign rfl rfl ?_
        refine sx_nil (hZ _ _ ?_ ?_)
        · exact Kn.cons (congrArg some (congrArg Value.bool (by first | (exfalso; simp at *; omega) | (simp at *; done) | (simp at *; omega) | (rw [Bool.eq_iff_iff]; simp at *; omega)))) Kn.nil
        · exact HLe.sub (List.nil_sublist _)
    · refine sx_off rfl rfl rfl rfl rfl ?_
      refine sx_off rfl rfl rfl rfl rfl ?_
      refine sx_off rfl rfl rfl rfl rfl ?_
      refine sx_pick rfl rfl rfl ?_
      refine sx_move rfl rfl ?_
      refine sx_off rfl rfl rfl rfl rfl ?_
      refine sx_off rfl rfl rfl rfl rfl ?_
      refine sx_off rfl rfl rfl rfl rfl ?_
      refine sx_pick rfl rfl rfl ?_
      refine sx_assign rfl rfl ?_
      refine sx_nil (hZ _ _ ?_ ?_)
      · exact Kn.cons (congrArg some (congrArg Value.bool (by first | (exfalso; simp at *; omega) | (simp at *; done) | (simp at *; omega) | (rw [Bool.eq_iff_iff]; simp at *; omega)))) Kn.nil
      · exact HLe.sub (List.nil_sublist _)
  refine awp_ret ?_
  exact nx_ret1 rfl rfl rfl
theorem cCheck_fn (r : Rc) : Fn Try.prog 49 [r.val] [] fun v _ => v = iq (chkE r) := by
  have hs := cside_any r.z
  unfold chkE
  obtain ⟨n, hn⟩ : ∃ n, sideI r.z = n := ⟨_, rfl⟩
  rw [hn] at hs ⊢
  refine Fn.enter (N := 27) Try.func49 rfl (by kernel_rfl) rfl (fun w0 => ?_)

  refine awp_seq_region (fun Z hZ => ?_)
  refine sx_box rfl rfl rfl (fun g1 => ?_)
  refine sx_assign rfl rfl ?_
  refine sx_nil (hZ _ _ ?_)
  refine awp_forget [(1, _)] (Kn.cons rfl (Kn.nil)) ?_

  refine awp_seq_region (fun Z hZ => ?_)
  refine sx_fieldAddr rfl tyF64_0 (by first | (simp only [Nat.reduceAdd, Nat.add_zero, Nat.zero_add]; first | done | rfl) | rfl) rfl ?_
  first | refine sx_load 0 rfl rfl tyA3 tyS3 rfl rfl ?_
  refine sx_callP (hs) rfl rfl ?_
  refine sx_assign rfl rfl ?_
  refine sx_nil (hZ _ _ ?_)
  refine awp_forget [(1, _), (3, _)] (Kn.cons rfl (Kn.cons rfl (Kn.nil))) ?_
  refine awp_seq (awp_block ?_)
  refine awp_seq_region (fun Z hZ => ?_)
  refine sx_move rfl rfl ?_
  refine sx_eql rfl rfl rfl ?_
  refine sx_assign rfl rfl ?_
  refine sx_nil (hZ _ _ ?_)
  refine awp_forget [(1, _), (3, _), (7, _)] (Kn.cons rfl (Kn.cons rfl (Kn.cons rfl (Kn.nil)))) ?_
  refine awp_cond rfl (fun h1 => ?_) (fun h1 => ?_)
  · have hz : n = 0 := by simpa using h1
    rw [if_pos hz]
    refine awp_seq_region (fun Z hZ => ?_)
    refine sx_assign rfl rfl ?_
    refine sx_nil (hZ _ _ ?_)
    refine awp_forget [(2, _)] (Kn.cons rfl (Kn.nil)) ?_
    refine awp_ret ?_
    repeat (with_reducible (first | refine nx_then_ret ?_ | refine nx_block_ret ?_))
    exact nx_ret1 rfl rfl rfl
  have hz : ¬ n = 0 := by simpa using h1
  rw [if_neg hz]
  refine awp_seq_meet [(10, .bool (!decide ((0 ≤ r.a ∧ r.a ≤ r.c ∧ r.c < n) ∧ (0 ≤ r.b ∧ r.b ≤ r.d ∧ r.d < n))))] [] (fun Z hZ => ?_) ?_
  · refine sx_fieldAddr rfl tyF64_1 (by first | (simp only [Nat.reduceAdd, Nat.add_zero, Nat.zero_add]; first | done | rfl) | rfl) rfl ?_
    first | refine sx_load 0 rfl rfl tyA3 tyS3 rfl rfl ?_
    refine sx_fieldAddr rfl tyF64_3 (by first | (simp only [Nat.reduceAdd, Nat.add_zero, Nat.zero_add]; first | done | rfl) | rfl) rfl ?_
    first | refine sx_load 0 rfl rfl tyA3 tyS3 rfl rfl ?_
    refine sx_move rfl rfl ?_
    refine sx_callP (cok_fn r.a r.c n) rfl rfl ?_
    refine sx_not rfl rfl ?_
    refine sx_move rfl rfl ?_
    refine sx_split 18 rfl (fun hb7 => ?_) (fun hb7 => ?_)
    · refine sx_off rfl rfl rfl rfl rfl ?_
      refine sx_off rfl rfl rfl rfl rfl ?_
      refine sx_off rfl rfl rfl rfl rfl ?_
      refine sx_off rfl rfl rfl rfl rfl ?_
      refine sx_off rfl rfl rfl rfl rfl ?_
      refine sx_off rfl rfl rfl rfl rfl ?_
      refine sx_off rfl rfl rfl rfl rfl ?_
      refine sx_pick rfl rfl rfl ?_
      refine sx_assign rfl rfl ?_
      refine sx_nil (hZ _ _ ?_ ?_)
      · exact Kn.cons (congrArg some (congrArg Value.bool (by first | (exfalso; simp at *; omega) | (simp at *; done) | (simp at *; omega) | (rw [Bool.eq_iff_iff]; simp at *; omega)))) Kn.nil
      · exact HLe.sub (List.nil_sublist _)
    · refine sx_on rfl rfl rfl ?_
      refine sx_fieldAddr rfl tyF64_2 (by first | (simp only [Nat.reduceAdd, Nat.add_zero, Nat.zero_add]; first | done | rfl) | rfl) rfl ?_
      refine sx_on rfl rfl rfl ?_
      first | refine sx_load 0 rfl rfl tyA3 tyS3 rfl rfl ?_
      refine sx_on rfl rfl rfl ?_
      refine sx_fieldAddr rfl tyF64_4 (by first | (simp only [Nat.reduceAdd, Nat.add_zero, Nat.zero_add]; first | done | rfl) | rfl) rfl ?_
      refine sx_on rfl rfl rfl ?_
      first | refine sx_load 0 rfl rfl tyA3 tyS3 rfl rfl ?_
      refine sx_on rfl rfl rfl ?_
      refine sx_move rfl rfl ?_
      refine sx_on rfl rfl rfl ?_
      refine sx_callP (cok_fn r.b r.d n) rfl rfl ?_
      refine sx_on rfl rfl rfl ?_
      refine sx_not rfl rfl ?_
      refine sx_pick rfl rfl rfl ?_
      refine sx_assign rfl rfl ?_
      refine sx_nil (hZ _ _ ?_ ?_)
      · exact Kn.cons (congrArg some (congrArg Value.bool (by first | (exfalso; simp at *; omega) | (simp at *; done) | (simp at *; omega) | (rw [Bool.eq_iff_iff]; simp at *; omega)))) Kn.nil
      · exact HLe.sub (List.nil_sublist _)
  refine awp_cond rfl (fun h2 => ?_) (fun h2 => ?_)
  · have h2' : ¬ ((0 ≤ r.a ∧ r.a ≤ r.c ∧ r.c < n) ∧ (0 ≤ r.b ∧ r.b ≤ r.d ∧ r.d < n)) := nb_no h2
    rw [if_neg h2']
    refine awp_seq_region (fun Z hZ => ?_)
    refine sx_assign rfl rfl ?_
    refine sx_nil (hZ _ _ ?_)
    refine awp_forget [(2, _)] (Kn.cons rfl (Kn.nil)) ?_
    refine awp_ret ?_
    repeat (with_reducible (first | refine nx_then_ret ?_ | refine nx_block_ret ?_))
    exact nx_ret1 rfl rfl rfl
  have h2' : (0 ≤ r.a ∧ r.a ≤ r.c ∧ r.c < n) ∧ (0 ≤ r.b ∧ r.b ≤ r.d ∧ r.d < n) := nb_yes h2
  rw [if_pos h2']
  refine awp_skip ?_
  repeat (with_reducible refine nx_block_normal ?_)
  with_reducible refine nx_normal ?_
  refine awp_seq_region (fun Z hZ => ?_)
  refine sx_assign rfl rfl ?_
  refine sx_nil (hZ _ _ ?_)
  refine awp_forget [(2, _)] (Kn.cons rfl (Kn.nil)) ?_
  refine awp_ret ?_
  exact nx_ret1 rfl rfl rfl
theorem rCheck_fn (r : Rc) : Fn Try.prog 50 [r.val] [] fun v _ => v = iq (chkE r) := by
  have hs := rside_any r.z
  unfold chkE
  obtain ⟨n, hn⟩ : ∃ n, sideI r.z = n := ⟨_, rfl⟩
  rw [hn] at hs ⊢
  refine Fn.enter (N := 43) Try.func50 rfl (by kernel_rfl) rfl (fun w0 => ?_)

  refine awp_seq_region (fun Z hZ => ?_)
  refine sx_box rfl rfl rfl (fun g1 => ?_)
  refine sx_assign rfl rfl ?_
  refine sx_nil (hZ _ _ ?_)
  refine awp_forget [(1, _)] (Kn.cons rfl (Kn.nil)) ?_

  refine awp_seq_region (fun Z hZ => ?_)
  refine sx_fieldAddr rfl tyF61_0 (by first | (simp only [Nat.reduceAdd, Nat.add_zero, Nat.zero_add]; first | done | rfl) | rfl) rfl ?_
  first | refine sx_load 0 rfl rfl tyA3 tyS3 rfl rfl ?_
  refine sx_callP (hs) rfl rfl ?_
  refine sx_assign rfl rfl ?_
  refine sx_nil (hZ _ _ ?_)
  refine awp_forget [(1, _), (3, _)] (Kn.cons rfl (Kn.cons rfl (Kn.nil))) ?_
  refine awp_seq ?_
  refine awp_seq_region (fun Z hZ => ?_)
  refine sx_move rfl rfl ?_
  refine sx_eql rfl rfl rfl ?_
  refine sx_nil (hZ _ _ ?_)
  refine awp_forget [(1, _), (3, _), (8, _)] (Kn.cons rfl (Kn.cons rfl (Kn.cons rfl (Kn.nil)))) ?_
  refine awp_cond rfl (fun h1 => ?_) (fun h1 => ?_)
  · have hz : n = 0 := by simpa using h1
    rw [if_pos hz]
    refine awp_seq_region (fun Z hZ => ?_)
    refine sx_assign rfl rfl ?_
    refine sx_nil (hZ _ _ ?_)
    refine awp_forget [(2, _)] (Kn.cons rfl (Kn.nil)) ?_
    refine awp_ret ?_
    repeat (with_reducible refine nx_then_ret ?_)
    exact nx_ret1 rfl rfl rfl
  have hz : ¬ n = 0 := by simpa using h1
  rw [if_neg hz]
  refine awp_skip ?_
  with_reducible refine nx_normal ?_
  refine awp_seq ?_
  refine awp_seq_meet [(42, .bool (!decide ((0 ≤ r.a ∧ r.a ≤ r.c ∧ r.c < n) ∧ (0 ≤ r.b ∧ r.b ≤ r.d ∧ r.d < n))))] [] (fun Z hZ => ?_) ?_
  · refine sx_fieldAddr rfl tyF61_1 (by first | (simp only [Nat.reduceAdd, Nat.add_zero, Nat.zero_add]; first | done | rfl) | rfl) rfl ?_
    first | refine sx_load 0 rfl rfl tyA3 tyS3 rfl rfl ?_
    refine sx_lss rfl rfl rfl ?_
    refine sx_move rfl rfl ?_
    refine sx_split 12 rfl (fun hb3 => ?_) (fun hb3 => ?_)
    · refine sx_off rfl rfl rfl rfl rfl ?_
      refine sx_off rfl rfl rfl rfl rfl ?_
      refine sx_off rfl rfl rfl rfl rfl ?_
      refine sx_off rfl rfl rfl rfl rfl ?_
      refine sx_off rfl rfl rfl rfl rfl ?_
      refine sx_pick rfl rfl rfl ?_
      refine sx_move rfl rfl ?_
      refine sx_off rfl rfl rfl rfl rfl ?_
      refine sx_off rfl rfl rfl rfl rfl ?_
      refine sx_off rfl rfl rfl rfl rfl ?_
      refine sx_off rfl rfl rfl rfl rfl ?_
      refine sx_pick rfl rfl rfl ?_
      refine sx_move rfl rfl ?_
      refine sx_off rfl rfl rfl rfl rfl ?_
      refine sx_off rfl rfl rfl rfl rfl ?_
      refine sx_off rfl rfl rfl rfl rfl ?_
      refine sx_pick rfl rfl rfl ?_
      refine sx_move rfl rfl ?_
      refine sx_off rfl rfl rfl rfl rfl ?_
      refine sx_off rfl rfl rfl rfl rfl ?_
      refine sx_off rfl rfl rfl rfl rfl ?_
      refine sx_off rfl rfl rfl rfl rfl ?_
      refine sx_off rfl rfl rfl rfl rfl ?_
      refine sx_pick rfl rfl rfl ?_
      refine sx_move rfl rfl ?_
      refine sx_off rfl rfl rfl rfl rfl ?_
      refine sx_off rfl rfl rfl rfl rfl ?_
      refine sx_off rfl rfl rfl rfl rfl ?_
      refine sx_off rfl rfl rfl rfl rfl ?_
      refine sx_pick rfl rfl rfl ?_
      refine sx_nil (hZ _ _ ?_ ?_)
      · exact Kn.cons (congrArg some (congrArg Value.bool (by first | (exfalso; simp at *; omega) | (simp at *; done) | (simp at *; omega) | (rw [Bool.eq_iff_iff]; simp at *; omega)))) Kn.nil
      · exact HLe.sub (List.nil_sublist _)
    · refine sx_on rfl rfl rfl ?_
      refine sx_fieldAddr rfl tyF61_1 (by first | (simp only [Nat.reduceAdd, Nat.add_zero, Nat.zero_add]; first | done | rfl) | rfl) rfl ?_
      refine sx_on rfl rfl rfl ?_
      first | refine sx_load 0 rfl rfl tyA3 tyS3 rfl rfl ?_
      refine sx_on rfl rfl rfl ?_
      refine sx_fieldAddr rfl tyF61_3 (by first | (simp only [Nat.reduceAdd, Nat.add_zero, Nat.zero_add]; first | done | rfl) | rfl) rfl ?_
      refine sx_on rfl rfl rfl ?_
      first | refine sx_load 0 rfl rfl tyA3 tyS3 rfl rfl ?_
      refine sx_on rfl rfl rfl ?_
      refine sx_gtr rfl rfl rfl ?_
      refine sx_pick rfl rfl rfl ?_
      refine sx_move rfl rfl ?_
      refine sx_split 19 rfl (fun hb10 => ?_) (fun hb10 => ?_)
      · refine sx_off rfl rfl rfl rfl rfl ?_
        refine sx_off rfl rfl rfl rfl rfl ?_
        refine sx_off rfl rfl rfl rfl rfl ?_
        refine sx_off rfl rfl rfl rfl rfl ?_
        refine sx_pick rfl rfl rfl ?_
        refine sx_move rfl rfl ?_
        refine sx_off rfl rfl rfl rfl rfl ?_
        refine sx_off rfl rfl rfl rfl rfl ?_
        refine sx_off rfl rfl rfl rfl rfl ?_
        refine sx_pick rfl rfl rfl ?_
        refine sx_move rfl rfl ?_
        refine sx_off rfl rfl rfl rfl rfl ?_
        refine sx_off rfl rfl rfl rfl rfl ?_
        refine sx_off rfl rfl rfl rfl rfl ?_
        refine sx_off rfl rfl rfl rfl rfl ?_
        refine sx_off rfl rfl rfl rfl rfl ?_
        refine sx_pick rfl rfl rfl ?_
        refine sx_move rfl rfl ?_
        refine sx_off rfl rfl rfl rfl rfl ?_
        refine sx_off rfl rfl rfl rfl rfl ?_
        refine sx_off rfl rfl rfl rfl rfl ?_
        refine sx_off rfl rfl rfl rfl rfl ?_
        refine sx_pick rfl rfl rfl ?_
        refine sx_nil (hZ _ _ ?_ ?_)
        · exact Kn.cons (congrArg some (congrArg Value.bool (by first | (exfalso; simp at *; omega) | (simp at *; done) | (simp at *; omega) | (rw [Bool.eq_iff_iff]; simp at *; omega)))) Kn.nil
        · exact HLe.sub (List.nil_sublist _)
      · refine sx_on rfl rfl rfl ?_
        refine sx_fieldAddr rfl tyF61_3 (by first | (simp only [Nat.reduceAdd, Nat.add_zero, Nat.zero_add]; first | done | rfl) | rfl) rfl ?_
        refine sx_on rfl rfl rfl ?_
        first | refine sx_load 0 rfl rfl tyA3 tyS3 rfl rfl ?_
        refine sx_on rfl rfl rfl ?_
        refine sx_move rfl rfl ?_
        refine sx_on rfl rfl rfl ?_
        refine sx_geq rfl rfl rfl ?_
        refine sx_pick rfl rfl rfl ?_
        refine sx_move rfl rfl ?_
        refine sx_split 25 rfl (fun hb16 => ?_) (fun hb16 => ?_)
        · refine sx_off rfl rfl rfl rfl rfl ?_
          refine sx_off rfl rfl rfl rfl rfl ?_
          refine sx_off rfl rfl rfl rfl rfl ?_
          refine sx_pick rfl rfl rfl ?_
          refine sx_move rfl rfl ?_
          refine sx_off rfl rfl rfl rfl rfl ?_
          refine sx_off rfl rfl rfl rfl rfl ?_
          refine sx_off rfl rfl rfl rfl rfl ?_
          refine sx_off rfl rfl rfl rfl rfl ?_
          refine sx_off rfl rfl rfl rfl rfl ?_
          refine sx_pick rfl rfl rfl ?_
          refine sx_move rfl rfl ?_
          refine sx_off rfl rfl rfl rfl rfl ?_
          refine sx_off rfl rfl rfl rfl rfl ?_
          refine sx_off rfl rfl rfl rfl rfl ?_
          refine sx_off rfl rfl rfl rfl rfl ?_
          refine sx_pick rfl rfl rfl ?_
          refine sx_nil (hZ _ _ ?_ ?_)
          · exact Kn.cons (congrArg some (congrArg Value.bool (by first | (exfalso; simp at *; omega) | (simp at *; done) | (simp at *; omega) | (rw [Bool.eq_iff_iff]; simp at *; omega)))) Kn.nil
          · exact HLe.sub (List.nil_sublist _)
        · refine sx_on rfl rfl rfl ?_
          refine sx_fieldAddr rfl tyF61_2 (by first | (simp only [Nat.reduceAdd, Nat.add_zero, Nat.zero_add]; first | done | rfl) | rfl) rfl ?_
          refine sx_on rfl rfl rfl ?_
          first | refine sx_load 0 rfl rfl tyA3 tyS3 rfl rfl ?_
          refine sx_on rfl rfl rfl ?_
          refine sx_lss rfl rfl rfl ?_
          refine sx_pick rfl rfl rfl ?_
          refine sx_move rfl rfl ?_
          refine sx_split 30 rfl (fun hb21 => ?_) (fun hb21 => ?_)
          · refine sx_off rfl rfl rfl rfl rfl ?_
            refine sx_off rfl rfl rfl rfl rfl ?_
            refine sx_off rfl rfl rfl rfl rfl ?_
            refine sx_off rfl rfl rfl rfl rfl ?_
            refine sx_off rfl rfl rfl rfl rfl ?_
            refine sx_pick rfl rfl rfl ?_
            refine sx_move rfl rfl ?_
            refine sx_off rfl rfl rfl rfl rfl ?_
            refine sx_off rfl rfl rfl rfl rfl ?_
            refine sx_off rfl rfl rfl rfl rfl ?_
            refine sx_off rfl rfl rfl rfl rfl ?_
            refine sx_pick rfl rfl rfl ?_
            refine sx_nil (hZ _ _ ?_ ?_)
            · exact Kn.cons (congrArg some (congrArg Value.bool (by first | (exfalso; simp at *; omega) | (simp at *; done) | (simp at *; omega) | (rw [Bool.eq_iff_iff]; simp at *; omega)))) Kn.nil
            · exact HLe.sub (List.nil_sublist _)
          · refine sx_on rfl rfl rfl ?_
            refine sx_fieldAddr rfl tyF61_2 (by first | (simp only [Nat.reduceAdd, Nat.add_zero, Nat.zero_add]; first | done | rfl) | rfl) rfl ?_
            refine sx_on rfl rfl rfl ?_
            first | refine sx_load 0 rfl rfl tyA3 tyS3 rfl rfl ?_
            refine sx_on rfl rfl rfl ?_
            refine sx_fieldAddr rfl tyF61_4 (by first | (simp only [Nat.reduceAdd, Nat.add_zero, Nat.zero_add]; first | done | rfl) | rfl) rfl ?_
            refine sx_on rfl rfl rfl ?_
            first | refine sx_load 0 rfl rfl tyA3 tyS3 rfl rfl ?_
            refine sx_on rfl rfl rfl ?_
            refine sx_gtr rfl rfl rfl ?_
            refine sx_pick rfl rfl rfl ?_
            refine sx_move rfl rfl ?_
            refine sx_split 37 rfl (fun hb28 => ?_) (fun hb28 => ?_)
            · refine sx_off rfl rfl rfl rfl rfl ?_
              refine sx_off rfl rfl rfl rfl rfl ?_
              refine sx_off rfl rfl rfl rfl rfl ?_
              refine sx_off rfl rfl rfl rfl rfl ?_
              refine sx_pick rfl rfl rfl ?_
              refine sx_nil (hZ _ _ ?_ ?_)
              · exact Kn.cons (congrArg some (congrArg Value.bool (by first | (exfalso; simp at *; omega) | (simp at *; done) | (simp at *; omega) | (rw [Bool.eq_iff_iff]; simp at *; omega)))) Kn.nil
              · exact HLe.sub (List.nil_sublist _)
            · refine sx_on rfl rfl rfl ?_
              refine sx_fieldAddr rfl tyF61_4 (by first | (simp only [Nat.reduceAdd, Nat.add_zero, Nat.zero_add]; first | done | rfl) | rfl) rfl ?_
              refine sx_on rfl rfl rfl ?_
              first | refine sx_load 0 rfl rfl tyA3 tyS3 rfl rfl ?_
              refine sx_on rfl rfl rfl ?_
              refine sx_move rfl rfl ?_
              refine sx_on rfl rfl rfl ?_
              refine sx_geq rfl rfl rfl ?_
              refine sx_pick rfl rfl rfl ?_
              refine sx_nil (hZ _ _ ?_ ?_)
              · exact Kn.cons (congrArg some (congrArg Value.bool (by first | (exfalso; simp at *; omega) | (simp at *; done) | (simp at *; omega) | (rw [Bool.eq_iff_iff]; simp at *; omega)))) Kn.nil
              · exact HLe.sub (List.nil_sublist _)
  refine awp_cond rfl (fun h2 => ?_) (fun h2 => ?_)
  · have h2' : ¬ ((0 ≤ r.a ∧ r.a ≤ r.c ∧ r.c < n) ∧ (0 ≤ r.b ∧ r.b ≤ r.d ∧ r.d < n)) := nb_no h2
    rw [if_neg h2']
    refine awp_seq_region (fun Z hZ => ?_)
    refine sx_assign rfl rfl ?_
    refine sx_nil (hZ _ _ ?_)
    refine awp_forget [(2, _)] (Kn.cons rfl (Kn.nil)) ?_
    refine awp_ret ?_
    repeat (with_reducible refine nx_then_ret ?_)
    exact nx_ret1 rfl rfl rfl
  have h2' : (0 ≤ r.a ∧ r.a ≤ r.c ∧ r.c < n) ∧ (0 ≤ r.b ∧ r.b ≤ r.d ∧ r.d < n) := nb_yes h2
  rw [if_pos h2']
  refine awp_skip ?_
  with_reducible refine nx_normal ?_
  refine awp_seq_region (fun Z hZ => ?_)
  refine sx_assign rfl rfl ?_
  refine sx_nil (hZ _ _ ?_)
  refine awp_forget [(2, _)] (Kn.cons rfl (Kn.nil)) ?_
  refine awp_ret ?_
  exact nx_ret1 rfl rfl rfl
theorem cSize_fn (r : Rc) : Fn Try.prog 51 [r.val] [] fun v _ => v = iq (sizeQ r : Nat) := by
  rcases Decidable.em (chkE r = 0) with h | h
  · obtain ⟨Z, a, b, c, d, hr⟩ := chk_ok h
    rw [hr.size]
    have hl := hr.sizeLe
    have hb := pow2_le26 hr.zo
    have hck := cCheck_fn r
    rw [h] at hck
    obtain ⟨rfl, h1, h2, h3, h4, h5⟩ := hr
    obtain ⟨m, hm⟩ : ∃ m, c + 1 - a = m := ⟨_, rfl⟩
    obtain ⟨n, hn⟩ : ∃ n, d + 1 - b = n := ⟨_, rfl⟩
    rw [hm, hn] at hl ⊢
    refine Fn.enter (N := 19) Try.func51 rfl (by kernel_rfl) rfl (fun w0 => ?_)

    refine awp_seq_region (fun Z hZ => ?_)
    refine sx_box rfl rfl rfl (fun g1 => ?_)
    refine sx_assign rfl rfl ?_
    refine sx_nil (hZ _ _ ?_)
    refine awp_forget [(1, _)] (Kn.cons rfl (Kn.nil)) ?_

    refine awp_seq ?_
    refine awp_seq_region (fun Z hZ => ?_)
    first | refine sx_loadA 0 rfl rfl tyA64 tyS64 (by first | (simp only [List.length_cons, List.length_nil, Nat.reduceAdd, Nat.zero_add, Nat.add_zero]; first | done | rfl) | rfl) (by first | (simp only [List.take_succ_cons, List.take_zero, List.drop_succ_cons, List.drop_zero, List.cons_append, List.nil_append, List.append_nil, List.length_cons, List.length_nil, Nat.reduceAdd, Nat.zero_add, Nat.add_zero, Value.cells, wrV]; first | done | rfl) | rfl) rfl ?_
    refine sx_callP (hck) rfl rfl ?_
    refine sx_neq rfl rfl rfl ?_
    refine sx_nil (hZ _ _ ?_)
    refine awp_forget [(1, _), (5, _)] (Kn.cons rfl (Kn.cons rfl (Kn.nil))) ?_
    refine awp_cond rfl (fun h6 => ?_) (fun h6 => ?_)
    · cases h6
    refine awp_skip ?_
    with_reducible refine nx_normal ?_
    refine awp_seq_region (fun Z hZ => ?_)
    refine sx_fieldAddr rfl tyF64_3 (by first | (simp only [Nat.reduceAdd, Nat.add_zero, Nat.zero_add]; first | done | rfl) | rfl) rfl ?_
    first | refine sx_load 0 rfl rfl tyA3 tyS3 rfl rfl ?_
    refine sx_fieldAddr rfl tyF64_1 (by first | (simp only [Nat.reduceAdd, Nat.add_zero, Nat.zero_add]; first | done | rfl) | rfl) rfl ?_
    first | refine sx_load 0 rfl rfl tyA3 tyS3 rfl rfl ?_
    refine sx_sub rfl rfl ((c : Int) - a) (by show IntKind.i64.wrap ((c : Int) - (a : Int)) = _; rw [IntWalk.i64_in _ (by omega)]) rfl ?_
    refine sx_add rfl rfl ((m : Nat) : Int) (by rw [IntWalk.i64_in _ (by omega)]; omega) rfl ?_
    refine sx_fieldAddr rfl tyF64_4 (by first | (simp only [Nat.reduceAdd, Nat.add_zero, Nat.zero_add]; first | done | rfl) | rfl) rfl ?_
    first | refine sx_load 0 rfl rfl tyA3 tyS3 rfl rfl ?_
    refine sx_fieldAddr rfl tyF64_2 (by first | (simp only [Nat.reduceAdd, Nat.add_zero, Nat.zero_add]; first | done | rfl) | rfl) rfl ?_
    first | refine sx_load 0 rfl rfl tyA3 tyS3 rfl rfl ?_
    refine sx_sub rfl rfl ((d : Int) - b) (by show IntKind.i64.wrap ((d : Int) - (b : Int)) = _; rw [IntWalk.i64_in _ (by omega)]) rfl ?_
    refine sx_add rfl rfl ((n : Nat) : Int) (by rw [IntWalk.i64_in _ (by omega)]; omega) rfl ?_
    refine sx_mul rfl rfl ((m * n : Nat) : Int) (by rw [← Int.natCast_mul, IntWalk.i64_in _ (by omega)]) rfl ?_
    refine sx_assign rfl rfl ?_
    refine sx_nil (hZ _ _ ?_)
    refine awp_forget [(2, _)] (Kn.cons rfl (Kn.nil)) ?_
    refine awp_ret ?_
    exact nx_ret1 rfl rfl rfl
  · have hz : sizeQ r = 0 := if_neg h
    rw [hz]
    have hck := cCheck_fn r
    obtain ⟨e, he⟩ : ∃ e, chkE r = e := ⟨_, rfl⟩
    rw [he] at h hck
    refine Fn.enter (N := 19) Try.func51 rfl (by kernel_rfl) rfl (fun w0 => ?_)

    refine awp_seq_region (fun Z hZ => ?_)
    refine sx_box rfl rfl rfl (fun g1 => ?_)
    refine sx_assign rfl rfl ?_
    refine sx_nil (hZ _ _ ?_)
    refine awp_forget [(1, _)] (Kn.cons rfl (Kn.nil)) ?_

    refine awp_seq ?_
    refine awp_seq_region (fun Z hZ => ?_)
    first | refine sx_loadA 0 rfl rfl tyA64 tyS64 (by first | (simp only [List.length_cons, List.length_nil, Nat.reduceAdd, Nat.zero_add, Nat.add_zero]; first | done | rfl) | rfl) (by first | (simp only [List.take_succ_cons, List.take_zero, List.drop_succ_cons, List.drop_zero, List.cons_append, List.nil_append, List.append_nil, List.length_cons, List.length_nil, Nat.reduceAdd, Nat.zero_add, Nat.add_zero, Value.cells, wrV]; first | done | rfl) | rfl) rfl ?_
    refine sx_callP (hck) rfl rfl ?_
    refine sx_neq rfl rfl rfl ?_
    refine sx_nil (hZ _ _ ?_)
    refine awp_forget [(1, _), (5, _)] (Kn.cons rfl (Kn.cons rfl (Kn.nil))) ?_
    refine awp_cond rfl (fun h6 => ?_) (fun h6 => ?_)
    · refine awp_seq_region (fun Z hZ => ?_)
      refine sx_assign rfl rfl ?_
      refine sx_nil (hZ _ _ ?_)
      refine awp_forget [(2, _)] (Kn.cons rfl (Kn.nil)) ?_
      refine awp_ret ?_
      repeat (with_reducible refine nx_then_ret ?_)
      exact nx_ret1 rfl rfl rfl
    exact absurd (by simpa using h6) h
theorem cHas_fn (r : Rc) (z x y : Int) : Fn Try.prog 53 [r.val, tval z x y] [] fun v _ => v = .bool (hasQ r z x y) := by
  have hck := cCheck_fn r
  unfold hasQ
  obtain ⟨e, he⟩ : ∃ e, chkE r = e := ⟨_, rfl⟩
  rw [he] at hck ⊢
  refine Fn.enter (N := 43) Try.func53 rfl (by kernel_rfl) rfl (fun w0 => ?_)

  refine awp_seq_region (fun Z hZ => ?_)
  refine sx_box rfl rfl rfl (fun g1 => ?_)
  refine sx_box rfl rfl rfl (fun g2 => ?_)
  refine sx_assign rfl rfl ?_
  refine sx_nil (hZ _ _ ?_)
  refine awp_forget [(2, _), (3, _)] (Kn.cons rfl (Kn.cons rfl (Kn.nil))) ?_

  refine awp_seq_meet [(4, .bool (decide (e = 0 ∧ z = r.z ∧ r.a ≤ x ∧ x ≤ r.c ∧ r.b ≤ y ∧ y ≤ r.d)))] [] (fun Z hZ => ?_) ?_
  · refine sx_loadA 1 rfl rfl tyA64 tyS64 (by first | (simp only [List.length_cons, List.length_nil, Nat.reduceAdd, Nat.zero_add, Nat.add_zero]; first | done | rfl) | rfl) (by first | (simp only [List.take_succ_cons, List.take_zero, List.drop_succ_cons, List.drop_zero, List.cons_append, List.nil_append, List.append_nil, List.length_cons, List.length_nil, Nat.reduceAdd, Nat.zero_add, Nat.add_zero, Value.cells, wrV]; first | done | rfl) | rfl) rfl ?_
    refine sx_callP (hck) rfl rfl ?_
    refine sx_eql rfl rfl rfl ?_
    refine sx_move rfl rfl ?_
    refine sx_split 8 rfl (fun hb3 => ?_) (fun hb3 => ?_)
    · refine sx_on rfl rfl rfl ?_
      refine sx_fieldAddr rfl tyF52_0 (by first | (simp only [Nat.reduceAdd, Nat.add_zero, Nat.zero_add]; first | done | rfl) | rfl) rfl ?_
      refine sx_on rfl rfl rfl ?_
      refine sx_load 0 rfl rfl tyA3 tyS3 rfl rfl ?_
      refine sx_on rfl rfl rfl ?_
      refine sx_fieldAddr rfl tyF64_0 (by first | (simp only [Nat.reduceAdd, Nat.add_zero, Nat.zero_add]; first | done | rfl) | rfl) rfl ?_
      refine sx_on rfl rfl rfl ?_
      refine sx_load 1 rfl rfl tyA3 tyS3 rfl rfl ?_
      refine sx_on rfl rfl rfl ?_
      refine sx_eql rfl rfl rfl ?_
      refine sx_pick rfl rfl rfl ?_
      refine sx_move rfl rfl ?_
      refine sx_split 15 rfl (fun hb10 => ?_) (fun hb10 => ?_)
      · refine sx_on rfl rfl rfl ?_
        refine sx_fieldAddr rfl tyF64_1 (by first | (simp only [Nat.reduceAdd, Nat.add_zero, Nat.zero_add]; first | done | rfl) | rfl) rfl ?_
        refine sx_on rfl rfl rfl ?_
        refine sx_load 1 rfl rfl tyA3 tyS3 rfl rfl ?_
        refine sx_on rfl rfl rfl ?_
        refine sx_fieldAddr rfl tyF52_1 (by first | (simp only [Nat.reduceAdd, Nat.add_zero, Nat.zero_add]; first | done | rfl) | rfl) rfl ?_
        refine sx_on rfl rfl rfl ?_
        refine sx_load 0 rfl rfl tyA3 tyS3 rfl rfl ?_
        refine sx_on rfl rfl rfl ?_
        refine sx_leq rfl rfl rfl ?_
        refine sx_pick rfl rfl rfl ?_
        refine sx_move rfl rfl ?_
        refine sx_split 22 rfl (fun hb17 => ?_) (fun hb17 => ?_)
        · refine sx_on rfl rfl rfl ?_
          refine sx_fieldAddr rfl tyF52_1 (by first | (simp only [Nat.reduceAdd, Nat.add_zero, Nat.zero_add]; first | done | rfl) | rfl) rfl ?_
          refine sx_on rfl rfl rfl ?_
          refine sx_load 0 rfl rfl tyA3 tyS3 rfl rfl ?_
          refine sx_on rfl rfl rfl ?_
          refine sx_fieldAddr rfl tyF64_3 (by first | (simp only [Nat.reduceAdd, Nat.add_zero, Nat.zero_add]; first | done | rfl) | rfl) rfl ?_
          refine sx_on rfl rfl rfl ?_
          refine sx_load 1 rfl rfl tyA3 tyS3 rfl rfl ?_
          refine sx_on rfl rfl rfl ?_
          refine sx_leq rfl rfl rfl ?_
          refine sx_pick rfl rfl rfl ?_
          refine sx_move rfl rfl ?_
          refine sx_split 29 rfl (fun hb24 => ?_) (fun hb24 => ?_)
          · refine sx_on rfl rfl rfl ?_
            refine sx_fieldAddr rfl tyF64_2 (by first | (simp only [Nat.reduceAdd, Nat.add_zero, Nat.zero_add]; first | done | rfl) | rfl) rfl ?_
            refine sx_on rfl rfl rfl ?_
            refine sx_load 1 rfl rfl tyA3 tyS3 rfl rfl ?_
            refine sx_on rfl rfl rfl ?_
            refine sx_fieldAddr rfl tyF52_2 (by first | (simp only [Nat.reduceAdd, Nat.add_zero, Nat.zero_add]; first | done | rfl) | rfl) rfl ?_
            refine sx_on rfl rfl rfl ?_
            refine sx_load 0 rfl rfl tyA3 tyS3 rfl rfl ?_
            refine sx_on rfl rfl rfl ?_
            refine sx_leq rfl rfl rfl ?_
            refine sx_pick rfl rfl rfl ?_
            refine sx_move rfl rfl ?_
            refine sx_split 36 rfl (fun hb31 => ?_) (fun hb31 => ?_)
            · refine sx_on rfl rfl rfl ?_
              refine sx_fieldAddr rfl tyF52_2 (by first | (simp only [Nat.reduceAdd, Nat.add_zero, Nat.zero_add]; first | done | rfl) | rfl) rfl ?_
              refine sx_on rfl rfl rfl ?_
              refine sx_load 0 rfl rfl tyA3 tyS3 rfl rfl ?_
              refine sx_on rfl rfl rfl ?_
              refine sx_fieldAddr rfl tyF64_4 (by first | (simp only [Nat.reduceAdd, Nat.add_zero, Nat.zero_add]; first | done | rfl) | rfl) rfl ?_
              refine sx_on rfl rfl rfl ?_
              refine sx_load 1 rfl rfl tyA3 tyS3 rfl rfl ?_
              refine sx_on rfl rfl rfl ?_
              refine sx_leq rfl rfl rfl ?_
              refine sx_pick rfl rfl rfl ?_
              refine sx_assign rfl rfl ?_
              refine sx_nil (hZ _ _ ?_ ?_)
              · exact Kn.cons (congrArg some (congrArg Value.bool (by first | (exfalso; simp at *; omega) | (simp at *; done) | (simp at *; omega) | (rw [Bool.eq_iff_iff]; simp at *; omega)))) Kn.nil
              · exact HLe.sub (List.nil_sublist _)
            · refine sx_off rfl rfl rfl rfl rfl ?_
              refine sx_off rfl rfl rfl rfl rfl ?_
              refine sx_off rfl rfl rfl rfl rfl ?_
              refine sx_off rfl rfl rfl rfl rfl ?_
              refine sx_off rfl rfl rfl rfl rfl ?_
              refine sx_pick rfl rfl rfl ?_
              refine sx_assign rfl rfl ?_
              refine sx_nil (hZ _ _ ?_ ?_)
              · exact Kn.cons (congrArg some (congrArg Value.bool (by first | (exfalso; simp at *; omega) | (simp at *; done) | (simp at *; omega) | (rw [Bool.eq_iff_iff]; simp at *; omega)))) Kn.nil
              · exact HLe.sub (List.nil_sublist _)
          · refine sx_off rfl rfl rfl rfl rfl ?_
            refine sx_off rfl rfl rfl rfl rfl ?_
            refine sx_off rfl rfl rfl rfl rfl ?_
            refine sx_off rfl rfl rfl rfl rfl ?_
            refine sx_off rfl rfl rfl rfl rfl ?_
            refine sx_pick rfl rfl rfl ?_
            refine sx_move rfl rfl ?_
            refine sx_off rfl rfl rfl rfl rfl ?_
            refine sx_off rfl rfl rfl rfl rfl ?_
            refine sx_off rfl rfl rfl rfl rfl ?_
            refine sx_off rfl rfl rfl rfl rfl ?_
            refine sx_off rfl rfl rfl rfl rfl ?_
            refine sx_pick rfl rfl rfl ?_
            refine sx_assign rfl rfl ?_
            refine sx_nil (hZ _ _ ?_ ?_)
            · exact Kn.cons (congrArg some (congrArg Value.bool (by first | (exfalso; simp at *; omega) | (simp at *; done) | (simp at *; omega) | (rw [Bool.eq_iff_iff]; simp at *; omega)))) Kn.nil
            · exact HLe.sub (List.nil_sublist _)
        · refine sx_off rfl rfl rfl rfl rfl ?_
          refine sx_off rfl rfl rfl rfl rfl ?_
          refine sx_off rfl rfl rfl rfl rfl ?_
          refine sx_off rfl rfl rfl rfl rfl ?_
          refine sx_off rfl rfl rfl rfl rfl ?_
          refine sx_pick rfl rfl rfl ?_
          refine sx_move rfl rfl ?_
          refine sx_off rfl rfl rfl rfl rfl ?_
          refine sx_off rfl rfl rfl rfl rfl ?_
          refine sx_off rfl rfl rfl rfl rfl ?_
          refine sx_off rfl rfl rfl rfl rfl ?_
          refine sx_off rfl rfl rfl rfl rfl ?_
          refine sx_pick rfl rfl rfl ?_
          refine sx_move rfl rfl ?_
          refine sx_off rfl rfl rfl rfl rfl ?_
          refine sx_off rfl rfl rfl rfl rfl ?_
          refine sx_off rfl rfl rfl rfl rfl ?_
          refine sx_off rfl rfl rfl rfl rfl ?_
          refine sx_off rfl rfl rfl rfl rfl ?_
          refine sx_pick rfl rfl rfl ?_
          refine sx_assign rfl rfl ?_
          refine sx_nil (hZ _ _ ?_ ?_)
          · exact Kn.cons (congrArg some (congrArg Value.bool (by first | (exfalso; simp at *; omega) | (simp at *; done) | (simp at *; omega) | (rw [Bool.eq_iff_iff]; simp at *; omega)))) Kn.nil
          · exact HLe.sub (List.nil_sublist _)
      · refine sx_off rfl rfl rfl rfl rfl ?_
        refine sx_off rfl rfl rfl rfl rfl ?_
        refine sx_off rfl rfl rfl rfl rfl ?_
        refine sx_off rfl rfl rfl rfl rfl ?_
        refine sx_off rfl rfl rfl rfl rfl ?_
        refine sx_pick rfl rfl rfl ?_
        refine sx_move rfl rfl ?_
        refine sx_off rfl rfl rfl rfl rfl ?_
        refine sx_off rfl rfl rfl rfl rfl ?_
        refine sx_off rfl rfl rfl rfl rfl ?_
        refine sx_off rfl rfl rfl rfl rfl ?_
        refine sx_off rfl rfl rfl rfl rfl ?_
        refine sx_pick rfl rfl rfl ?_
        refine sx_move rfl rfl ?_
        refine sx_off rfl rfl rfl rfl rfl ?_
        refine sx_off rfl rfl rfl rfl rfl ?_
        refine sx_off rfl rfl rfl rfl rfl ?_
        refine sx_off rfl rfl rfl rfl rfl ?_
        refine sx_off rfl rfl rfl rfl rfl ?_
        refine sx_pick rfl rfl rfl ?_
        refine sx_move rfl rfl ?_
        refine sx_off rfl rfl rfl rfl rfl ?_
        refine sx_off rfl rfl rfl rfl rfl ?_
        refine sx_off rfl rfl rfl rfl rfl ?_
        refine sx_off rfl rfl rfl rfl rfl ?_
        refine sx_off rfl rfl rfl rfl rfl ?_
        refine sx_pick rfl rfl rfl ?_
        refine sx_assign rfl rfl ?_
        refine sx_nil (hZ _ _ ?_ ?_)
        · exact Kn.cons (congrArg some (congrArg Value.bool (by first | (exfalso; simp at *; omega) | (simp at *; done) | (simp at *; omega) | (rw [Bool.eq_iff_iff]; simp at *; omega)))) Kn.nil
        · exact HLe.sub (List.nil_sublist _)
    · refine sx_off rfl rfl rfl rfl rfl ?_
      refine sx_off rfl rfl rfl rfl rfl ?_
      refine sx_off rfl rfl rfl rfl rfl ?_
      refine sx_off rfl rfl rfl rfl rfl ?_
      refine sx_off rfl rfl rfl rfl rfl ?_
      refine sx_pick rfl rfl rfl ?_
      refine sx_move rfl rfl ?_
      refine sx_off rfl rfl rfl rfl rfl ?_
      refine sx_off rfl rfl rfl rfl rfl ?_
      refine sx_off rfl rfl rfl rfl rfl ?_
      refine sx_off rfl rfl rfl rfl rfl ?_
      refine sx_off rfl rfl rfl rfl rfl ?_
      refine sx_pick rfl rfl rfl ?_
      refine sx_move rfl rfl ?_
      refine sx_off rfl rfl rfl rfl rfl ?_
      refine sx_off rfl rfl rfl rfl rfl ?_
      refine sx_off rfl rfl rfl rfl rfl ?_
      refine sx_off rfl rfl rfl rfl rfl ?_
      refine sx_off rfl rfl rfl rfl rfl ?_
      refine sx_pick rfl rfl rfl ?_
      refine sx_move rfl rfl ?_
      refine sx_off rfl rfl rfl rfl rfl ?_
      refine sx_off rfl rfl rfl rfl rfl ?_
      refine sx_off rfl rfl rfl rfl rfl ?_
      refine sx_off rfl rfl rfl rfl rfl ?_
      refine sx_off rfl rfl rfl rfl rfl ?_
      refine sx_pick rfl rfl rfl ?_
      refine sx_move rfl rfl ?_
      refine sx_off rfl rfl rfl rfl rfl ?_
      refine sx_off rfl rfl rfl rfl rfl ?_
      refine sx_off rfl rfl rfl rfl rfl ?_
      refine sx_off rfl rfl rfl rfl rfl ?_
      refine sx_off rfl rfl rfl rfl rfl ?_
      refine sx_pick rfl rfl rfl ?_
      refine sx_assign rfl rfl ?_
      refine sx_nil (hZ _ _ ?_ ?_)
      · exact Kn.cons (congrArg some (congrArg Value.bool (by first | (exfalso; simp at *; omega) | (simp at *; done) | (simp at *; omega) | (rw [Bool.eq_iff_iff]; simp at *; omega)))) Kn.nil
      · exact HLe.sub (List.nil_sublist _)
  refine awp_ret ?_
  exact nx_ret1 rfl rfl rfl
theorem rSize_fn (r : Rc) : Fn Try.prog 52 [r.val] [] fun v _ => v = iq (sizeQ r : Nat) := by
  rcases Decidable.em (chkE r = 0) with h | h
  · obtain ⟨Z, a, b, c, d, hr⟩ := chk_ok h
    rw [hr.size]
    have hl := hr.sizeLe
    have hb := pow2_le26 hr.zo
    have hck := rCheck_fn r
    rw [h] at hck
    obtain ⟨rfl, h1, h2, h3, h4, h5⟩ := hr
    obtain ⟨m, hm⟩ : ∃ m, c + 1 - a = m := ⟨_, rfl⟩
    obtain ⟨n, hn⟩ : ∃ n, d + 1 - b = n := ⟨_, rfl⟩
    rw [hm, hn] at hl ⊢
    refine Fn.enter (N := 19) Try.func52 rfl (by kernel_rfl) rfl (fun w0 => ?_)

    refine awp_seq_region (fun Z hZ => ?_)
    refine sx_box rfl rfl rfl (fun g1 => ?_)
    refine sx_assign rfl rfl ?_
    refine sx_nil (hZ _ _ ?_)
    refine awp_forget [(1, _)] (Kn.cons rfl (Kn.nil)) ?_

    refine awp_seq ?_
    refine awp_seq_region (fun Z hZ => ?_)
    first | refine sx_loadA 0 rfl rfl tyA61 tyS61 (by first | (simp only [List.length_cons, List.length_nil, Nat.reduceAdd, Nat.zero_add, Nat.add_zero]; first | done | rfl) | rfl) (by first | (simp only [List.take_succ_cons, List.take_zero, List.drop_succ_cons, List.drop_zero, List.cons_append, List.nil_append, List.append_nil, List.length_cons, List.length_nil, Nat.reduceAdd, Nat.zero_add, Nat.add_zero, Value.cells, wrV]; first | done | rfl) | rfl) rfl ?_
    refine sx_callP (hck) rfl rfl ?_
    refine sx_neq rfl rfl rfl ?_
    refine sx_nil (hZ _ _ ?_)
    refine awp_forget [(1, _), (5, _)] (Kn.cons rfl (Kn.cons rfl (Kn.nil))) ?_
    refine awp_cond rfl (fun h6 => ?_) (fun h6 => ?_)
    · cases h6
    refine awp_skip ?_
    with_reducible refine nx_normal ?_
    refine awp_seq_region (fun Z hZ => ?_)
    refine sx_fieldAddr rfl tyF61_3 (by first | (simp only [Nat.reduceAdd, Nat.add_zero, Nat.zero_add]; first | done | rfl) | rfl) rfl ?_
    first | refine sx_load 0 rfl rfl tyA3 tyS3 rfl rfl ?_
    refine sx_fieldAddr rfl tyF61_1 (by first | (simp only [Nat.reduceAdd, Nat.add_zero, Nat.zero_add]; first | done | rfl) | rfl) rfl ?_
    first | refine sx_load 0 rfl rfl tyA3 tyS3 rfl rfl ?_
    refine sx_sub rfl rfl ((c : Int) - a) (by show IntKind.i64.wrap ((c : Int) - (a : Int)) = _; rw [IntWalk.i64_in _ (by omega)]) rfl ?_
    refine sx_add rfl rfl ((m : Nat) : Int) (by rw [IntWalk.i64_in _ (by omega)]; omega) rfl ?_
    refine sx_fieldAddr rfl tyF61_4 (by first | (simp only [Nat.reduceAdd, Nat.add_zero, Nat.zero_add]; first | done | rfl) | rfl) rfl ?_
    first | refine sx_load 0 rfl rfl tyA3 tyS3 rfl rfl ?_
    refine sx_fieldAddr rfl tyF61_2 (by first | (simp only [Nat.reduceAdd, Nat.add_zero, Nat.zero_add]; first | done | rfl) | rfl) rfl ?_
    first | refine sx_load 0 rfl rfl tyA3 tyS3 rfl rfl ?_
    refine sx_sub rfl rfl ((d : Int) - b) (by show IntKind.i64.wrap ((d : Int) - (b : Int)) = _; rw [IntWalk.i64_in _ (by omega)]) rfl ?_
    refine sx_add rfl rfl ((n : Nat) : Int) (by rw [IntWalk.i64_in _ (by omega)]; omega) rfl ?_
    refine sx_mul rfl rfl ((m * n : Nat) : Int) (by rw [← Int.natCast_mul, IntWalk.i64_in _ (by omega)]) rfl ?_
    refine sx_assign rfl rfl ?_
    refine sx_nil (hZ _ _ ?_)
    refine awp_forget [(2, _)] (Kn.cons rfl (Kn.nil)) ?_
    refine awp_ret ?_
    exact nx_ret1 rfl rfl rfl
  · have hz : sizeQ r = 0 := if_neg h
    rw [hz]
    have hck := rCheck_fn r
    obtain ⟨e, he⟩ : ∃ e, chkE r = e := ⟨_, rfl⟩
    rw [he] at h hck
    refine Fn.enter (N := 19) Try.func52 rfl (by kernel_rfl) rfl (fun w0 => ?_)

    refine awp_seq_region (fun Z hZ => ?_)
    refine sx_box rfl rfl rfl (fun g1 => ?_)
    refine sx_assign rfl rfl ?_
    refine sx_nil (hZ _ _ ?_)
    refine awp_forget [(1, _)] (Kn.cons rfl (Kn.nil)) ?_

    refine awp_seq ?_
    refine awp_seq_region (fun Z hZ => ?_)
    first | refine sx_loadA 0 rfl rfl tyA61 tyS61 (by first | (simp only [List.length_cons, List.length_nil, Nat.reduceAdd, Nat.zero_add, Nat.add_zero]; first | done | rfl) | rfl) (by first | (simp only [List.take_succ_cons, List.take_zero, List.drop_succ_cons, List.drop_zero, List.cons_append, List.nil_append, List.append_nil, List.length_cons, List.length_nil, Nat.reduceAdd, Nat.zero_add, Nat.add_zero, Value.cells, wrV]; first | done | rfl) | rfl) rfl ?_
    refine sx_callP (hck) rfl rfl ?_
    refine sx_neq rfl rfl rfl ?_
    refine sx_nil (hZ _ _ ?_)
    refine awp_forget [(1, _), (5, _)] (Kn.cons rfl (Kn.cons rfl (Kn.nil))) ?_
    refine awp_cond rfl (fun h6 => ?_) (fun h6 => ?_)
    · refine awp_seq_region (fun Z hZ => ?_)
      refine sx_assign rfl rfl ?_
      refine sx_nil (hZ _ _ ?_)
      refine awp_forget [(2, _)] (Kn.cons rfl (Kn.nil)) ?_
      refine awp_ret ?_
      repeat (with_reducible refine nx_then_ret ?_)
      exact nx_ret1 rfl rfl rfl
    exact absurd (by simpa using h6) h
theorem rHas_fn (r : Rc) (z x y : Int) : Fn Try.prog 54 [r.val, tval z x y] [] fun v _ => v = .bool (hasQ r z x y) := by
  have hck := rCheck_fn r
  unfold hasQ
  obtain ⟨e, he⟩ : ∃ e, chkE r = e := ⟨_, rfl⟩
  rw [he] at hck ⊢
  refine Fn.enter (N := 43) Try.func54 rfl (by kernel_rfl) rfl (fun w0 => ?_)

  refine awp_seq_region (fun Z hZ => ?_)
  refine sx_box rfl rfl rfl (fun g1 => ?_)
  refine sx_box rfl rfl rfl (fun g2 => ?_)
  refine sx_assign rfl rfl ?_
  refine sx_nil (hZ _ _ ?_)
  refine awp_forget [(2, _), (3, _)] (Kn.cons rfl (Kn.cons rfl (Kn.nil))) ?_

  refine awp_seq_meet [(4, .bool (decide (e = 0 ∧ z = r.z ∧ r.a ≤ x ∧ x ≤ r.c ∧ r.b ≤ y ∧ y ≤ r.d)))] [] (fun Z hZ => ?_) ?_
  · refine sx_loadA 1 rfl rfl tyA61 tyS61 (by first | (simp only [List.length_cons, List.length_nil, Nat.reduceAdd, Nat.zero_add, Nat.add_zero]; first | done | rfl) | rfl) (by first | (simp only [List.take_succ_cons, List.take_zero, List.drop_succ_cons, List.drop_zero, List.cons_append, List.nil_append, List.append_nil, List.length_cons, List.length_nil, Nat.reduceAdd, Nat.zero_add, Nat.add_zero, Value.cells, wrV]; first | done | rfl) | rfl) rfl ?_
    refine sx_callP (hck) rfl rfl ?_
    refine sx_eql rfl rfl rfl ?_
    refine sx_move rfl rfl ?_
    refine sx_split 8 rfl (fun hb3 => ?_) (fun hb3 => ?_)
    · refine sx_on rfl rfl rfl ?_
      refine sx_fieldAddr rfl tyF48_0 (by first | (simp only [Nat.reduceAdd, Nat.add_zero, Nat.zero_add]; first | done | rfl) | rfl) rfl ?_
      refine sx_on rfl rfl rfl ?_
      refine sx_load 0 rfl rfl tyA3 tyS3 rfl rfl ?_
      refine sx_on rfl rfl rfl ?_
      refine sx_fieldAddr rfl tyF61_0 (by first | (simp only [Nat.reduceAdd, Nat.add_zero, Nat.zero_add]; first | done | rfl) | rfl) rfl ?_
      refine sx_on rfl rfl rfl ?_
      refine sx_load 1 rfl rfl tyA3 tyS3 rfl rfl ?_
      refine sx_on rfl rfl rfl ?_
      refine sx_eql rfl rfl rfl ?_
      refine sx_pick rfl rfl rfl ?_
      refine sx_move rfl rfl ?_
      refine sx_split 15 rfl (fun hb10 => ?_) (fun hb10 => ?_)
      · refine sx_on rfl rfl rfl ?_
        refine sx_fieldAddr rfl tyF48_1 (by first | (simp only [Nat.reduceAdd, Nat.add_zero, Nat.zero_add]; first | done | rfl) | rfl) rfl ?_
        refine sx_on rfl rfl rfl ?_
        refine sx_load 0 rfl rfl tyA3 tyS3 rfl rfl ?_
        refine sx_on rfl rfl rfl ?_
        refine sx_fieldAddr rfl tyF61_1 (by first | (simp only [Nat.reduceAdd, Nat.add_zero, Nat.zero_add]; first | done | rfl) | rfl) rfl ?_
        refine sx_on rfl rfl rfl ?_
        refine sx_load 1 rfl rfl tyA3 tyS3 rfl rfl ?_
        refine sx_on rfl rfl rfl ?_
        refine sx_geq rfl rfl rfl ?_
        refine sx_pick rfl rfl rfl ?_
        refine sx_move rfl rfl ?_
        refine sx_split 22 rfl (fun hb17 => ?_) (fun hb17 => ?_)
        · refine sx_on rfl rfl rfl ?_
          refine sx_fieldAddr rfl tyF48_1 (by first | (simp only [Nat.reduceAdd, Nat.add_zero, Nat.zero_add]; first | done | rfl) | rfl) rfl ?_
          refine sx_on rfl rfl rfl ?_
          refine sx_load 0 rfl rfl tyA3 tyS3 rfl rfl ?_
          refine sx_on rfl rfl rfl ?_
          refine sx_fieldAddr rfl tyF61_3 (by first | (simp only [Nat.reduceAdd, Nat.add_zero, Nat.zero_add]; first | done | rfl) | rfl) rfl ?_
          refine sx_on rfl rfl rfl ?_
          refine sx_load 1 rfl rfl tyA3 tyS3 rfl rfl ?_
          refine sx_on rfl rfl rfl ?_
          refine sx_leq rfl rfl rfl ?_
          refine sx_pick rfl rfl rfl ?_
          refine sx_move rfl rfl ?_
          refine sx_split 29 rfl (fun hb24 => ?_) (fun hb24 => ?_)
          · refine sx_on rfl rfl rfl ?_
            refine sx_fieldAddr rfl tyF48_2 (by first | (simp only [Nat.reduceAdd, Nat.add_zero, Nat.zero_add]; first | done | rfl) | rfl) rfl ?_
            refine sx_on rfl rfl rfl ?_
            refine sx_load 0 rfl rfl tyA3 tyS3 rfl rfl ?_
            refine sx_on rfl rfl rfl ?_
            refine sx_fieldAddr rfl tyF61_2 (by first | (simp only [Nat.reduceAdd, Nat.add_zero, Nat.zero_add]; first | done | rfl) | rfl) rfl ?_
            refine sx_on rfl rfl rfl ?_
            refine sx_load 1 rfl rfl tyA3 tyS3 rfl rfl ?_
            refine sx_on rfl rfl rfl ?_
            refine sx_geq rfl rfl rfl ?_
            refine sx_pick rfl rfl rfl ?_
            refine sx_move rfl rfl ?_
            refine sx_split 36 rfl (fun hb31 => ?_) (fun hb31 => ?_)
            · refine sx_on rfl rfl rfl ?_
              refine sx_fieldAddr rfl tyF48_2 (by first | (simp only [Nat.reduceAdd, Nat.add_zero, Nat.zero_add]; first | done | rfl) | rfl) rfl ?_
              refine sx_on rfl rfl rfl ?_
              refine sx_load 0 rfl rfl tyA3 tyS3 rfl rfl ?_
              refine sx_on rfl rfl rfl ?_
              refine sx_fieldAddr rfl tyF61_4 (by first | (simp only [Nat.reduceAdd, Nat.add_zero, Nat.zero_add]; first | done | rfl) | rfl) rfl ?_
              refine sx_on rfl rfl rfl ?_
              refine sx_load 1 rfl rfl tyA3 tyS3 rfl rfl ?_
              refine sx_on rfl rfl rfl ?_
              refine sx_leq rfl rfl rfl ?_
              refine sx_pick rfl rfl rfl ?_
              refine sx_assign rfl rfl ?_
              refine sx_nil (hZ _ _ ?_ ?_)
              · exact Kn.cons (congrArg some (congrArg Value.bool (by first | (exfalso; simp at *; omega) | (simp at *; done) | (simp at *; omega) | (rw [Bool.eq_iff_iff]; simp at *; omega)))) Kn.nil
              · exact HLe.sub (List.nil_sublist _)
            · refine sx_off rfl rfl rfl rfl rfl ?_
              refine sx_off rfl rfl rfl rfl rfl ?_
              refine sx_off rfl rfl rfl rfl rfl ?_
              refine sx_off rfl rfl rfl rfl rfl ?_
              refine sx_off rfl rfl rfl rfl rfl ?_
              refine sx_pick rfl rfl rfl ?_
              refine sx_assign rfl rfl ?_
              refine sx_nil (hZ _ _ ?_ ?_)
              · exact Kn.cons (congrArg some (congrArg Value.bool (by first | (exfalso; simp at *; omega) | (simp at *; done) | (simp at *; omega) | (rw [Bool.eq_iff_iff]; simp at *; omega)))) Kn.nil
              · exact HLe.sub (List.nil_sublist _)
          · refine sx_off rfl rfl rfl rfl rfl ?_
            refine sx_off rfl rfl rfl rfl rfl ?_
            refine sx_off rfl rfl rfl rfl rfl ?_
            refine sx_off rfl rfl rfl rfl rfl ?_
            refine sx_off rfl rfl rfl rfl rfl ?_
            refine sx_pick rfl rfl rfl ?_
            refine sx_move rfl rfl ?_
            refine sx_off rfl rfl rfl rfl rfl ?_
            refine sx_off rfl rfl rfl rfl rfl ?_
            refine sx_off rfl rfl rfl rfl rfl ?_
            refine sx_off rfl rfl rfl rfl rfl ?_
            refine sx_off rfl rfl rfl rfl rfl ?_
            refine sx_pick rfl rfl rfl ?_
            refine sx_assign rfl rfl ?_
            refine sx_nil (hZ _ _ ?_ ?_)
            · exact Kn.cons (congrArg some (congrArg Value.bool (by first | (exfalso; simp at *; omega) | (simp at *; done) | (simp at *; omega) | (rw [Bool.eq_iff_iff]; simp at *; omega)))) Kn.nil
            · exact HLe.sub (List.nil_sublist _)
        · refine sx_off rfl rfl rfl rfl rfl ?_
          refine sx_off rfl rfl rfl rfl rfl ?_
          refine sx_off rfl rfl rfl rfl rfl ?_
          refine sx_off rfl rfl rfl rfl rfl ?_
          refine sx_off rfl rfl rfl rfl rfl ?_
          refine sx_pick rfl rfl rfl ?_
          refine sx_move rfl rfl ?_
          refine sx_off rfl rfl rfl rfl rfl ?_
          refine sx_off rfl rfl rfl rfl rfl ?_
          refine sx_off rfl rfl rfl rfl rfl ?_
          refine sx_off rfl rfl rfl rfl rfl ?_
          refine sx_off rfl rfl rfl rfl rfl ?_
          refine sx_pick rfl rfl rfl ?_
          refine sx_move rfl rfl ?_
          refine sx_off rfl rfl rfl rfl rfl ?_
          refine sx_off rfl rfl rfl rfl rfl ?_
          refine sx_off rfl rfl rfl rfl rfl ?_
          refine sx_off rfl rfl rfl rfl rfl ?_
          refine sx_off rfl rfl rfl rfl rfl ?_
          refine sx_pick rfl rfl rfl ?_
          refine sx_assign rfl rfl ?_
          refine sx_nil (hZ _ _ ?_ ?_)
          · exact Kn.cons (congrArg some (congrArg Value.bool (by first | (exfalso; simp at *; omega) | (simp at *; done) | (simp at *; omega) | (rw [Bool.eq_iff_iff]; simp at *; omega)))) Kn.nil
          · exact HLe.sub (List.nil_sublist _)
      · refine sx_off rfl rfl rfl rfl rfl ?_
        refine sx_off rfl rfl rfl rfl rfl ?_
        refine sx_off rfl rfl rfl rfl rfl ?_
        refine sx_off rfl rfl rfl rfl rfl ?_
        refine sx_off rfl rfl rfl rfl rfl ?_
        refine sx_pick rfl rfl rfl ?_
        refine sx_move rfl rfl ?_
        refine sx_off rfl rfl rfl rfl rfl ?_
        refine sx_off rfl rfl rfl rfl rfl ?_
        refine sx_off rfl rfl rfl rfl rfl ?_
        refine sx_off rfl rfl rfl rfl rfl ?_
        refine sx_off rfl rfl rfl rfl rfl ?_
        refine sx_pick rfl rfl rfl ?_
        refine sx_move rfl rfl ?_
        refine sx_off rfl rfl rfl rfl rfl ?_
        refine sx_off rfl rfl rfl rfl rfl ?_
        refine sx_off rfl rfl rfl rfl rfl ?_
        refine sx_off rfl rfl rfl rfl rfl ?_
        refine sx_off rfl rfl rfl rfl rfl ?_
        refine sx_pick rfl rfl rfl ?_
        refine sx_move rfl rfl ?_
        refine sx_off rfl rfl rfl rfl rfl ?_
        refine sx_off rfl rfl rfl rfl rfl ?_
        refine sx_off rfl rfl rfl rfl rfl ?_
        refine sx_off rfl rfl rfl rfl rfl ?_
        refine sx_off rfl rfl rfl rfl rfl ?_
        refine sx_pick rfl rfl rfl ?_
        refine sx_assign rfl rfl ?_
        refine sx_nil (hZ _ _ ?_ ?_)
        · exact Kn.cons (congrArg some (congrArg Value.bool (by first | (exfalso; simp at *; omega) | (simp at *; done) | (simp at *; omega) | (rw [Bool.eq_iff_iff]; simp at *; omega)))) Kn.nil
        · exact HLe.sub (List.nil_sublist _)
    · refine sx_off rfl rfl rfl rfl rfl ?_
      refine sx_off rfl rfl rfl rfl rfl ?_
      refine sx_off rfl rfl rfl rfl rfl ?_
      refine sx_off rfl rfl rfl rfl rfl ?_
      refine sx_off rfl rfl rfl rfl rfl ?_
      refine sx_pick rfl rfl rfl ?_
      refine sx_move rfl rfl ?_
      refine sx_off rfl rfl rfl rfl rfl ?_
      refine sx_off rfl rfl rfl rfl rfl ?_
      refine sx_off rfl rfl rfl rfl rfl ?_
      refine sx_off rfl rfl rfl rfl rfl ?_
      refine sx_off rfl rfl rfl rfl rfl ?_
      refine sx_pick rfl rfl rfl ?_
      refine sx_move rfl rfl ?_
      refine sx_off rfl rfl rfl rfl rfl ?_
      refine sx_off rfl rfl rfl rfl rfl ?_
      refine sx_off rfl rfl rfl rfl rfl ?_
      refine sx_off rfl rfl rfl rfl rfl ?_
      refine sx_off rfl rfl rfl rfl rfl ?_
      refine sx_pick rfl rfl rfl ?_
      refine sx_move rfl rfl ?_
      refine sx_off rfl rfl rfl rfl rfl ?_
      refine sx_off rfl rfl rfl rfl rfl ?_
      refine sx_off rfl rfl rfl rfl rfl ?_
      refine sx_off rfl rfl rfl rfl rfl ?_
      refine sx_off rfl rfl rfl rfl rfl ?_
      refine sx_pick rfl rfl rfl ?_
      refine sx_move rfl rfl ?_
      refine sx_off rfl rfl rfl rfl rfl ?_
      refine sx_off rfl rfl rfl rfl rfl ?_
      refine sx_off rfl rfl rfl rfl rfl ?_
      refine sx_off rfl rfl rfl rfl rfl ?_
      refine sx_off rfl rfl rfl rfl rfl ?_
      refine sx_pick rfl rfl rfl ?_
      refine sx_assign rfl rfl ?_
      refine sx_nil (hZ _ _ ?_ ?_)
      · exact Kn.cons (congrArg some (congrArg Value.bool (by first | (exfalso; simp at *; omega) | (simp at *; done) | (simp at *; omega) | (rw [Bool.eq_iff_iff]; simp at *; omega)))) Kn.nil
      · exact HLe.sub (List.nil_sublist _)
  refine awp_ret ?_
  exact nx_ret1 rfl rfl rfl
end Go.Proofs.Ytbldhokgbcljjaa

namespace Go.Proofs.Ytbldhokgbcljjaa
open Go.RowKit
set_option linter.unusedVariables false
set_option linter.unusedSimpArgs false
set_option maxRecDepth 100000
theorem apart_fn (r s : Rc) : Fn Try.prog 106 [r.val, s.val] [] fun v _ => v = .bool (decide (r.c < s.a ∨ s.c < r.a ∨ r.d < s.b ∨ s.d < r.b)) := by
  refine Fn.enter (N := 31) Try.func106 rfl (by kernel_rfl) rfl (fun w0 => ?_)

  refine awp_seq_region (fun Z hZ => ?_)
  refine sx_box rfl rfl rfl (fun g1 => ?_)
  refine sx_box rfl rfl rfl (fun g2 => ?_)
  refine sx_assign rfl rfl ?_
  refine sx_nil (hZ _ _ ?_)
  refine awp_forget [(2, _), (3, _)] (Kn.cons rfl (Kn.cons rfl (Kn.nil))) ?_

  refine awp_seq_meet [(4, .bool (decide (r.c < s.a ∨ s.c < r.a ∨ r.d < s.b ∨ s.d < r.b)))] [] (fun Z hZ => ?_) ?_
  · refine sx_fieldAddr rfl tyF64_3 (by first | (simp only [Nat.reduceAdd, Nat.add_zero, Nat.zero_add]; first | done | rfl) | rfl) rfl ?_
    refine sx_load 1 rfl rfl tyA3 tyS3 rfl rfl ?_
    refine sx_fieldAddr rfl tyF64_1 (by first | (simp only [Nat.reduceAdd, Nat.add_zero, Nat.zero_add]; first | done | rfl) | rfl) rfl ?_
    refine sx_load 0 rfl rfl tyA3 tyS3 rfl rfl ?_
    refine sx_lss rfl rfl rfl ?_
    refine sx_move rfl rfl ?_
    refine sx_split 10 rfl (fun hb5 => ?_) (fun hb5 => ?_)
    · refine sx_off rfl rfl rfl rfl rfl ?_
      refine sx_off rfl rfl rfl rfl rfl ?_
      refine sx_off rfl rfl rfl rfl rfl ?_
      refine sx_off rfl rfl rfl rfl rfl ?_
      refine sx_off rfl rfl rfl rfl rfl ?_
      refine sx_pick rfl rfl rfl ?_
      refine sx_move rfl rfl ?_
      refine sx_off rfl rfl rfl rfl rfl ?_
      refine sx_off rfl rfl rfl rfl rfl ?_
      refine sx_off rfl rfl rfl rfl rfl ?_
      refine sx_off rfl rfl rfl rfl rfl ?_
      refine sx_off rfl rfl rfl rfl rfl ?_
      refine sx_pick rfl rfl rfl ?_
      refine sx_move rfl rfl ?_
      refine sx_off rfl rfl rfl rfl rfl ?_
      refine sx_off rfl rfl rfl rfl rfl ?_
      refine sx_off rfl rfl rfl rfl rfl ?_
      refine sx_off rfl rfl rfl rfl rfl ?_
      refine sx_off rfl rfl rfl rfl rfl ?_
      refine sx_pick rfl rfl rfl ?_
      refine sx_assign rfl rfl ?_
      refine sx_nil (hZ _ _ ?_ ?_)
      · exact Kn.cons (congrArg some (congrArg Value.bool (by first | (exfalso; simp at *; omega) | (simp at *; done) | (simp at *; omega) | (rw [Bool.eq_iff_iff]; simp at *; omega)))) Kn.nil
      · exact HLe.sub (List.nil_sublist _)
    · refine sx_on rfl rfl rfl ?_
      refine sx_fieldAddr rfl tyF64_3 (by first | (simp only [Nat.reduceAdd, Nat.add_zero, Nat.zero_add]; first | done | rfl) | rfl) rfl ?_
      refine sx_on rfl rfl rfl ?_
      refine sx_load 0 rfl rfl tyA3 tyS3 rfl rfl ?_
      refine sx_on rfl rfl rfl ?_
      refine sx_fieldAddr rfl tyF64_1 (by first | (simp only [Nat.reduceAdd, Nat.add_zero, Nat.zero_add]; first | done | rfl) | rfl) rfl ?_
      refine sx_on rfl rfl rfl ?_
      refine sx_load 1 rfl rfl tyA3 tyS3 rfl rfl ?_
      refine sx_on rfl rfl rfl ?_
      refine sx_lss rfl rfl rfl ?_
      refine sx_pick rfl rfl rfl ?_
      refine sx_move rfl rfl ?_
      refine sx_split 17 rfl (fun hb12 => ?_) (fun hb12 => ?_)
      · refine sx_off rfl rfl rfl rfl rfl ?_
        refine sx_off rfl rfl rfl rfl rfl ?_
        refine sx_off rfl rfl rfl rfl rfl ?_
        refine sx_off rfl rfl rfl rfl rfl ?_
        refine sx_off rfl rfl rfl rfl rfl ?_
        refine sx_pick rfl rfl rfl ?_
        refine sx_move rfl rfl ?_
        refine sx_off rfl rfl rfl rfl rfl ?_
        refine sx_off rfl rfl rfl rfl rfl ?_
        refine sx_off rfl rfl rfl rfl rfl ?_
        refine sx_off rfl rfl rfl rfl rfl ?_
        refine sx_off rfl rfl rfl rfl rfl ?_
        refine sx_pick rfl rfl rfl ?_
        refine sx_assign rfl rfl ?_
        refine sx_nil (hZ _ _ ?_ ?_)
        · exact Kn.cons (congrArg some (congrArg Value.bool (by first | (exfalso; simp at *; omega) | (simp at *; done) | (simp at *; omega) | (rw [Bool.eq_iff_iff]; simp at *; omega)))) Kn.nil
        · exact HLe.sub (List.nil_sublist _)
      · refine sx_on rfl rfl rfl ?_
        refine sx_fieldAddr rfl tyF64_4 (by first | (simp only [Nat.reduceAdd, Nat.add_zero, Nat.zero_add]; first | done | rfl) | rfl) rfl ?_
        refine sx_on rfl rfl rfl ?_
        refine sx_load 1 rfl rfl tyA3 tyS3 rfl rfl ?_
        refine sx_on rfl rfl rfl ?_
        refine sx_fieldAddr rfl tyF64_2 (by first | (simp only [Nat.reduceAdd, Nat.add_zero, Nat.zero_add]; first | done | rfl) | rfl) rfl ?_
        refine sx_on rfl rfl rfl ?_
        refine sx_load 0 rfl rfl tyA3 tyS3 rfl rfl ?_
        refine sx_on rfl rfl rfl ?_
        refine sx_lss rfl rfl rfl ?_
        refine sx_pick rfl rfl rfl ?_
        refine sx_move rfl rfl ?_
        refine sx_split 24 rfl (fun hb19 => ?_) (fun hb19 => ?_)
        · refine sx_off rfl rfl rfl rfl rfl ?_
          refine sx_off rfl rfl rfl rfl rfl ?_
          refine sx_off rfl rfl rfl rfl rfl ?_
          refine sx_off rfl rfl rfl rfl rfl ?_
          refine sx_off rfl rfl rfl rfl rfl ?_
          refine sx_pick rfl rfl rfl ?_
          refine sx_assign rfl rfl ?_
          refine sx_nil (hZ _ _ ?_ ?_)
          · exact Kn.cons (congrArg some (congrArg Value.bool (by first | (exfalso; simp at *; omega) | (simp at *; done) | (simp at *; omega) | (rw [Bool.eq_iff_iff]; simp at *; omega)))) Kn.nil
          · exact HLe.sub (List.nil_sublist _)
        · refine sx_on rfl rfl rfl ?_
          refine sx_fieldAddr rfl tyF64_4 (by first | (simp only [Nat.reduceAdd, Nat.add_zero, Nat.zero_add]; first | done | rfl) | rfl) rfl ?_
          refine sx_on rfl rfl rfl ?_
          refine sx_load 0 rfl rfl tyA3 tyS3 rfl rfl ?_
          refine sx_on rfl rfl rfl ?_
          refine sx_fieldAddr rfl tyF64_2 (by first | (simp only [Nat.reduceAdd, Nat.add_zero, Nat.zero_add]; first | done | rfl) | rfl) rfl ?_
          refine sx_on rfl rfl rfl ?_
          refine sx_load 1 rfl rfl tyA3 tyS3 rfl rfl ?_
          refine sx_on rfl rfl rfl ?_
          refine sx_lss rfl rfl rfl ?_
          refine sx_pick rfl rfl rfl ?_
          refine sx_assign rfl rfl ?_
          refine sx_nil (hZ _ _ ?_ ?_)
          · exact Kn.cons (congrArg some (congrArg Value.bool (by first | (exfalso; simp at *; omega) | (simp at *; done) | (simp at *; omega) | (rw [Bool.eq_iff_iff]; simp at *; omega)))) Kn.nil
          · exact HLe.sub (List.nil_sublist _)
  refine awp_ret ?_
  exact nx_ret1 rfl rfl rfl
theorem within_fn (r s : Rc) : Fn Try.prog 107 [r.val, s.val] [] fun v _ => v = .bool (decide (s.a ≤ r.a ∧ r.c ≤ s.c ∧ s.b ≤ r.b ∧ r.d ≤ s.d)) := by
  refine Fn.enter (N := 31) Try.func107 rfl (by kernel_rfl) rfl (fun w0 => ?_)

  refine awp_seq_region (fun Z hZ => ?_)
  refine sx_box rfl rfl rfl (fun g1 => ?_)
  refine sx_box rfl rfl rfl (fun g2 => ?_)
  refine sx_assign rfl rfl ?_
  refine sx_nil (hZ _ _ ?_)
  refine awp_forget [(2, _), (3, _)] (Kn.cons rfl (Kn.cons rfl (Kn.nil))) ?_

  refine awp_seq_meet [(4, .bool (decide (s.a ≤ r.a ∧ r.c ≤ s.c ∧ s.b ≤ r.b ∧ r.d ≤ s.d)))] [] (fun Z hZ => ?_) ?_
  · refine sx_fieldAddr rfl tyF64_1 (by first | (simp only [Nat.reduceAdd, Nat.add_zero, Nat.zero_add]; first | done | rfl) | rfl) rfl ?_
    refine sx_load 0 rfl rfl tyA3 tyS3 rfl rfl ?_
    refine sx_fieldAddr rfl tyF64_1 (by first | (simp only [Nat.reduceAdd, Nat.add_zero, Nat.zero_add]; first | done | rfl) | rfl) rfl ?_
    refine sx_load 1 rfl rfl tyA3 tyS3 rfl rfl ?_
    refine sx_leq rfl rfl rfl ?_
    refine sx_move rfl rfl ?_
    refine sx_split 10 rfl (fun hb5 => ?_) (fun hb5 => ?_)
    · refine sx_on rfl rfl rfl ?_
      refine sx_fieldAddr rfl tyF64_3 (by first | (simp only [Nat.reduceAdd, Nat.add_zero, Nat.zero_add]; first | done | rfl) | rfl) rfl ?_
      refine sx_on rfl rfl rfl ?_
      refine sx_load 1 rfl rfl tyA3 tyS3 rfl rfl ?_
      refine sx_on rfl rfl rfl ?_
      refine sx_fieldAddr rfl tyF64_3 (by first | (simp only [Nat.reduceAdd, Nat.add_zero, Nat.zero_add]; first | done | rfl) | rfl) rfl ?_
      refine sx_on rfl rfl rfl ?_
      refine sx_load 0 rfl rfl tyA3 tyS3 rfl rfl ?_
      refine sx_on rfl rfl rfl ?_
      refine sx_leq rfl rfl rfl ?_
      refine sx_pick rfl rfl rfl ?_
      refine sx_move rfl rfl ?_
      refine sx_split 17 rfl (fun hb12 => ?_) (fun hb12 => ?_)
      · refine sx_on rfl rfl rfl ?_
        refine sx_fieldAddr rfl tyF64_2 (by first | (simp only [Nat.reduceAdd, Nat.add_zero, Nat.zero_add]; first | done | rfl) | rfl) rfl ?_
        refine sx_on rfl rfl rfl ?_
        refine sx_load 0 rfl rfl tyA3 tyS3 rfl rfl ?_
        refine sx_on rfl rfl rfl ?_
        refine sx_fieldAddr rfl tyF64_2 (by first | (simp only [Nat.reduceAdd, Nat.add_zero, Nat.zero_add]; first | done | rfl) | rfl) rfl ?_
        refine sx_on rfl rfl rfl ?_
        refine sx_load 1 rfl rfl tyA3 tyS3 rfl rfl ?_
        refine sx_on rfl rfl rfl ?_
        refine sx_leq rfl rfl rfl ?_
        refine sx_pick rfl rfl rfl ?_
        refine sx_move rfl rfl ?_
        refine sx_split 24 rfl (fun hb19 => ?_) (fun hb19 => ?_)
        · refine sx_on rfl rfl rfl ?_
          refine sx_fieldAddr rfl tyF64_4 (by first | (simp only [Nat.reduceAdd, Nat.add_zero, Nat.zero_add]; first | done | rfl) | rfl) rfl ?_
          refine sx_on rfl rfl rfl ?_
          refine sx_load 1 rfl rfl tyA3 tyS3 rfl rfl ?_
          refine sx_on rfl rfl rfl ?_
          refine sx_fieldAddr rfl tyF64_4 (by first | (simp only [Nat.reduceAdd, Nat.add_zero, Nat.zero_add]; first | done | rfl) | rfl) rfl ?_
          refine sx_on rfl rfl rfl ?_
          refine sx_load 0 rfl rfl tyA3 tyS3 rfl rfl ?_
          refine sx_on rfl rfl rfl ?_
          refine sx_leq rfl rfl rfl ?_
          refine sx_pick rfl rfl rfl ?_
          refine sx_assign rfl rfl ?_
          refine sx_nil (hZ _ _ ?_ ?_)
          · exact Kn.cons (congrArg some (congrArg Value.bool (by first | (exfalso; simp at *; omega) | (simp at *; done) | (simp at *; omega) | (rw [Bool.eq_iff_iff]; simp at *; omega)))) Kn.nil
          · exact HLe.sub (List.nil_sublist _)
        · refine sx_off rfl rfl rfl rfl rfl ?_
          refine sx_off rfl rfl rfl rfl rfl ?_
          refine sx_off rfl rfl rfl rfl rfl ?_
          refine sx_off rfl rfl rfl rfl rfl ?_
          refine sx_off rfl rfl rfl rfl rfl ?_
          refine sx_pick rfl rfl rfl ?_
          refine sx_assign rfl rfl ?_
          refine sx_nil (hZ _ _ ?_ ?_)
          · exact Kn.cons (congrArg some (congrArg Value.bool (by first | (exfalso; simp at *; omega) | (simp at *; done) | (simp at *; omega) | (rw [Bool.eq_iff_iff]; simp at *; omega)))) Kn.nil
          · exact HLe.sub (List.nil_sublist _)
      · refine sx_off rfl rfl rfl rfl rfl ?_
        refine sx_off rfl rfl rfl rfl rfl ?_
        refine sx_off rfl rfl rfl rfl rfl ?_
        refine sx_off rfl rfl rfl rfl rfl ?_
        refine sx_off rfl rfl rfl rfl rfl ?_
        refine sx_pick rfl rfl rfl ?_
        refine sx_move rfl rfl ?_
        refine sx_off rfl rfl rfl rfl rfl ?_
        refine sx_off rfl rfl rfl rfl rfl ?_
        refine sx_off rfl rfl rfl rfl rfl ?_
        refine sx_off rfl rfl rfl rfl rfl ?_
        refine sx_off rfl rfl rfl rfl rfl ?_
        refine sx_pick rfl rfl rfl ?_
        refine sx_assign rfl rfl ?_
        refine sx_nil (hZ _ _ ?_ ?_)
        · exact Kn.cons (congrArg some (congrArg Value.bool (by first | (exfalso; simp at *; omega) | (simp at *; done) | (simp at *; omega) | (rw [Bool.eq_iff_iff]; simp at *; omega)))) Kn.nil
        · exact HLe.sub (List.nil_sublist _)
    · refine sx_off rfl rfl rfl rfl rfl ?_
      refine sx_off rfl rfl rfl rfl rfl ?_
      refine sx_off rfl rfl rfl rfl rfl ?_
      refine sx_off rfl rfl rfl rfl rfl ?_
      refine sx_off rfl rfl rfl rfl rfl ?_
      refine sx_pick rfl rfl rfl ?_
      refine sx_move rfl rfl ?_
      refine sx_off rfl rfl rfl rfl rfl ?_
      refine sx_off rfl rfl rfl rfl rfl ?_
      refine sx_off rfl rfl rfl rfl rfl ?_
      refine sx_off rfl rfl rfl rfl rfl ?_
      refine sx_off rfl rfl rfl rfl rfl ?_
      refine sx_pick rfl rfl rfl ?_
      refine sx_move rfl rfl ?_
      refine sx_off rfl rfl rfl rfl rfl ?_
      refine sx_off rfl rfl rfl rfl rfl ?_
      refine sx_off rfl rfl rfl rfl rfl ?_
      refine sx_off rfl rfl rfl rfl rfl ?_
      refine sx_off rfl rfl rfl rfl rfl ?_
      refine sx_pick rfl rfl rfl ?_
      refine sx_assign rfl rfl ?_
      refine sx_nil (hZ _ _ ?_ ?_)
      · exact Kn.cons (congrArg some (congrArg Value.bool (by first | (exfalso; simp at *; omega) | (simp at *; done) | (simp at *; omega) | (rw [Bool.eq_iff_iff]; simp at *; omega)))) Kn.nil
      · exact HLe.sub (List.nil_sublist _)
  refine awp_ret ?_
  exact nx_ret1 rfl rfl rfl
def sqR (z n a b : Nat) : Rc := ⟨((z + n : Nat) : Int), ((a * 2 ^ n : Nat) : Int), ((b * 2 ^ n : Nat) : Int), (((a + 1) * 2 ^ n - 1 : Nat) : Int), (((b + 1) * 2 ^ n - 1 : Nat) : Int)⟩
theorem square_fn (z n a b : Nat) (hz : z + n ≤ 26) (ha : a < 2 ^ z) (hb : b < 2 ^ z) : Fn Try.prog 105 [tval (z : Nat) a b, iq (z + n : Nat)] [] fun v _ => v = (sqR z n a b).val := by
  have hn := pow2_pos n
  have h26 := pow2_le26 hz
  rw [Nat.pow_add] at h26
  have hza := pow2_le26 (show z ≤ 26 by omega)
  have h1 : (a + 1) * 2 ^ n ≤ 2 ^ z * 2 ^ n := Nat.mul_le_mul_right _ ha
  have h2 : (b + 1) * 2 ^ n ≤ 2 ^ z * 2 ^ n := Nat.mul_le_mul_right _ hb
  have h3 : a * 2 ^ n ≤ (a + 1) * 2 ^ n := Nat.mul_le_mul_right _ (Nat.le_succ a)
  have h4 : b * 2 ^ n ≤ (b + 1) * 2 ^ n := Nat.mul_le_mul_right _ (Nat.le_succ b)
  have s1 := shl_at .i64 a n rfl (by omega) (fun x hx => IntWalk.i64_in _ (by omega))
  have s2 := shl_at .i64 b n rfl (by omega) (fun x hx => IntWalk.i64_in _ (by omega))
  have s3 := shl_at .i64 (a + 1) n rfl (by omega) (fun x hx => IntWalk.i64_in _ (by omega))
  have s4 := shl_at .i64 (b + 1) n rfl (by omega) (fun x hx => IntWalk.i64_in _ (by omega))
  unfold sqR
  obtain ⟨p1, hp1⟩ : ∃ x, a * 2 ^ n = x := ⟨_, rfl⟩
  obtain ⟨p2, hp2⟩ : ∃ x, b * 2 ^ n = x := ⟨_, rfl⟩
  obtain ⟨p3, hp3⟩ : ∃ x, (a + 1) * 2 ^ n = x := ⟨_, rfl⟩
  obtain ⟨p4, hp4⟩ : ∃ x, (b + 1) * 2 ^ n = x := ⟨_, rfl⟩
  have l3 : 0 < (a + 1) * 2 ^ n := Nat.mul_pos (Nat.succ_pos a) hn
  have l4 : 0 < (b + 1) * 2 ^ n := Nat.mul_pos (Nat.succ_pos b) hn
  rw [hp1] at s1 h3 ⊢
  rw [hp2] at s2 h4 ⊢
  rw [hp3] at s3 h1 l3 ⊢
  rw [hp4] at s4 h2 l4 ⊢
  refine Fn.enter (N := 32) Try.func105 rfl (by kernel_rfl) rfl (fun w0 => ?_)

  refine awp_seq_region (fun Z hZ => ?_)
  refine sx_box rfl rfl rfl (fun g1 => ?_)
  refine sx_alloc tyZ64 rfl (fun g2 => ?_)
  refine sx_nil (hZ _ _ ?_)
  refine awp_forget [(1, _), (2, _), (4, _)] (Kn.cons rfl (Kn.cons rfl (Kn.cons rfl (Kn.nil)))) ?_

  refine awp_seq_region (fun Z hZ => ?_)
  refine sx_move rfl rfl ?_
  refine sx_fieldAddr rfl tyF52_0 (by first | (simp only [Nat.reduceAdd, Nat.add_zero, Nat.zero_add]; first | done | rfl) | rfl) rfl ?_
  refine sx_load 1 rfl rfl tyA3 tyS3 rfl rfl ?_
  refine sx_sub rfl rfl ((n : Nat) : Int) (by rw [IntWalk.i64_in _ (by omega)]; omega) rfl ?_
  refine sx_assign rfl rfl ?_
  refine sx_nil (hZ _ _ ?_)
  refine awp_forget [(1, _), (2, _), (4, _), (5, _)] (Kn.cons rfl (Kn.cons rfl (Kn.cons rfl (Kn.cons rfl (Kn.nil))))) ?_
  refine awh_seq_region [0, 1, 2, 3, 4, 5, 6, 7, 8, 9, 10, 11, 12, 13, 14, 15, 16, 17, 18, 19, 20, 21] [22] mixed (by kernel_rfl) rfl rfl (fun Z hZ => ?_)
  refine sq_move rfl rfl ?_
  refine sq_fieldAddr rfl tyF52_1 (by first | (simp only [Nat.reduceAdd, Nat.add_zero, Nat.zero_add]; first | done | rfl) | rfl) rfl ?_
  refine sq_load 1 rfl rfl tyA3 tyS3 rfl rfl ?_
  refine sq_move rfl rfl ?_
  refine sq_shl rfl rfl (by omega) ((p1 : Nat) : Int) s1 rfl ?_
  refine sq_fieldAddr rfl tyF52_2 (by first | (simp only [Nat.reduceAdd, Nat.add_zero, Nat.zero_add]; first | done | rfl) | rfl) rfl ?_
  refine sq_load 1 rfl rfl tyA3 tyS3 rfl rfl ?_
  refine sq_move rfl rfl ?_
  refine sq_shl rfl rfl (by omega) ((p2 : Nat) : Int) s2 rfl ?_
  refine sq_fieldAddr rfl tyF52_1 (by first | (simp only [Nat.reduceAdd, Nat.add_zero, Nat.zero_add]; first | done | rfl) | rfl) rfl ?_
  refine sq_load 1 rfl rfl tyA3 tyS3 rfl rfl ?_
  refine sq_add rfl rfl ((a + 1 : Nat) : Int) (by rw [IntWalk.i64_in _ (by omega)]; omega) rfl ?_
  refine sq_move rfl rfl ?_
  refine sq_shl rfl rfl (by omega) ((p3 : Nat) : Int) s3 rfl ?_
  refine sq_sub rfl rfl ((p3 - 1 : Nat) : Int) (by rw [IntWalk.i64_in _ (by omega)]; omega) rfl ?_
  refine sq_fieldAddr rfl tyF52_2 (by first | (simp only [Nat.reduceAdd, Nat.add_zero, Nat.zero_add]; first | done | rfl) | rfl) rfl ?_
  refine sq_load 1 rfl rfl tyA3 tyS3 rfl rfl ?_
  refine sq_add rfl rfl ((b + 1 : Nat) : Int) (by rw [IntWalk.i64_in _ (by omega)]; omega) rfl ?_
  refine sq_move rfl rfl ?_
  refine sq_shl rfl rfl (by omega) ((p4 : Nat) : Int) s4 rfl ?_
  refine sq_sub rfl rfl ((p4 - 1 : Nat) : Int) (by rw [IntWalk.i64_in _ (by omega)]; omega) rfl ?_
  refine sq_build tyZ64 tyP64 rfl rfl (by first | (simp only [List.take_succ_cons, List.take_zero, List.drop_succ_cons, List.drop_zero, List.cons_append, List.nil_append, List.append_nil, List.length_cons, List.length_nil, Nat.reduceAdd, Nat.zero_add, Nat.add_zero, Value.cells, wrV, zrep_one, List.replicate_succ, List.replicate_zero, Nat.reduceMul, Nat.zero_mul]; first | done | rfl) | rfl) rfl ?_
  refine sq_nil ?_
  refine sx_store 0 rfl rfl rfl tyS64 (by first | (simp only [Value.cells]; first | done | rfl) | rfl) rfl rfl (by first | (simp only [List.length_cons, List.length_nil, Nat.reduceAdd, Nat.zero_add, Nat.add_zero]; first | done | rfl) | rfl) (by first | (simp only [List.take_succ_cons, List.take_zero, List.drop_succ_cons, List.drop_zero, List.cons_append, List.nil_append, List.append_nil, List.length_cons, List.length_nil, Nat.reduceAdd, Nat.zero_add, Nat.add_zero, Value.cells, wrV]; first | done | rfl) | rfl) (by first | (simp only [List.set_cons_succ, List.set_cons_zero]; first | done | rfl) | rfl) ?_
  refine sx_nil (hZ _ _ ?_)
  refine awp_forget [(4, _)] (Kn.cons rfl (Kn.nil)) ?_
  refine awp_ret ?_
  exact nx_ret1 rfl (ResOk.cell 0 rfl rfl tyA64 tyS64 rfl) rfl
end Go.Proofs.Ytbldhokgbcljjaa

namespace Go.Proofs.Ytbldhokgbcljjaa
open Go.RowKit
set_option linter.unusedVariables false
set_option linter.unusedSimpArgs false
set_option maxRecDepth 100000
/-- A call of a function's value that takes a part of memory; the rest stays. -/
theorem sx_callFO {P : Program} {N : Frm} {w0 : World} {Wr : List Nat} {ops : Array Oper} {rest : List Oper} {fr : Fr} {H : Heap} {Z : Fr → Heap → Prop} {ty : Nat} {pos : String} {after : Array Edge}
    {f : FuncId} {caps : List Value} {x : Operand} {xs : List Operand} {vs : List Value} {ts : Array TypeId} {dst : Option Nat} {R : Value → Heap → Prop} (Hc K : Heap) (hc : Fn P f (vs ++ caps) Hc R) (hf : ev fr x = some (.func (.func f) #[] caps.toArray)) (hx : evs fr xs = some vs) (hH : HLe (Hc ++ K) H) (hN : dstB N dst = true)
    (h : ∀ v H', R v H' → sx P N w0 Wr ops rest (match dst with | some d => (d, v) :: fr | none => fr) (H'.filter Ent.wr ++ K) Z) :
    sx P N w0 Wr ops (⟨dst, .call { callee := .value x, args := xs.toArray, argTypes := ts }, ty, pos, after, none⟩ :: rest) fr H Z :=
  sx_callFW (R := fun v H2 => ∃ H', R v H' ∧ H2 = H'.filter Ent.wr ++ K) hc.1 hf hx hN (fun w hw => by
    have hw' := hH _ _ _ hw
    have hpre : Sat w (wrs Hc) Hc w := by
      have hsub := hw'.sub (List.sublist_append_left Hc K)
      exact ⟨Only.refl _ _, fun e he => ⟨(hsub.ents e he).1, fun h => .inl (mem_wrs.2 ⟨e, he, h, rfl⟩)⟩, hsub.sep⟩
    exact (hc.2 w hpre).mono fun e w' he => by
      obtain ⟨v, H', h1, h2, h3⟩ := he
      exact ⟨v, _, h1, ⟨H', h2, rfl⟩, hw'.callA (U := []) Ro.nil (by rw [List.append_nil]; exact h3)⟩) (fun v H2 hR => by obtain ⟨H', hR, rfl⟩ := hR; exact h v H' hR)
/-- What the closure of Spans has: its list, its bound. -/
abbrev HW (go gm : Nat) (u : Value) (L : List Sp) (most : Nat) : Heap := .own go 24 [u] :: .own gm 3 [iq (most : Nat)] :: rowE u 43 2 (scells L)
theorem hw_flt (go gm : Nat) (u : Value) (L : List Sp) (most : Nat) : (HW go gm u L most).filter Ent.wr = HW go gm u L most := (Wrs.cons rfl (Wrs.cons rfl (rowE_wrs _ _ _ _))).filter
theorem cput_fn (go gm : Nat) (u : Value) (L : List Sp) (s : Sp) (most : Nat) (hu : RowOk u L.length) (hL : L.length ≤ 1000000) (ho : SpsOk (s :: L)) :
    Fn Try.prog 83 ([s.val] ++ [ptr go 0, ptr gm 0]) (HW go gm u L most) fun v H' => ∃ u', v = .bool (decide ((joinQ L s).length ≤ most)) ∧ RowOk u' (joinQ L s).length ∧ H' = HW go gm u' (joinQ L s) most := by
  rw [show [s.val] ++ [ptr go 0, ptr gm 0] = [s.val, ptr go 0, ptr gm 0] from rfl]
  refine Fn.enter (N := 12) Try.func83 rfl (by kernel_rfl) rfl (fun w0 => ?_)

  refine awp_seq_region (fun Z hZ => ?_)
  refine sx_box rfl rfl rfl (fun g1 => ?_)
  refine sx_assign rfl rfl ?_
  refine sx_nil (hZ _ _ ?_)
  refine awp_forget [(1, _), (2, _), (3, _)] (Kn.cons rfl (Kn.cons rfl (Kn.cons rfl (Kn.nil)))) ?_

  refine awp_seq_region (fun Z hZ => ?_)
  refine sx_load 1 rfl rfl tyA24 tyS24 rfl rfl ?_
  refine sx_loadA 0 rfl rfl tyA43 tyS43 (by first | (simp only [List.length_cons, List.length_nil, Nat.reduceAdd, Nat.zero_add, Nat.add_zero]; first | done | rfl) | rfl) (by first | (simp only [List.take_succ_cons, List.take_zero, List.drop_succ_cons, List.drop_zero, List.cons_append, List.nil_append, List.append_nil, List.length_cons, List.length_nil, Nat.reduceAdd, Nat.zero_add, Nat.add_zero, Value.cells, wrV]; first | done | rfl) | rfl) rfl ?_
  refine sx_callO (rowE u 43 2 (scells L)) [.own g1 43 s.cells, .own go 24 [u], .own gm 3 [iq (most : Nat)]] (join_fn u L s hu hL ho) rfl (HLe.swap [_, _, _] _) rfl ?_
  rintro v' H' ⟨hv', rfl⟩
  rw [rowE_flt]
  obtain ⟨A, c, rfl, hA⟩ := hv'.form
  refine sx_heap (.own g1 43 s.cells :: .own go 24 [u] :: .own gm 3 [iq (most : Nat)] :: rowE (.slice A (joinQ L s).length c) 43 2 (scells (joinQ L s))) (HLe.swap _ [_, _, _]) ?_
  refine sx_store1 1 rfl rfl rfl tyS24 rfl (by first | (simp only [List.length_cons, List.length_nil, Nat.reduceAdd, Nat.zero_add, Nat.add_zero]; first | done | rfl) | rfl) (by first | (simp only [List.set_cons_succ, List.set_cons_zero, Nat.reduceAdd, Nat.add_zero, Nat.zero_add]; first | done | rfl) | rfl) (by first | (simp only [List.set_cons_succ, List.set_cons_zero]; first | done | rfl) | rfl) ?_
  refine sx_nil (hZ _ _ ?_)
  refine awp_forget [(1, _), (2, _)] (Kn.cons rfl (Kn.cons rfl (Kn.nil))) ?_
  refine awp_seq_region (fun Z hZ => ?_)
  refine sx_load 1 rfl rfl tyA24 tyS24 rfl rfl ?_
  refine sx_len Try.underlying24 rfl rfl ?_
  refine sx_load 2 rfl rfl tyA3 tyS3 rfl rfl ?_
  refine sx_leq rfl rfl rfl ?_
  refine sx_assign rfl rfl ?_
  refine sx_nil (hZ _ _ ?_)
  refine awp_forget [(4, _)] (Kn.cons rfl (Kn.nil)) ?_
  refine awp_ret ?_
  exact nx_ret1h _ rfl rfl (HLe.drop 1 rfl) ⟨_, congrArg Value.bool (by rw [Bool.eq_iff_iff]; simp), hv', rfl⟩
/-- What of a tile lies in the rectangle. -/
theorem sq_none {z n a b A B C D : Nat} (ha : a < 2 ^ z) (hb : b < 2 ^ z) (h : C < a * 2 ^ n ∨ (a + 1) * 2 ^ n - 1 < A ∨ D < b * 2 ^ n ∨ (b + 1) * 2 ^ n - 1 < B) :
    ∀ e, hp z a b * 4 ^ n ≤ e → e < hp z a b * 4 ^ n + 4 ^ n → ¬ RIn A B C D (pt (z + n) e).1 (pt (z + n) e).2 := fun e h1 h2 hr => by
  have hl := hp_lt z a b ha hb
  have hq : hp z a b * 4 ^ n + 4 ^ n ≤ 4 ^ (z + n) := by
    rw [Nat.pow_add, ← Nat.succ_mul]
    exact Nat.mul_le_mul_right _ hl
  obtain ⟨h3, h4⟩ := (sq_pt ha hb (by omega)).1 ⟨h1, h2⟩
  rw [sq_rng] at h3 h4
  obtain ⟨⟨r1, r2⟩, r3, r4⟩ := hr
  omega
theorem sq_all {z n a b A B C D : Nat} (ha : a < 2 ^ z) (hb : b < 2 ^ z) (h : A ≤ a * 2 ^ n ∧ (a + 1) * 2 ^ n - 1 ≤ C ∧ B ≤ b * 2 ^ n ∧ (b + 1) * 2 ^ n - 1 ≤ D) :
    ∀ e, hp z a b * 4 ^ n ≤ e → e < hp z a b * 4 ^ n + 4 ^ n → RIn A B C D (pt (z + n) e).1 (pt (z + n) e).2 := fun e h1 h2 => by
  have hl := hp_lt z a b ha hb
  have hq : hp z a b * 4 ^ n + 4 ^ n ≤ 4 ^ (z + n) := by
    rw [Nat.pow_add, ← Nat.succ_mul]
    exact Nat.mul_le_mul_right _ hl
  obtain ⟨h3, h4⟩ := (sq_pt ha hb (by omega)).1 ⟨h1, h2⟩
  rw [sq_rng] at h3 h4
  exact ⟨⟨by omega, by omega⟩, by omega, by omega⟩
def WalkR (go gm most Zm A B C D E : Nat) (v : Value) (H' : Heap) : Prop :=
  ∃ u' L' D' g, v = .bool g ∧ RowOk u' L'.length ∧ H' = HW go gm u' L' most ∧ DoneQ Zm (RIn A B C D) D' L' ∧ ((g = true ∧ L'.length ≤ most ∧ D' = E) ∨ (g = false ∧ most < L'.length ∧ D' ≤ 4 ^ Zm))
theorem walk_fn (go gm most Zm A B C D : Nat) (hZm : Zm ≤ 26) (hC : C < 2 ^ Zm) (hD : D < 2 ^ Zm) (hAC : A ≤ C) (hBD : B ≤ D) (hm : most ≤ 4096) : ∀ n z a b : Nat, z + n = Zm → a < 2 ^ z → b < 2 ^ z → ∀ (u : Value) (L : List Sp), RowOk u L.length → L.length ≤ most → DoneQ Zm (RIn A B C D) (hp z a b * 4 ^ n) L →
    Fn Try.prog 84 [tval (z : Nat) a b, (Rc.mk (Zm : Nat) A B C D).val, .func (.func 83) #[] #[ptr go 0, ptr gm 0]] (HW go gm u L most) (WalkR go gm most Zm A B C D (hp z a b * 4 ^ n + 4 ^ n)) := by
  intro n
  induction n using Nat.strongRecOn with
  | _ n ih =>
  intro z a b hzn ha hb u L hu hL hd
  subst hzn
  have hq := hp_lt z a b ha hb
  have h4n := pow4_pos n
  have hle : hp z a b * 4 ^ n + 4 ^ n ≤ 4 ^ (z + n) := by
    rw [Nat.pow_add, ← Nat.succ_mul]
    exact Nat.mul_le_mul_right _ hq
  have hbl : base4 (z + n) + 4 ^ (z + n) ≤ base4 27 := base4_mono (a := z + n + 1) (by omega)
  rw [base4_27] at hbl
  have hbelow := hd.below
  refine Fn.enter (N := 55) Try.func84 rfl (by kernel_rfl) rfl (fun w0 => ?_)

  refine awp_seq_region (fun Z hZ => ?_)
  refine sx_box rfl rfl rfl (fun g1 => ?_)
  refine sx_box rfl rfl rfl (fun g2 => ?_)
  refine sx_assign rfl rfl ?_
  refine sx_nil (hZ _ _ ?_)
  refine awp_forget [(2, _), (3, _), (4, _)] (Kn.cons rfl (Kn.cons rfl (Kn.cons rfl (Kn.nil)))) ?_

  refine awp_seq_region (fun Z hZ => ?_)
  refine sx_loadA 1 rfl rfl tyA52 tyS52 (by first | (simp only [List.length_cons, List.length_nil, Nat.reduceAdd, Nat.zero_add, Nat.add_zero]; first | done | rfl) | rfl) (by first | (simp only [List.take_succ_cons, List.take_zero, List.drop_succ_cons, List.drop_zero, List.cons_append, List.nil_append, List.append_nil, List.length_cons, List.length_nil, Nat.reduceAdd, Nat.zero_add, Nat.add_zero, Value.cells, wrV]; first | done | rfl) | rfl) rfl ?_
  refine sx_fieldAddr rfl tyF64_0 (by first | (simp only [Nat.reduceAdd, Nat.add_zero, Nat.zero_add]; first | done | rfl) | rfl) rfl ?_
  refine sx_load 0 rfl rfl tyA3 tyS3 rfl rfl ?_
  refine sx_callP (square_fn z n a b hZm ha hb) rfl rfl ?_
  refine sx_alloc tyZ64 rfl (fun g3 => ?_)
  refine sx_store 0 rfl rfl rfl tyS64 (by first | (simp only [Value.cells]; first | done | rfl) | rfl) rfl rfl (by first | (simp only [List.length_cons, List.length_nil, Nat.reduceAdd, Nat.zero_add, Nat.add_zero]; first | done | rfl) | rfl) (by first | (simp only [List.take_succ_cons, List.take_zero, List.drop_succ_cons, List.drop_zero, List.cons_append, List.nil_append, List.append_nil, List.length_cons, List.length_nil, Nat.reduceAdd, Nat.zero_add, Nat.add_zero, Value.cells, wrV]; first | done | rfl) | rfl) (by first | (simp only [List.set_cons_succ, List.set_cons_zero]; first | done | rfl) | rfl) ?_
  refine sx_nil (hZ _ _ ?_)
  refine awp_forget [(2, _), (3, _), (4, _), (7, _)] (Kn.cons rfl (Kn.cons rfl (Kn.cons rfl (Kn.cons rfl (Kn.nil))))) ?_

  refine awp_seq ?_
  refine awp_seq_region (fun Z hZ => ?_)
  refine sx_loadA 0 rfl rfl tyA64 tyS64 (by first | (simp only [List.length_cons, List.length_nil, Nat.reduceAdd, Nat.zero_add, Nat.add_zero]; first | done | rfl) | rfl) (by first | (simp only [List.take_succ_cons, List.take_zero, List.drop_succ_cons, List.drop_zero, List.cons_append, List.nil_append, List.append_nil, List.length_cons, List.length_nil, Nat.reduceAdd, Nat.zero_add, Nat.add_zero, Value.cells, wrV]; first | done | rfl) | rfl) rfl ?_
  refine sx_loadA 1 rfl rfl tyA64 tyS64 (by first | (simp only [List.length_cons, List.length_nil, Nat.reduceAdd, Nat.zero_add, Nat.add_zero]; first | done | rfl) | rfl) (by first | (simp only [List.take_succ_cons, List.take_zero, List.drop_succ_cons, List.drop_zero, List.cons_append, List.nil_append, List.append_nil, List.length_cons, List.length_nil, Nat.reduceAdd, Nat.zero_add, Nat.add_zero, Value.cells, wrV]; first | done | rfl) | rfl) rfl ?_
  refine sx_callP (apart_fn (sqR z n a b) ⟨(z + n : Nat), A, B, C, D⟩) rfl rfl ?_
  refine sx_nil (hZ _ _ ?_)
  refine awp_forget [(2, _), (3, _), (4, _), (7, _), (21, _)] (Kn.cons rfl (Kn.cons rfl (Kn.cons rfl (Kn.cons rfl (Kn.cons rfl (Kn.nil)))))) ?_
  refine awp_cond rfl (fun h1 => ?_) (fun h1 => ?_)
  · have h1' := of_decide_eq_true h1
    refine awp_seq_region (fun Z hZ => ?_)
    refine sx_assign rfl rfl ?_
    refine sx_nil (hZ _ _ ?_)
    refine awp_forget [(6, _)] (Kn.cons rfl (Kn.nil)) ?_
    refine awp_ret ?_
    repeat (with_reducible refine nx_then_ret ?_)
    exact nx_ret1h _ rfl rfl (HLe.drop 3 rfl) ⟨u, L, _, true, rfl, hu, rfl, hd.skip _ (sq_none ha hb (by simp only [sqR] at h1'; omega)), .inl ⟨rfl, hL, rfl⟩⟩
  have h1' := of_decide_eq_false h1
  refine awp_skip ?_
  with_reducible refine nx_normal ?_
  refine awp_seq ?_
  refine awp_seq_region (fun Z hZ => ?_)
  refine sx_loadA 0 rfl rfl tyA64 tyS64 (by first | (simp only [List.length_cons, List.length_nil, Nat.reduceAdd, Nat.zero_add, Nat.add_zero]; first | done | rfl) | rfl) (by first | (simp only [List.take_succ_cons, List.take_zero, List.drop_succ_cons, List.drop_zero, List.cons_append, List.nil_append, List.append_nil, List.length_cons, List.length_nil, Nat.reduceAdd, Nat.zero_add, Nat.add_zero, Value.cells, wrV]; first | done | rfl) | rfl) rfl ?_
  refine sx_loadA 1 rfl rfl tyA64 tyS64 (by first | (simp only [List.length_cons, List.length_nil, Nat.reduceAdd, Nat.zero_add, Nat.add_zero]; first | done | rfl) | rfl) (by first | (simp only [List.take_succ_cons, List.take_zero, List.drop_succ_cons, List.drop_zero, List.cons_append, List.nil_append, List.append_nil, List.length_cons, List.length_nil, Nat.reduceAdd, Nat.zero_add, Nat.add_zero, Value.cells, wrV]; first | done | rfl) | rfl) rfl ?_
  refine sx_callP (within_fn (sqR z n a b) ⟨(z + n : Nat), A, B, C, D⟩) rfl rfl ?_
  refine sx_nil (hZ _ _ ?_)
  refine awp_forget [(2, _), (3, _), (4, _), (24, _)] (Kn.cons rfl (Kn.cons rfl (Kn.cons rfl (Kn.cons rfl (Kn.nil))))) ?_
  refine awp_cond rfl (fun h2 => ?_) (fun h2 => ?_)
  · have h2' := of_decide_eq_true h2
    have hj := hd.join h4n (sq_all ha hb (by simp only [sqR] at h2'; omega))
    have hr := tRange_fn z n a b hZm ha hb
    obtain ⟨s, hs⟩ : ∃ s : Sp, (⟨base4 (z + n) + hp z a b * 4 ^ n, base4 (z + n) + hp z a b * 4 ^ n + 4 ^ n - 1⟩ : Sp) = s := ⟨_, rfl⟩
    rw [hs] at hj
    have hso : SpsOk (s :: L) := fun x hx => by
      rcases List.mem_cons.1 hx with rfl | hx
      · rw [← hs]
        exact ⟨by show base4 (z + n) + hp z a b * 4 ^ n < _; omega, by show base4 (z + n) + hp z a b * 4 ^ n + 4 ^ n - 1 < _; omega⟩
      · have h3 := hbelow x hx
        have h4 := hd.plain.ok x hx
        exact ⟨by omega, by omega⟩
    refine awp_seq_region (fun Z hZ => ?_)
    refine sx_loadA 2 rfl rfl tyA52 tyS52 (by first | (simp only [List.length_cons, List.length_nil, Nat.reduceAdd, Nat.zero_add, Nat.add_zero]; first | done | rfl) | rfl) (by first | (simp only [List.take_succ_cons, List.take_zero, List.drop_succ_cons, List.drop_zero, List.cons_append, List.nil_append, List.append_nil, List.length_cons, List.length_nil, Nat.reduceAdd, Nat.zero_add, Nat.add_zero, Value.cells, wrV]; first | done | rfl) | rfl) rfl ?_
    refine sx_fieldAddr rfl tyF64_0 (by first | (simp only [Nat.reduceAdd, Nat.add_zero, Nat.zero_add]; first | done | rfl) | rfl) rfl ?_
    refine sx_load 1 rfl rfl tyA3 tyS3 rfl rfl ?_
    refine sx_callP (hr) rfl rfl ?_
    refine sx_move rfl rfl ?_
    refine sx_extract rfl rfl rfl ?_
    refine sx_extract rfl rfl rfl ?_
    refine sx_extract rfl rfl rfl ?_
    refine sx_assign rfl rfl ?_
    refine sx_assign rfl rfl ?_
    refine sx_assign rfl rfl ?_
    refine sx_nil (hZ _ _ ?_)
    refine awp_forget [(2, _), (8, _), (9, _)] (Kn.cons rfl (Kn.cons rfl (Kn.cons rfl (Kn.nil)))) ?_
    refine awp_seq_region (fun Z hZ => ?_)
    refine sx_move rfl rfl ?_
    refine sx_move rfl rfl ?_
    refine sx_move rfl rfl ?_
    refine sx_build tyZ43 tyP43 rfl rfl (by first | (simp only [List.take_succ_cons, List.take_zero, List.drop_succ_cons, List.drop_zero, List.cons_append, List.nil_append, List.append_nil, List.length_cons, List.length_nil, Nat.reduceAdd, Nat.zero_add, Nat.add_zero, Value.cells, wrV, zrep_one, List.replicate_succ, List.replicate_zero, Nat.reduceMul, Nat.zero_mul]; first | done | rfl) | rfl) rfl ?_
    refine sx_callFO (vs := [s.val]) (HW go gm u L most) [] (cput_fn go gm u L s most hu (by omega) hso) rfl (by rw [← hs]; rfl) (by rw [List.append_nil]; exact HLe.drop 3 rfl) rfl ?_
    rintro v' H' ⟨u', rfl, hu', rfl⟩
    rw [hw_flt, List.append_nil]
    refine sx_assign rfl rfl ?_
    refine sx_nil (hZ _ _ ?_)
    refine awp_forget [(6, _)] (Kn.cons rfl (Kn.nil)) ?_
    refine awp_ret ?_
    repeat (with_reducible refine nx_then_ret ?_)
    refine nx_ret1h _ rfl rfl (HLe.refl _) ⟨u', joinQ L s, _, _, rfl, hu', rfl, hj, ?_⟩
    by_cases h : (joinQ L s).length ≤ most
    · exact .inl ⟨decide_eq_true h, h, rfl⟩
    · exact .inr ⟨decide_eq_false h, by omega, hle⟩
  have h2' := of_decide_eq_false h2
  refine awp_skip ?_
  with_reducible refine nx_normal ?_
  obtain ⟨m, rfl⟩ : ∃ m, n = m + 1 := by
    refine ⟨n - 1, ?_⟩
    rcases Nat.eq_zero_or_pos n with h | h
    · subst h
      simp only [sqR, Nat.pow_zero, Nat.mul_one] at h1' h2'
      omega
    · omega
  have hdn := tDown_fn z a b (by omega) ha hb
  obtain ⟨h, hh⟩ : ∃ h, hp z a b = h := ⟨_, rfl⟩
  rw [hh] at hq hle hd hdn ⊢
  refine awp_seq_region (fun Z hZ => ?_)
  refine sx_loadA 2 rfl rfl tyA52 tyS52 (by first | (simp only [List.length_cons, List.length_nil, Nat.reduceAdd, Nat.zero_add, Nat.add_zero]; first | done | rfl) | rfl) (by first | (simp only [List.take_succ_cons, List.take_zero, List.drop_succ_cons, List.drop_zero, List.cons_append, List.nil_append, List.append_nil, List.length_cons, List.length_nil, Nat.reduceAdd, Nat.zero_add, Nat.add_zero, Value.cells, wrV]; first | done | rfl) | rfl) rfl ?_
  refine sx_callU [] hdn rfl (List.nil_sublist _) Ro.nil rfl ?_
  rintro v2 H2 ⟨w2, rfl, hw2, rfl⟩
  rw [rowE_flt]
  refine sx_move rfl rfl ?_
  refine sx_extract rfl rfl rfl ?_
  refine sx_extract rfl rfl rfl ?_
  refine sx_assign rfl rfl ?_
  refine sx_assign rfl rfl ?_
  refine sx_nil (hZ _ _ ?_)
  refine awp_forget [(2, _), (4, _), (11, _)] (Kn.cons rfl (Kn.cons rfl (Kn.cons rfl (Kn.nil)))) ?_
  obtain ⟨gk, ck, rfl⟩ := hw2.some (by omega)
  obtain ⟨K, hK⟩ : ∃ K, ptsL (z + 1) (4 * h) 4 = K := ⟨_, rfl⟩
  have hKl : K.length = 4 := by rw [← hK]; exact ptsL_len _ _ _
  rw [hK]
  refine awp_heap (.ob gk (RowP 52 3 4 ck (tlc (z + 1) K)) :: .own g2 64 (Rc.mk (z + (m + 1) : Nat) A B C D).cells :: HW go gm u L most) (HLe.sub (List.Sublist.cons_cons _ (.cons _ (.cons_cons _ (.cons _ (List.Sublist.refl _)))))) ?_

  refine awp_seq ?_
  refine awp_seq_region (fun Z hZ => ?_)
  refine sx_move rfl rfl ?_
  refine sx_len Try.underlying55 rfl rfl ?_
  refine sx_move rfl rfl ?_
  refine sx_nil (hZ _ _ ?_)
  refine awp_forget [(2, _), (4, _), (43, _), (44, _), (45, _)] (Kn.cons rfl (Kn.cons rfl (Kn.cons rfl (Kn.cons rfl (Kn.cons rfl (Kn.nil)))))) ?_
  refine awp_block ?_
  refine awp_loop (ι := Nat × Value × List Sp) (fun i => [(2, .func (.func 83) #[] #[ptr go 0, ptr gm 0]), (4, ptr g2 0), (43, .slice (some ⟨gk, 0, none⟩) 4 ck), (44, iq (4 : Nat)), (45, iq (i.1 : Nat))]) (fun i => .ob gk (RowP 52 3 4 ck (tlc (z + 1) K)) :: .own g2 64 (Rc.mk (z + (m + 1) : Nat) A B C D).cells :: HW go gm i.2.1 i.2.2 most)
    (fun i => i.1 ≤ 4 ∧ RowOk i.2.1 i.2.2.length ∧ i.2.2.length ≤ most ∧ DoneQ (z + (m + 1)) (RIn A B C D) ((4 * h + i.1) * 4 ^ m) i.2.2) (fun i => 4 - i.1) (0, u, L) ⟨Nat.zero_le _, hu, hL, by rw [show (4 * h + 0) * 4 ^ m = h * 4 ^ (m + 1) by rw [Nat.pow_succ, Nat.add_zero, Nat.mul_comm 4 h, Nat.mul_assoc, Nat.mul_comm 4]]; exact hd⟩ (Kn.cons rfl (Kn.cons rfl (Kn.cons rfl (Kn.cons rfl (Kn.cons rfl Kn.nil))))) (HLe.refl _) ?_
  rintro ⟨i, u1, L1⟩ ⟨hi, hu1, hL1, hd1⟩
  replace hi : i ≤ 4 := hi
  replace hu1 : RowOk u1 L1.length := hu1
  replace hL1 : L1.length ≤ most := hL1
  replace hd1 : DoneQ (z + (m + 1)) (RIn A B C D) ((4 * h + i) * 4 ^ m) L1 := hd1
  refine awp_forget [(2, .func (.func 83) #[] #[ptr go 0, ptr gm 0]), (4, ptr g2 0), (43, .slice (some ⟨gk, 0, none⟩) 4 ck), (44, iq (4 : Nat)), (45, iq (i : Nat))] (Kn.cons rfl (Kn.cons rfl (Kn.cons rfl (Kn.cons rfl (Kn.cons rfl Kn.nil))))) ?_
  refine awp_heap (.ob gk (RowP 52 3 4 ck (tlc (z + 1) K)) :: .own g2 64 (Rc.mk (z + (m + 1) : Nat) A B C D).cells :: HW go gm u1 L1 most) (HLe.refl _) ?_
  refine awp_seq_region (fun Z hZ => ?_)
  refine sx_lss rfl rfl rfl ?_
  refine sx_nil (hZ _ _ ?_)
  refine awp_forget [(2, _), (4, _), (43, _), (44, _), (45, _), (46, _)] (Kn.cons rfl (Kn.cons rfl (Kn.cons rfl (Kn.cons rfl (Kn.cons rfl (Kn.cons rfl (Kn.nil))))))) ?_
  refine awp_seq (awp_cond rfl (fun h9 => ?_) (fun h9 => ?_))
  · have hlt : i < 4 := by simp at h9; omega
    obtain ⟨p, hpk⟩ : ∃ p, K[i]? = some p := ⟨_, List.getElem?_eq_getElem (by omega)⟩
    have hdl : 4 * h + i < 4 ^ (z + 1) := by rw [Nat.pow_succ]; omega
    have hpp : p = pt (z + 1) (4 * h + i) := by
      rw [← hK] at hpk
      unfold ptsL at hpk
      rw [List.getElem?_map, List.getElem?_range hlt] at hpk
      exact (Option.some.inj hpk).symm
    obtain ⟨hp1, hp2⟩ := pt_lt _ _ hdl
    have hpp2 := hp_pt _ _ hdl
    rw [← hpp] at hp1 hp2 hpp2
    have hw := ih m (Nat.lt_succ_self m) (z + 1) p.1 p.2 (by omega) hp1 hp2 u1 L1 hu1 hL1 (by rw [hpp2]; exact hd1)
    rw [hpp2] at hw
    refine awp_skip ?_
    with_reducible refine nx_normal ?_
    refine awp_seq (awp_block ?_)
    refine awp_seq_region (fun Z hZ => ?_)
    refine sx_indexAddr (0 + i * 3) Try.underlying55 tyS52 rfl rfl (by omega) (by simp) rfl ?_
    refine sx_loadRd (i * 3) rfl (by omega) (fun w hw1 => rd_row (i := 0) rfl hw1) (by omega) tyA52 tyS52 (tlc_all hpk) rfl ?_
    refine sx_alloc tyZ52 rfl (fun g4 => ?_)
    refine sx_store 0 rfl rfl rfl tyS52 (by first | (simp only [Value.cells]; first | done | rfl) | rfl) rfl rfl (by first | (simp only [List.length_cons, List.length_nil, Nat.reduceAdd, Nat.zero_add, Nat.add_zero]; first | done | rfl) | rfl) (by first | (simp only [List.take_succ_cons, List.take_zero, List.drop_succ_cons, List.drop_zero, List.cons_append, List.nil_append, List.append_nil, List.length_cons, List.length_nil, Nat.reduceAdd, Nat.zero_add, Nat.add_zero, Value.cells, wrV]; first | done | rfl) | rfl) (by first | (simp only [List.set_cons_succ, List.set_cons_zero]; first | done | rfl) | rfl) ?_
    refine sx_nil (hZ _ _ ?_)
    refine awp_forget [(2, _), (4, _), (14, _), (43, _), (44, _), (45, _)] (Kn.cons rfl (Kn.cons rfl (Kn.cons rfl (Kn.cons rfl (Kn.cons rfl (Kn.cons rfl (Kn.nil))))))) ?_

    refine awp_seq_region (fun Z hZ => ?_)
    refine sx_loadA 0 rfl rfl tyA52 tyS52 (by first | (simp only [List.length_cons, List.length_nil, Nat.reduceAdd, Nat.zero_add, Nat.add_zero]; first | done | rfl) | rfl) (by first | (simp only [List.take_succ_cons, List.take_zero, List.drop_succ_cons, List.drop_zero, List.cons_append, List.nil_append, List.append_nil, List.length_cons, List.length_nil, Nat.reduceAdd, Nat.zero_add, Nat.add_zero, Value.cells, wrV]; first | done | rfl) | rfl) rfl ?_
    refine sx_loadA 2 rfl rfl tyA64 tyS64 (by first | (simp only [List.length_cons, List.length_nil, Nat.reduceAdd, Nat.zero_add, Nat.add_zero]; first | done | rfl) | rfl) (by first | (simp only [List.take_succ_cons, List.take_zero, List.drop_succ_cons, List.drop_zero, List.cons_append, List.nil_append, List.append_nil, List.length_cons, List.length_nil, Nat.reduceAdd, Nat.zero_add, Nat.add_zero, Value.cells, wrV]; first | done | rfl) | rfl) rfl ?_
    refine sx_move rfl rfl ?_
    refine sx_callO (HW go gm u1 L1 most) [.own g4 52 (tcells (z + 1 : Nat) p.1 p.2), .ob gk (RowP 52 3 4 ck (tlc (z + 1) K)), .own g2 64 (Rc.mk (z + (m + 1) : Nat) A B C D).cells] (hw) rfl (HLe.swap [_, _, _] _) rfl ?_
    rintro v' H' ⟨u', L', D', g, rfl, hu', rfl, hd', hg⟩
    rw [hw_flt]
    refine sx_not rfl rfl ?_
    refine sx_nil (hZ _ _ ?_)
    refine awp_forget [(2, _), (4, _), (43, _), (44, _), (45, _), (53, _)] (Kn.cons rfl (Kn.cons rfl (Kn.cons rfl (Kn.cons rfl (Kn.cons rfl (Kn.cons rfl (Kn.nil))))))) ?_
    refine awp_cond rfl (fun h11 => ?_) (fun h11 => ?_)
    · obtain ⟨rfl, hg2, hg3⟩ : g = false ∧ most < L'.length ∧ D' ≤ 4 ^ (z + (m + 1)) := by
        rcases hg with ⟨rfl, _⟩ | hg
        · cases h11
        · exact hg
      refine awp_seq_region (fun Z hZ => ?_)
      refine sx_assign rfl rfl ?_
      refine sx_nil (hZ _ _ ?_)
      refine awp_forget [(6, _)] (Kn.cons rfl (Kn.nil)) ?_
      refine awp_ret ?_
      repeat (with_reducible (first | refine nx_then_ret ?_ | refine nx_block_ret ?_))
      exact nx_ret1h _ rfl rfl (HLe.sub (List.sublist_append_left _ _)) ⟨u', L', D', false, rfl, hu', rfl, hd', .inr ⟨rfl, hg2, hg3⟩⟩
    obtain ⟨rfl, hg2, hg3⟩ : g = true ∧ L'.length ≤ most ∧ D' = (4 * h + i) * 4 ^ m + 4 ^ m := by
      rcases hg with hg | ⟨rfl, _⟩
      · exact hg
      · cases h11
    refine awp_skip ?_
    repeat (with_reducible refine nx_block_normal ?_)
    with_reducible refine nx_normal ?_
    refine awp_region (fun Z hZ => ?_)
    refine sx_add rfl rfl ((i + 1 : Nat) : Int) (by rw [IntWalk.i64_in _ (by omega)]; omega) rfl ?_
    refine sx_move rfl rfl ?_
    refine sx_nil (hZ _ _ ?_)
    refine nx_forget [(2, _), (4, _), (43, _), (44, _), (45, _)] (Kn.cons rfl (Kn.cons rfl (Kn.cons rfl (Kn.cons rfl (Kn.cons rfl (Kn.nil)))))) ?_
    refine nx_round (i + 1, u', L') ⟨hlt, hu', hg2, ?_⟩ (show 4 - (i + 1) < 4 - i by omega) (Kn.cons rfl (Kn.cons rfl (Kn.cons rfl (Kn.cons rfl (Kn.cons rfl Kn.nil))))) ((HLe.drop 1 rfl).trans (HLe.swap (HW go gm u' L' most) [_, _, _]))
    show DoneQ (z + (m + 1)) (RIn A B C D) ((4 * h + (i + 1)) * 4 ^ m) L'
    rw [show (4 * h + (i + 1)) * 4 ^ m = (4 * h + i) * 4 ^ m + 4 ^ m by rw [← Nat.add_assoc, Nat.succ_mul], ← hg3]
    exact hd'
  · refine awp_exit ?_
    repeat (with_reducible refine nx_then_exit ?_)
    with_reducible refine nx_block_exit ?_
    with_reducible refine nx_normal ?_
    obtain rfl : i = 4 := by simp at h9; omega
    refine awp_seq_region (fun Z hZ => ?_)
    refine sx_assign rfl rfl ?_
    refine sx_nil (hZ _ _ ?_)
    refine awp_forget [(6, _)] (Kn.cons rfl (Kn.nil)) ?_
    refine awp_ret ?_
    refine nx_ret1h _ rfl rfl (HLe.drop 2 rfl) ⟨u1, L1, _, true, rfl, hu1, rfl, hd1, .inl ⟨rfl, hL1, ?_⟩⟩
    rw [Nat.pow_succ, Nat.mul_comm (4 ^ m), ← Nat.mul_assoc, Nat.mul_comm h, Nat.add_mul]
theorem cspans_arg (r : Rc) (most : Int) (hm : most < 1 ∨ 4096 < most) : Fn Try.prog 48 [r.val, iq most] [] fun v _ => v = .tuple #[.slice none 0 0, iq (2 : Int)] := by
  refine Fn.enter (N := 27) Try.func48 rfl (by kernel_rfl) rfl (fun w0 => ?_)

  refine awp_seq_region (fun Z hZ => ?_)
  refine sx_box rfl rfl rfl (fun g1 => ?_)
  refine sx_box rfl rfl rfl (fun g2 => ?_)
  refine sx_assign rfl rfl ?_
  refine sx_assign rfl rfl ?_
  refine sx_nil (hZ _ _ ?_)
  refine awp_forget [(2, _), (3, _)] (Kn.cons rfl (Kn.cons rfl (Kn.nil))) ?_

  refine awp_seq ?_
  refine awp_seq_meet [(14, .bool true)] [] (fun Z hZ => ?_) ?_
  · refine sx_load 0 rfl rfl tyA3 tyS3 rfl rfl ?_
    refine sx_lss rfl rfl rfl ?_
    refine sx_move rfl rfl ?_
    refine sx_split 11 rfl (fun hb2 => ?_) (fun hb2 => ?_)
    · refine sx_off rfl rfl rfl rfl rfl ?_
      refine sx_off rfl rfl rfl rfl rfl ?_
      refine sx_pick rfl rfl rfl ?_
      refine sx_nil (hZ _ _ ?_ ?_)
      · exact Kn.cons (congrArg some (congrArg Value.bool (by first | rfl | (exfalso; simp at *; omega) | (simp at *; done) | (simp at *; omega)))) Kn.nil
      · exact HLe.sub (List.nil_sublist _)
    · refine sx_on rfl rfl rfl ?_
      refine sx_load 0 rfl rfl tyA3 tyS3 rfl rfl ?_
      refine sx_on rfl rfl rfl ?_
      refine sx_gtr rfl rfl rfl ?_
      refine sx_pick rfl rfl rfl ?_
      refine sx_nil (hZ _ _ ?_ ?_)
      · exact Kn.cons (congrArg some (congrArg Value.bool (by first | rfl | (exfalso; simp at *; omega) | (simp at *; done) | (simp at *; omega)))) Kn.nil
      · exact HLe.sub (List.nil_sublist _)
  refine awp_cond rfl (fun h => ?_) (fun h => ?_)
  · refine awp_seq_region (fun Z hZ => ?_)
    refine sx_assign rfl rfl ?_
    refine sx_assign rfl rfl ?_
    refine sx_nil (hZ _ _ ?_)
    refine awp_forget [(4, _), (5, _)] (Kn.cons rfl (Kn.cons rfl (Kn.nil))) ?_
    refine awp_ret ?_
    repeat (with_reducible refine nx_then_ret ?_)
    exact nx_ret2 rfl rfl rfl rfl
  cases h
theorem cspans_chk (r : Rc) (most : Int) (h1 : 1 ≤ most) (h2 : most ≤ 4096) (hc : chkE r ≠ 0) : Fn Try.prog 48 [r.val, iq most] [] fun v _ => v = .tuple #[.slice none 0 0, iq (chkE r)] := by
  have hck := cCheck_fn r
  obtain ⟨e, he⟩ : ∃ e, chkE r = e := ⟨_, rfl⟩
  rw [he] at hck hc ⊢
  refine Fn.enter (N := 27) Try.func48 rfl (by kernel_rfl) rfl (fun w0 => ?_)

  refine awp_seq_region (fun Z hZ => ?_)
  refine sx_box rfl rfl rfl (fun g1 => ?_)
  refine sx_box rfl rfl rfl (fun g2 => ?_)
  refine sx_assign rfl rfl ?_
  refine sx_assign rfl rfl ?_
  refine sx_nil (hZ _ _ ?_)
  refine awp_forget [(2, _), (3, _)] (Kn.cons rfl (Kn.cons rfl (Kn.nil))) ?_

  refine awp_seq ?_
  refine awp_seq_meet [(2, ptr g1 0), (3, ptr g2 0), (14, .bool false)] [.own g1 64 r.cells] (fun Z hZ => ?_) ?_
  · refine sx_load 0 rfl rfl tyA3 tyS3 rfl rfl ?_
    refine sx_lss rfl rfl rfl ?_
    refine sx_move rfl rfl ?_
    refine sx_split 11 rfl (fun hb2 => ?_) (fun hb2 => ?_)
    · refine sx_off rfl rfl rfl rfl rfl ?_
      refine sx_off rfl rfl rfl rfl rfl ?_
      refine sx_pick rfl rfl rfl ?_
      refine sx_nil (hZ _ _ ?_ ?_)
      · exact Kn.cons rfl (Kn.cons rfl (Kn.cons (congrArg some (congrArg Value.bool (by first | rfl | (exfalso; simp at *; omega) | (simp at *; done) | (simp at *; omega)))) Kn.nil))
      · exact HLe.drop 1 rfl
    · refine sx_on rfl rfl rfl ?_
      refine sx_load 0 rfl rfl tyA3 tyS3 rfl rfl ?_
      refine sx_on rfl rfl rfl ?_
      refine sx_gtr rfl rfl rfl ?_
      refine sx_pick rfl rfl rfl ?_
      refine sx_nil (hZ _ _ ?_ ?_)
      · exact Kn.cons rfl (Kn.cons rfl (Kn.cons (congrArg some (congrArg Value.bool (by first | rfl | (exfalso; simp at *; omega) | (simp at *; done) | (simp at *; omega)))) Kn.nil))
      · exact HLe.drop 1 rfl
  refine awp_cond rfl (fun h => ?_) (fun h => ?_)
  · cases h
  refine awp_skip ?_
  with_reducible refine nx_normal ?_

  refine awp_seq ?_
  refine awp_seq_region (fun Z hZ => ?_)
  first | refine sx_loadA 0 rfl rfl tyA64 tyS64 (by first | (simp only [List.length_cons, List.length_nil, Nat.reduceAdd, Nat.zero_add, Nat.add_zero]; first | done | rfl) | rfl) (by first | (simp only [List.take_succ_cons, List.take_zero, List.drop_succ_cons, List.drop_zero, List.cons_append, List.nil_append, List.append_nil, List.length_cons, List.length_nil, Nat.reduceAdd, Nat.zero_add, Nat.add_zero, Value.cells, wrV]; first | done | rfl) | rfl) rfl ?_
  refine sx_callP (hck) rfl rfl ?_
  refine sx_assign rfl rfl ?_
  refine sx_nil (hZ _ _ ?_)
  refine awp_forget [(2, _), (3, _), (6, _)] (Kn.cons rfl (Kn.cons rfl (Kn.cons rfl (Kn.nil)))) ?_
  refine awp_seq_region (fun Z hZ => ?_)
  refine sx_move rfl rfl ?_
  refine sx_neq rfl rfl rfl ?_
  refine sx_nil (hZ _ _ ?_)
  refine awp_forget [(2, _), (3, _), (6, _), (18, _)] (Kn.cons rfl (Kn.cons rfl (Kn.cons rfl (Kn.cons rfl (Kn.nil))))) ?_
  refine awp_cond rfl (fun h4 => ?_) (fun h4 => ?_)
  · refine awp_seq_region (fun Z hZ => ?_)
    refine sx_move rfl rfl ?_
    refine sx_assign rfl rfl ?_
    refine sx_assign rfl rfl ?_
    refine sx_nil (hZ _ _ ?_)
    refine awp_forget [(4, _), (5, _)] (Kn.cons rfl (Kn.cons rfl (Kn.nil))) ?_
    refine awp_ret ?_
    repeat (with_reducible refine nx_then_ret ?_)
    exact nx_ret2 rfl rfl rfl rfl
  exact absurd (by simpa using h4) hc
theorem cspans_fn {r : Rc} {Zm A B C D : Nat} (hr : r.Ok Zm A B C D) (most : Nat) (h1 : 1 ≤ most) (h2 : most ≤ 4096) (L : List Sp) (hL : DoneQ Zm (RIn A B C D) (4 ^ Zm) L) :
    Fn Try.prog 48 [r.val, iq (most : Nat)] [] fun v H' => (L.length ≤ most ∧ ∃ u, v = .tuple #[u, iq (0 : Int)] ∧ RowOk u L.length ∧ H' = rowE u 43 2 (scells L)) ∨ (most < L.length ∧ v = .tuple #[.slice none 0 0, iq (21 : Int)] ∧ H' = []) := by
  have hck := cCheck_fn r
  rw [hr.chk] at hck
  obtain ⟨rfl, hZm, hx, hy, hxl, hyl⟩ := hr
  have e00 : hp 0 0 0 * 4 ^ Zm = 0 := by rw [show hp 0 0 0 = 0 from rfl, Nat.zero_mul]
  have hwk := fun go gm => walk_fn go gm most Zm A B C D hZm hxl hyl hx hy h2 Zm 0 0 0 (Nat.zero_add Zm) (by decide) (by decide) (.slice none 0 0) [] RowOk.nil (Nat.zero_le _) (by rw [e00]; exact DoneQ.nil)
  simp only [e00, Nat.zero_add] at hwk
  refine Fn.enter (N := 27) Try.func48 rfl (by kernel_rfl) rfl (fun w0 => ?_)

  refine awp_seq_region (fun Z hZ => ?_)
  refine sx_box rfl rfl rfl (fun g1 => ?_)
  refine sx_box rfl rfl rfl (fun g2 => ?_)
  refine sx_assign rfl rfl ?_
  refine sx_assign rfl rfl ?_
  refine sx_nil (hZ _ _ ?_)
  refine awp_forget [(2, _), (3, _)] (Kn.cons rfl (Kn.cons rfl (Kn.nil))) ?_

  refine awp_seq ?_
  refine awp_seq_meet [(2, ptr g1 0), (3, ptr g2 0), (14, .bool false)] [.own g2 3 [iq (most : Nat)], .own g1 64 (Rc.mk (Zm : Nat) A B C D).cells] (fun Z hZ => ?_) ?_
  · refine sx_load 0 rfl rfl tyA3 tyS3 rfl rfl ?_
    refine sx_lss rfl rfl rfl ?_
    refine sx_move rfl rfl ?_
    refine sx_split 11 rfl (fun hb2 => ?_) (fun hb2 => ?_)
    · refine sx_off rfl rfl rfl rfl rfl ?_
      refine sx_off rfl rfl rfl rfl rfl ?_
      refine sx_pick rfl rfl rfl ?_
      refine sx_nil (hZ _ _ ?_ ?_)
      · exact Kn.cons rfl (Kn.cons rfl (Kn.cons (congrArg some (congrArg Value.bool (by first | rfl | (exfalso; simp at *; omega) | (simp at *; done) | (simp at *; omega)))) Kn.nil))
      · exact HLe.refl _
    · refine sx_on rfl rfl rfl ?_
      refine sx_load 0 rfl rfl tyA3 tyS3 rfl rfl ?_
      refine sx_on rfl rfl rfl ?_
      refine sx_gtr rfl rfl rfl ?_
      refine sx_pick rfl rfl rfl ?_
      refine sx_nil (hZ _ _ ?_ ?_)
      · exact Kn.cons rfl (Kn.cons rfl (Kn.cons (congrArg some (congrArg Value.bool (by first | rfl | (exfalso; simp at *; omega) | (simp at *; done) | (simp at *; omega)))) Kn.nil))
      · exact HLe.refl _
  refine awp_cond rfl (fun h => ?_) (fun h => ?_)
  · cases h
  refine awp_skip ?_
  with_reducible refine nx_normal ?_
  refine awp_seq ?_
  refine awp_seq_region (fun Z hZ => ?_)
  refine sx_loadA 1 rfl rfl tyA64 tyS64 (by first | (simp only [List.length_cons, List.length_nil, Nat.reduceAdd, Nat.zero_add, Nat.add_zero]; first | done | rfl) | rfl) (by first | (simp only [List.take_succ_cons, List.take_zero, List.drop_succ_cons, List.drop_zero, List.cons_append, List.nil_append, List.append_nil, List.length_cons, List.length_nil, Nat.reduceAdd, Nat.zero_add, Nat.add_zero, Value.cells, wrV]; first | done | rfl) | rfl) rfl ?_
  refine sx_callP (hck) rfl rfl ?_
  refine sx_assign rfl rfl ?_
  refine sx_nil (hZ _ _ ?_)
  refine awp_forget [(2, _), (3, _), (6, _)] (Kn.cons rfl (Kn.cons rfl (Kn.cons rfl (Kn.nil)))) ?_
  refine awp_seq_region (fun Z hZ => ?_)
  refine sx_move rfl rfl ?_
  refine sx_neq rfl rfl rfl ?_
  refine sx_nil (hZ _ _ ?_)
  refine awp_forget [(2, _), (3, _), (6, _), (18, _)] (Kn.cons rfl (Kn.cons rfl (Kn.cons rfl (Kn.cons rfl (Kn.nil))))) ?_
  refine awp_cond rfl (fun h4 => ?_) (fun h4 => ?_)
  · cases h4
  refine awp_skip ?_
  with_reducible refine nx_normal ?_
  refine awp_seq_region (fun Z hZ => ?_)
  refine sx_alloc tyZ24 rfl (fun g3 => ?_)
  refine sx_nil (hZ _ _ ?_)
  refine awp_forget [(2, _), (3, _), (7, _)] (Kn.cons rfl (Kn.cons rfl (Kn.cons rfl (Kn.nil)))) ?_

  refine awp_seq_region (fun Z hZ => ?_)
  refine sx_makeFunc rfl rfl ?_
  refine sx_assign rfl rfl ?_
  refine sx_nil (hZ _ _ ?_)
  refine awp_forget [(2, _), (7, _), (8, _)] (Kn.cons rfl (Kn.cons rfl (Kn.cons rfl (Kn.nil)))) ?_
  refine awp_seq ?_
  refine awp_seq_region (fun Z hZ => ?_)
  refine sx_build tyZ52 tyP52 rfl rfl (by first | (simp only [List.take_succ_cons, List.take_zero, List.drop_succ_cons, List.drop_zero, List.cons_append, List.nil_append, List.append_nil, List.length_cons, List.length_nil, Nat.reduceAdd, Nat.zero_add, Nat.add_zero, Value.cells, wrV, zrep_one, List.replicate_succ, List.replicate_zero, Nat.reduceMul, Nat.zero_mul]; first | done | rfl) | rfl) rfl ?_
  refine sx_loadA 2 rfl rfl tyA64 tyS64 (by first | (simp only [List.length_cons, List.length_nil, Nat.reduceAdd, Nat.zero_add, Nat.add_zero]; first | done | rfl) | rfl) (by first | (simp only [List.take_succ_cons, List.take_zero, List.drop_succ_cons, List.drop_zero, List.cons_append, List.nil_append, List.append_nil, List.length_cons, List.length_nil, Nat.reduceAdd, Nat.zero_add, Nat.add_zero, Value.cells, wrV]; first | done | rfl) | rfl) rfl ?_
  refine sx_move rfl rfl ?_
  refine sx_callO (HW g3 g2 (.slice none 0 0) [] most) [.own g1 64 (Rc.mk (Zm : Nat) A B C D).cells] (hwk g3 g2) rfl (HLe.refl _) rfl ?_
  rintro v' H' ⟨u', L', D', g, rfl, hu', rfl, hd', hg⟩
  rw [hw_flt]
  refine sx_not rfl rfl ?_
  refine sx_nil (hZ _ _ ?_)
  refine awp_forget [(7, _), (25, _)] (Kn.cons rfl (Kn.cons rfl (Kn.nil))) ?_
  refine awp_cond rfl (fun h8 => ?_) (fun h8 => ?_)
  · obtain ⟨rfl, hg2, hg3⟩ : g = false ∧ most < L'.length ∧ D' ≤ 4 ^ Zm := by
      rcases hg with ⟨rfl, _⟩ | hg
      · cases h8
      · exact hg
    have := hd'.mono hL hg3
    refine awp_seq_region (fun Z hZ => ?_)
    refine sx_assign rfl rfl ?_
    refine sx_assign rfl rfl ?_
    refine sx_nil (hZ _ _ ?_)
    refine awp_forget [(4, _), (5, _)] (Kn.cons rfl (Kn.cons rfl (Kn.nil))) ?_
    refine awp_ret ?_
    repeat (with_reducible refine nx_then_ret ?_)
    exact nx_ret2h [] rfl rfl rfl (HLe.sub (List.nil_sublist _)) (.inr ⟨by omega, rfl, rfl⟩)
  obtain ⟨rfl, hg2, hg3⟩ : g = true ∧ L'.length ≤ most ∧ D' = 4 ^ Zm := by
    rcases hg with hg | ⟨rfl, _⟩
    · exact hg
    · cases h8
  rw [hg3] at hd'
  obtain rfl := hd'.uniq hL
  refine awp_skip ?_
  with_reducible refine nx_normal ?_

  refine awp_seq_region (fun Z hZ => ?_)
  refine sx_load 0 rfl rfl tyA24 tyS24 rfl rfl ?_
  refine sx_assign rfl rfl ?_
  refine sx_assign rfl rfl ?_
  refine sx_nil (hZ _ _ ?_)
  refine awp_forget [(4, _), (5, _)] (Kn.cons rfl (Kn.cons rfl (Kn.nil))) ?_
  refine awp_ret ?_
  exact nx_ret2h _ rfl rfl rfl ((HLe.drop 2 rfl).trans (HLe.sub (List.sublist_append_left _ _))) (.inl ⟨hg2, u', rfl, hu', rfl⟩)
end Go.Proofs.Ytbldhokgbcljjaa
