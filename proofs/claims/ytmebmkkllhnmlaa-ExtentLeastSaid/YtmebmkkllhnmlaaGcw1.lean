/- A rectangle's tiles as places on the curve, one behind the other: plain laws. The walks of a rectangle's Check, Size and Has, of the program and of the document. No conditions. -/
import Derived.Test.YtmebmkkllhnmlaaGmk1
import Derived.Test.YtmebmkkllhnmlaaGmk2
import Derived.Test.YtmebmkkllhnmlaaGcu1
namespace Go.Proofs.Ytmebmkkllhnmlaa
open Go.RowKit
set_option linter.unusedVariables false
set_option linter.unusedSimpArgs false
/-- A plain list of those places below D that have a property. -/
structure DoneQ (Z : Nat) (P : Nat → Nat → Prop) (D : Nat) (L : List Sp) : Prop where
  plain : Plain L
  is_ : ∀ k, inS L k ↔ base4 Z ≤ k ∧ k < base4 Z + D ∧ P (pt Z (k - base4 Z)).1 (pt Z (k - base4 Z)).2
section
variable {Z D : Nat} {P : Nat → Nat → Prop} {L M : List Sp}
theorem DoneQ.nil : DoneQ Z P 0 [] := ⟨Plain.nil, fun k => ⟨fun h => absurd h (inS_nil k), fun h => by omega⟩⟩
theorem DoneQ.skip (h : DoneQ Z P D L) (m : Nat) (hn : ∀ e, D ≤ e → e < D + m → ¬ P (pt Z e).1 (pt Z e).2) : DoneQ Z P (D + m) L := ⟨h.plain, fun k => by
  rw [h.is_ k]
  constructor
  · rintro ⟨h1, h2, h3⟩
    exact ⟨h1, by omega, h3⟩
  · rintro ⟨h1, h2, h3⟩
    refine ⟨h1, ?_, h3⟩
    rcases Nat.lt_or_ge k (base4 Z + D) with h4 | h4
    · exact h4
    · exact absurd h3 (hn (k - base4 Z) (by omega) (by omega))⟩
theorem DoneQ.uniq (h : DoneQ Z P D L) (k : DoneQ Z P D M) : L = M := plain_ext h.plain k.plain fun x => (h.is_ x).trans (k.is_ x).symm
theorem DoneQ.below (h : DoneQ Z P D L) : BelowS (base4 Z + D) L := (below_in h.plain).2 fun k hk => ((h.is_ k).1 hk).2.1
end
/-- What of a plain list lies below a number is not more. -/
def cutQ (n : Nat) (L : List Sp) : List Sp := (L.filter fun s => decide (s.a < n)).map fun s => ⟨s.a, min s.b (n - 1)⟩
theorem cut_plain {n : Nat} {L : List Sp} (h : Plain L) : Plain (cutQ n L) := by
  refine ⟨List.pairwise_map.2 ((h.gap.sublist List.filter_sublist).imp fun {s t} hg => by show min s.b (n - 1) + 1 < t.a; omega), fun s hs => ?_⟩
  obtain ⟨t, ht, rfl⟩ := List.mem_map.1 hs
  obtain ⟨h1, h2⟩ := List.mem_filter.1 ht
  have := h.ok t h1
  simp only [decide_eq_true_eq] at h2
  show t.a ≤ min t.b (n - 1)
  omega
theorem cut_in {n : Nat} {L : List Sp} (k : Nat) : inS (cutQ n L) k ↔ inS L k ∧ k < n := by
  constructor
  · rintro ⟨s, hs, h1, h2⟩
    obtain ⟨t, ht, rfl⟩ := List.mem_map.1 hs
    obtain ⟨h3, h4⟩ := List.mem_filter.1 ht
    simp only [decide_eq_true_eq] at h4
    replace h1 : t.a ≤ k := h1
    replace h2 : k ≤ min t.b (n - 1) := h2
    exact ⟨⟨t, h3, h1, by omega⟩, by omega⟩
  · rintro ⟨⟨t, ht, h1, h2⟩, h3⟩
    refine ⟨⟨t.a, min t.b (n - 1)⟩, List.mem_map.2 ⟨t, List.mem_filter.2 ⟨ht, by simp only [decide_eq_true_eq]; omega⟩, rfl⟩, h1, ?_⟩
    show k ≤ min t.b (n - 1)
    omega
theorem cut_le (n : Nat) (L : List Sp) : (cutQ n L).length ≤ L.length := by
  unfold cutQ
  rw [List.length_map]
  exact List.length_filter_le _ _
theorem DoneQ.mono {Z D E : Nat} {P : Nat → Nat → Prop} {L M : List Sp} (h : DoneQ Z P D L) (k : DoneQ Z P E M) (hde : D ≤ E) : L.length ≤ M.length := by
  have e : L = cutQ (base4 Z + D) M := plain_ext h.plain (cut_plain k.plain) fun x => by
    rw [cut_in, h.is_, k.is_]
    constructor
    · rintro ⟨h1, h2, h3⟩
      exact ⟨⟨h1, by omega, h3⟩, h2⟩
    · rintro ⟨⟨h1, _, h3⟩, h2⟩
      exact ⟨h1, h2, h3⟩
  rw [e]
  exact cut_le _ _
/-- The tiles of a rectangle. -/
def RIn (a b c d x y : Nat) : Prop := (a ≤ x ∧ x ≤ c) ∧ b ≤ y ∧ y ≤ d
instance (a b c d x y : Nat) : Decidable (RIn a b c d x y) := by unfold RIn; infer_instance
end Go.Proofs.Ytmebmkkllhnmlaa

namespace Go.Proofs.Ytmebmkkllhnmlaa
open Go.RowKit
set_option linter.unusedVariables false
set_option linter.unusedSimpArgs false
set_option maxRecDepth 100000
theorem nb_no {p : Prop} [Decidable p] (h : (!decide p) = true) : ¬ p := by simpa using h
theorem nb_yes {p : Prop} [Decidable p] (h : (!decide p) = false) : p := by simpa using h
/-- A rectangle, as it comes. -/
structure Rc where
  z : Int
  a : Int
  b : Int
  c : Int
  d : Int
abbrev Rc.cells (r : Rc) : List Value := [iq r.z, iq r.a, iq r.b, iq r.c, iq r.d]
abbrev Rc.val (r : Rc) : Value := .agg r.cells.toArray
def sideI (z : Int) : Int := if z < 0 ∨ 26 < z then 0 else ((2 ^ z.toNat : Nat) : Int)
theorem side_no {z : Int} (h : z < 0 ∨ 26 < z) : sideI z = 0 := if_pos h
theorem side_is {z : Nat} (h : z ≤ 26) : sideI z = ((2 ^ z : Nat) : Int) := by
  unfold sideI
  rw [if_neg (by omega), Int.toNat_natCast]
theorem cside_any (z : Int) : Fn Try.prog 48 [iq z] [] fun v _ => v = iq (sideI z) := by
  by_cases h : z < 0 ∨ 26 < z
  · rw [side_no h]
    exact cside_no z h
  · obtain ⟨n, rfl⟩ : ∃ n : Nat, z = n := ⟨z.toNat, by omega⟩
    rw [side_is (by omega)]
    exact cside_fn n (by omega)
theorem rside_any (z : Int) : Fn Try.prog 67 [iq z] [] fun v _ => v = iq (sideI z) := by
  by_cases h : z < 0 ∨ 26 < z
  · rw [side_no h]
    exact rside_no z h
  · obtain ⟨n, rfl⟩ : ∃ n : Nat, z = n := ⟨z.toNat, by omega⟩
    rw [side_is (by omega)]
    exact rside_fn n (by omega)
def chkE (r : Rc) : Int := if sideI r.z = 0 then 2 else if (0 ≤ r.a ∧ r.a ≤ r.c ∧ r.c < sideI r.z) ∧ (0 ≤ r.b ∧ r.b ≤ r.d ∧ r.d < sideI r.z) then 0 else 8
/-- A rectangle that may be. -/
structure Rc.Ok (r : Rc) (Z a b c d : Nat) : Prop where
  is_ : r = ⟨Z, a, b, c, d⟩
  zo : Z ≤ 26
  x : a ≤ c
  y : b ≤ d
  xl : c < 2 ^ Z
  yl : d < 2 ^ Z
theorem chk_ok {r : Rc} (h : chkE r = 0) : ∃ Z a b c d, r.Ok Z a b c d := by
  obtain ⟨z, a, b, c, d⟩ := r
  unfold chkE at h
  split at h
  · cases h
  · rename_i hs
    split at h
    · rename_i hr
      simp only at hs hr
      by_cases hz : z < 0 ∨ 26 < z
      · exact absurd (side_no hz) hs
      · obtain ⟨n, rfl⟩ : ∃ n : Nat, z = n := ⟨z.toNat, by omega⟩
        rw [side_is (by omega)] at hr
        have hb := pow2_pos n
        refine ⟨n, a.toNat, b.toNat, c.toNat, d.toNat, ?_, by omega, by omega, by omega, by omega, by omega⟩
        congr 1 <;> omega
    · cases h
theorem Rc.Ok.chk {r : Rc} {Z a b c d : Nat} (h : r.Ok Z a b c d) : chkE r = 0 := by
  obtain ⟨rfl, h1, h2, h3, h4, h5⟩ := h
  have hb := pow2_pos Z
  unfold chkE
  simp only
  rw [side_is h1, if_neg (by omega), if_pos (by omega)]
theorem chk_ways (r : Rc) : chkE r = 0 ∨ chkE r = 2 ∨ chkE r = 8 := by
  unfold chkE
  split
  · exact .inr (.inl rfl)
  · split
    · exact .inl rfl
    · exact .inr (.inr rfl)
/-- How many tiles it has. -/
def sizeQ (r : Rc) : Nat := if chkE r = 0 then ((r.c - r.a + 1) * (r.d - r.b + 1)).toNat else 0
theorem Rc.Ok.size {r : Rc} {Z a b c d : Nat} (h : r.Ok Z a b c d) : sizeQ r = (c + 1 - a) * (d + 1 - b) := by
  have hc := h.chk
  obtain ⟨rfl, h1, h2, h3, h4, h5⟩ := h
  unfold sizeQ
  rw [if_pos hc]
  simp only
  rw [show ((c : Int) - a + 1) = ((c + 1 - a : Nat) : Int) by omega, show ((d : Int) - b + 1) = ((d + 1 - b : Nat) : Int) by omega, ← Int.natCast_mul, Int.toNat_natCast]
theorem mul_le26 {m n : Nat} (hm : m ≤ 67108864) (hn : n ≤ 67108864) : m * n ≤ 4503599627370496 := Nat.mul_le_mul hm hn
theorem Rc.Ok.sizeLe {r : Rc} {Z a b c d : Nat} (h : r.Ok Z a b c d) : (c + 1 - a) * (d + 1 - b) ≤ 4503599627370496 := by
  have hb := pow2_le26 h.zo
  have := h.xl
  have := h.yl
  exact mul_le26 (by omega) (by omega)
def hasQ (r : Rc) (z x y : Int) : Bool := decide (chkE r = 0 ∧ z = r.z ∧ r.a ≤ x ∧ x ≤ r.c ∧ r.b ≤ y ∧ y ≤ r.d)
theorem cok_fn (a b n : Int) : Fn Try.prog 49 [iq a, iq b, iq n] [] fun v _ => v = .bool (decide (0 ≤ a ∧ a ≤ b ∧ b < n)) := by
  refine Fn.enter (N := 19) Try.func49 rfl (by kernel_rfl) rfl (fun w0 => ?_)

  refine awp_seq_region (fun Z hZ => ?_)
  refine sx_assign rfl rfl ?_
  refine sx_nil (hZ _ _ ?_)
  refine awp_forget [(0, _), (1, _), (2, _)] (Kn.cons rfl (Kn.cons rfl (Kn.cons rfl (Kn.nil)))) ?_
  refine awp_seq_meet [(6, .bool (decide (0 ≤ a ∧ a ≤ b ∧ b < n)))] [] (fun Z hZ => ?_) ?_
  · refine sx_move rfl rfl ?_
    refine sx_geq rfl rfl rfl ?_
    refine sx_move rfl rfl ?_
    refine sx_split 9 rfl (fun hb2 => ?_) (fun hb2 => ?_)
    · refine sx_on rfl rfl rfl ?_
      refine sx_move rfl rfl ?_
      refine sx_on rfl rfl rfl ?_
      refine sx_move rfl rfl ?_
      refine sx_on rfl rfl rfl ?_
      refine sx_leq rfl rfl rfl ?_
      refine sx_pick rfl rfl rfl ?_
      refine sx_move rfl rfl ?_
      refine sx_split 14 rfl (fun hb7 => ?_) (fun hb7 => ?_)
      · refine sx_on rfl rfl rfl ?_
        refine sx_move rfl rfl ?_
        refine sx_on rfl rfl rfl ?_
        refine sx_move rfl rfl ?_
        refine sx_on rfl rfl rfl ?_
        refine sx_lss rfl rfl rfl ?_
        refine sx_pick rfl rfl rfl ?_
        refine sx_assign rfl rfl ?_
        refine sx_nil (hZ _ _ ?_ ?_)
        · exact Kn.cons (congrArg some (congrArg Value.bool (by first | (exfalso; simp at *; omega) | (simp at *; done) | (simp at *; omega) | (rw [Bool.eq_iff_iff]; simp at *; omega)))) Kn.nil
        · exact HLe.sub (List.nil_sublist _)
      · refine sx_off rfl rfl rfl rfl rfl ?_
        refine sx_off rfl rfl rfl rfl rfl ?_
        refine sx_off rfl rfl rfl rfl rfl ?_
        refine sx_pick rfl rfl rfl ?_
        refine sx_assign rfl rfl ?_
        refine sx_nil (hZ _ _ ?_ ?_)
        · exact Kn.cons (congrArg some (congrArg Value.bool (by first | (exfalso; simp at *; omega) | (simp at *; done) | (simp at *; omega) | (rw [Bool.eq_iff_iff]; simp at *; omega)))) Kn.nil
        · exact HLe.sub (List.nil_sublist _)
    · refine sx_off rfl rfl rfl rfl rfl ?_
      refine sx_off rfl rfl rfl rfl rfl ?_
      refine sx_off rfl rfl rfl rfl rfl ?_
      refine sx_pick rfl rfl rfl ?_
      refine sx_move rfl rfl ?_
      refine sx_off rfl rfl rfl rfl rfl ?_
      refine sx_off rfl rfl rfl rfl rfl ?_
      refine sx_off rfl rfl rfl rfl rfl ?_
      refine sx_pick rfl rfl rfl ?_
      refine sx_assign rfl rfl ?_
      refine sx_nil (hZ _ _ ?_ ?_)
      · exact Kn.cons (congrArg some (congrArg Value.bool (by first | (exfalso; simp at *; omega) | (simp at *; done) | (simp at *; omega) | (rw [Bool.eq_iff_iff]; simp at *; omega)))) Kn.nil
      · exact HLe.sub (List.nil_sublist _)
  refine awp_ret ?_
  exact nx_ret1 rfl rfl rfl
theorem cCheck_fn (r : Rc) : Fn Try.prog 27 [r.val] [] fun v _ => v = iq (chkE r) := by
  have hs := cside_any r.z
  unfold chkE
  obtain ⟨n, hn⟩ : ∃ n, sideI r.z = n := ⟨_, rfl⟩
  rw [hn] at hs ⊢
  refine Fn.enter (N := 27) Try.func27 rfl (by kernel_rfl) rfl (fun w0 => ?_)

  refine awp_seq_region (fun Z hZ => ?_)
  refine sx_box rfl rfl rfl (fun g1 => ?_)
  refine sx_assign rfl rfl ?_
  refine sx_nil (hZ _ _ ?_)
  refine awp_forget [(1, _)] (Kn.cons rfl (Kn.nil)) ?_

  refine awp_seq_region (fun Z hZ => ?_)
  refine sx_fieldAddr rfl tyF33_0 (by first | (simp only [Nat.reduceAdd, Nat.add_zero, Nat.zero_add]; first | done | rfl) | rfl) rfl ?_
  first | refine sx_load 0 rfl rfl tyA3 tyS3 rfl rfl ?_
  refine sx_callP (hs) rfl rfl ?_
  refine sx_assign rfl rfl ?_
  refine sx_nil (hZ _ _ ?_)
  refine awp_forget [(1, _), (3, _)] (Kn.cons rfl (Kn.cons rfl (Kn.nil))) ?_
  refine awp_seq (awp_block ?_)
  refine awp_seq_region (fun Z hZ => ?_)
  refine sx_move rfl rfl ?_
  refine sx_eql rfl rfl rfl ?_
  refine sx_assign rfl rfl ?_
  refine sx_nil (hZ _ _ ?_)
  refine awp_forget [(1, _), (3, _), (7, _)] (Kn.cons rfl (Kn.cons rfl (Kn.cons rfl (Kn.nil)))) ?_
  refine awp_cond rfl (fun h1 => ?_) (fun h1 => ?_)
  · have hz : n = 0 := by simpa using h1
    rw [if_pos hz]
    refine awp_seq_region (fun Z hZ => ?_)
    refine sx_assign rfl rfl ?_
    refine sx_nil (hZ _ _ ?_)
    refine awp_forget [(2, _)] (Kn.cons rfl (Kn.nil)) ?_
    refine awp_ret ?_
    repeat (with_reducible (first | refine nx_then_ret ?_ | refine nx_block_ret ?_))
    exact nx_ret1 rfl rfl rfl
  have hz : ¬ n = 0 := by simpa using h1
  rw [if_neg hz]
  refine awp_seq_meet [(10, .bool (!decide ((0 ≤ r.a ∧ r.a ≤ r.c ∧ r.c < n) ∧ (0 ≤ r.b ∧ r.b ≤ r.d ∧ r.d < n))))] [] (fun Z hZ => ?_) ?_
  · refine sx_fieldAddr rfl tyF33_1 (by first | (simp only [Nat.reduceAdd, Nat.add_zero, Nat.zero_add]; first | done | rfl) | rfl) rfl ?_
    first | refine sx_load 0 rfl rfl tyA3 tyS3 rfl rfl ?_
    refine sx_fieldAddr rfl tyF33_3 (by first | (simp only [Nat.reduceAdd, Nat.add_zero, Nat.zero_add]; first | done | rfl) | rfl) rfl ?_
    first | refine sx_load 0 rfl rfl tyA3 tyS3 rfl rfl ?_
    refine sx_move rfl rfl ?_
    refine sx_callP (cok_fn r.a r.c n) rfl rfl ?_
    refine sx_not rfl rfl ?_
    refine sx_move rfl rfl ?_
    refine sx_split 18 rfl (fun hb7 => ?_) (fun hb7 => ?_)
    · refine sx_off rfl rfl rfl rfl rfl ?_
      refine sx_off rfl rfl rfl rfl rfl ?_
      refine sx_off rfl rfl rfl rfl rfl ?_
      refine sx_off rfl rfl rfl rfl rfl ?_
      refine sx_off rfl rfl rfl rfl rfl ?_
      refine sx_off rfl rfl rfl rfl rfl ?_
      refine sx_off rfl rfl rfl rfl rfl ?_
      refine sx_pick rfl rfl rfl ?_
      refine sx_assign rfl rfl ?_
      refine sx_nil (hZ _ _ ?_ ?_)
      · exact Kn.cons (congrArg some (congrArg Value.bool (by first | (exfalso; simp at *; omega) | (simp at *; done) | (simp at *; omega) | (rw [Bool.eq_iff_iff]; simp at *; omega)))) Kn.nil
      · exact HLe.sub (List.nil_sublist _)
    · refine sx_on rfl rfl rfl ?_
      refine sx_fieldAddr rfl tyF33_2 (by first | (simp only [Nat.reduceAdd, Nat.add_zero, Nat.zero_add]; first | done | rfl) | rfl) rfl ?_
      refine sx_on rfl rfl rfl ?_
      first | refine sx_load 0 rfl rfl tyA3 tyS3 rfl rfl ?_
      refine sx_on rfl rfl rfl ?_
      refine sx_fieldAddr rfl tyF33_4 (by first | (simp only [Nat.reduceAdd, Nat.add_zero, Nat.zero_add]; first | done | rfl) | rfl) rfl ?_
      refine sx_on rfl rfl rfl ?_
      first | refine sx_load 0 rfl rfl tyA3 tyS3 rfl rfl ?_
      refine sx_on rfl rfl rfl ?_
      refine sx_move rfl rfl ?_
      refine sx_on rfl rfl rfl ?_
      refine sx_callP (cok_fn r.b r.d n) rfl rfl ?_
      refine sx_on rfl rfl rfl ?_
      refine sx_not rfl rfl ?_
      refine sx_pick rfl rfl rfl ?_
      refine sx_assign rfl rfl ?_
      refine sx_nil (hZ _ _ ?_ ?_)
      · exact Kn.cons (congrArg some (congrArg Value.bool (by first | (exfalso; simp at *; omega) | (simp at *; done) | (simp at *; omega) | (rw [Bool.eq_iff_iff]; simp at *; omega)))) Kn.nil
      · exact HLe.sub (List.nil_sublist _)
  refine awp_cond rfl (fun h2 => ?_) (fun h2 => ?_)
  · have h2' : ¬ ((0 ≤ r.a ∧ r.a ≤ r.c ∧ r.c < n) ∧ (0 ≤ r.b ∧ r.b ≤ r.d ∧ r.d < n)) := nb_no h2
    rw [if_neg h2']
    refine awp_seq_region (fun Z hZ => ?_)
    refine sx_assign rfl rfl ?_
    refine sx_nil (hZ _ _ ?_)
    refine awp_forget [(2, _)] (Kn.cons rfl (Kn.nil)) ?_
    refine awp_ret ?_
    repeat (with_reducible (first | refine nx_then_ret ?_ | refine nx_block_ret ?_))
    exact nx_ret1 rfl rfl rfl
  have h2' : (0 ≤ r.a ∧ r.a ≤ r.c ∧ r.c < n) ∧ (0 ≤ r.b ∧ r.b ≤ r.d ∧ r.d < n) := nb_yes h2
  rw [if_pos h2']
  refine awp_skip ?_
  repeat (with_reducible refine nx_block_normal ?_)
  with_reducible refine nx_normal ?_
  refine awp_seq_region (fun Z hZ => ?_)
  refine sx_assign rfl rfl ?_
  refine sx_nil (hZ _ _ ?_)
  refine awp_forget [(2, _)] (Kn.cons rfl (Kn.nil)) ?_
  refine awp_ret ?_
  exact nx_ret1 rfl rfl rfl
theorem rCheck_fn (r : Rc) : Fn Try.prog 45 [r.val] [] fun v _ => v = iq (chkE r) := by
  have hs := rside_any r.z
  unfold chkE
  obtain ⟨n, hn⟩ : ∃ n, sideI r.z = n := ⟨_, rfl⟩
  rw [hn] at hs ⊢
  refine Fn.enter (N := 43) Try.func45 rfl (by kernel_rfl) rfl (fun w0 => ?_)

  refine awp_seq_region (fun Z hZ => ?_)
  refine sx_box rfl rfl rfl (fun g1 => ?_)
  refine sx_assign rfl rfl ?_
  refine sx_nil (hZ _ _ ?_)
  refine awp_forget [(1, _)] (Kn.cons rfl (Kn.nil)) ?_

  refine awp_seq_region (fun Z hZ => ?_)
  refine sx_fieldAddr rfl tyF36_0 (by first | (simp only [Nat.reduceAdd, Nat.add_zero, Nat.zero_add]; first | done | rfl) | rfl) rfl ?_
  first | refine sx_load 0 rfl rfl tyA3 tyS3 rfl rfl ?_
  refine sx_callP (hs) rfl rfl ?_
  refine sx_assign rfl rfl ?_
  refine sx_nil (hZ _ _ ?_)
  refine awp_forget [(1, _), (3, _)] (Kn.cons rfl (Kn.cons rfl (Kn.nil))) ?_
  refine awp_seq ?_
  refine awp_seq_region (fun Z hZ => ?_)
  refine sx_move rfl rfl ?_
  refine sx_eql rfl rfl rfl ?_
  refine sx_nil (hZ _ _ ?_)
  refine awp_forget [(1, _), (3, _), (8, _)] (Kn.cons rfl (Kn.cons rfl (Kn.cons rfl (Kn.nil)))) ?_
  refine awp_cond rfl (fun h1 => ?_) (fun h1 => ?_)
  · have hz : n = 0 := by simpa using h1
    rw [if_pos hz]
    refine awp_seq_region (fun Z hZ => ?_)
    refine sx_assign rfl rfl ?_
    refine sx_nil (hZ _ _ ?_)
    refine awp_forget [(2, _)] (Kn.cons rfl (Kn.nil)) ?_
    refine awp_ret ?_
    repeat (with_reducible refine nx_then_ret ?_)
    exact nx_ret1 rfl rfl rfl
  have hz : ¬ n = 0 := by simpa using h1
  rw [if_neg hz]
  refine awp_skip ?_
  with_reducible refine nx_normal ?_
  refine awp_seq ?_
  refine awp_seq_meet [(42, .bool (!decide ((0 ≤ r.a ∧ r.a ≤ r.c ∧ r.c < n) ∧ (0 ≤ r.b ∧ r.b ≤ r.d ∧ r.d < n))))] [] (fun Z hZ => ?_) ?_
  · refine sx_fieldAddr rfl tyF36_1 (by first | (simp only [Nat.reduceAdd, Nat.add_zero, Nat.zero_add]; first | done | rfl) | rfl) rfl ?_
    first | refine sx_load 0 rfl rfl tyA3 tyS3 rfl rfl ?_
    refine sx_lss rfl rfl rfl ?_
    refine sx_move rfl rfl ?_
    refine sx_split 12 rfl (fun hb3 => ?_) (fun hb3 => ?_)
    · refine sx_off rfl rfl rfl rfl rfl ?_
      refine sx_off rfl rfl rfl rfl rfl ?_
      refine sx_off rfl rfl rfl rfl rfl ?_
      refine sx_off rfl rfl rfl rfl rfl ?_
      refine sx_off rfl rfl rfl rfl rfl ?_
      refine sx_pick rfl rfl rfl ?_
      refine sx_move rfl rfl ?_
      refine sx_off rfl rfl rfl rfl rfl ?_
      refine sx_off rfl rfl rfl rfl rfl ?_
      refine sx_off rfl rfl rfl rfl rfl ?_
      refine sx_off rfl rfl rfl rfl rfl ?_
      refine sx_pick rfl rfl rfl ?_
      refine sx_move rfl rfl ?_
      refine sx_off rfl rfl rfl rfl rfl ?_
      refine sx_off rfl rfl rfl rfl rfl ?_
      refine sx_off rfl rfl rfl rfl rfl ?_
      refine sx_pick rfl rfl rfl ?_
      refine sx_move rfl rfl ?_
      refine sx_off rfl rfl rfl rfl rfl ?_
      refine sx_off rfl rfl rfl rfl rfl ?_
      refine sx_off rfl rfl rfl rfl rfl ?_
      refine sx_off rfl rfl rfl rfl rfl ?_
      refine sx_off rfl rfl rfl rfl rfl ?_
      refine sx_pick rfl rfl rfl ?_
      refine sx_move rfl rfl ?_
      refine sx_off rfl rfl rfl rfl rfl ?_
      refine sx_off rfl rfl rfl rfl rfl ?_
      refine sx_off rfl rfl rfl rfl rfl ?_
      refine sx_off rfl rfl rfl rfl rfl ?_
      refine sx_pick rfl rfl rfl ?_
      refine sx_nil (hZ _ _ ?_ ?_)
      · exact Kn.cons (congrArg some (congrArg Value.bool (by first | (exfalso; simp at *; omega) | (simp at *; done) | (simp at *; omega) | (rw [Bool.eq_iff_iff]; simp at *; omega)))) Kn.nil
      · exact HLe.sub (List.nil_sublist _)
    · refine sx_on rfl rfl rfl ?_
      refine sx_fieldAddr rfl tyF36_1 (by first | (simp only [Nat.reduceAdd, Nat.add_zero, Nat.zero_add]; first | done | rfl) | rfl) rfl ?_
      refine sx_on rfl rfl rfl ?_
      first | refine sx_load 0 rfl rfl tyA3 tyS3 rfl rfl ?_
      refine sx_on rfl rfl rfl ?_
      refine sx_fieldAddr rfl tyF36_3 (by first | (simp only [Nat.reduceAdd, Nat.add_zero, Nat.zero_add]; first | done | rfl) | rfl) rfl ?_
      refine sx_on rfl rfl rfl ?_
      first | refine sx_load 0 rfl rfl tyA3 tyS3 rfl rfl ?_
      refine sx_on rfl rfl rfl ?_
      refine sx_gtr rfl rfl rfl ?_
      refine sx_pick rfl rfl rfl ?_
      refine sx_move rfl rfl ?_
      refine sx_split 19 rfl (fun hb10 => ?_) (fun hb10 => ?_)
      · refine sx_off rfl rfl rfl rfl rfl ?_
        refine sx_off rfl rfl rfl rfl rfl ?_
        refine sx_off rfl rfl rfl rfl rfl ?_
        refine sx_off rfl rfl rfl rfl rfl ?_
        refine sx_pick rfl rfl rfl ?_
        refine sx_move rfl rfl ?_
        refine sx_off rfl rfl rfl rfl rfl ?_
        refine sx_off rfl rfl rfl rfl rfl ?_
        refine sx_off rfl rfl rfl rfl rfl ?_
        refine sx_pick rfl rfl rfl ?_
        refine sx_move rfl rfl ?_
        refine sx_off rfl rfl rfl rfl rfl ?_
        refine sx_off rfl rfl rfl rfl rfl ?_
        refine sx_off rfl rfl rfl rfl rfl ?_
        refine sx_off rfl rfl rfl rfl rfl ?_
        refine sx_off rfl rfl rfl rfl rfl ?_
        refine sx_pick rfl rfl rfl ?_
        refine sx_move rfl rfl ?_
        refine sx_off rfl rfl rfl rfl rfl ?_
        refine sx_off rfl rfl rfl rfl rfl ?_
        refine sx_off rfl rfl rfl rfl rfl ?_
        refine sx_off rfl rfl rfl rfl rfl ?_
        refine sx_pick rfl rfl rfl ?_
        refine sx_nil (hZ _ _ ?_ ?_)
        · exact Kn.cons (congrArg some (congrArg Value.bool (by first | (exfalso; simp at *; omega) | (simp at *; done) | (simp at *; omega) | (rw [Bool.eq_iff_iff]; simp at *; omega)))) Kn.nil
        · exact HLe.sub (List.nil_sublist _)
      · refine sx_on rfl rfl rfl ?_
        refine sx_fieldAddr rfl tyF36_3 (by first | (simp only [Nat.reduceAdd, Nat.add_zero, Nat.zero_add]; first | done | rfl) | rfl) rfl ?_
        refine sx_on rfl rfl rfl ?_
        first | refine sx_load 0 rfl rfl tyA3 tyS3 rfl rfl ?_
        refine sx_on rfl rfl rfl ?_
        refine sx_move rfl rfl ?_
        refine sx_on rfl rfl rfl ?_
        refine sx_geq rfl rfl rfl ?_
        refine sx_pick rfl rfl rfl ?_
        refine sx_move rfl rfl ?_
        refine sx_split 25 rfl (fun hb16 => ?_) (fun hb16 => ?_)
        · refine sx_off rfl rfl rfl rfl rfl ?_
          refine sx_off rfl rfl rfl rfl rfl ?_
          refine sx_off rfl rfl rfl rfl rfl ?_
          refine sx_pick rfl rfl rfl ?_
          refine sx_move rfl rfl ?_
          refine sx_off rfl rfl rfl rfl rfl ?_
          refine sx_off rfl rfl rfl rfl rfl ?_
          refine sx_off rfl rfl rfl rfl rfl ?_
          refine sx_off rfl rfl rfl rfl rfl ?_
          refine sx_off rfl rfl rfl rfl rfl ?_
          refine sx_pick rfl rfl rfl ?_
          refine sx_move rfl rfl ?_
          refine sx_off rfl rfl rfl rfl rfl ?_
          refine sx_off rfl rfl rfl rfl rfl ?_
          refine sx_off rfl rfl rfl rfl rfl ?_
          refine sx_off rfl rfl rfl rfl rfl ?_
          refine sx_pick rfl rfl rfl ?_
          refine sx_nil (hZ _ _ ?_ ?_)
          · exact Kn.cons (congrArg some (congrArg Value.bool (by first | (exfalso; simp at *; omega) | (simp at *; done) | (simp at *; omega) | (rw [Bool.eq_iff_iff]; simp at *; omega)))) Kn.nil
          · exact HLe.sub (List.nil_sublist _)
        · refine sx_on rfl rfl rfl ?_
          refine sx_fieldAddr rfl tyF36_2 (by first | (simp only [Nat.reduceAdd, Nat.add_zero, Nat.zero_add]; first | done | rfl) | rfl) rfl ?_
          refine sx_on rfl rfl rfl ?_
          first | refine sx_load 0 rfl rfl tyA3 tyS3 rfl rfl ?_
          refine sx_on rfl rfl rfl ?_
          refine sx_lss rfl rfl rfl ?_
          refine sx_pick rfl rfl rfl ?_
          refine sx_move rfl rfl ?_
          refine sx_split 30 rfl (fun hb21 => ?_) (fun hb21 => ?_)
          · refine sx_off rfl rfl rfl rfl rfl ?_
            refine sx_off rfl rfl rfl rfl rfl ?_
            refine sx_off rfl rfl rfl rfl rfl ?_
            refine sx_off rfl rfl rfl rfl rfl ?_
            refine sx_off rfl rfl rfl rfl rfl ?_
            refine sx_pick rfl rfl rfl ?_
            refine sx_move rfl rfl ?_
            refine sx_off rfl rfl rfl rfl rfl ?_
            refine sx_off rfl rfl rfl rfl rfl ?_
            refine sx_off rfl rfl rfl rfl rfl ?_
            refine sx_off rfl rfl rfl rfl rfl ?_
            refine sx_pick rfl rfl rfl ?_
            refine sx_nil (hZ _ _ ?_ ?_)
            · exact Kn.cons (congrArg some (congrArg Value.bool (by first | (exfalso; simp at *; omega) | (simp at *; done) | (simp at *; omega) | (rw [Bool.eq_iff_iff]; simp at *; omega)))) Kn.nil
            · exact HLe.sub (List.nil_sublist _)
          · refine sx_on rfl rfl rfl ?_
            refine sx_fieldAddr rfl tyF36_2 (by first | (simp only [Nat.reduceAdd, Nat.add_zero, Nat.zero_add]; first | done | rfl) | rfl) rfl ?_
            refine sx_on rfl rfl rfl ?_
            first | refine sx_load 0 rfl rfl tyA3 tyS3 rfl rfl ?_
            refine sx_on rfl rfl rfl ?_
            refine sx_fieldAddr rfl tyF36_4 (by first | (simp only [Nat.reduceAdd, Nat.add_zero, Nat.zero_add]; first | done | rfl) | rfl) rfl ?_
            refine sx_on rfl rfl rfl ?_
            first | refine sx_load 0 rfl rfl tyA3 tyS3 rfl rfl ?_
            refine sx_on rfl rfl rfl ?_
            refine sx_gtr rfl rfl rfl ?_
            refine sx_pick rfl rfl rfl ?_
            refine sx_move rfl rfl ?_
            refine sx_split 37 rfl (fun hb28 => ?_) (fun hb28 => ?_)
            · refine sx_off rfl rfl rfl rfl rfl ?_
              refine sx_off rfl rfl rfl rfl rfl ?_
              refine sx_off rfl rfl rfl rfl rfl ?_
              refine sx_off rfl rfl rfl rfl rfl ?_
              refine sx_pick rfl rfl rfl ?_
              refine sx_nil (hZ _ _ ?_ ?_)
              · exact Kn.cons (congrArg some (congrArg Value.bool (by first | (exfalso; simp at *; omega) | (simp at *; done) | (simp at *; omega) | (rw [Bool.eq_iff_iff]; simp at *; omega)))) Kn.nil
              · exact HLe.sub (List.nil_sublist _)
            · refine sx_on rfl rfl rfl ?_
              refine sx_fieldAddr rfl tyF36_4 (by first | (simp only [Nat.reduceAdd, Nat.add_zero, Nat.zero_add]; first | done | rfl) | rfl) rfl ?_
              refine sx_on rfl rfl rfl ?_
              first | refine sx_load 0 rfl rfl tyA3 tyS3 rfl rfl ?_
              refine sx_on rfl rfl rfl ?_
              refine sx_move rfl rfl ?_
              refine sx_on rfl rfl rfl ?_
              refine sx_geq rfl rfl rfl ?_
              refine sx_pick rfl rfl rfl ?_
              refine sx_nil (hZ _ _ ?_ ?_)
              · exact Kn.cons (congrArg some (congrArg Value.bool (by first | (exfalso; simp at *; omega) | (simp at *; done) | (simp at *; omega) | (rw [Bool.eq_iff_iff]; simp at *; omega)))) Kn.nil
              · exact HLe.sub (List.nil_sublist _)
  refine awp_cond rfl (fun h2 => ?_) (fun h2 => ?_)
  · have h2' : ¬ ((0 ≤ r.a ∧ r.a ≤ r.c ∧ r.c < n) ∧ (0 ≤ r.b ∧ r.b ≤ r.d ∧ r.d < n)) := nb_no h2
    rw [if_neg h2']
    refine awp_seq_region (fun Z hZ => ?_)
    refine sx_assign rfl rfl ?_
    refine sx_nil (hZ _ _ ?_)
    refine awp_forget [(2, _)] (Kn.cons rfl (Kn.nil)) ?_
    refine awp_ret ?_
    repeat (with_reducible refine nx_then_ret ?_)
    exact nx_ret1 rfl rfl rfl
  have h2' : (0 ≤ r.a ∧ r.a ≤ r.c ∧ r.c < n) ∧ (0 ≤ r.b ∧ r.b ≤ r.d ∧ r.d < n) := nb_yes h2
  rw [if_pos h2']
  refine awp_skip ?_
  with_reducible refine nx_normal ?_
  refine awp_seq_region (fun Z hZ => ?_)
  refine sx_assign rfl rfl ?_
  refine sx_nil (hZ _ _ ?_)
  refine awp_forget [(2, _)] (Kn.cons rfl (Kn.nil)) ?_
  refine awp_ret ?_
  exact nx_ret1 rfl rfl rfl
theorem cSize_fn (r : Rc) : Fn Try.prog 26 [r.val] [] fun v _ => v = iq (sizeQ r : Nat) := by
  rcases Decidable.em (chkE r = 0) with h | h
  · obtain ⟨Z, a, b, c, d, hr⟩ := chk_ok h
    rw [hr.size]
    have hl := hr.sizeLe
    have hb := pow2_le26 hr.zo
    have hck := cCheck_fn r
    rw [h] at hck
    obtain ⟨rfl, h1, h2, h3, h4, h5⟩ := hr
    obtain ⟨m, hm⟩ : ∃ m, c + 1 - a = m := ⟨_, rfl⟩
    obtain ⟨n, hn⟩ : ∃ n, d + 1 - b = n := ⟨_, rfl⟩
    rw [hm, hn] at hl ⊢
    refine Fn.enter (N := 19) Try.func26 rfl (by kernel_rfl) rfl (fun w0 => ?_)

    refine awp_seq_region (fun Z hZ => ?_)
    refine sx_box rfl rfl rfl (fun g1 => ?_)
    refine sx_assign rfl rfl ?_
    refine sx_nil (hZ _ _ ?_)
    refine awp_forget [(1, _)] (Kn.cons rfl (Kn.nil)) ?_

    refine awp_seq ?_
    refine awp_seq_region (fun Z hZ => ?_)
    first | refine sx_loadA 0 rfl rfl tyA33 tyS33 (by first | (simp only [List.length_cons, List.length_nil, Nat.reduceAdd, Nat.zero_add, Nat.add_zero]; first | done | rfl) | rfl) (by first | (simp only [List.take_succ_cons, List.take_zero, List.drop_succ_cons, List.drop_zero, List.cons_append, List.nil_append, List.append_nil, List.length_cons, List.length_nil, Nat.reduceAdd, Nat.zero_add, Nat.add_zero, Value.cells, wrV]; first | done | rfl) | rfl) rfl ?_
    refine sx_callP (hck) rfl rfl ?_
    refine sx_neq rfl rfl rfl ?_
    refine sx_nil (hZ _ _ ?_)
    refine awp_forget [(1, _), (5, _)] (Kn.cons rfl (Kn.cons rfl (Kn.nil))) ?_
    refine awp_cond rfl (fun h6 => ?_) (fun h6 => ?_)
    · cases h6
    refine awp_skip ?_
    with_reducible refine nx_normal ?_
    refine awp_seq_region (fun Z hZ => ?_)
    refine sx_fieldAddr rfl tyF33_3 (by first | (simp only [Nat.reduceAdd, Nat.add_zero, Nat.zero_add]; first | done | rfl) | rfl) rfl ?_
    first | refine sx_load 0 rfl rfl tyA3 tyS3 rfl rfl ?_
    refine sx_fieldAddr rfl tyF33_1 (by first | (simp only [Nat.reduceAdd, Nat.add_zero, Nat.zero_add]; first | done | rfl) | rfl) rfl ?_
    first | refine sx_load 0 rfl rfl tyA3 tyS3 rfl rfl ?_
    refine sx_sub rfl rfl ((c : Int) - a) (by show IntKind.i64.wrap ((c : Int) - (a : Int)) = _; rw [IntWalk.i64_in _ (by omega)]) rfl ?_
    refine sx_add rfl rfl ((m : Nat) : Int) (by rw [IntWalk.i64_in _ (by omega)]; omega) rfl ?_
    refine sx_fieldAddr rfl tyF33_4 (by first | (simp only [Nat.reduceAdd, Nat.add_zero, Nat.zero_add]; first | done | rfl) | rfl) rfl ?_
    first | refine sx_load 0 rfl rfl tyA3 tyS3 rfl rfl ?_
    refine sx_fieldAddr rfl tyF33_2 (by first | (simp only [Nat.reduceAdd, Nat.add_zero, Nat.zero_add]; first | done | rfl) | rfl) rfl ?_
    first | refine sx_load 0 rfl rfl tyA3 tyS3 rfl rfl ?_
    refine sx_sub rfl rfl ((d : Int) - b) (by show IntKind.i64.wrap ((d : Int) - (b : Int)) = _; rw [IntWalk.i64_in _ (by omega)]) rfl ?_
    refine sx_add rfl rfl ((n : Nat) : Int) (by rw [IntWalk.i64_in _ (by omega)]; omega) rfl ?_
    refine sx_mul rfl rfl ((m * n : Nat) : Int) (by rw [← Int.natCast_mul, IntWalk.i64_in _ (by omega)]) rfl ?_
    refine sx_assign rfl rfl ?_
    refine sx_nil (hZ _ _ ?_)
    refine awp_forget [(2, _)] (Kn.cons rfl (Kn.nil)) ?_
    refine awp_ret ?_
    exact nx_ret1 rfl rfl rfl
  · have hz : sizeQ r = 0 := if_neg h
    rw [hz]
    have hck := cCheck_fn r
    obtain ⟨e, he⟩ : ∃ e, chkE r = e := ⟨_, rfl⟩
    rw [he] at h hck
    refine Fn.enter (N := 19) Try.func26 rfl (by kernel_rfl) rfl (fun w0 => ?_)

    refine awp_seq_region (fun Z hZ => ?_)
    refine sx_box rfl rfl rfl (fun g1 => ?_)
    refine sx_assign rfl rfl ?_
    refine sx_nil (hZ _ _ ?_)
    refine awp_forget [(1, _)] (Kn.cons rfl (Kn.nil)) ?_

    refine awp_seq ?_
    refine awp_seq_region (fun Z hZ => ?_)
    first | refine sx_loadA 0 rfl rfl tyA33 tyS33 (by first | (simp only [List.length_cons, List.length_nil, Nat.reduceAdd, Nat.zero_add, Nat.add_zero]; first | done | rfl) | rfl) (by first | (simp only [List.take_succ_cons, List.take_zero, List.drop_succ_cons, List.drop_zero, List.cons_append, List.nil_append, List.append_nil, List.length_cons, List.length_nil, Nat.reduceAdd, Nat.zero_add, Nat.add_zero, Value.cells, wrV]; first | done | rfl) | rfl) rfl ?_
    refine sx_callP (hck) rfl rfl ?_
    refine sx_neq rfl rfl rfl ?_
    refine sx_nil (hZ _ _ ?_)
    refine awp_forget [(1, _), (5, _)] (Kn.cons rfl (Kn.cons rfl (Kn.nil))) ?_
    refine awp_cond rfl (fun h6 => ?_) (fun h6 => ?_)
    · refine awp_seq_region (fun Z hZ => ?_)
      refine sx_assign rfl rfl ?_
      refine sx_nil (hZ _ _ ?_)
      refine awp_forget [(2, _)] (Kn.cons rfl (Kn.nil)) ?_
      refine awp_ret ?_
      repeat (with_reducible refine nx_then_ret ?_)
      exact nx_ret1 rfl rfl rfl
    exact absurd (by simpa using h6) h
theorem cHas_fn (r : Rc) (z x y : Int) : Fn Try.prog 30 [r.val, tval z x y] [] fun v _ => v = .bool (hasQ r z x y) := by
  have hck := cCheck_fn r
  unfold hasQ
  obtain ⟨e, he⟩ : ∃ e, chkE r = e := ⟨_, rfl⟩
  rw [he] at hck ⊢
  refine Fn.enter (N := 43) Try.func30 rfl (by kernel_rfl) rfl (fun w0 => ?_)

  refine awp_seq_region (fun Z hZ => ?_)
  refine sx_box rfl rfl rfl (fun g1 => ?_)
  refine sx_box rfl rfl rfl (fun g2 => ?_)
  refine sx_assign rfl rfl ?_
  refine sx_nil (hZ _ _ ?_)
  refine awp_forget [(2, _), (3, _)] (Kn.cons rfl (Kn.cons rfl (Kn.nil))) ?_

  refine awp_seq_meet [(4, .bool (decide (e = 0 ∧ z = r.z ∧ r.a ≤ x ∧ x ≤ r.c ∧ r.b ≤ y ∧ y ≤ r.d)))] [] (fun Z hZ => ?_) ?_
  · refine sx_loadA 1 rfl rfl tyA33 tyS33 (by first | (simp only [List.length_cons, List.length_nil, Nat.reduceAdd, Nat.zero_add, Nat.add_zero]; first | done | rfl) | rfl) (by first | (simp only [List.take_succ_cons, List.take_zero, List.drop_succ_cons, List.drop_zero, List.cons_append, List.nil_append, List.append_nil, List.length_cons, List.length_nil, Nat.reduceAdd, Nat.zero_add, Nat.add_zero, Value.cells, wrV]; first | done | rfl) | rfl) rfl ?_
    refine sx_callP (hck) rfl rfl ?_
    refine sx_eql rfl rfl rfl ?_
    refine sx_move rfl rfl ?_
    refine sx_split 8 rfl (fun hb3 => ?_) (fun hb3 => ?_)
    · refine sx_on rfl rfl rfl ?_
      refine sx_fieldAddr rfl tyF39_0 (by first | (simp only [Nat.reduceAdd, Nat.add_zero, Nat.zero_add]; first | done | rfl) | rfl) rfl ?_
      refine sx_on rfl rfl rfl ?_
      refine sx_load 0 rfl rfl tyA3 tyS3 rfl rfl ?_
      refine sx_on rfl rfl rfl ?_
      refine sx_fieldAddr rfl tyF33_0 (by first | (simp only [Nat.reduceAdd, Nat.add_zero, Nat.zero_add]; first | done | rfl) | rfl) rfl ?_
      refine sx_on rfl rfl rfl ?_
      refine sx_load 1 rfl rfl tyA3 tyS3 rfl rfl ?_
      refine sx_on rfl rfl rfl ?_
      refine sx_eql rfl rfl rfl ?_
      refine sx_pick rfl rfl rfl ?_
      refine sx_move rfl rfl ?_
      refine sx_split 15 rfl (fun hb10 => ?_) (fun hb10 => ?_)
      · refine sx_on rfl rfl rfl ?_
        refine sx_fieldAddr rfl tyF33_1 (by first | (simp only [Nat.reduceAdd, Nat.add_zero, Nat.zero_add]; first | done | rfl) | rfl) rfl ?_
        refine sx_on rfl rfl rfl ?_
        refine sx_load 1 rfl rfl tyA3 tyS3 rfl rfl ?_
        refine sx_on rfl rfl rfl ?_
        refine sx_fieldAddr rfl tyF39_1 (by first | (simp only [Nat.reduceAdd, Nat.add_zero, Nat.zero_add]; first | done | rfl) | rfl) rfl ?_
        refine sx_on rfl rfl rfl ?_
        refine sx_load 0 rfl rfl tyA3 tyS3 rfl rfl ?_
        refine sx_on rfl rfl rfl ?_
        refine sx_leq rfl rfl rfl ?_
        refine sx_pick rfl rfl rfl ?_
        refine sx_move rfl rfl ?_
        refine sx_split 22 rfl (fun hb17 => ?_) (fun hb17 => ?_)
        · refine sx_on rfl rfl rfl ?_
          refine sx_fieldAddr rfl tyF39_1 (by first | (simp only [Nat.reduceAdd, Nat.add_zero, Nat.zero_add]; first | done | rfl) | rfl) rfl ?_
          refine sx_on rfl rfl rfl ?_
          refine sx_load 0 rfl rfl tyA3 tyS3 rfl rfl ?_
          refine sx_on rfl rfl rfl ?_
          refine sx_fieldAddr rfl tyF33_3 (by first | (simp only [Nat.reduceAdd, Nat.add_zero, Nat.zero_add]; first | done | rfl) | rfl) rfl ?_
          refine sx_on rfl rfl rfl ?_
          refine sx_load 1 rfl rfl tyA3 tyS3 rfl rfl ?_
          refine sx_on rfl rfl rfl ?_
          refine sx_leq rfl rfl rfl ?_
          refine sx_pick rfl rfl rfl ?_
          refine sx_move rfl rfl ?_
          refine sx_split 29 rfl (fun hb24 => ?_) (fun hb24 => ?_)
          · refine sx_on rfl rfl rfl ?_
            refine sx_fieldAddr rfl tyF33_2 (by first | (simp only [Nat.reduceAdd, Nat.add_zero, Nat.zero_add]; first | done | rfl) | rfl) rfl ?_
            refine sx_on rfl rfl rfl ?_
            refine sx_load 1 rfl rfl tyA3 tyS3 rfl rfl ?_
            refine sx_on rfl rfl rfl ?_
            refine sx_fieldAddr rfl tyF39_2 (by first | (simp only [Nat.reduceAdd, Nat.add_zero, Nat.zero_add]; first | done | rfl) | rfl) rfl ?_
            refine sx_on rfl rfl rfl ?_
            refine sx_load 0 rfl rfl tyA3 tyS3 rfl rfl ?_
            refine sx_on rfl rfl rfl ?_
            refine sx_leq rfl rfl rfl ?_
            refine sx_pick rfl rfl rfl ?_
            refine sx_move rfl rfl ?_
            refine sx_split 36 rfl (fun hb31 => ?_) (fun hb31 => ?_)
            · refine sx_on rfl rfl rfl ?_
              refine sx_fieldAddr rfl tyF39_2 (by first | (simp only [Nat.reduceAdd, Nat.add_zero, Nat.zero_add]; first | done | rfl) | rfl) rfl ?_
              refine sx_on rfl rfl rfl ?_
              refine sx_load 0 rfl rfl tyA3 tyS3 rfl rfl ?_
              refine sx_on rfl rfl rfl ?_
              refine sx_fieldAddr rfl tyF33_4 (by first | (simp only [Nat.reduceAdd, Nat.add_zero, Nat.zero_add]; first | done | rfl) | rfl) rfl ?_
              refine sx_on rfl rfl rfl ?_
              refine sx_load 1 rfl rfl tyA3 tyS3 rfl rfl ?_
              refine sx_on rfl rfl rfl ?_
              refine sx_leq rfl rfl rfl ?_
              refine sx_pick rfl rfl rfl ?_
              refine sx_assign rfl rfl ?_
              refine sx_nil (hZ _ _ ?_ ?_)
              · exact Kn.cons (congrArg some (congrArg Value.bool (by first | (exfalso; simp at *; omega) | (simp at *; done) | (simp at *; omega) | (rw [Bool.eq_iff_iff]; simp at *; omega)))) Kn.nil
              · exact HLe.sub (List.nil_sublist _)
            · refine sx_off rfl rfl rfl rfl rfl ?_
              refine sx_off rfl rfl rfl rfl rfl ?_
              refine sx_off rfl rfl rfl rfl rfl ?_
              refine sx_off rfl rfl rfl rfl rfl ?_
              refine sx_off rfl rfl rfl rfl rfl ?_
              refine sx_pick rfl rfl rfl ?_
              refine sx_assign rfl rfl ?_
              refine sx_nil (hZ _ _ ?_ ?_)
              · exact Kn.cons (congrArg some (congrArg Value.bool (by first | (exfalso; simp at *; omega) | (simp at *; done) | (simp at *; omega) | (rw [Bool.eq_iff_iff]; simp at *; omega)))) Kn.nil
              · exact HLe.sub (List.nil_sublist _)
          · refine sx_off rfl rfl rfl rfl rfl ?_
            refine sx_off rfl rfl rfl rfl rfl ?_
            refine sx_off rfl rfl rfl rfl rfl ?_
            refine sx_off rfl rfl rfl rfl rfl ?_
            refine sx_off rfl rfl rfl rfl rfl ?_
            refine sx_pick rfl rfl rfl ?_
            refine sx_move rfl rfl ?_
            refine sx_off rfl rfl rfl rfl rfl ?_
            refine sx_off rfl rfl rfl rfl rfl ?_
            refine sx_off rfl rfl rfl rfl rfl ?_
            refine sx_off rfl rfl rfl rfl rfl ?_
            refine sx_off rfl rfl rfl rfl rfl ?_
            refine sx_pick rfl rfl rfl ?_
            refine sx_assign rfl rfl ?_
            refine sx_nil (hZ _ _ ?_ ?_)
            · exact Kn.cons (congrArg some (congrArg Value.bool (by first | (exfalso; simp at *; omega) | (simp at *; done) | (simp at *; omega) | (rw [Bool.eq_iff_iff]; simp at *; omega)))) Kn.nil
            · exact HLe.sub (List.nil_sublist _)
        · refine sx_off rfl rfl rfl rfl rfl ?_
          refine sx_off rfl rfl rfl rfl rfl ?_
          refine sx_off rfl rfl rfl rfl rfl ?_
          refine sx_off rfl rfl rfl rfl rfl ?_
          refine sx_off rfl rfl rfl rfl rfl ?_
          refine sx_pick rfl rfl rfl ?_
          refine sx_move rfl rfl ?_
          refine sx_off rfl rfl rfl rfl rfl ?_
          refine sx_off rfl rfl rfl rfl rfl ?_
          refine sx_off rfl rfl rfl rfl rfl ?_
          refine sx_off rfl rfl rfl rfl rfl ?_
          refine sx_off rfl rfl rfl rfl rfl ?_
          refine sx_pick rfl rfl rfl ?_
          refine sx_move rfl rfl ?_
          refine sx_off rfl rfl rfl rfl rfl ?_
          refine sx_off rfl rfl rfl rfl rfl ?_
          refine sx_off rfl rfl rfl rfl rfl ?_
          refine sx_off rfl rfl rfl rfl rfl ?_
          refine sx_off rfl rfl rfl rfl rfl ?_
          refine sx_pick rfl rfl rfl ?_
          refine sx_assign rfl rfl ?_
          refine sx_nil (hZ _ _ ?_ ?_)
          · exact Kn.cons (congrArg some (congrArg Value.bool (by first | (exfalso; simp at *; omega) | (simp at *; done) | (simp at *; omega) | (rw [Bool.eq_iff_iff]; simp at *; omega)))) Kn.nil
          · exact HLe.sub (List.nil_sublist _)
      · refine sx_off rfl rfl rfl rfl rfl ?_
        refine sx_off rfl rfl rfl rfl rfl ?_
        refine sx_off rfl rfl rfl rfl rfl ?_
        refine sx_off rfl rfl rfl rfl rfl ?_
        refine sx_off rfl rfl rfl rfl rfl ?_
        refine sx_pick rfl rfl rfl ?_
        refine sx_move rfl rfl ?_
        refine sx_off rfl rfl rfl rfl rfl ?_
        refine sx_off rfl rfl rfl rfl rfl ?_
        refine sx_off rfl rfl rfl rfl rfl ?_
        refine sx_off rfl rfl rfl rfl rfl ?_
        refine sx_off rfl rfl rfl rfl rfl ?_
        refine sx_pick rfl rfl rfl ?_
        refine sx_move rfl rfl ?_
        refine sx_off rfl rfl rfl rfl rfl ?_
        refine sx_off rfl rfl rfl rfl rfl ?_
        refine sx_off rfl rfl rfl rfl rfl ?_
        refine sx_off rfl rfl rfl rfl rfl ?_
        refine sx_off rfl rfl rfl rfl rfl ?_
        refine sx_pick rfl rfl rfl ?_
        refine sx_move rfl rfl ?_
        refine sx_off rfl rfl rfl rfl rfl ?_
        refine sx_off rfl rfl rfl rfl rfl ?_
        refine sx_off rfl rfl rfl rfl rfl ?_
        refine sx_off rfl rfl rfl rfl rfl ?_
        refine sx_off rfl rfl rfl rfl rfl ?_
        refine sx_pick rfl rfl rfl ?_
        refine sx_assign rfl rfl ?_
        refine sx_nil (hZ _ _ ?_ ?_)
        · exact Kn.cons (congrArg some (congrArg Value.bool (by first | (exfalso; simp at *; omega) | (simp at *; done) | (simp at *; omega) | (rw [Bool.eq_iff_iff]; simp at *; omega)))) Kn.nil
        · exact HLe.sub (List.nil_sublist _)
    · refine sx_off rfl rfl rfl rfl rfl ?_
      refine sx_off rfl rfl rfl rfl rfl ?_
      refine sx_off rfl rfl rfl rfl rfl ?_
      refine sx_off rfl rfl rfl rfl rfl ?_
      refine sx_off rfl rfl rfl rfl rfl ?_
      refine sx_pick rfl rfl rfl ?_
      refine sx_move rfl rfl ?_
      refine sx_off rfl rfl rfl rfl rfl ?_
      refine sx_off rfl rfl rfl rfl rfl ?_
      refine sx_off rfl rfl rfl rfl rfl ?_
      refine sx_off rfl rfl rfl rfl rfl ?_
      refine sx_off rfl rfl rfl rfl rfl ?_
      refine sx_pick rfl rfl rfl ?_
      refine sx_move rfl rfl ?_
      refine sx_off rfl rfl rfl rfl rfl ?_
      refine sx_off rfl rfl rfl rfl rfl ?_
      refine sx_off rfl rfl rfl rfl rfl ?_
      refine sx_off rfl rfl rfl rfl rfl ?_
      refine sx_off rfl rfl rfl rfl rfl ?_
      refine sx_pick rfl rfl rfl ?_
      refine sx_move rfl rfl ?_
      refine sx_off rfl rfl rfl rfl rfl ?_
      refine sx_off rfl rfl rfl rfl rfl ?_
      refine sx_off rfl rfl rfl rfl rfl ?_
      refine sx_off rfl rfl rfl rfl rfl ?_
      refine sx_off rfl rfl rfl rfl rfl ?_
      refine sx_pick rfl rfl rfl ?_
      refine sx_move rfl rfl ?_
      refine sx_off rfl rfl rfl rfl rfl ?_
      refine sx_off rfl rfl rfl rfl rfl ?_
      refine sx_off rfl rfl rfl rfl rfl ?_
      refine sx_off rfl rfl rfl rfl rfl ?_
      refine sx_off rfl rfl rfl rfl rfl ?_
      refine sx_pick rfl rfl rfl ?_
      refine sx_assign rfl rfl ?_
      refine sx_nil (hZ _ _ ?_ ?_)
      · exact Kn.cons (congrArg some (congrArg Value.bool (by first | (exfalso; simp at *; omega) | (simp at *; done) | (simp at *; omega) | (rw [Bool.eq_iff_iff]; simp at *; omega)))) Kn.nil
      · exact HLe.sub (List.nil_sublist _)
  refine awp_ret ?_
  exact nx_ret1 rfl rfl rfl
theorem rSize_fn (r : Rc) : Fn Try.prog 21 [r.val] [] fun v _ => v = iq (sizeQ r : Nat) := by
  rcases Decidable.em (chkE r = 0) with h | h
  · obtain ⟨Z, a, b, c, d, hr⟩ := chk_ok h
    rw [hr.size]
    have hl := hr.sizeLe
    have hb := pow2_le26 hr.zo
    have hck := rCheck_fn r
    rw [h] at hck
    obtain ⟨rfl, h1, h2, h3, h4, h5⟩ := hr
    obtain ⟨m, hm⟩ : ∃ m, c + 1 - a = m := ⟨_, rfl⟩
    obtain ⟨n, hn⟩ : ∃ n, d + 1 - b = n := ⟨_, rfl⟩
    rw [hm, hn] at hl ⊢
    refine Fn.enter (N := 19) Try.func21 rfl (by kernel_rfl) rfl (fun w0 => ?_)

    refine awp_seq_region (fun Z hZ => ?_)
    refine sx_box rfl rfl rfl (fun g1 => ?_)
    refine sx_assign rfl rfl ?_
    refine sx_nil (hZ _ _ ?_)
    refine awp_forget [(1, _)] (Kn.cons rfl (Kn.nil)) ?_

    refine awp_seq ?_
    refine awp_seq_region (fun Z hZ => ?_)
    first | refine sx_loadA 0 rfl rfl tyA36 tyS36 (by first | (simp only [List.length_cons, List.length_nil, Nat.reduceAdd, Nat.zero_add, Nat.add_zero]; first | done | rfl) | rfl) (by first | (simp only [List.take_succ_cons, List.take_zero, List.drop_succ_cons, List.drop_zero, List.cons_append, List.nil_append, List.append_nil, List.length_cons, List.length_nil, Nat.reduceAdd, Nat.zero_add, Nat.add_zero, Value.cells, wrV]; first | done | rfl) | rfl) rfl ?_
    refine sx_callP (hck) rfl rfl ?_
    refine sx_neq rfl rfl rfl ?_
    refine sx_nil (hZ _ _ ?_)
    refine awp_forget [(1, _), (5, _)] (Kn.cons rfl (Kn.cons rfl (Kn.nil))) ?_
    refine awp_cond rfl (fun h6 => ?_) (fun h6 => ?_)
    · cases h6
    refine awp_skip ?_
    with_reducible refine nx_normal ?_
    refine awp_seq_region (fun Z hZ => ?_)
    refine sx_fieldAddr rfl tyF36_3 (by first | (simp only [Nat.reduceAdd, Nat.add_zero, Nat.zero_add]; first | done | rfl) | rfl) rfl ?_
    first | refine sx_load 0 rfl rfl tyA3 tyS3 rfl rfl ?_
    refine sx_fieldAddr rfl tyF36_1 (by first | (simp only [Nat.reduceAdd, Nat.add_zero, Nat.zero_add]; first | done | rfl) | rfl) rfl ?_
    first | refine sx_load 0 rfl rfl tyA3 tyS3 rfl rfl ?_
    refine sx_sub rfl rfl ((c : Int) - a) (by show IntKind.i64.wrap ((c : Int) - (a : Int)) = _; rw [IntWalk.i64_in _ (by omega)]) rfl ?_
    refine sx_add rfl rfl ((m : Nat) : Int) (by rw [IntWalk.i64_in _ (by omega)]; omega) rfl ?_
    refine sx_fieldAddr rfl tyF36_4 (by first | (simp only [Nat.reduceAdd, Nat.add_zero, Nat.zero_add]; first | done | rfl) | rfl) rfl ?_
    first | refine sx_load 0 rfl rfl tyA3 tyS3 rfl rfl ?_
    refine sx_fieldAddr rfl tyF36_2 (by first | (simp only [Nat.reduceAdd, Nat.add_zero, Nat.zero_add]; first | done | rfl) | rfl) rfl ?_
    first | refine sx_load 0 rfl rfl tyA3 tyS3 rfl rfl ?_
    refine sx_sub rfl rfl ((d : Int) - b) (by show IntKind.i64.wrap ((d : Int) - (b : Int)) = _; rw [IntWalk.i64_in _ (by omega)]) rfl ?_
    refine sx_add rfl rfl ((n : Nat) : Int) (by rw [IntWalk.i64_in _ (by omega)]; omega) rfl ?_
    refine sx_mul rfl rfl ((m * n : Nat) : Int) (by rw [← Int.natCast_mul, IntWalk.i64_in _ (by omega)]) rfl ?_
    refine sx_assign rfl rfl ?_
    refine sx_nil (hZ _ _ ?_)
    refine awp_forget [(2, _)] (Kn.cons rfl (Kn.nil)) ?_
    refine awp_ret ?_
    exact nx_ret1 rfl rfl rfl
  · have hz : sizeQ r = 0 := if_neg h
    rw [hz]
    have hck := rCheck_fn r
    obtain ⟨e, he⟩ : ∃ e, chkE r = e := ⟨_, rfl⟩
    rw [he] at h hck
    refine Fn.enter (N := 19) Try.func21 rfl (by kernel_rfl) rfl (fun w0 => ?_)

    refine awp_seq_region (fun Z hZ => ?_)
    refine sx_box rfl rfl rfl (fun g1 => ?_)
    refine sx_assign rfl rfl ?_
    refine sx_nil (hZ _ _ ?_)
    refine awp_forget [(1, _)] (Kn.cons rfl (Kn.nil)) ?_

    refine awp_seq ?_
    refine awp_seq_region (fun Z hZ => ?_)
    first | refine sx_loadA 0 rfl rfl tyA36 tyS36 (by first | (simp only [List.length_cons, List.length_nil, Nat.reduceAdd, Nat.zero_add, Nat.add_zero]; first | done | rfl) | rfl) (by first | (simp only [List.take_succ_cons, List.take_zero, List.drop_succ_cons, List.drop_zero, List.cons_append, List.nil_append, List.append_nil, List.length_cons, List.length_nil, Nat.reduceAdd, Nat.zero_add, Nat.add_zero, Value.cells, wrV]; first | done | rfl) | rfl) rfl ?_
    refine sx_callP (hck) rfl rfl ?_
    refine sx_neq rfl rfl rfl ?_
    refine sx_nil (hZ _ _ ?_)
    refine awp_forget [(1, _), (5, _)] (Kn.cons rfl (Kn.cons rfl (Kn.nil))) ?_
    refine awp_cond rfl (fun h6 => ?_) (fun h6 => ?_)
    · refine awp_seq_region (fun Z hZ => ?_)
      refine sx_assign rfl rfl ?_
      refine sx_nil (hZ _ _ ?_)
      refine awp_forget [(2, _)] (Kn.cons rfl (Kn.nil)) ?_
      refine awp_ret ?_
      repeat (with_reducible refine nx_then_ret ?_)
      exact nx_ret1 rfl rfl rfl
    exact absurd (by simpa using h6) h
end Go.Proofs.Ytmebmkkllhnmlaa
