/- Walks and plain laws for this claim (texts Jt1, Jt2, Jt3, Bd3, Jt4, SxIf, Jn1, SxFO, Jn2, joined). Each theorem states its own conditions. -/
import Derived.Test.YtfeopecgedbfpaaGreatDoorJ09
import Derived.Shelf.Unicode.DecodeAny
import Derived.Lib.TrimU
import Derived.Shelf.Strings.Prefix
import Derived.Shelf.Small.Wraps
import Derived.Shelf.Strings.SlTrimAscii
import Derived.Shelf.Strings.IndexAnyAll
import Derived.Shelf.Strconv.AtoiAll
set_option linter.all false
namespace Go.Proofs.YtfeopecgedbfpaaGreatDoor
section
open Go.RowKit
set_option maxRecDepth 100000
def digN (c : Nat) : Nat := if 48 ≤ c ∧ c ≤ 57 then c - 48 else if 97 ≤ c ∧ c ≤ 102 then c - 97 + 10 else if 65 ≤ c ∧ c ≤ 70 then c - 65 + 10 else 0
def digB (c : Nat) : Bool := decide (48 ≤ c ∧ c ≤ 57) || decide (97 ≤ c ∧ c ≤ 102) || decide (65 ≤ c ∧ c ≤ 70)
theorem wO5 (c : Nat) : digN c < 16 := by unfold digN; split <;> (try split) <;> (try split) <;> omega
theorem yC5 (c : UInt8) : Fn Tryz.prog 257 [.int .u8 (c.toNat : Int)] [] fun v _ => v = .tuple #[.int .i32 ((digN c.toNat : Nat) : Int), .bool (digB c.toNat)] := by
 obtain ⟨n, hn⟩ := xZ9 (c.toNat)
 have hlt : n < 256 := by rw [← hn]; exact c.toNat_lt
 rw [hn]
 refine Fn.enter (N := 36) Tryz.func257 rfl (by kernel_rfl) rfl (fun w0 => ?_)
 refine aR fun Z hZ => sA rfl rfl <| sAN hZ rfl rfl <| f1K 0 rfl <| aS (aB <| jA3 [(0, .int .u8 (n : Nat)), (4, .bool (decide (48 ≤ n ∧ n ≤ 57)))] [] (fun Z hZ => ?_) ?_)
 ·refine sM rfl rfl <| jO3 rfl rfl rfl <| sM rfl rfl <| jD0 7 rfl (fun hb2 => ?_) (fun hb2 => ?_)
  ·refine sOn0 ?_
   refine sM rfl rfl <| sOn0 ?_
   refine jN4 rfl rfl rfl <| sP rfl rfl rfl <| sA rfl rfl <| sN (hZ _ _ ?_ ?_)
   ·exact Kn.cons rfl (Kn.cons (congrArg some (congrArg Value.bool (by rw [lR]; simp at *; omega))) Kn.nil)
   ·exact HLe.refl _
  ·refine sO0 ?_
   refine sO0 ?_
   refine sP rfl rfl rfl <| sA rfl rfl <| sN (hZ _ _ ?_ ?_)
   ·exact Kn.cons rfl (Kn.cons (congrArg some (congrArg Value.bool (by rw [lR]; simp at *; omega))) Kn.nil)
   ·exact HLe.refl _
 refine aC0 (fun h => ?_) (fun h => ?_)
 ·have h' : 48 ≤ n ∧ n ≤ 57 := by simpa using h
  rw [show digN n = n - 48 by unfold digN; rw [if_pos h'], show digB n = true by simp [digB, h']]
  refine aR fun Z hZ => sM rfl rfl <| jN3 rfl rfl ((n - 48 : Nat) : Int) (by rw [IntWalk.u8_in _ (by omega)]; omega) rfl ?_
  refine jB7 Tryz.underlying5 Tryz.underlying21 rfl ((n - 48 : Nat) : Int) (zL _ (by omega)) rfl ?_
  refine sA rfl rfl <| sAN hZ rfl rfl <| f2K 2 3 rfl <| aE ?_
  repeat (with_reducible (first | refine nTR ?_ | refine nBR ?_))
  exact jF8 rfl rfl rfl rfl
 have h0 : ¬ (48 ≤ n ∧ n ≤ 57) := by simpa using h
 refine jA3 [(0, .int .u8 (n : Nat)), (14, .bool (decide (97 ≤ n ∧ n ≤ 102)))] [] (fun Z hZ => ?_) ?_
 ·refine sM rfl rfl <| jO3 rfl rfl rfl <| sM rfl rfl <| jD0 17 rfl (fun hb2 => ?_) (fun hb2 => ?_)
  ·refine sOn0 ?_
   refine sM rfl rfl <| sOn0 ?_
   refine jN4 rfl rfl rfl <| sP rfl rfl rfl <| sA rfl rfl <| sN (hZ _ _ ?_ ?_)
   ·exact Kn.cons rfl (Kn.cons (congrArg some (congrArg Value.bool (by rw [lR]; simp at *; omega))) Kn.nil)
   ·exact HLe.refl _
  ·refine sO0 ?_
   refine sO0 ?_
   refine sP rfl rfl rfl <| sA rfl rfl <| sN (hZ _ _ ?_ ?_)
   ·exact Kn.cons rfl (Kn.cons (congrArg some (congrArg Value.bool (by rw [lR]; simp at *; omega))) Kn.nil)
   ·exact HLe.refl _
 refine aC0 (fun h1 => ?_) (fun h1 => ?_)
 ·have h' : 97 ≤ n ∧ n ≤ 102 := by simpa using h1
  rw [show digN n = n - 97 + 10 by unfold digN; rw [if_neg h0, if_pos h'], show digB n = true by simp [digB, h']]
  refine aR fun Z hZ => sM rfl rfl <| jN3 rfl rfl ((n - 97 : Nat) : Int) (by rw [IntWalk.u8_in _ (by omega)]; omega) rfl ?_
  refine jB7 Tryz.underlying5 Tryz.underlying21 rfl ((n - 97 : Nat) : Int) (zL _ (by omega)) rfl ?_
  refine jC2 rfl rfl ((n - 97 + 10 : Nat) : Int) (by rw [zL _ (by omega)]; omega) rfl ?_
  refine sA rfl rfl <| sAN hZ rfl rfl <| f2K 2 3 rfl <| aE ?_
  repeat (with_reducible (first | refine nTR ?_ | refine nBR ?_))
  exact jF8 rfl rfl rfl rfl
 have h2 : ¬ (97 ≤ n ∧ n ≤ 102) := by simpa using h1
 refine jA3 [(0, .int .u8 (n : Nat)), (25, .bool (decide (65 ≤ n ∧ n ≤ 70)))] [] (fun Z hZ => ?_) ?_
 ·refine sM rfl rfl <| jO3 rfl rfl rfl <| sM rfl rfl <| jD0 28 rfl (fun hb2 => ?_) (fun hb2 => ?_)
  ·refine sOn0 ?_
   refine sM rfl rfl <| sOn0 ?_
   refine jN4 rfl rfl rfl <| sP rfl rfl rfl <| sA rfl rfl <| sN (hZ _ _ ?_ ?_)
   ·exact Kn.cons rfl (Kn.cons (congrArg some (congrArg Value.bool (by rw [lR]; simp at *; omega))) Kn.nil)
   ·exact HLe.refl _
  ·refine sO0 ?_
   refine sO0 ?_
   refine sP rfl rfl rfl <| sA rfl rfl <| sN (hZ _ _ ?_ ?_)
   ·exact Kn.cons rfl (Kn.cons (congrArg some (congrArg Value.bool (by rw [lR]; simp at *; omega))) Kn.nil)
   ·exact HLe.refl _
 refine aC0 (fun h3 => ?_) (fun h3 => ?_)
 ·have h' : 65 ≤ n ∧ n ≤ 70 := by simpa using h3
  rw [show digN n = n - 65 + 10 by unfold digN; rw [if_neg h0, if_neg h2, if_pos h'], show digB n = true by simp [digB, h']]
  refine aR fun Z hZ => sM rfl rfl <| jN3 rfl rfl ((n - 65 : Nat) : Int) (by rw [IntWalk.u8_in _ (by omega)]; omega) rfl ?_
  refine jB7 Tryz.underlying5 Tryz.underlying21 rfl ((n - 65 : Nat) : Int) (zL _ (by omega)) rfl ?_
  refine jC2 rfl rfl ((n - 65 + 10 : Nat) : Int) (by rw [zL _ (by omega)]; omega) rfl ?_
  refine sA rfl rfl <| sAN hZ rfl rfl <| f2K 2 3 rfl <| aE ?_
  repeat (with_reducible (first | refine nTR ?_ | refine nBR ?_))
  exact jF8 rfl rfl rfl rfl
 have h4 : ¬ (65 ≤ n ∧ n ≤ 70) := by simpa using h3
 rw [show digN n = 0 by unfold digN; rw [if_neg h0, if_neg h2, if_neg h4], show digB n = false by simp only [digB, h0, h2, h4, decide_false, Bool.or_false]]
 refine aK ?_
 repeat refine nBN ?_
 refine nN <| aR fun Z hZ => sA rfl rfl <| sAN hZ rfl rfl <| f2K 2 3 rfl <| aE <| jF8 rfl rfl rfl rfl
def vA1 (s : List UInt8) : Nat → Nat → Nat → Nat × Nat
 | 0, _, c => (c, 0)
 | k + 1, i, c => match s[i]? with
  | none => (0, 3)
  | some b => if (i = 0 ∧ b ≠ 92) ∨ (i = 1 ∧ b ≠ 117) ∨ (1 < i ∧ digB b.toNat = false) then (0, 4) else vA1 s k (i + 1) (if 1 < i then c * 16 + digN b.toNat else c)
def jT7 (s : List UInt8) : Nat × Nat := vA1 s 6 0 0
theorem vU3 (s : List UInt8) : ∀ (k i c : Nat), i + k = 6 → c < 16 ^ (i - 2) → (vA1 s k i c).1 < 65536
 | 0, i, c, hi, hc => by
  obtain rfl : i = 6 := by omega
  exact hc
 | k + 1, i, c, hi, hc => by
  rw [vA1]
  cases hb : s[i]? with
  | none => simp
  | some b =>
   simp only
   split
   ·simp
   ·refine vU3 s k (i + 1) _ (by omega) ?_
    split
    ·rename_i h
     have := wO5 b.toNat
     rw [show i + 1 - 2 = i - 2 + 1 by omega, qY]
     omega
    ·rename_i h
     rw [show i + 1 - 2 = 0 by omega]
     rw [show i - 2 = 0 by omega] at hc
     exact hc
theorem kK9 (s : List UInt8) : (jT7 s).1 < 65536 := vU3 s 6 0 0 rfl (by decide)
theorem bv32 (m : Nat) (h : m < 4294967296) : (BitVec.ofInt IntKind.i32.bits (m : Int)).toNat = m := by
 show (BitVec.ofInt 32 (m : Int)).toNat = m
 rw [BitVec.toNat_ofInt]
 omega
theorem or16 (c d : Nat) (hc : c < 4096) (hd : d < 16) : kE4 .or .i32 ((c * 16 : Nat) : Int) (d : Int) = ((c * 16 + d : Nat) : Int) := by
 unfold kE4
 simp only [BitVec.toNat_or]
 rw [bv32 _ (by omega), bv32 _ (by omega)]
 have h : c * 16 ||| d = c * 16 + d := by
  have := Nat.shiftLeft_add_eq_or_of_lt (i := 4) (b := d) (by omega) c
  rw [Nat.shiftLeft_eq] at this
  exact this.symm
 rw [h, zL _ (by omega)]
theorem zH1 (c : Nat) (hc : c < 4096) : IntKind.i32.wrap ((c : Int) * 2 ^ (min (4 : Int).toNat IntKind.i32.bits)) = ((c * 16 : Nat) : Int) := by
 rw [show min (4 : Int).toNat IntKind.i32.bits = 4 from rfl, zL _ (by omega)]
 omega
theorem wP6 (s : List UInt8) (hs : s.length ≤ 1000000) : Fn Tryz.prog 247 [.string (str s)] [] fun v _ => v = .tuple #[.int .i32 (((jT7 s).1 : Nat) : Int), iq ((jT7 s).2 : Nat)] := by
 refine Fn.enter (N := 54) Tryz.func247 rfl (by kernel_rfl) rfl (fun w0 => ?_)
 refine aR fun Z hZ => sA rfl rfl <| sAN hZ rfl rfl <| f1K 0 rfl <| aA rfl rfl <| f2K 0 4 rfl <| aS <| aR fun Z hZ => sMN hZ rfl rfl <| f3K 0 4 8 rfl <| aB <| jB9 (ι := Nat × Nat) (fun j => [(0, .string (str s)), (4, .int .i32 ((j.2 : Nat) : Int)), (8, iq (j.1 : Nat))]) (fun _ => []) (fun j => j.1 ≤ 6 ∧ j.1 ≤ s.length ∧ j.2 < 16 ^ (j.1 - 2) ∧ vA1 s (6 - j.1) j.1 j.2 = jT7 s) (fun j => 6 - j.1) (0, 0) ⟨by omega, by omega, by decide, rfl⟩ (kR rfl) (HLe.refl _) ?_
 rintro ⟨i, c⟩ ⟨hi, hl, hc, hq⟩
 simp only at hi hl hc hq
 refine aR (fun Z hZ => jB2 ?_)
 refine sN (hZ _ _ <| f4K 0 4 8 9 rfl <| aS (aC0 (fun h => ?_) (fun h => ?_)))
 ·have hi6 : i < 6 := by simp at h; omega
  obtain ⟨k, hk⟩ : ∃ k, 6 - i = k + 1 := ⟨5 - i, by omega⟩
  rw [hk, vA1] at hq
  refine aK <| nN <| aS (aB <| aR fun Z hZ => sM rfl rfl <| sAN hZ rfl rfl <| f4K 0 4 5 8 rfl <| aS <| aR fun Z hZ => sM rfl rfl <| sM rfl rfl <| jD6 Tryz.underlying9 rfl rfl <| jB0 ?_)
  refine sN (hZ _ _ <| f5K 0 4 5 8 14 rfl <| aC0 (fun h1 => ?_) (fun h1 => ?_))
  ·have h1' : s[i]? = none := qL (by simp at h1; omega)
   rw [h1'] at hq
   rw [← hq]
   refine aR fun Z hZ => sA rfl rfl <| sAN hZ rfl rfl <| f2K 2 3 rfl <| aE ?_
   repeat (with_reducible (first | refine nTR ?_ | refine nBR ?_))
   exact jF8 rfl rfl rfl rfl
  have hlt : i < s.length := by simp at h1; omega
  obtain ⟨b, hb⟩ : ∃ b, s[i]? = some b := ⟨_, xC hlt⟩
  rw [hb] at hq
  simp only at hq
  refine aK <| nN <| aR fun Z hZ => sM rfl rfl <| sM rfl rfl <| jK4 Tryz.underlying9 rfl rfl (by omega) (by rw [x9]; exact hb) rfl ?_
  refine sCP0 (yC5 b) ?_
  refine sM rfl rfl <| sX rfl rfl rfl <| sX rfl rfl rfl <| sA rfl rfl <| sAN hZ rfl rfl <| f6K 0 4 5 6 7 8 rfl ?_
  have hb92 : ((b.toNat : Int) = 92) ↔ b = 92 := ⟨fun h => UInt8.toNat_inj.1 (show b.toNat = 92 by omega), fun h => by rw [h]; rfl⟩
  have hb117 : ((b.toNat : Int) = 117) ↔ b = 117 := ⟨fun h => UInt8.toNat_inj.1 (show b.toNat = 117 by omega), fun h => by rw [h]; rfl⟩
  have hdg := wO5 b.toNat
  refine aB <| jJ7 (ι := Unit) (fun _ => [(0, .string (str s)), (4, .int .i32 ((c : Nat) : Int)), (5, iq (i : Nat)), (6, .int .i32 ((digN b.toNat : Nat) : Int)), (8, iq (i : Nat)), (22, .bool (decide ((i = 0 ∧ b ≠ 92) ∨ (i = 1 ∧ b ≠ 117) ∨ (1 < i ∧ digB b.toNat = false))))]) (fun _ => []) (fun _ => True) ?_ ?_
  ·refine jA3 [(0, .string (str s)), (4, .int .i32 ((c : Nat) : Int)), (5, iq (i : Nat)), (6, .int .i32 ((digN b.toNat : Nat) : Int)), (7, .bool (digB b.toNat)), (8, iq (i : Nat)), (22, .bool (decide (i = 0 ∧ b ≠ 92)))] [] (fun Z hZ => ?_) ?_
   ·refine sM rfl rfl <| jB0 ?_
    refine sM rfl rfl <| jD0 25 rfl (fun hb2 => ?_) (fun hb2 => ?_)
    ·refine sOn0 ?_
     refine sM rfl rfl <| sOn0 ?_
     refine sM rfl rfl <| sOn0 ?_
     refine jK4 Tryz.underlying9 rfl rfl (by omega) (by rw [x9]; exact hb) rfl ?_
     refine sOn0 ?_
     refine jC7 ?_
     refine sP rfl rfl rfl <| sA rfl rfl <| sN (hZ _ _ ?_ ?_)
     ·exact Kn.cons rfl (Kn.cons rfl (Kn.cons rfl (Kn.cons rfl (Kn.cons rfl (Kn.cons rfl (Kn.cons (congrArg some (congrArg Value.bool (by rw [lR]; first | (simp [hb92, hb117] at *; done) | (simp [hb92, hb117] at *; omega) | (simp at *; omega)))) Kn.nil))))))
     ·exact HLe.refl _
    ·refine sO0 ?_
     refine sO0 ?_
     refine sO0 ?_
     refine sO0 ?_
     refine sP rfl rfl rfl <| sA rfl rfl <| sN (hZ _ _ ?_ ?_)
     ·exact Kn.cons rfl (Kn.cons rfl (Kn.cons rfl (Kn.cons rfl (Kn.cons rfl (Kn.cons rfl (Kn.cons (congrArg some (congrArg Value.bool (by rw [lR]; first | (simp [hb92, hb117] at *; done) | (simp [hb92, hb117] at *; omega) | (simp at *; omega)))) Kn.nil))))))
     ·exact HLe.refl _
   refine aC0 (fun h2 => ?_) (fun h2 => ?_)
   ·have h2' : i = 0 ∧ b ≠ 92 := by simpa using h2
    refine aK <| jE4 () trivial (Kn.cons rfl (Kn.cons rfl (Kn.cons rfl (Kn.cons rfl (Kn.cons rfl (Kn.cons (congrArg some (congrArg Value.bool (decide_eq_decide.2 ⟨fun h => .inl h, fun _ => h2'⟩))) Kn.nil)))))) (HLe.refl _)
   have h2' : ¬ (i = 0 ∧ b ≠ 92) := by simpa using h2
   refine jA3 [(0, .string (str s)), (4, .int .i32 ((c : Nat) : Int)), (5, iq (i : Nat)), (6, .int .i32 ((digN b.toNat : Nat) : Int)), (7, .bool (digB b.toNat)), (8, iq (i : Nat)), (22, .bool (decide (i = 1 ∧ b ≠ 117)))] [] (fun Z hZ => ?_) ?_
   ·refine sM rfl rfl <| jB0 ?_
    refine sM rfl rfl <| jD0 33 rfl (fun hb2 => ?_) (fun hb2 => ?_)
    ·refine sOn0 ?_
     refine sM rfl rfl <| sOn0 ?_
     refine sM rfl rfl <| sOn0 ?_
     refine jK4 Tryz.underlying9 rfl rfl (by omega) (by rw [x9]; exact hb) rfl ?_
     refine sOn0 ?_
     refine jC7 ?_
     refine sP rfl rfl rfl <| sA rfl rfl <| sN (hZ _ _ ?_ ?_)
     ·exact Kn.cons rfl (Kn.cons rfl (Kn.cons rfl (Kn.cons rfl (Kn.cons rfl (Kn.cons rfl (Kn.cons (congrArg some (congrArg Value.bool (by rw [lR]; first | (simp [hb92, hb117] at *; done) | (simp [hb92, hb117] at *; omega) | (simp at *; omega)))) Kn.nil))))))
     ·exact HLe.refl _
    ·refine sO0 ?_
     refine sO0 ?_
     refine sO0 ?_
     refine sO0 ?_
     refine sP rfl rfl rfl <| sA rfl rfl <| sN (hZ _ _ ?_ ?_)
     ·exact Kn.cons rfl (Kn.cons rfl (Kn.cons rfl (Kn.cons rfl (Kn.cons rfl (Kn.cons rfl (Kn.cons (congrArg some (congrArg Value.bool (by rw [lR]; first | (simp [hb92, hb117] at *; done) | (simp [hb92, hb117] at *; omega) | (simp at *; omega)))) Kn.nil))))))
     ·exact HLe.refl _
   refine aC0 (fun h3 => ?_) (fun h3 => ?_)
   ·have h3' : i = 1 ∧ b ≠ 117 := by simpa using h3
    refine aK <| jE4 () trivial (Kn.cons rfl (Kn.cons rfl (Kn.cons rfl (Kn.cons rfl (Kn.cons rfl (Kn.cons (congrArg some (congrArg Value.bool (decide_eq_decide.2 ⟨fun h => .inr (.inl h), fun _ => h3'⟩))) Kn.nil)))))) (HLe.refl _)
   have h3' : ¬ (i = 1 ∧ b ≠ 117) := by simpa using h3
   refine jO1 ([(0, .string (str s)), (4, .int .i32 ((c : Nat) : Int)), (5, iq (i : Nat)), (6, .int .i32 ((digN b.toNat : Nat) : Int)), (8, iq (i : Nat)), (22, .bool (decide (1 < i ∧ digB b.toNat = false)))]) ([]) ?_ ?_
   ·refine aG (fun Z hZ => sM rfl rfl <| jC4 ?_)
    refine sM rfl rfl <| jD0 41 rfl (fun hb2 => ?_) (fun hb2 => ?_)
    ·refine sOn0 ?_
     refine sM rfl rfl <| sOn0 ?_
     refine jI8 rfl rfl <| sP rfl rfl rfl <| sA rfl rfl <| sN (hZ _ _ (jE4 () trivial ?_ ?_))
     ·exact Kn.cons rfl (Kn.cons rfl (Kn.cons rfl (Kn.cons rfl (Kn.cons rfl (Kn.cons (congrArg some (congrArg Value.bool (by rw [lR]; first | (simp [hb92, hb117] at *; done) | (simp [hb92, hb117] at *; omega) | (simp at *; omega)))) Kn.nil)))))
     ·exact HLe.refl _
    ·refine sO0 ?_
     refine sO0 ?_
     refine sP rfl rfl rfl <| sA rfl rfl <| sN (hZ _ _ (jE4 () trivial ?_ ?_))
     ·exact Kn.cons rfl (Kn.cons rfl (Kn.cons rfl (Kn.cons rfl (Kn.cons rfl (Kn.cons (congrArg some (congrArg Value.bool (by rw [lR]; first | (simp [hb92, hb117] at *; done) | (simp [hb92, hb117] at *; omega) | (simp at *; omega)))) Kn.nil)))))
     ·exact HLe.refl _
   exact jE4 () trivial (Kn.cons rfl (Kn.cons rfl (Kn.cons rfl (Kn.cons rfl (Kn.cons rfl (Kn.cons (congrArg some (congrArg Value.bool (decide_eq_decide.2 ⟨fun h => .inr (.inr h), fun h => (h.resolve_left h2').resolve_left h3'⟩))) Kn.nil)))))) (HLe.refl _)
  rintro ⟨⟩ -
  refine aC0 (fun h2 => ?_) (fun h2 => ?_)
  ·have h2' : (i = 0 ∧ b ≠ 92) ∨ (i = 1 ∧ b ≠ 117) ∨ (1 < i ∧ digB b.toNat = false) := by simpa using h2
   rw [if_pos h2'] at hq
   rw [← hq]
   refine aR fun Z hZ => sA rfl rfl <| sAN hZ rfl rfl <| f2K 2 3 rfl <| aE ?_
   repeat (with_reducible (first | refine nTR ?_ | refine nBR ?_))
   exact jF8 rfl rfl rfl rfl
  have h2' : ¬ ((i = 0 ∧ b ≠ 92) ∨ (i = 1 ∧ b ≠ 117) ∨ (1 < i ∧ digB b.toNat = false)) := by simpa using h2
  rw [if_neg h2'] at hq
  refine aR fun Z hZ => sM rfl rfl <| jC4 ?_
  refine sAN hZ rfl rfl <| f5K 0 4 6 8 45 rfl ?_
  have hk' : k = 6 - (i + 1) := by omega
  refine aC0 (fun h4 => ?_) (fun h4 => ?_)
  ·have h4' : 1 < i := by simp at h4; omega
   rw [if_pos h4'] at hq
   have hc4 : c < 4096 := by
    have : (16 : Nat) ^ (i - 2) ≤ 16 ^ 3 := z7 (by decide) (by omega)
    omega
   refine aG (fun Z hZ => sM rfl rfl <| vP3 rfl rfl (by decide) ((c * 16 : Nat) : Int) (zH1 c hc4) rfl ?_)
   refine sM rfl rfl <| jJ1 (.inr (.inl rfl)) rfl rfl ((c * 16 + digN b.toNat : Nat) : Int) (or16 c _ hc4 hdg) rfl <| sAN hZ rfl rfl <| nF [(0, _), (4, _), (8, _)] (kR rfl) ?_
   repeat refine nBN ?_
   refine nN ?_
   refine aG (fun Z hZ => ?_)
   refine jC2 rfl rfl ((i + 1 : Nat) : Int) (by rw [lT _ (by omega)]; omega) rfl ?_
   refine sMN hZ rfl rfl <| nF [(0, _), (4, _), (8, _)] (kR rfl) <| jB8 (i + 1, c * 16 + digN b.toNat) ⟨by omega, by omega, ?_, by rw [← hk']; exact hq⟩ (by show 6 - (i + 1) < 6 - i; omega) (kR rfl) (HLe.refl _)
   rw [show i + 1 - 2 = i - 2 + 1 by omega, qY]
   omega
  ·have h4' : ¬ 1 < i := by simp at h4; omega
   rw [if_neg h4'] at hq
   refine aK ?_
   repeat refine nBN ?_
   refine nN ?_
   refine aG (fun Z hZ => ?_)
   refine jC2 rfl rfl ((i + 1 : Nat) : Int) (by rw [lT _ (by omega)]; omega) rfl ?_
   refine sMN hZ rfl rfl <| nF [(0, _), (4, _), (8, _)] (kR rfl) <| jB8 (i + 1, c) ⟨by omega, by omega, ?_, by rw [← hk']; exact hq⟩ (by show 6 - (i + 1) < 6 - i; omega) (kR rfl) (HLe.refl _)
   rw [show i + 1 - 2 = 0 by omega]
   rw [show i - 2 = 0 by omega] at hc
   exact hc
 ·have hi6 : i = 6 := by simp at h; omega
  subst hi6
  rw [show 6 - 6 = 0 from rfl, vA1] at hq
  rw [← hq]
  refine jB1 ?_
  repeat refine nTE ?_
  refine nBE <| nN <| aR fun Z hZ => sM rfl rfl <| sA rfl rfl <| sAN hZ rfl rfl <| f2K 2 3 rfl <| aE <| jF8 rfl rfl rfl rfl
theorem vG5 (s : List UInt8) : ∀ (k i c : Nat), (vA1 s k i c).2 = 0 → i ≤ s.length → i + k ≤ s.length
 | 0, _, _, _, h => h
 | k + 1, i, c, h, hi => by
  rw [vA1] at h
  cases hb : s[i]? with
  | none => rw [hb] at h; cases h
  | some b =>
   rw [hb] at h
   have hl : i < s.length := (List.getElem?_eq_some_iff.1 hb).1
   simp only at h
   split at h
   ·cases h
   ·have := vG5 s k (i + 1) _ h (by omega)
    omega
theorem wP7 {s : List UInt8} (h : (jT7 s).2 = 0) : 6 ≤ s.length := by
 have := vG5 s 6 0 0 h (xD _)
 omega
def kN4 (s : List UInt8) : Nat × Nat × Nat :=
 if (jT7 s).2 ≠ 0 then (0, 0, (jT7 s).2)
 else if (jT7 s).1 < 55296 ∨ 57343 < (jT7 s).1 then ((jT7 s).1, 6, 0)
 else if 56320 ≤ (jT7 s).1 then (0, 0, 4)
 else if (jT7 (s.drop 6)).2 ≠ 0 then (0, 0, (jT7 (s.drop 6)).2)
 else if (jT7 (s.drop 6)).1 < 56320 ∨ 57343 < (jT7 (s.drop 6)).1 then (0, 0, 4)
 else (65536 + ((jT7 s).1 - 55296) * 1024 + (jT7 (s.drop 6)).1 - 56320, 12, 0)
theorem zH2 (c : Nat) (hc : c < 2048) : IntKind.i32.wrap ((c : Int) * 2 ^ (min (10 : Int).toNat IntKind.i32.bits)) = ((c * 1024 : Nat) : Int) := by
 rw [show min (10 : Int).toNat IntKind.i32.bits = 10 from rfl, zL _ (by omega)]
 omega
theorem yQ0 (s : List UInt8) (hs : s.length ≤ 1000000) : Fn Tryz.prog 230 [.string (str s)] [] fun v _ => v = .tuple #[.int .i32 (((kN4 s).1 : Nat) : Int), iq ((kN4 s).2.1 : Nat), iq ((kN4 s).2.2 : Nat)] := by
 have h1 := wP6 s hs
 have h2 := wP6 (s.drop 6) (by rw [xY]; omega)
 have l1 := kK9 s
 have l2 := kK9 (s.drop 6)
 have hl := @wP7 s
 unfold kN4
 obtain ⟨a, e, hae⟩ : ∃ a e, jT7 s = (a, e) := ⟨_, _, rfl⟩
 obtain ⟨b, f, hbf⟩ : ∃ b f, jT7 (s.drop 6) = (b, f) := ⟨_, _, rfl⟩
 rw [hae] at h1 l1 hl ⊢
 rw [hbf] at h2 l2 ⊢
 simp only at h1 h2 l1 l2 hl ⊢
 clear hae hbf
 refine Fn.enter (N := 52) Tryz.func230 rfl (by kernel_rfl) rfl (fun w0 => ?_)
 refine aR fun Z hZ => sA rfl rfl <| sA rfl rfl <| sAN hZ rfl rfl <| f1K 0 rfl <| aR fun Z hZ => sM rfl rfl <| sCP0 h1 ?_
 refine sM rfl rfl <| sX rfl rfl rfl <| sX rfl rfl rfl <| sA rfl rfl <| sAN hZ rfl rfl <| f3K 0 5 6 rfl <| aS (aB <| aR fun Z hZ => sM rfl rfl <| jC7 ?_)
 refine sAN hZ rfl rfl <| f4K 0 5 6 13 rfl <| aC0 (fun c1 => ?_) (fun c1 => ?_)
 ·have c1' : e ≠ 0 := by simpa using c1
  rw [if_pos c1']
  refine aR fun Z hZ => sM rfl rfl <| sA rfl rfl <| sA rfl rfl <| sAN hZ rfl rfl <| f3K 2 3 4 rfl <| aE ?_
  repeat (with_reducible (first | refine nTR ?_ | refine nBR ?_))
  exact jH2 rfl rfl rfl rfl rfl
 have c1' : e = 0 := by simpa using c1
 rw [if_neg (by simpa using c1')]
 refine jA3 [(0, .string (str s)), (5, .int .i32 ((a : Nat) : Int)), (17, .bool (decide (a < 55296 ∨ 57343 < a)))] [] (fun Z hZ => ?_) ?_
 ·refine sM rfl rfl <| jB2 ?_
  refine sM rfl rfl <| jD0 20 rfl (fun hb2 => ?_) (fun hb2 => ?_)
  ·refine sO0 ?_
   refine sO0 ?_
   refine sP rfl rfl rfl <| sA rfl rfl <| sN (hZ _ _ ?_ ?_)
   ·exact Kn.cons rfl (Kn.cons rfl (Kn.cons (congrArg some (congrArg Value.bool (by rw [lR]; simp at *; omega))) Kn.nil))
   ·exact HLe.refl _
  ·refine sOn0 ?_
   refine sM rfl rfl <| sOn0 ?_
   refine jC4 ?_
   refine sP rfl rfl rfl <| sA rfl rfl <| sN (hZ _ _ ?_ ?_)
   ·exact Kn.cons rfl (Kn.cons rfl (Kn.cons (congrArg some (congrArg Value.bool (by rw [lR]; simp at *; omega))) Kn.nil))
   ·exact HLe.refl _
 refine aC0 (fun c2 => ?_) (fun c2 => ?_)
 ·have c2' : a < 55296 ∨ 57343 < a := by simpa using c2
  rw [if_pos c2']
  refine aR fun Z hZ => sM rfl rfl <| sA rfl rfl <| sA rfl rfl <| sAN hZ rfl rfl <| f3K 2 3 4 rfl <| aE ?_
  repeat (with_reducible (first | refine nTR ?_ | refine nBR ?_))
  exact jH2 rfl rfl rfl rfl rfl
 have c2' : ¬ (a < 55296 ∨ 57343 < a) := by simpa using c2
 rw [if_neg c2']
 refine aR fun Z hZ => sM rfl rfl <| jO3 rfl rfl rfl <| sAN hZ rfl rfl <| f3K 0 5 25 rfl <| aC0 (fun c3 => ?_) (fun c3 => ?_)
 ·have c3' : 56320 ≤ a := by simp at c3; omega
  rw [if_pos c3']
  refine aR fun Z hZ => sA rfl rfl <| sA rfl rfl <| sAN hZ rfl rfl <| f3K 2 3 4 rfl <| aE ?_
  repeat (with_reducible (first | refine nTR ?_ | refine nBR ?_))
  exact jH2 rfl rfl rfl rfl rfl
 have c3' : ¬ 56320 ≤ a := by simp at c3; omega
 rw [if_neg c3']
 refine aK ?_
 repeat refine nBN ?_
 refine nN ?_
 have h6 := hl c1'
 refine aR fun Z hZ => sM rfl rfl <| jL9 (s.drop 6) Tryz.underlying9 rfl rfl rfl (by omega) (by omega) (by omega) (by rw [x9]; exact qZ (by rw [xY]; exact xB _)) rfl ?_
 refine sCP0 h2 ?_
 refine sM rfl rfl <| sX rfl rfl rfl <| sX rfl rfl rfl <| sA rfl rfl <| sAN hZ rfl rfl <| f3K 5 6 7 rfl <| aS (aB <| aR fun Z hZ => sM rfl rfl <| jC7 ?_)
 refine sAN hZ rfl rfl <| f4K 5 6 7 34 rfl <| aC0 (fun c4 => ?_) (fun c4 => ?_)
 ·have c4' : f ≠ 0 := by simpa using c4
  rw [if_pos c4']
  refine aR fun Z hZ => sM rfl rfl <| sA rfl rfl <| sA rfl rfl <| sAN hZ rfl rfl <| f3K 2 3 4 rfl <| aE ?_
  repeat (with_reducible (first | refine nTR ?_ | refine nBR ?_))
  exact jH2 rfl rfl rfl rfl rfl
 have c4' : f = 0 := by simpa using c4
 rw [if_neg (by simpa using c4')]
 refine jA3 [(5, .int .i32 ((a : Nat) : Int)), (7, .int .i32 ((b : Nat) : Int)), (38, .bool (decide (b < 56320 ∨ 57343 < b)))] [] (fun Z hZ => ?_) ?_
 ·refine sM rfl rfl <| jB2 ?_
  refine sM rfl rfl <| jD0 41 rfl (fun hb2 => ?_) (fun hb2 => ?_)
  ·refine sO0 ?_
   refine sO0 ?_
   refine sP rfl rfl rfl <| sA rfl rfl <| sN (hZ _ _ ?_ ?_)
   ·exact Kn.cons rfl (Kn.cons rfl (Kn.cons (congrArg some (congrArg Value.bool (by rw [lR]; simp at *; omega))) Kn.nil))
   ·exact HLe.refl _
  ·refine sOn0 ?_
   refine sM rfl rfl <| sOn0 ?_
   refine jC4 ?_
   refine sP rfl rfl rfl <| sA rfl rfl <| sN (hZ _ _ ?_ ?_)
   ·exact Kn.cons rfl (Kn.cons rfl (Kn.cons (congrArg some (congrArg Value.bool (by rw [lR]; simp at *; omega))) Kn.nil))
   ·exact HLe.refl _
 refine aC0 (fun c5 => ?_) (fun c5 => ?_)
 ·have c5' : b < 56320 ∨ 57343 < b := by simpa using c5
  rw [if_pos c5']
  refine aR fun Z hZ => sA rfl rfl <| sA rfl rfl <| sAN hZ rfl rfl <| f3K 2 3 4 rfl <| aE ?_
  repeat (with_reducible (first | refine nTR ?_ | refine nBR ?_))
  exact jH2 rfl rfl rfl rfl rfl
 have c5' : ¬ (b < 56320 ∨ 57343 < b) := by simpa using c5
 rw [if_neg c5']
 refine aK ?_
 repeat refine nBN ?_
 refine nN <| aR fun Z hZ => sM rfl rfl <| jN3 rfl rfl ((a - 55296 : Nat) : Int) (by rw [zL _ (by omega)]; omega) rfl ?_
 refine vP3 rfl rfl (by decide) (((a - 55296) * 1024 : Nat) : Int) (zH2 _ (by omega)) rfl ?_
 refine jC2 rfl rfl ((65536 + (a - 55296) * 1024 : Nat) : Int) (by rw [zL _ (by omega)]; omega) rfl ?_
 refine sM rfl rfl ?_
 refine jC2 rfl rfl ((65536 + (a - 55296) * 1024 + b : Nat) : Int) (by rw [zL _ (by omega)]; omega) rfl ?_
 refine jN3 rfl rfl ((65536 + (a - 55296) * 1024 + b - 56320 : Nat) : Int) (by rw [zL _ (by omega)]; omega) rfl ?_
 refine sA rfl rfl <| sA rfl rfl <| sAN hZ rfl rfl <| f3K 2 3 4 rfl <| aE <| jH2 rfl rfl rfl rfl rfl
def jT4 (s : List UInt8) : Nat × Nat × Nat :=
 match s[1]? with
 | none => (0, 0, 3)
 | some c => if c = 34 ∨ c = 92 ∨ c = 47 then (c.toNat, 2, 0) else if c = 98 then (8, 2, 0) else if c = 102 then (12, 2, 0) else if c = 110 then (10, 2, 0) else if c = 114 then (13, 2, 0) else if c = 116 then (9, 2, 0) else kN4 s
theorem yR2 (s : List UInt8) (hs : s.length ≤ 1000000) : Fn Tryz.prog 198 [.string (str s)] [] fun v _ => v = .tuple #[.int .i32 (((jT4 s).1 : Nat) : Int), iq ((jT4 s).2.1 : Nat), iq ((jT4 s).2.2 : Nat)] := by
 have hp := yQ0 s hs
 refine Fn.enter (N := 32) Tryz.func198 rfl (by kernel_rfl) rfl (fun w0 => ?_)
 refine aR fun Z hZ => sA rfl rfl <| sA rfl rfl <| sAN hZ rfl rfl <| f1K 0 rfl <| aS <| aR fun Z hZ => sM rfl rfl <| jD6 Tryz.underlying9 rfl rfl <| jB2 ?_
 refine sN (hZ _ _ <| f2K 0 7 rfl <| aC0 (fun h => ?_) (fun h => ?_))
 ·have h' : s[1]? = none := qL (by simp at h; omega)
  unfold jT4
  rw [h']
  refine aR fun Z hZ => sA rfl rfl <| sA rfl rfl <| sAN hZ rfl rfl <| f3K 2 3 4 rfl <| aE ?_
  repeat refine nTR ?_
  exact jH2 rfl rfl rfl rfl rfl
 have hl : 1 < s.length := by simp at h; omega
 obtain ⟨c, hc⟩ : ∃ c, s[1]? = some c := ⟨_, xC hl⟩
 have hch : ∀ k : UInt8, ((c.toNat : Int) == (k.toNat : Int)) = decide (c = k) := fun k => by
  rw [lR]
  simp only [beq_iff_eq, decide_eq_true_eq]
  exact ⟨fun h => UInt8.toNat_inj.1 (by omega), fun h => by rw [h]⟩
 have e34 := hch 34
 have e92 := hch 92
 have e47 := hch 47
 have e98 := hch 98
 have e102 := hch 102
 have e110 := hch 110
 have e114 := hch 114
 have e116 := hch 116
 have hm : jT4 s = if c = 34 ∨ c = 92 ∨ c = 47 then (c.toNat, 2, 0) else if c = 98 then (8, 2, 0) else if c = 102 then (12, 2, 0) else if c = 110 then (10, 2, 0) else if c = 114 then (13, 2, 0) else if c = 116 then (9, 2, 0) else kN4 s := by
  unfold jT4
  rw [hc]
 rw [hm]
 clear hm
 refine aK <| nN <| aS <| aR fun Z hZ => sM rfl rfl <| jK4 Tryz.underlying9 rfl rfl (by omega) hc rfl ?_
 refine sN (hZ _ _ <| f2K 0 9 rfl ?_)
 have hlt := c.toNat_lt
 refine aB <| jJ7 (ι := Unit) (fun _ => [(0, .string (str s)), (9, .int .u8 (c.toNat : Int)), (10, .bool (decide (c = 34 ∨ c = 92 ∨ c = 47)))]) (fun _ => []) (fun _ => True) ?_ ?_
 ·refine aR (fun Z hZ => jB0 ?_)
  refine sAN hZ rfl rfl <| f3K 0 9 10 rfl <| aC0 (fun h1 => ?_) (fun h1 => ?_)
  ·have h1' : c = 34 := by rw [show ((c.toNat : Int) == 34) = _ from e34] at h1; simpa using h1
   refine aK <| jE4 () trivial (Kn.cons rfl (Kn.cons rfl (Kn.cons (congrArg some (congrArg Value.bool (e34.trans (decide_eq_decide.2 ⟨fun h => .inl h, fun _ => h1'⟩)))) Kn.nil))) (HLe.refl _)
  have h1' : ¬ c = 34 := by rw [show ((c.toNat : Int) == 34) = _ from e34] at h1; simpa using h1
  refine aR (fun Z hZ => jB0 ?_)
  refine sAN hZ rfl rfl <| f3K 0 9 10 rfl <| aC0 (fun h2 => ?_) (fun h2 => ?_)
  ·have h2' : c = 92 := by rw [show ((c.toNat : Int) == 92) = _ from e92] at h2; simpa using h2
   refine aK <| jE4 () trivial (Kn.cons rfl (Kn.cons rfl (Kn.cons (congrArg some (congrArg Value.bool (e92.trans (decide_eq_decide.2 ⟨fun h => .inr (.inl h), fun _ => h2'⟩)))) Kn.nil))) (HLe.refl _)
  have h2' : ¬ c = 92 := by rw [show ((c.toNat : Int) == 92) = _ from e92] at h2; simpa using h2
  refine aG (fun Z hZ => jB0 ?_)
  refine sAN hZ rfl rfl <| nF [(0, _), (9, _), (10, _)] (kR rfl) <| jE4 () trivial (Kn.cons rfl (Kn.cons rfl (Kn.cons (congrArg some (congrArg Value.bool (e47.trans (decide_eq_decide.2 ⟨fun h => .inr (.inr h), fun h => (h.resolve_left h1').resolve_left h2'⟩)))) Kn.nil))) (HLe.refl _)
 rintro ⟨⟩ -
 refine aC0 (fun h1 => ?_) (fun h1 => ?_)
 ·have h1' : c = 34 ∨ c = 92 ∨ c = 47 := by simpa using h1
  rw [if_pos h1']
  refine aR fun Z hZ => sM rfl rfl <| jK4 Tryz.underlying9 rfl rfl (by omega) hc rfl ?_
  refine jB7 Tryz.underlying5 Tryz.underlying21 rfl ((c.toNat : Nat) : Int) (zL _ (by omega)) rfl ?_
  refine sA rfl rfl <| sA rfl rfl <| sAN hZ rfl rfl <| f3K 2 3 4 rfl <| aE ?_
  repeat (with_reducible (first | refine nTR ?_ | refine nBR ?_))
  exact jH2 rfl rfl rfl rfl rfl
 have h1' : ¬ (c = 34 ∨ c = 92 ∨ c = 47) := by simpa using h1
 rw [if_neg h1']
 refine aR (fun Z hZ => jB0 ?_)
 refine sAN hZ rfl rfl <| f3K 0 9 17 rfl <| aC0 (fun h2 => ?_) (fun h2 => ?_)
 ·have h2' : c = 98 := by rw [show ((c.toNat : Int) == 98) = _ from e98] at h2; simpa using h2
  rw [if_pos h2']
  refine aR fun Z hZ => sA rfl rfl <| sA rfl rfl <| sAN hZ rfl rfl <| f3K 2 3 4 rfl <| aE ?_
  repeat (with_reducible (first | refine nTR ?_ | refine nBR ?_))
  exact jH2 rfl rfl rfl rfl rfl
 have h2' : ¬ c = 98 := by rw [show ((c.toNat : Int) == 98) = _ from e98] at h2; simpa using h2
 rw [if_neg h2']
 refine aR (fun Z hZ => jB0 ?_)
 refine sAN hZ rfl rfl <| f3K 0 9 19 rfl <| aC0 (fun h3 => ?_) (fun h3 => ?_)
 ·have h3' : c = 102 := by rw [show ((c.toNat : Int) == 102) = _ from e102] at h3; simpa using h3
  rw [if_pos h3']
  refine aR fun Z hZ => sA rfl rfl <| sA rfl rfl <| sAN hZ rfl rfl <| f3K 2 3 4 rfl <| aE ?_
  repeat (with_reducible (first | refine nTR ?_ | refine nBR ?_))
  exact jH2 rfl rfl rfl rfl rfl
 have h3' : ¬ c = 102 := by rw [show ((c.toNat : Int) == 102) = _ from e102] at h3; simpa using h3
 rw [if_neg h3']
 refine aR (fun Z hZ => jB0 ?_)
 refine sAN hZ rfl rfl <| f3K 0 9 21 rfl <| aC0 (fun h4 => ?_) (fun h4 => ?_)
 ·have h4' : c = 110 := by rw [show ((c.toNat : Int) == 110) = _ from e110] at h4; simpa using h4
  rw [if_pos h4']
  refine aR fun Z hZ => sA rfl rfl <| sA rfl rfl <| sAN hZ rfl rfl <| f3K 2 3 4 rfl <| aE ?_
  repeat (with_reducible (first | refine nTR ?_ | refine nBR ?_))
  exact jH2 rfl rfl rfl rfl rfl
 have h4' : ¬ c = 110 := by rw [show ((c.toNat : Int) == 110) = _ from e110] at h4; simpa using h4
 rw [if_neg h4']
 refine aR (fun Z hZ => jB0 ?_)
 refine sAN hZ rfl rfl <| f3K 0 9 23 rfl <| aC0 (fun h5 => ?_) (fun h5 => ?_)
 ·have h5' : c = 114 := by rw [show ((c.toNat : Int) == 114) = _ from e114] at h5; simpa using h5
  rw [if_pos h5']
  refine aR fun Z hZ => sA rfl rfl <| sA rfl rfl <| sAN hZ rfl rfl <| f3K 2 3 4 rfl <| aE ?_
  repeat (with_reducible (first | refine nTR ?_ | refine nBR ?_))
  exact jH2 rfl rfl rfl rfl rfl
 have h5' : ¬ c = 114 := by rw [show ((c.toNat : Int) == 114) = _ from e114] at h5; simpa using h5
 rw [if_neg h5']
 refine aR (fun Z hZ => jB0 ?_)
 refine sAN hZ rfl rfl <| f2K 0 25 rfl <| aC0 (fun h6 => ?_) (fun h6 => ?_)
 ·have h6' : c = 116 := by rw [show ((c.toNat : Int) == 116) = _ from e116] at h6; simpa using h6
  rw [if_pos h6']
  refine aR fun Z hZ => sA rfl rfl <| sA rfl rfl <| sAN hZ rfl rfl <| f3K 2 3 4 rfl <| aE ?_
  repeat (with_reducible (first | refine nTR ?_ | refine nBR ?_))
  exact jH2 rfl rfl rfl rfl rfl
 have h6' : ¬ c = 116 := by rw [show ((c.toNat : Int) == 116) = _ from e116] at h6; simpa using h6
 rw [if_neg h6']
 refine aK ?_
 repeat refine nBN ?_
 refine nN <| aR fun Z hZ => sM rfl rfl <| sCP0 hp ?_
 refine sX rfl rfl rfl <| sX rfl rfl rfl <| sX rfl rfl rfl <| sA rfl rfl <| sA rfl rfl <| sAN hZ rfl rfl <| f3K 2 3 4 rfl <| aE <| jH2 rfl rfl rfl rfl rfl
def o8 (op : BinOp) (m n : Int) : UInt8 := UInt8.ofNat (kE4 op .u8 m n).toNat
theorem kA1 (op : BinOp) (m n : Int) : kE4 op .u8 m n = ((o8 op m n).toNat : Int) := by
 have hw : ∀ x : Int, 0 ≤ IntKind.u8.wrap x ∧ IntKind.u8.wrap x < 256 := fun x => by rw [IntKind.wrap_u8]; omega
 have h : 0 ≤ kE4 op .u8 m n ∧ kE4 op .u8 m n < 256 := by
  unfold kE4
  cases op <;> exact hw _
 unfold o8
 generalize kE4 op .u8 m n = x at *
 rw [UInt8.toNat_ofNat']
 omega
def shB (r k : Nat) : Int := IntKind.u8.wrap ((r / 2 ^ k : Nat) : Int)
def hiB (c : Int) (r k : Nat) : UInt8 := o8 .or c (shB r k)
def loB (r k : Nat) : UInt8 := o8 .or 128 ((o8 .and (shB r k) 63).toNat : Int)
def jN6 (r : Nat) : List UInt8 :=
 if r ≤ 127 then [UInt8.ofNat r] else if r ≤ 2047 then [hiB 192 r 6, loB r 0] else if r < 55296 ∨ (57343 < r ∧ r ≤ 65535) then [hiB 224 r 12, loB r 6, loB r 0]
 else if 65535 < r ∧ r ≤ 1114111 then [hiB 240 r 18, loB r 12, loB r 6, loB r 0] else [239, 191, 189]
theorem vW4 (m i : Nat) (hi : i ≤ 32) : (m : Int).fdiv (2 ^ (min ((i : Nat) : Int).toNat IntKind.i32.bits)) = ((m / 2 ^ i : Nat) : Int) := by
 have h1 : min ((i : Nat) : Int).toNat IntKind.i32.bits = i := by show min i 32 = i; omega
 have h2 : ((2 : Int) ^ i) = ((2 ^ i : Nat) : Int) := by push_cast; rfl
 rw [h1, h2, Int.fdiv_eq_ediv_of_nonneg _ (Int.natCast_nonneg _), Int.natCast_ediv]
theorem wR0 (v : Value) (n : Nat) (l : List UInt8) (r : Nat) (hr : 127 < r ∧ r < 2147483648) (hv : RowOk v n) (hn : n = l.length) (hl : l.length ≤ 1000000) :
  Fn Tryz.prog 248 [v, .int .i32 (r : Int)] (rowE v 5 1 (bv l)) fun u H' => RowOk u (n + (jN6 r).length) ∧ H' = rowE u 5 1 (bv (l ++ jN6 r)) := by
 unfold jN6
 rw [if_neg (by omega)]
 refine Fn.enter (N := 78) Tryz.func248 rfl (by kernel_rfl) rfl (fun w0 => ?_)
 refine aA rfl rfl <| f2K 0 1 rfl <| aR fun Z hZ => sM rfl rfl <| jB7 Tryz.underlying21 Tryz.underlying78 rfl ((r : Nat) : Int) (IntWalk.u32_in _ (by omega)) rfl ?_
 refine sAN hZ rfl rfl <| f3K 0 1 5 rfl <| aB <| aR fun Z hZ => sM rfl rfl <| jN4 rfl rfl rfl <| sAN hZ rfl rfl <| f4K 0 1 5 11 rfl <| aC0 (fun h1 => ?_) (fun h1 => ?_)
 ·have h1' : r ≤ 2047 := by simp at h1; omega
  rw [if_pos h1']
  refine aR fun Z hZ => sM rfl rfl <| sM rfl rfl <| kH5 rfl rfl (by decide) ((r / 2 ^ 6 : Nat) : Int) (vW4 r 6 (by decide)) rfl ?_
  refine jB7 Tryz.underlying21 Tryz.underlying5 rfl (shB r 6) rfl rfl <| jJ1 (.inr (.inl rfl)) rfl rfl ((hiB 192 r 6).toNat : Int) (kA1 .or 192 (shB r 6)) rfl <| sM rfl rfl <| jB7 Tryz.underlying21 Tryz.underlying5 rfl (shB r 0) (by unfold shB; rw [Nat.pow_zero, Nat.div_one]) rfl ?_
  refine jJ1 (.inl rfl) rfl rfl ((o8 .and (shB r 0) 63).toNat : Int) (kA1 .and (shB r 0) 63) rfl <| jJ1 (.inr (.inl rfl)) rfl rfl ((loB r 0).toNat : Int) (kA1 .or 128 _) rfl <| sBS0 Tryz.underlying44 tyS5 tyZ5 (fun g1 => ?_)
  refine jC9 [_] kI3 rfl hv (by rw [jH3, hn, zE]) rfl (fun w hw => jJ3 (i := 0) (n := 2) (xs := bv [hiB 192 r 6, loB r 0]) rfl rfl hw) rfl (by show _ ≤ 9223372036854775807; omega) (by omega) (HLe.refl _) rfl (fun v2 hv2 => ?_)
  refine sAN hZ rfl rfl <| f1K 4 rfl <| aE ?_
  repeat refine nBR ?_
  exact jC1 (rowE v2 5 1 (bv l ++ bv [hiB 192 r 6, loB r 0])) rfl rfl (HLe.sub (lP [_] _)) ⟨hv2, by rw [jN1]⟩
 have h1' : ¬ r ≤ 2047 := by simp at h1; omega
 rw [if_neg h1']
 refine jJ7 (ι := Unit) (fun _ => [(0, v), (1, .int .i32 (r : Int)), (5, .int .u32 (r : Int)), (25, .bool (decide (r < 55296 ∨ (57343 < r ∧ r ≤ 65535))))]) (fun _ => rowE v 5 1 (bv l)) (fun _ => True) ?_ ?_
 ·refine aR (fun Z hZ => sM rfl rfl <| jB2 ?_)
  refine sAN hZ rfl rfl <| f4K 0 1 5 25 rfl <| aC0 (fun h2 => ?_) (fun h2 => ?_)
  ·have h2' : r < 55296 := by simp at h2; omega
   refine aK <| jE4 () trivial (Kn.cons rfl (Kn.cons rfl (Kn.cons rfl (Kn.cons (congrArg some (congrArg Value.bool (by rw [lR]; simp; omega))) Kn.nil)))) (HLe.refl _)
  have h2' : ¬ r < 55296 := by simp at h2; omega
  refine jO1 ([(0, v), (1, .int .i32 (r : Int)), (5, .int .u32 (r : Int)), (25, .bool (decide (57343 < r ∧ r ≤ 65535)))]) ((rowE v 5 1 (bv l))) ?_ ?_
  ·refine aG (fun Z hZ => sM rfl rfl <| jB2 ?_)
   refine sM rfl rfl <| jD0 30 rfl (fun hb2 => ?_) (fun hb2 => ?_)
   ·refine sOn0 ?_
    refine sM rfl rfl <| sOn0 ?_
    refine jN4 rfl rfl rfl <| sP rfl rfl rfl <| sA rfl rfl <| sN (hZ _ _ (jE4 () trivial ?_ ?_))
    ·exact Kn.cons rfl (Kn.cons rfl (Kn.cons rfl (Kn.cons (congrArg some (congrArg Value.bool (by rw [lR]; simp at *; omega))) Kn.nil)))
    ·exact HLe.refl _
   ·refine sO0 ?_
    refine sO0 ?_
    refine sP rfl rfl rfl <| sA rfl rfl <| sN (hZ _ _ (jE4 () trivial ?_ ?_))
    ·exact Kn.cons rfl (Kn.cons rfl (Kn.cons rfl (Kn.cons (congrArg some (congrArg Value.bool (by rw [lR]; simp at *; omega))) Kn.nil)))
    ·exact HLe.refl _
  exact jE4 () trivial (Kn.cons rfl (Kn.cons rfl (Kn.cons rfl (Kn.cons (congrArg some (congrArg Value.bool (decide_eq_decide.2 ⟨fun h => .inr h, fun h => h.resolve_left h2'⟩))) Kn.nil)))) (HLe.refl _)
 rintro ⟨⟩ -
 refine aC0 (fun h3 => ?_) (fun h3 => ?_)
 ·have h3' : r < 55296 ∨ (57343 < r ∧ r ≤ 65535) := by simpa using h3
  rw [if_pos h3']
  refine aR fun Z hZ => sM rfl rfl <| sM rfl rfl <| kH5 rfl rfl (by decide) ((r / 2 ^ 12 : Nat) : Int) (vW4 r 12 (by decide)) rfl ?_
  refine jB7 Tryz.underlying21 Tryz.underlying5 rfl (shB r 12) rfl rfl <| jJ1 (.inr (.inl rfl)) rfl rfl ((hiB 224 r 12).toNat : Int) (kA1 .or 224 (shB r 12)) rfl <| sM rfl rfl <| kH5 rfl rfl (by decide) ((r / 2 ^ 6 : Nat) : Int) (vW4 r 6 (by decide)) rfl ?_
  refine jB7 Tryz.underlying21 Tryz.underlying5 rfl (shB r 6) rfl rfl <| jJ1 (.inl rfl) rfl rfl ((o8 .and (shB r 6) 63).toNat : Int) (kA1 .and (shB r 6) 63) rfl <| jJ1 (.inr (.inl rfl)) rfl rfl ((loB r 6).toNat : Int) (kA1 .or 128 _) rfl <| sM rfl rfl <| jB7 Tryz.underlying21 Tryz.underlying5 rfl (shB r 0) (by unfold shB; rw [Nat.pow_zero, Nat.div_one]) rfl ?_
  refine jJ1 (.inl rfl) rfl rfl ((o8 .and (shB r 0) 63).toNat : Int) (kA1 .and (shB r 0) 63) rfl <| jJ1 (.inr (.inl rfl)) rfl rfl ((loB r 0).toNat : Int) (kA1 .or 128 _) rfl <| sBS0 Tryz.underlying44 tyS5 tyZ5 (fun g2 => ?_)
  refine jC9 [_] kI3 rfl hv (by rw [jH3, hn, zE]) rfl (fun w hw => jJ3 (i := 0) (n := 3) (xs := bv [hiB 224 r 12, loB r 6, loB r 0]) rfl rfl hw) rfl (by show _ ≤ 9223372036854775807; omega) (by omega) (HLe.refl _) rfl (fun v2 hv2 => ?_)
  refine sAN hZ rfl rfl <| f1K 4 rfl <| aE ?_
  repeat refine nBR ?_
  exact jC1 (rowE v2 5 1 (bv l ++ bv [hiB 224 r 12, loB r 6, loB r 0])) rfl rfl (HLe.sub (lP [_] _)) ⟨hv2, by rw [jN1]⟩
 have h3' : ¬ (r < 55296 ∨ (57343 < r ∧ r ≤ 65535)) := by simpa using h3
 rw [if_neg h3']
 refine jA3 [(0, v), (1, .int .i32 (r : Int)), (50, .bool (decide (65535 < r ∧ r ≤ 1114111)))] (rowE v 5 1 (bv l)) (fun Z hZ => ?_) ?_
 ·refine sM rfl rfl <| jC4 ?_
  refine sM rfl rfl <| jD0 53 rfl (fun hb2 => ?_) (fun hb2 => ?_)
  ·refine sOn0 ?_
   refine sM rfl rfl <| sOn0 ?_
   refine jN4 rfl rfl rfl <| sP rfl rfl rfl <| sA rfl rfl <| sN (hZ _ _ ?_ ?_)
   ·exact Kn.cons rfl (Kn.cons rfl (Kn.cons (congrArg some (congrArg Value.bool (by rw [lR]; simp at *; omega))) Kn.nil))
   ·exact HLe.refl _
  ·refine sO0 ?_
   refine sO0 ?_
   refine sP rfl rfl rfl <| sA rfl rfl <| sN (hZ _ _ ?_ ?_)
   ·exact Kn.cons rfl (Kn.cons rfl (Kn.cons (congrArg some (congrArg Value.bool (by rw [lR]; simp at *; omega))) Kn.nil))
   ·exact HLe.refl _
 refine aC0 (fun h4 => ?_) (fun h4 => ?_)
 ·have h4' : 65535 < r ∧ r ≤ 1114111 := by simpa using h4
  rw [if_pos h4']
  refine aR fun Z hZ => sM rfl rfl <| sM rfl rfl <| kH5 rfl rfl (by decide) ((r / 2 ^ 18 : Nat) : Int) (vW4 r 18 (by decide)) rfl ?_
  refine jB7 Tryz.underlying21 Tryz.underlying5 rfl (shB r 18) rfl rfl <| jJ1 (.inr (.inl rfl)) rfl rfl ((hiB 240 r 18).toNat : Int) (kA1 .or 240 (shB r 18)) rfl <| sM rfl rfl <| kH5 rfl rfl (by decide) ((r / 2 ^ 12 : Nat) : Int) (vW4 r 12 (by decide)) rfl ?_
  refine jB7 Tryz.underlying21 Tryz.underlying5 rfl (shB r 12) rfl rfl <| jJ1 (.inl rfl) rfl rfl ((o8 .and (shB r 12) 63).toNat : Int) (kA1 .and (shB r 12) 63) rfl <| jJ1 (.inr (.inl rfl)) rfl rfl ((loB r 12).toNat : Int) (kA1 .or 128 _) rfl <| sM rfl rfl <| kH5 rfl rfl (by decide) ((r / 2 ^ 6 : Nat) : Int) (vW4 r 6 (by decide)) rfl ?_
  refine jB7 Tryz.underlying21 Tryz.underlying5 rfl (shB r 6) rfl rfl <| jJ1 (.inl rfl) rfl rfl ((o8 .and (shB r 6) 63).toNat : Int) (kA1 .and (shB r 6) 63) rfl <| jJ1 (.inr (.inl rfl)) rfl rfl ((loB r 6).toNat : Int) (kA1 .or 128 _) rfl <| sM rfl rfl <| jB7 Tryz.underlying21 Tryz.underlying5 rfl (shB r 0) (by unfold shB; rw [Nat.pow_zero, Nat.div_one]) rfl ?_
  refine jJ1 (.inl rfl) rfl rfl ((o8 .and (shB r 0) 63).toNat : Int) (kA1 .and (shB r 0) 63) rfl <| jJ1 (.inr (.inl rfl)) rfl rfl ((loB r 0).toNat : Int) (kA1 .or 128 _) rfl <| sBS0 Tryz.underlying44 tyS5 tyZ5 (fun g3 => ?_)
  refine jC9 [_] kI3 rfl hv (by rw [jH3, hn, zE]) rfl (fun w hw => jJ3 (i := 0) (n := 4) (xs := bv [hiB 240 r 18, loB r 12, loB r 6, loB r 0]) rfl rfl hw) rfl (by show _ ≤ 9223372036854775807; omega) (by omega) (HLe.refl _) rfl (fun v2 hv2 => ?_)
  refine sAN hZ rfl rfl <| f1K 4 rfl <| aE ?_
  repeat refine nBR ?_
  exact jC1 (rowE v2 5 1 (bv l ++ bv [hiB 240 r 18, loB r 12, loB r 6, loB r 0])) rfl rfl (HLe.sub (lP [_] _)) ⟨hv2, by rw [jN1]⟩
 have h4' : ¬ (65535 < r ∧ r ≤ 1114111) := by simpa using h4
 rw [if_neg h4']
 refine aR fun Z hZ => sM rfl rfl <| sBS0 Tryz.underlying44 tyS5 tyZ5 (fun g4 => ?_)
 refine jC9 [_] kI3 rfl hv (by rw [jH3, hn, zE]) rfl (fun w hw => jJ3 (i := 0) (n := 3) (xs := bv [239, 191, 189]) rfl rfl hw) rfl (by show _ ≤ 9223372036854775807; omega) (by omega) (HLe.refl _) rfl (fun v2 hv2 => ?_)
 refine sAN hZ rfl rfl <| f1K 4 rfl <| aE ?_
 repeat refine nBR ?_
 exact jC1 (rowE v2 5 1 (bv l ++ bv [239, 191, 189])) rfl rfl (HLe.sub (lP [_] _)) ⟨hv2, by rw [jN1]⟩
theorem kM9 (r : Nat) : 0 < (jN6 r).length ∧ (jN6 r).length ≤ 4 := by
 unfold jN6
 repeat' split
 all_goals simp
theorem wQ9 (v : Value) (n : Nat) (l : List UInt8) (r : Nat) (hr : r < 2147483648) (hv : RowOk v n) (hn : n = l.length) (hl : l.length ≤ 1000000) :
  Fn Tryz.prog 231 [v, .int .i32 (r : Int)] (rowE v 5 1 (bv l)) fun u H' => RowOk u (n + (jN6 r).length) ∧ H' = rowE u 5 1 (bv (l ++ jN6 r)) := by
 by_cases h7 : r ≤ 127
 ·obtain ⟨c, hc⟩ : ∃ c : UInt8, c.toNat = r := ⟨UInt8.ofNat r, by rw [UInt8.toNat_ofNat']; omega⟩
  subst hc
  have h1 : jN6 c.toNat = [c] := by unfold jN6; rw [if_pos h7, UInt8.ofNat_toNat]
  rw [h1]
  exact yE5 v n l c (by omega) hv hn hl
 ·refine Fn.enter (N := 16) Tryz.func231 rfl (by kernel_rfl) rfl (fun w0 => ?_)
  refine aA rfl rfl <| f2K 0 1 rfl <| aS <| jA3 [(0, v), (1, .int .i32 (r : Int)), (7, .bool false)] (rowE v 5 1 (bv l)) (fun Z hZ => ?_) ?_
  ·refine sM rfl rfl <| jB7 Tryz.underlying21 Tryz.underlying78 rfl ((r : Nat) : Int) (IntWalk.u32_in _ (by omega)) rfl ?_
   refine jN4 rfl rfl rfl <| sN (hZ _ _ ?_ ?_)
   ·exact Kn.cons rfl (Kn.cons rfl (Kn.cons (congrArg some (congrArg Value.bool (by simp; omega))) Kn.nil))
   ·exact HLe.refl _
  refine aC0 (fun h => ?_) (fun h => ?_)
  ·cases h
  refine aK <| nN <| aR fun Z hZ => sM rfl rfl <| sM rfl rfl <| jA5 (rowE v 5 1 (bv l)) [] (wR0 v n l r (by omega) hv hn hl) rfl (by rw [lH]; exact HLe.refl _) rfl ?_
  rintro v2 H' ⟨hv2, rfl⟩
  rw [jF1, lH]
  refine sAN hZ rfl rfl <| f1K 4 rfl <| aE <| jC1 (rowE v2 5 1 (bv (l ++ jN6 r))) rfl rfl (HLe.refl _) ⟨hv2, rfl⟩
theorem vA9 (g : Nat) (p v : Value) (l : List UInt8) (r : Nat) (hr : r < 2147483648) (hp : p = .pointer none ∨ p = ptr g 0) (hv : RowOk v l.length) (hl : l.length ≤ 1000000) :
  Fn Tryz.prog 199 [ptr g 0, .int .i32 (r : Int)] ([bldE g p v] ++ rowE v 5 1 (bv l)) fun u H' => u = .tuple #[iq ((jN6 r).length : Nat), .nilIface] ∧ ∃ v', RowOk v' (l.length + (jN6 r).length) ∧ H' = [bldE g (ptr g 0) v'] ++ rowE v' 5 1 (bv (l ++ jN6 r)) := by
 have hk := kM9 r
 obtain ⟨A, cp, rfl, hA⟩ := hv.form
 refine Fn.enter (N := 30) Tryz.func199 rfl (by kernel_rfl) rfl (fun w0 => ?_)
 refine aR fun Z hZ => sA rfl rfl <| sAN hZ rfl rfl <| f2K 0 1 rfl <| aR fun Z hZ => sM rfl rfl <| jA5 [bldE g p (.slice A l.length cp)] (rowE (.slice A l.length cp) 5 1 (bv l)) (zF7 g p _ hp) rfl (HLe.refl _) rfl ?_
 rintro v H' ⟨rfl, rfl⟩
 refine sN (hZ _ _ <| f2K 0 1 rfl <| aR fun Z hZ => sM rfl rfl <| jA0 ?_)
 refine sFA0 jQ8 ?_
 first | refine sL0 0 tyA44 tyS44 ?_
 refine jE2 Tryz.underlying44 rfl rfl <| sAN hZ rfl rfl <| f3K 0 1 6 rfl <| aR fun Z hZ => sM rfl rfl <| sM rfl rfl <| jA0 ?_
 refine sFA0 jQ8 ?_
 first | refine sL0 0 tyA44 tyS44 ?_
 refine sM rfl rfl <| jA5 (rowE (.slice A l.length cp) 5 1 (bv l)) [bldE g (ptr g 0) (.slice A l.length cp)] (wQ9 _ _ l r hr hv rfl hl) rfl (HLe.swap _ _) rfl ?_
 rintro v2 H' ⟨hv2, rfl⟩
 rw [jF1]
 obtain ⟨A2, cp2, rfl, hA2⟩ := hv2.form
 refine jC3 ([bldE g (ptr g 0) (.slice A l.length cp)] ++ rowE (.slice A2 (l.length + (jN6 r).length) cp2) 5 1 (bv (l ++ jN6 r))) (HLe.swap _ _) <| jA0 ?_
 refine sFA0 jQ8 ?_
 first | refine sS10 0 tyS44 ?_
 refine sN (hZ _ _ <| f2K 0 6 rfl <| aR fun Z hZ => sM rfl rfl <| jA0 ?_)
 refine sFA0 jQ8 ?_
 first | refine sL0 0 tyA44 tyS44 ?_
 refine jE2 Tryz.underlying44 rfl rfl <| sM rfl rfl <| jN3 rfl rfl _ rfl rfl <| sA rfl rfl <| sAN hZ rfl rfl <| f2K 4 5 rfl <| aE <| jD9 ([bldE g (ptr g 0) (.slice A2 (l.length + (jN6 r).length) cp2)] ++ rowE (.slice A2 (l.length + (jN6 r).length) cp2) 5 1 (bv (l ++ jN6 r))) rfl rfl rfl (HLe.refl _) ⟨by rw [show IntKind.i64.wrap (((l.length + (jN6 r).length : Nat) : Int) - ((l.length : Nat) : Int)) = (((jN6 r).length : Nat) : Int) by rw [lT _ (by omega)]; omega], _, hv2, rfl⟩
theorem dru0 : Lays.n197 Tryz.prog jM4 where
 mixed := by kernel_rfl
 f197 := by kernel_rfl
 f260 := by kernel_rfl
 t0 := by kernel_rfl
 a0 := fun w => by kernel_rfl
 z0 := fun w => by kernel_rfl
 v0 := fun w => by kernel_rfl
 t3 := by kernel_rfl
 a3 := fun w => by kernel_rfl
 z3 := fun w => by kernel_rfl
 v3 := fun w => by kernel_rfl
 t4 := by kernel_rfl
 a4 := fun w => by kernel_rfl
 z4 := fun w => by kernel_rfl
 v4 := fun w => by kernel_rfl
 t5 := by kernel_rfl
 a5 := fun w => by kernel_rfl
 z5 := fun w => by kernel_rfl
 v5 := fun w => by kernel_rfl
 t9 := by kernel_rfl
 a9 := fun w => by kernel_rfl
 z9 := fun w => by kernel_rfl
 v9 := fun w => by kernel_rfl
 t21 := by kernel_rfl
 a21 := fun w => by kernel_rfl
 z21 := fun w => by kernel_rfl
 v21 := fun w => by kernel_rfl
 t46 := by kernel_rfl
 a46 := fun w => by kernel_rfl
 z46 := fun w => by kernel_rfl
 v46 := fun w => by kernel_rfl
 t105 := by kernel_rfl
 a105 := fun w => by kernel_rfl
 z105 := fun w => by kernel_rfl
 v105 := fun w => by kernel_rfl
 t119 := by kernel_rfl
 a119 := fun w => by kernel_rfl
 z119 := fun w => by kernel_rfl
 t138 := by kernel_rfl
 a138 := fun w => by kernel_rfl
 z138 := fun w => by kernel_rfl
 v138 := fun w => by kernel_rfl
 t139 := by kernel_rfl
 a139 := fun w => by kernel_rfl
 z139 := fun w => by kernel_rfl
 v139 := fun w => by kernel_rfl
 g3 := by kernel_rfl
 g4 := by kernel_rfl
theorem wN5 : Enters Tryz.prog 200 := Enters.mk Tryz.func200 (by kernel_rfl) (by kernel_rfl)
def T8 : Heap := [.ro 1 0 ((List.range 256).map fun c => .int .u8 (Lib.firstT c)), .ro 2 0 ((List.range 32).map fun k => .int .u8 (if k % 2 = 0 then Lib.accLo (k / 2) else Lib.accHi (k / 2)))]
theorem vZ8 : Ro T8 := fun e he => by
 unfold T8 at he
 rcases List.mem_cons.1 he with rfl | he
 ·rfl
 ·rw [List.mem_singleton.1 he]; rfl
theorem yX7 {w0 w : World} {Wr : List Nat} (hw : Sat w0 Wr T8 w) : Lib.Utf8Tabs 1 2 w := by
 have h1 := (hw.mem (i := 0) rfl : Ent.holds w (.ro _ _ _)).2
 have h2 := (hw.mem (i := 1) rfl : Ent.holds w (.ro _ _ _)).2
 refine ⟨fun c hc => ?_, fun i hi => ⟨?_, ?_⟩⟩
 ·have := h1 c (.int .u8 (Lib.firstT c)) (by rw [xR, List.getElem?_range hc]; rfl)
  rwa [lA] at this
 ·have := h2 (2 * i) (.int .u8 (Lib.accLo i)) (by rw [xR, List.getElem?_range (by omega)]; simp [show 2 * i % 2 = 0 by omega])
  rwa [lA] at this
 ·have := h2 (2 * i + 1) (.int .u8 (Lib.accHi i)) (by rw [xR, List.getElem?_range (by omega)]; simp [show (2 * i + 1) % 2 = 1 by omega, show (2 * i + 1) / 2 = i by omega])
  rwa [lA] at this
def druQ (s : List UInt8) : Nat × Nat := Lib.decodeGo (str s)
theorem yV5 (n b0 b1 b2 b3 : Nat) : (Lib.decodeN n b0 b1 b2 b3).2 ≤ 4 := by
 unfold Lib.decodeN
 repeat' split
 all_goals simp
theorem yV1 (s : List UInt8) : (druQ s).1 < 2147483648 ∧ (druQ s).2 ≤ 4 := by
 unfold druQ Lib.decodeGo
 split
 ·simp
 ·refine ⟨?_, ?_⟩
  ·have := Lib.rune_le (str s) 0
   omega
  ·rw [Lib.decode_at]
   exact yV5 _ _ _ _ _
theorem yC4 {s : List UInt8} (h : s ≠ []) : 1 ≤ (druQ s).2 := by
 unfold druQ Lib.decodeGo
 split
 ·rename_i h0
  exact absurd (List.length_eq_zero_iff.1 (by simpa [str, ByteArray.size] using h0)) h
 ·exact Lib.width_pos _ _
theorem yC6 (s : List UInt8) : Fn Tryz.prog 200 [.string (str s)] T8 fun v _ => v = .tuple #[.int .i32 ((druQ s).1 : Nat), iq ((druQ s).2 : Nat)] :=
 ⟨wN5, fun w hw => (Any.utf8_DecodeRuneInString dru0 (str s) w (yX7 hw)).mono fun e w' ⟨he, hb⟩ => ⟨_, [], he, rfl, ⟨Only.of_bel hb, by simp, qH⟩⟩⟩
theorem yQ1 (s : List UInt8) : (kN4 s).1 < 2147483648 ∧ (kN4 s).2.1 ≤ 12 ∧ ((kN4 s).2.2 = 0 → 1 ≤ (kN4 s).2.1) := by
 have l1 := kK9 s
 have l2 := kK9 (s.drop 6)
 unfold kN4
 repeat' split
 all_goals (refine ⟨?_, ?_, ?_⟩ <;> simp only <;> first | omega | (intro h; first | omega | contradiction))
theorem yR3 (s : List UInt8) : (jT4 s).1 < 2147483648 ∧ (jT4 s).2.1 ≤ 12 ∧ ((jT4 s).2.2 = 0 → 1 ≤ (jT4 s).2.1) := by
 have hp := yQ1 s
 unfold jT4
 split
 ·simp
 ·rename_i c _
  have := c.toNat_lt
  repeat' split
  all_goals first | exact hp | (refine ⟨?_, ?_, ?_⟩ <;> simp only <;> omega)
def kM1 (s : List UInt8) : Nat → Nat → List UInt8 → List UInt8 × Nat × Nat
 | 0, _, _ => ([], s.length, 3)
 | f + 1, i, t => match s[i]? with
  | none => ([], s.length, 3)
  | some c => if c = 34 then (t, i + 1, 0)
   else if c = 92 then (if (jT4 (s.drop i)).2.2 = 3 then ([], s.length, 3) else if (jT4 (s.drop i)).2.2 ≠ 0 then ([], i, (jT4 (s.drop i)).2.2) else kM1 s f (i + (jT4 (s.drop i)).2.1) (t ++ jN6 (jT4 (s.drop i)).1))
   else if ((druQ (s.drop i)).1 = 65533 ∧ (druQ (s.drop i)).2 < 2) ∨ (druQ (s.drop i)).1 < 32 then ([], i, 4)
   else kM1 s f (i + (druQ (s.drop i)).2) (t ++ jN6 (druQ (s.drop i)).1)
def jJ0 (s : List UInt8) (a : Nat) : List UInt8 × Nat × Nat := if s.length ≤ a then ([], a, 3) else if s[a]? ≠ some 34 then ([], a, 4) else kM1 s s.length (a + 1) []
theorem kV6 (s : List UInt8) : ∀ (f i : Nat) (t : List UInt8), (kM1 s f i t).2.1 ≤ s.length ∧ ((kM1 s f i t).2.2 = 0 → i < (kM1 s f i t).2.1)
 | 0, _, _ => ⟨xB _, fun h => by cases h⟩
 | f + 1, i, t => by
  rw [kM1]
  cases hc : s[i]? with
  | none => exact ⟨xB _, fun h => by cases h⟩
  | some c =>
   have hl : i < s.length := (List.getElem?_eq_some_iff.1 hc).1
   simp only
   repeat' split
   ·exact ⟨hl, fun _ => Nat.lt_succ_self _⟩
   ·exact ⟨xB _, fun h => by cases h⟩
   ·rename_i h; exact ⟨uF hl, fun h' => absurd h' h⟩
   ·have := kV6 s f (i + (jT4 (s.drop i)).2.1) (t ++ jN6 (jT4 (s.drop i)).1)
    exact ⟨this.1, fun h => Nat.lt_of_le_of_lt (Nat.le_add_right _ _) (this.2 h)⟩
   ·exact ⟨uF hl, fun h => by cases h⟩
   ·have := kV6 s f (i + (druQ (s.drop i)).2) (t ++ jN6 (druQ (s.drop i)).1)
    exact ⟨this.1, fun h => Nat.lt_of_le_of_lt (Nat.le_add_right _ _) (this.2 h)⟩
theorem kV5 {s : List UInt8} {a : Nat} (h : a ≤ s.length) : (jJ0 s a).2.1 ≤ s.length ∧ ((jJ0 s a).2.2 = 0 → a < (jJ0 s a).2.1) := by
 unfold jJ0
 split
 ·exact ⟨h, fun h => by cases h⟩
 split
 ·exact ⟨h, fun h => by cases h⟩
 ·have := kV6 s s.length (a + 1) []
  exact ⟨this.1, fun h => by have := this.2 h; omega⟩
theorem wJ9 (s : List UInt8) (a : Nat) (hs : s.length ≤ 100000) (ha : a ≤ s.length) : Fn Tryz.prog 159 [.string (str s), iq (a : Nat)] T8 fun v _ => v = .tuple #[.string (str (jJ0 s a).1), iq ((jJ0 s a).2.1 : Nat), iq ((jJ0 s a).2.2 : Nat)] := by
 refine Fn.enter (N := 98) Tryz.func159 rfl (by kernel_rfl) rfl (fun w0 => ?_)
 refine aR fun Z hZ => sA rfl rfl <| sA rfl rfl <| sAN hZ rfl rfl <| f2K 0 1 rfl <| aS (aB <| jA3 [(0, .string (str s)), (1, iq (a : Nat)), (14, .bool false)] T8 (fun Z hZ => ?_) ?_)
 ·refine sM rfl rfl <| jB2 ?_
  refine sM rfl rfl <| jE5 17 rfl false (by first | (simp; done) | (simp; omega)) ?_
  refine sOn0 ?_
  refine sM rfl rfl <| sOn0 ?_
  refine sM rfl rfl <| sOn0 ?_
  refine jD6 Tryz.underlying9 rfl rfl <| sOn0 ?_
  refine jC4 ?_
  refine sP rfl rfl rfl <| sA rfl rfl <| sN (hZ _ _ ?_ ?_)
  ·exact Kn.cons rfl (Kn.cons rfl (Kn.cons (congrArg some (congrArg Value.bool (by simp; omega))) Kn.nil))
  ·exact HLe.refl _
 refine aC0 (fun h => ?_) (fun h => ?_)
 ·cases h
 refine aR fun Z hZ => sM rfl rfl <| sM rfl rfl <| jD6 Tryz.underlying9 rfl rfl <| jB0 ?_
 refine sAN hZ rfl rfl <| f3K 0 1 23 rfl <| aC0 (fun h => ?_) (fun h => ?_)
 ·have h' : s.length ≤ a := by simp at h; omega
  rw [show jJ0 s a = ([], a, 3) by unfold jJ0; rw [if_pos h']]
  refine aR fun Z hZ => sM rfl rfl <| sA rfl rfl <| sA rfl rfl <| sAN hZ rfl rfl <| f3K 4 5 6 rfl <| aE ?_
  repeat (with_reducible (first | refine nTR ?_ | refine nBR ?_))
  exact jF6 [] rfl rfl rfl rfl (HLe.sub (lN _)) rfl
 have hl : a < s.length := by simp at h; omega
 obtain ⟨c0, hc0⟩ : ∃ c, s[a]? = some c := ⟨_, xC hl⟩
 refine aR fun Z hZ => sM rfl rfl <| sM rfl rfl <| jK4 Tryz.underlying9 rfl rfl (by omega) (by simpa using hc0) rfl ?_
 refine jC7 ?_
 refine sAN hZ rfl rfl <| f3K 0 1 29 rfl <| aC0 (fun h => ?_) (fun h => ?_)
 ·have h' : s[a]? ≠ some 34 := fun e => by
   rw [hc0] at e
   rw [lV e] at h
   cases h
  rw [show jJ0 s a = ([], a, 4) by unfold jJ0; rw [if_neg (by omega), if_pos h']]
  refine aR fun Z hZ => sM rfl rfl <| sA rfl rfl <| sA rfl rfl <| sAN hZ rfl rfl <| f3K 4 5 6 rfl <| aE ?_
  repeat (with_reducible (first | refine nTR ?_ | refine nBR ?_))
  exact jF6 [] rfl rfl rfl rfl (HLe.sub (lN _)) rfl
 have h34 : s[a]? = some 34 := by rw [hc0, show c0 = 34 from UInt8.toNat_inj.1 (by simp at h; show c0.toNat = 34; omega)]
 have hQ : kM1 s s.length (a + 1) [] = jJ0 s a := by unfold jJ0; rw [if_neg (by omega), if_neg (by simpa using h34)]
 refine aK ?_
 repeat refine nBN ?_
 refine nN ?_
 refine aR (fun Z hZ => ?_)
 refine sAl tyZ211 rfl (fun g1 => ?_)
 refine sN (hZ _ _ ?_)
 refine f3K 0 1 7 rfl ?_
 refine aS ?_
 refine aR fun Z hZ => sM rfl rfl ?_
 refine jC2 rfl rfl ((a + 1 : Nat) : Int) (by rw [lT _ (by omega)]; omega) rfl ?_
 refine sAN hZ rfl rfl <| f3K 0 7 8 rfl <| aB ?_
 refine jB9 (ι := Nat × Nat × List UInt8 × Value × Value) (fun j => [(0, .string (str s)), (7, ptr g1 0), (8, iq (j.2.1 : Nat))]) (fun j => ([bldE g1 j.2.2.2.1 j.2.2.2.2] ++ rowE j.2.2.2.2 5 1 (bv j.2.2.1)) ++ T8)
  (fun j => s.length ≤ j.1 + j.2.1 ∧ j.2.1 ≤ s.length + 20 ∧ kM1 s j.1 j.2.1 j.2.2.1 = jJ0 s a ∧ j.2.2.1.length ≤ 4 * j.2.1 ∧ (j.2.2.2.1 = .pointer none ∨ j.2.2.2.1 = ptr g1 0) ∧ RowOk j.2.2.2.2 j.2.2.1.length ∧ (j.2.2.1 = [] → j.2.2.2.2 = .slice none 0 0)) (fun j => j.1) (s.length, a + 1, [], .pointer none, .slice none 0 0)
  ⟨by dsimp only; omega, by dsimp only; omega, hQ, xD _, .inl rfl, RowOk.nil, fun _ => rfl⟩ (kR rfl) (HLe.refl _) ?_
 rintro ⟨f, i, t, p, v⟩ ⟨hf, hi, hq, ht, hpp, hv, h0⟩
 simp only at hf hi hq ht hpp hv h0
 refine jA6 (([bldE g1 p v] ++ rowE v 5 1 (bv t)) ++ T8) (HLe.refl _) <| aF [(0, .string (str s)), (7, ptr g1 0), (8, iq (i : Nat))] (kR rfl) <| aS <| aR fun Z hZ => sM rfl rfl <| sM rfl rfl <| jD6 Tryz.underlying9 rfl rfl <| jB2 ?_
 refine sN (hZ _ _ <| f4K 0 7 8 40 rfl <| aC0 (fun h => ?_) (fun h => ?_))
 ·have hl : i < s.length := by simp at h; omega
  obtain ⟨f', rfl⟩ : ∃ f', f = f' + 1 := ⟨f - 1, by omega⟩
  obtain ⟨c, hc⟩ : ∃ c, s[i]? = some c := ⟨_, xC hl⟩
  rw [kM1, hc] at hq
  simp only at hq
  refine aK <| nN <| aB <| aR fun Z hZ => sM rfl rfl <| sM rfl rfl <| jK4 Tryz.underlying9 rfl rfl (by omega) (by rw [x9]; exact hc) rfl ?_
  refine sN (hZ _ _ <| f4K 0 7 8 43 rfl <| aB <| aR (fun Z hZ => jB0 ?_))
  refine sAN hZ rfl rfl <| f5K 0 7 8 43 67 rfl <| aC0 (fun h1 => ?_) (fun h1 => ?_)
  ·have h1' : c = 34 := UInt8.toNat_inj.1 (by simp at h1; show c.toNat = 34; omega)
   rw [if_pos h1'] at hq
   rw [← hq]
   refine aR (fun Z hZ => jA5 ([bldE g1 p v] ++ rowE v 5 1 (bv t)) T8 (yW8 g1 p v t hv h0) rfl (HLe.refl _) rfl ?_)
   rintro v H' rfl
   refine sM rfl rfl ?_
   refine jC2 rfl rfl ((i + 1 : Nat) : Int) (by rw [lT _ (by omega)]; omega) rfl ?_
   refine sA rfl rfl <| sA rfl rfl <| sAN hZ rfl rfl <| f3K 4 5 6 rfl <| aE ?_
   repeat (with_reducible (first | refine nTR ?_ | refine nBR ?_))
   exact jF6 [] rfl rfl rfl rfl (HLe.sub (lN _)) rfl
  have h1' : c ≠ 34 := fun e => by rw [e] at h1; cases h1
  rw [if_neg h1'] at hq
  refine aR (fun Z hZ => jB0 ?_)
  refine sAN hZ rfl rfl <| f4K 0 7 8 72 rfl <| aC0 (fun h2 => ?_) (fun h2 => ?_)
  ·have h2' : c = 92 := UInt8.toNat_inj.1 (by simp at h2; show c.toNat = 92; omega)
   rw [if_pos h2'] at hq
   have hmf := yR2 (s.drop i) (by rw [xY]; omega)
   have hmb := yR3 (s.drop i)
   obtain ⟨r, k, e, hm⟩ : ∃ r k e, jT4 (s.drop i) = (r, k, e) := ⟨_, _, _, rfl⟩
   rw [hm] at hq hmf hmb
   simp only at hq hmf hmb
   obtain ⟨hr, hk, hk1⟩ := hmb
   refine aR fun Z hZ => sM rfl rfl <| sM rfl rfl <| jL9 (s.drop i) Tryz.underlying9 rfl rfl rfl (by omega) (by omega) (by omega) (by rw [x9, x9]; exact qZ (by rw [xY]; omega)) rfl ?_
   refine sCP0 hmf ?_
   refine sM rfl rfl <| sX rfl rfl rfl <| sX rfl rfl rfl <| sX rfl rfl rfl <| sA rfl rfl <| sA rfl rfl <| sAN hZ rfl rfl <| f6K 0 7 8 9 10 11 rfl <| aS <| aR fun Z hZ => sM rfl rfl <| jB0 ?_
   refine sN (hZ _ _ <| f7K 0 7 8 9 10 11 83 rfl <| aC0 (fun h3 => ?_) (fun h3 => ?_))
   ·have h3' : e = 3 := by simp at h3; omega
    subst h3'
    rw [if_pos rfl] at hq
    rw [← hq]
    refine aR fun Z hZ => sM rfl rfl <| jD6 Tryz.underlying9 rfl rfl <| sM rfl rfl <| sA rfl rfl <| sA rfl rfl <| sAN hZ rfl rfl <| f3K 4 5 6 rfl <| aE ?_
    repeat (with_reducible (first | refine nTR ?_ | refine nBR ?_))
    exact jF6 [] rfl rfl rfl rfl (HLe.sub (lN _)) rfl
   have h3' : e ≠ 3 := by simp at h3; omega
   rw [if_neg h3'] at hq
   refine aK <| nN <| aS <| aR fun Z hZ => sM rfl rfl <| jC7 ?_
   refine sN (hZ _ _ <| f7K 0 7 8 9 10 11 88 rfl <| aC0 (fun h4 => ?_) (fun h4 => ?_))
   ·have h4' : e ≠ 0 := by simpa using h4
    rw [if_pos h4'] at hq
    rw [← hq]
    refine aR fun Z hZ => sM rfl rfl <| sM rfl rfl <| sA rfl rfl <| sA rfl rfl <| sAN hZ rfl rfl <| f3K 4 5 6 rfl <| aE ?_
    repeat (with_reducible (first | refine nTR ?_ | refine nBR ?_))
    exact jF6 [] rfl rfl rfl rfl (HLe.sub (lN _)) rfl
   have h4' : e = 0 := by simpa using h4
   rw [if_neg (by simpa using h4')] at hq
   refine aK <| nN ?_
   have hk2 := hk1 h4'
   have hrb := kM9 r
   refine aR fun Z hZ => sM rfl rfl <| jA5 ([bldE g1 p v] ++ rowE v 5 1 (bv t)) T8 (vA9 g1 p v t r hr hpp hv (by omega)) rfl (HLe.refl _) rfl ?_
   rintro v H' ⟨rfl, v2, hv2, rfl⟩
   refine sN (hZ _ _ ?_)
   refine f4K 0 7 8 10 rfl ?_
   refine aG (fun Z hZ => ?_)
   refine sM rfl rfl <| sM rfl rfl ?_
   refine jC2 rfl rfl ((i + k : Nat) : Int) (by rw [lT _ (by omega)]; omega) rfl ?_
   refine sAN hZ rfl rfl <| nF [(0, _), (7, _), (8, _)] (kR rfl) ?_
   repeat refine nBN ?_
   exact jB8 (f', i + k, t ++ jN6 r, ptr g1 0, v2) ⟨by dsimp only; omega, by dsimp only; omega, hq, by dsimp only; rw [lX]; omega, .inr rfl, by dsimp only; rw [lX]; exact hv2, fun h => by rw [List.append_eq_nil_iff] at h; rw [h.2] at hrb; simp at hrb⟩ (Nat.lt_succ_self _) (kR rfl) (by rw [zB, jF1]; exact HLe.refl _)
  have h2' : c ≠ 92 := fun e => by rw [e] at h2; cases h2
  rw [if_neg h2'] at hq
  have hdb := yV1 (s.drop i)
  have hdp := yC4 (s := s.drop i) (fun h => by have := congrArg List.length h; rw [xY] at this; simp at this; omega)
  have hdf := yC6 (s.drop i)
  obtain ⟨r, k, hd⟩ : ∃ r k, druQ (s.drop i) = (r, k) := ⟨_, _, rfl⟩
  rw [hd] at hq hdb hdp hdf
  simp only at hq hdb hdp hdf
  obtain ⟨hr, hk⟩ := hdb
  refine aR fun Z hZ => sM rfl rfl <| sM rfl rfl <| jL9 (s.drop i) Tryz.underlying9 rfl rfl rfl (by omega) (by omega) (by omega) (by rw [x9, x9]; exact qZ (by rw [xY]; omega)) rfl ?_
  refine jD1 T8 hdf rfl (by repeat (first | exact xU _ | exact lN _ | exact lP _ _ | refine List.Sublist.trans ?_ (lS _ _) | exact qC _ (lN _) | refine zF _ ?_)) vZ8 rfl ?_
  refine sM rfl rfl <| sX rfl rfl rfl <| sX rfl rfl rfl <| sA rfl rfl <| sAN hZ rfl rfl <| f5K 0 7 8 12 13 rfl <| aS <| jA3 [(0, .string (str s)), (7, ptr g1 0), (8, iq (i : Nat)), (12, .int .i32 (r : Nat)), (13, iq (k : Nat)), (60, .bool (decide ((r = 65533 ∧ k < 2) ∨ r < 32)))] (([bldE g1 p v] ++ rowE v 5 1 (bv t)) ++ T8) (fun Z hZ => ?_) ?_
  ·refine sM rfl rfl <| jB0 ?_
   refine sM rfl rfl <| jD0 53 rfl (fun hb2 => ?_) (fun hb2 => ?_)
   ·refine sOn0 ?_
    refine sM rfl rfl <| sOn0 ?_
    refine jB2 ?_
    refine sP rfl rfl rfl <| sM rfl rfl <| jD0 57 rfl (fun hb6 => ?_) (fun hb6 => ?_)
    ·refine sO0 ?_
     refine sO0 ?_
     refine sP rfl rfl rfl <| sN (hZ _ _ ?_ ?_)
     ·exact Kn.cons rfl (Kn.cons rfl (Kn.cons rfl (Kn.cons rfl (Kn.cons rfl (Kn.cons (congrArg some (congrArg Value.bool (by rw [lR]; first | (simp at *; done) | (simp at *; omega)))) Kn.nil)))))
     ·exact HLe.refl _
    ·refine sOn0 ?_
     refine sM rfl rfl <| sOn0 ?_
     refine jB2 ?_
     refine sP rfl rfl rfl <| sN (hZ _ _ ?_ ?_)
     ·exact Kn.cons rfl (Kn.cons rfl (Kn.cons rfl (Kn.cons rfl (Kn.cons rfl (Kn.cons (congrArg some (congrArg Value.bool (by rw [lR]; first | (simp at *; done) | (simp at *; omega)))) Kn.nil)))))
     ·exact HLe.refl _
   ·refine sO0 ?_
    refine sO0 ?_
    refine sP rfl rfl rfl <| sM rfl rfl <| sOn0 ?_
    refine sM rfl rfl <| sOn0 ?_
    refine jB2 ?_
    refine sP rfl rfl rfl <| sN (hZ _ _ ?_ ?_)
    ·exact Kn.cons rfl (Kn.cons rfl (Kn.cons rfl (Kn.cons rfl (Kn.cons rfl (Kn.cons (congrArg some (congrArg Value.bool (by rw [lR]; first | (simp at *; done) | (simp at *; omega)))) Kn.nil)))))
    ·exact HLe.refl _
  refine aC0 (fun h3 => ?_) (fun h3 => ?_)
  ·have h3' : (r = 65533 ∧ k < 2) ∨ r < 32 := by simpa using h3
   rw [if_pos h3'] at hq
   rw [← hq]
   refine aR fun Z hZ => sM rfl rfl <| sA rfl rfl <| sA rfl rfl <| sAN hZ rfl rfl <| f3K 4 5 6 rfl <| aE ?_
   repeat (with_reducible (first | refine nTR ?_ | refine nBR ?_))
   exact jF6 [] rfl rfl rfl rfl (HLe.sub (lN _)) rfl
  have h3' : ¬ ((r = 65533 ∧ k < 2) ∨ r < 32) := by simpa using h3
  rw [if_neg h3'] at hq
  refine aK <| nN ?_
  have hrb := kM9 r
  refine aR fun Z hZ => sM rfl rfl <| jA5 ([bldE g1 p v] ++ rowE v 5 1 (bv t)) T8 (vA9 g1 p v t r hr hpp hv (by omega)) rfl (HLe.refl _) rfl ?_
  rintro v H' ⟨rfl, v2, hv2, rfl⟩
  refine sN (hZ _ _ ?_)
  refine f4K 0 7 8 13 rfl ?_
  refine aG (fun Z hZ => ?_)
  refine sM rfl rfl <| sM rfl rfl ?_
  refine jC2 rfl rfl ((i + k : Nat) : Int) (by rw [lT _ (by omega)]; omega) rfl ?_
  refine sAN hZ rfl rfl <| nF [(0, _), (7, _), (8, _)] (kR rfl) ?_
  repeat refine nBN ?_
  exact jB8 (f', i + k, t ++ jN6 r, ptr g1 0, v2) ⟨by dsimp only; omega, by dsimp only; omega, hq, by dsimp only; rw [lX]; omega, .inr rfl, by dsimp only; rw [lX]; exact hv2, fun h => by rw [List.append_eq_nil_iff] at h; rw [h.2] at hrb; simp at hrb⟩ (Nat.lt_succ_self _) (kR rfl) (by rw [zB, jF1]; exact HLe.refl _)
 ·have hno : s[i]? = none := qL (by simp at h; omega)
  have hq' : jJ0 s a = ([], s.length, 3) := by
   rw [← hq]
   cases f with
   | zero => rfl
   | succ f => rw [kM1, hno]
  rw [hq']
  refine jB1 ?_
  repeat refine nTE ?_
  refine nBE <| nN <| aR fun Z hZ => sM rfl rfl <| jD6 Tryz.underlying9 rfl rfl <| sA rfl rfl <| sA rfl rfl <| sAN hZ rfl rfl <| f3K 4 5 6 rfl <| aE <| jF6 [] rfl rfl rfl rfl (HLe.sub (lN _)) rfl
end
section
open Go.RowKit
def IsAny (v : Value) : Prop := v = .nilIface ∨ ∃ k x, v = .iface k x
theorem IsAny.one {v : Value} (h : IsAny v) : Value.oneCell' v = true := by
 rcases h with rfl | ⟨k, x, rfl⟩ <;> rfl
theorem wL6 {P : Program} {f : FuncId} {vs : List Value} {H : Heap} {R R' : Value → Heap → Prop} (h : Fn P f vs H R) (hm : ∀ v H', R v H' → R' v H') : Fn P f vs H R' :=
 ⟨h.1, fun w hw => (h.2 w hw).mono fun e w' he => by
  obtain ⟨v, H', h1, h2, h3⟩ := he
  exact ⟨v, H', h1, hm v H' h2, h3⟩⟩
section
variable {P : Program} {N : Frm} {w0 : World} {Wr : List Nat} {ops : Array Oper} {rest : List Oper} {fr : Fr} {H : Heap} {Z : Fr → Heap → Prop}
variable {d ty : Nat} {pos : String} {after : Array Edge}
theorem yM4 {t t' : TypeId} {x : Operand} {k : TypeId} {v : Value} {ms} (ht : P.underlying t = some (.interface ms)) (hx : ev fr x = some (.iface k v)) (hN : Nat.ble (d + 1) N.n = true)
  (h : sx P N w0 Wr ops rest ((d, .bool true) :: fr) H Z) : sx P N w0 Wr ops (⟨some d, .binOp .neq t x (.const .nilIface) t', ty, pos, after, none⟩ :: rest) fr H Z :=
 jE9 _ hN (fun a w ha _ => by
  have e' : a.eval (.const .nilIface) = .nilIface := rfl
  have hq : (Op.equal t (.iface k v) .nilIface).run P w = .ok false w := by
   unfold Op.equal Op.maxDepth Op.equalIn
   simp [lI, run_underlying ht]
  have hg : (eqGuard .neq t x (.const .nilIface) (.iface k v) .nilIface).run P w = .ok () w := by
   unfold eqGuard
   split <;> rfl
  simp only [execOp, ha.eval hx, e', lI, hg, lQ, binOp]
  simp [hq]) h
theorem wU9 {t t' : TypeId} {x : Operand} {ms} (ht : P.underlying t = some (.interface ms)) (hx : ev fr x = some .nilIface) (hN : Nat.ble (d + 1) N.n = true)
  (h : sx P N w0 Wr ops rest ((d, .bool false) :: fr) H Z) : sx P N w0 Wr ops (⟨some d, .binOp .neq t x (.const .nilIface) t', ty, pos, after, none⟩ :: rest) fr H Z :=
 jE9 _ hN (fun a w ha _ => by
  have e' : a.eval (.const .nilIface) = .nilIface := rfl
  have hq : (Op.equal t .nilIface .nilIface).run P w = .ok true w := by
   unfold Op.equal Op.maxDepth Op.equalIn
   simp [lI, run_underlying ht]
  have hg : (eqGuard .neq t x (.const .nilIface) .nilIface .nilIface).run P w = .ok () w := by
   unfold eqGuard
   cases x <;> rfl
  simp only [execOp, ha.eval hx, e', lI, hg, lQ, binOp]
  simp [hq]) h
end
end
section
open Go.RowKit
set_option maxRecDepth 100000
def TJ (er es : Value) : Heap := [.ro 4 0 [er], .ro 3 0 [es]] ++ T8
def ErOk (v : Value) : Prop := v = .nilIface ∨ ∃ t p, v = .iface t p
theorem kA9 (er es : Value) : Ro (TJ er es) := Ro.append (fun e he => by
 rcases List.mem_cons.1 he with rfl | he
 ·rfl
 ·rw [List.mem_singleton.1 he]; rfl) vZ8
theorem yJ7 (er es : Value) : T8.Sublist (TJ er es) := lP _ _
theorem zJ2 {er es : Value} {w0 w : World} {Wr : List Nat} (hw : Sat w0 Wr (TJ er es) w) : w.cell? ⟨4, 0, none⟩ = some er ∧ w.cell? ⟨3, 0, none⟩ = some es :=
 ⟨(hw.mem (i := 0) rfl : Ent.holds w (.ro _ _ _)).2 0 er rfl, (hw.mem (i := 1) rfl : Ent.holds w (.ro _ _ _)).2 0 es rfl⟩
theorem hpf0 : Lays.n99 Tryz.prog jM4 where
 mixed := by kernel_rfl
 f99 := by kernel_rfl
 f206 := by kernel_rfl
 t3 := by kernel_rfl
 a3 := fun w => by kernel_rfl
 z3 := fun w => by kernel_rfl
 v3 := fun w => by kernel_rfl
 t4 := by kernel_rfl
 a4 := fun w => by kernel_rfl
 z4 := fun w => by kernel_rfl
 v4 := fun w => by kernel_rfl
 t9 := by kernel_rfl
 a9 := fun w => by kernel_rfl
 z9 := fun w => by kernel_rfl
 v9 := fun w => by kernel_rfl
theorem cpf0 : Lays.n103 Tryz.prog jM4 where
 mixed := by kernel_rfl
 f103 := by kernel_rfl
 f206 := by kernel_rfl
 f210 := by kernel_rfl
 t3 := by kernel_rfl
 a3 := fun w => by kernel_rfl
 z3 := fun w => by kernel_rfl
 v3 := fun w => by kernel_rfl
 t4 := by kernel_rfl
 a4 := fun w => by kernel_rfl
 z4 := fun w => by kernel_rfl
 v4 := fun w => by kernel_rfl
 t9 := by kernel_rfl
 a9 := fun w => by kernel_rfl
 z9 := fun w => by kernel_rfl
 v9 := fun w => by kernel_rfl
 t24 := by kernel_rfl
 a24 := fun w => by kernel_rfl
 z24 := fun w => by kernel_rfl
 v24 := fun w => by kernel_rfl
theorem trl0 : Lays.n161 Tryz.prog jM4 where
 mixed := by kernel_rfl
 f119 := by kernel_rfl
 f137 := by kernel_rfl
 f151 := by kernel_rfl
 f152 := by kernel_rfl
 f161 := by kernel_rfl
 f197 := by kernel_rfl
 f217 := by kernel_rfl
 f224 := by kernel_rfl
 f225 := by kernel_rfl
 f227 := by kernel_rfl
 f228 := by kernel_rfl
 f231 := by kernel_rfl
 f233 := by kernel_rfl
 f235 := by kernel_rfl
 f260 := by kernel_rfl
 f266 := by kernel_rfl
 t0 := by kernel_rfl
 a0 := fun w => by kernel_rfl
 z0 := fun w => by kernel_rfl
 v0 := fun w => by kernel_rfl
 t3 := by kernel_rfl
 a3 := fun w => by kernel_rfl
 z3 := fun w => by kernel_rfl
 v3 := fun w => by kernel_rfl
 t4 := by kernel_rfl
 a4 := fun w => by kernel_rfl
 z4 := fun w => by kernel_rfl
 v4 := fun w => by kernel_rfl
 t5 := by kernel_rfl
 a5 := fun w => by kernel_rfl
 z5 := fun w => by kernel_rfl
 v5 := fun w => by kernel_rfl
 t9 := by kernel_rfl
 a9 := fun w => by kernel_rfl
 z9 := fun w => by kernel_rfl
 v9 := fun w => by kernel_rfl
 t21 := by kernel_rfl
 a21 := fun w => by kernel_rfl
 z21 := fun w => by kernel_rfl
 v21 := fun w => by kernel_rfl
 t46 := by kernel_rfl
 a46 := fun w => by kernel_rfl
 z46 := fun w => by kernel_rfl
 v46 := fun w => by kernel_rfl
 t105 := by kernel_rfl
 a105 := fun w => by kernel_rfl
 z105 := fun w => by kernel_rfl
 v105 := fun w => by kernel_rfl
 t116 := by kernel_rfl
 a116 := fun w => by kernel_rfl
 z116 := fun w => by kernel_rfl
 t117 := by kernel_rfl
 a117 := fun w => by kernel_rfl
 z117 := fun w => by kernel_rfl
 v117 := fun w => by kernel_rfl
 t119 := by kernel_rfl
 a119 := fun w => by kernel_rfl
 z119 := fun w => by kernel_rfl
 t124 := by kernel_rfl
 a124 := fun w => by kernel_rfl
 z124 := fun w => by kernel_rfl
 v124 := fun w => by kernel_rfl
 t138 := by kernel_rfl
 a138 := fun w => by kernel_rfl
 z138 := fun w => by kernel_rfl
 v138 := fun w => by kernel_rfl
 t139 := by kernel_rfl
 a139 := fun w => by kernel_rfl
 z139 := fun w => by kernel_rfl
 v139 := fun w => by kernel_rfl
 g3 := by kernel_rfl
 g4 := by kernel_rfl
theorem trm0 : Lays.n160 Tryz.prog jM4 where
 mixed := by kernel_rfl
 f119 := by kernel_rfl
 f120 := by kernel_rfl
 f137 := by kernel_rfl
 f151 := by kernel_rfl
 f152 := by kernel_rfl
 f160 := by kernel_rfl
 f197 := by kernel_rfl
 f217 := by kernel_rfl
 f224 := by kernel_rfl
 f225 := by kernel_rfl
 f227 := by kernel_rfl
 f228 := by kernel_rfl
 f231 := by kernel_rfl
 f232 := by kernel_rfl
 f233 := by kernel_rfl
 f234 := by kernel_rfl
 f235 := by kernel_rfl
 f236 := by kernel_rfl
 f260 := by kernel_rfl
 f266 := by kernel_rfl
 f271 := by kernel_rfl
 t0 := by kernel_rfl
 a0 := fun w => by kernel_rfl
 z0 := fun w => by kernel_rfl
 v0 := fun w => by kernel_rfl
 t3 := by kernel_rfl
 a3 := fun w => by kernel_rfl
 z3 := fun w => by kernel_rfl
 v3 := fun w => by kernel_rfl
 t4 := by kernel_rfl
 a4 := fun w => by kernel_rfl
 z4 := fun w => by kernel_rfl
 v4 := fun w => by kernel_rfl
 t5 := by kernel_rfl
 a5 := fun w => by kernel_rfl
 z5 := fun w => by kernel_rfl
 v5 := fun w => by kernel_rfl
 t9 := by kernel_rfl
 a9 := fun w => by kernel_rfl
 z9 := fun w => by kernel_rfl
 v9 := fun w => by kernel_rfl
 t21 := by kernel_rfl
 a21 := fun w => by kernel_rfl
 z21 := fun w => by kernel_rfl
 v21 := fun w => by kernel_rfl
 t46 := by kernel_rfl
 a46 := fun w => by kernel_rfl
 z46 := fun w => by kernel_rfl
 v46 := fun w => by kernel_rfl
 t105 := by kernel_rfl
 a105 := fun w => by kernel_rfl
 z105 := fun w => by kernel_rfl
 v105 := fun w => by kernel_rfl
 t116 := by kernel_rfl
 a116 := fun w => by kernel_rfl
 z116 := fun w => by kernel_rfl
 t117 := by kernel_rfl
 a117 := fun w => by kernel_rfl
 z117 := fun w => by kernel_rfl
 v117 := fun w => by kernel_rfl
 t119 := by kernel_rfl
 a119 := fun w => by kernel_rfl
 z119 := fun w => by kernel_rfl
 t124 := by kernel_rfl
 a124 := fun w => by kernel_rfl
 z124 := fun w => by kernel_rfl
 v124 := fun w => by kernel_rfl
 t138 := by kernel_rfl
 a138 := fun w => by kernel_rfl
 z138 := fun w => by kernel_rfl
 v138 := fun w => by kernel_rfl
 t139 := by kernel_rfl
 a139 := fun w => by kernel_rfl
 z139 := fun w => by kernel_rfl
 v139 := fun w => by kernel_rfl
 g3 := by kernel_rfl
 g4 := by kernel_rfl
theorem cny0 : Lays.n150 Tryz.prog jM4 where
 mixed := by kernel_rfl
 f119 := by kernel_rfl
 f137 := by kernel_rfl
 f150 := by kernel_rfl
 f152 := by kernel_rfl
 f153 := by kernel_rfl
 f217 := by kernel_rfl
 f224 := by kernel_rfl
 f225 := by kernel_rfl
 f226 := by kernel_rfl
 f227 := by kernel_rfl
 f228 := by kernel_rfl
 f266 := by kernel_rfl
 t0 := by kernel_rfl
 a0 := fun w => by kernel_rfl
 z0 := fun w => by kernel_rfl
 v0 := fun w => by kernel_rfl
 t3 := by kernel_rfl
 a3 := fun w => by kernel_rfl
 z3 := fun w => by kernel_rfl
 v3 := fun w => by kernel_rfl
 t4 := by kernel_rfl
 a4 := fun w => by kernel_rfl
 z4 := fun w => by kernel_rfl
 v4 := fun w => by kernel_rfl
 t5 := by kernel_rfl
 a5 := fun w => by kernel_rfl
 z5 := fun w => by kernel_rfl
 v5 := fun w => by kernel_rfl
 t9 := by kernel_rfl
 a9 := fun w => by kernel_rfl
 z9 := fun w => by kernel_rfl
 v9 := fun w => by kernel_rfl
 t21 := by kernel_rfl
 a21 := fun w => by kernel_rfl
 z21 := fun w => by kernel_rfl
 v21 := fun w => by kernel_rfl
 t46 := by kernel_rfl
 a46 := fun w => by kernel_rfl
 z46 := fun w => by kernel_rfl
 v46 := fun w => by kernel_rfl
 t116 := by kernel_rfl
 a116 := fun w => by kernel_rfl
 z116 := fun w => by kernel_rfl
 t117 := by kernel_rfl
 a117 := fun w => by kernel_rfl
 z117 := fun w => by kernel_rfl
 v117 := fun w => by kernel_rfl
 t124 := by kernel_rfl
 a124 := fun w => by kernel_rfl
 z124 := fun w => by kernel_rfl
 v124 := fun w => by kernel_rfl
theorem ato0 : LaysC.n172 Tryz.prog jM4 where
 mixed := by kernel_rfl
 f129 := by kernel_rfl
 f171 := by kernel_rfl
 f172 := by kernel_rfl
 f205 := by kernel_rfl
 f243 := by kernel_rfl
 f244 := by kernel_rfl
 f245 := by kernel_rfl
 f246 := by kernel_rfl
 f247 := by kernel_rfl
 f279 := by kernel_rfl
 f280 := by kernel_rfl
 f281 := by kernel_rfl
 f282 := by kernel_rfl
 f283 := by kernel_rfl
 f284 := by kernel_rfl
 f285 := by kernel_rfl
 f286 := by kernel_rfl
 f287 := by kernel_rfl
 f316 := by kernel_rfl
 f317 := by kernel_rfl
 f318 := by kernel_rfl
 f319 := by kernel_rfl
 f320 := by kernel_rfl
 f321 := by kernel_rfl
 f322 := by kernel_rfl
 f337 := by kernel_rfl
 f338 := by kernel_rfl
 t0 := by kernel_rfl
 a0 := fun w => by kernel_rfl
 z0 := fun w => by kernel_rfl
 v0 := fun w => by kernel_rfl
 t2 := by kernel_rfl
 a2 := fun w => by kernel_rfl
 z2 := fun w => by kernel_rfl
 v2 := fun w => by kernel_rfl
 t3 := by kernel_rfl
 a3 := fun w => by kernel_rfl
 z3 := fun w => by kernel_rfl
 v3 := fun w => by kernel_rfl
 t4 := by kernel_rfl
 a4 := fun w => by kernel_rfl
 z4 := fun w => by kernel_rfl
 v4 := fun w => by kernel_rfl
 t5 := by kernel_rfl
 a5 := fun w => by kernel_rfl
 z5 := fun w => by kernel_rfl
 v5 := fun w => by kernel_rfl
 t9 := by kernel_rfl
 a9 := fun w => by kernel_rfl
 z9 := fun w => by kernel_rfl
 v9 := fun w => by kernel_rfl
 t20 := by kernel_rfl
 a20 := fun w => by kernel_rfl
 z20 := fun w => by kernel_rfl
 v20 := fun w => by kernel_rfl
 t21 := by kernel_rfl
 a21 := fun w => by kernel_rfl
 z21 := fun w => by kernel_rfl
 v21 := fun w => by kernel_rfl
 t37 := by kernel_rfl
 a37 := fun w => by kernel_rfl
 z37 := fun w => by kernel_rfl
 v37 := fun w => by kernel_rfl
 t46 := by kernel_rfl
 a46 := fun w => by kernel_rfl
 z46 := fun w => by kernel_rfl
 v46 := fun w => by kernel_rfl
 t51 := by kernel_rfl
 a51 := fun w => by kernel_rfl
 z51 := fun w => by kernel_rfl
 v51 := fun w => by kernel_rfl
 t53 := by kernel_rfl
 a53 := fun w => by kernel_rfl
 z53 := fun w => by kernel_rfl
 v53 := fun w => by kernel_rfl
 t75 := by kernel_rfl
 a75 := fun w => by kernel_rfl
 z75 := fun w => by kernel_rfl
 v75 := fun w => by kernel_rfl
 t76 := by kernel_rfl
 a76 := fun w => by kernel_rfl
 z76 := fun w => by kernel_rfl
 v76 := fun w => by kernel_rfl
 t85 := by kernel_rfl
 a85 := fun w => by kernel_rfl
 z85 := fun w => by kernel_rfl
 v85 := fun w => by kernel_rfl
 t127 := by kernel_rfl
 a127 := fun w => by kernel_rfl
 z127 := fun w => by kernel_rfl
 v127 := fun w => by kernel_rfl
 t143 := by kernel_rfl
 a143 := fun w => by kernel_rfl
 z143 := fun w => by kernel_rfl
 v143 := fun w => by kernel_rfl
 t145 := by kernel_rfl
 a145 := fun w => by kernel_rfl
 z145 := fun w => by kernel_rfl
 v145 := fun w => by kernel_rfl
 t167 := by kernel_rfl
 a167 := fun w => by kernel_rfl
 z167 := fun w => by kernel_rfl
 v167 := fun w => by kernel_rfl
 t168 := by kernel_rfl
 a168 := fun w => by kernel_rfl
 z168 := fun w => by kernel_rfl
 v168 := fun w => by kernel_rfl
 t171 := by kernel_rfl
 a171 := fun w => by kernel_rfl
 z171 := fun w => by kernel_rfl
 v171 := fun w => by kernel_rfl
 t173 := by kernel_rfl
 a173 := fun w => by kernel_rfl
 z173 := fun w => by kernel_rfl
 v173 := fun w => by kernel_rfl
 t175 := by kernel_rfl
 a175 := fun w => by kernel_rfl
 z175 := fun w => by kernel_rfl
 v175 := fun w => by kernel_rfl
 t210 := by kernel_rfl
 a210 := fun w => by kernel_rfl
 z210 := fun w => by kernel_rfl
 v210 := fun w => by kernel_rfl
 t212 := by kernel_rfl
 a212 := fun w => by kernel_rfl
 z212 := fun w => by kernel_rfl
 v212 := fun w => by kernel_rfl
 t213 := by kernel_rfl
 a213 := fun w => by kernel_rfl
 z213 := fun w => by kernel_rfl
 t232 := by kernel_rfl
 a232 := fun w => by kernel_rfl
 z232 := fun w => by kernel_rfl
 v232 := fun w => by kernel_rfl
 t233 := by kernel_rfl
 a233 := fun w => by kernel_rfl
 z233 := fun w => by kernel_rfl
 v233 := fun w => by kernel_rfl
 g15 := by kernel_rfl
 g16 := by kernel_rfl
 g17 := by kernel_rfl
 g18 := by kernel_rfl
 g19 := by kernel_rfl
 t80 := by kernel_rfl
 a80 := fun w => by kernel_rfl
 z80 := fun w => by kernel_rfl
 v80 := fun w => by kernel_rfl
 i0 := by kernel_rfl
 i2 := by kernel_rfl
 i3 := by kernel_rfl
 i4 := by kernel_rfl
 i5 := by kernel_rfl
 i9 := by kernel_rfl
 i20 := by kernel_rfl
 i21 := by kernel_rfl
 i37 := by kernel_rfl
 i46 := by kernel_rfl
 i51 := by kernel_rfl
 i53 := by kernel_rfl
 i75 := by kernel_rfl
 i76 := by kernel_rfl
 i80 := by kernel_rfl
 i85 := by kernel_rfl
 i127 := by kernel_rfl
 i143 := by kernel_rfl
 i145 := by kernel_rfl
 i167 := by kernel_rfl
 i168 := by kernel_rfl
 i171 := by kernel_rfl
 i173 := by kernel_rfl
 i175 := by kernel_rfl
 i210 := by kernel_rfl
 i212 := by kernel_rfl
 i232 := by kernel_rfl
 i233 := by kernel_rfl
 m15 := by kernel_rfl
 m16 := by kernel_rfl
 m17 := by kernel_rfl
 m18 := by kernel_rfl
 m19 := by kernel_rfl
 c0 := by kernel_rfl
 c2 := by kernel_rfl
 c3 := by kernel_rfl
 c4 := by kernel_rfl
 c5 := by kernel_rfl
 c9 := by kernel_rfl
 c20 := by kernel_rfl
 c21 := by kernel_rfl
 c37 := by kernel_rfl
 c46 := by kernel_rfl
 c51 := by kernel_rfl
 c53 := by kernel_rfl
 c75 := by kernel_rfl
 c76 := by kernel_rfl
 c80 := by kernel_rfl
 c85 := by kernel_rfl
 c127 := by kernel_rfl
 c143 := by kernel_rfl
 c145 := by kernel_rfl
 c167 := by kernel_rfl
 c168 := by kernel_rfl
 c171 := by kernel_rfl
 c173 := by kernel_rfl
 c175 := by kernel_rfl
 c210 := by kernel_rfl
 c212 := by kernel_rfl
 c213 := by kernel_rfl
 c232 := by kernel_rfl
 c233 := by kernel_rfl
theorem wN4 : Enters Tryz.prog 73 := Enters.mk Tryz.func73 (by kernel_rfl) (by kernel_rfl)
theorem wN6 : Enters Tryz.prog 167 := Enters.mk Tryz.func167 (by kernel_rfl) (by kernel_rfl)
theorem wM9 : Enters Tryz.prog 166 := Enters.mk Tryz.func166 (by kernel_rfl) (by kernel_rfl)
theorem wM8 : Enters Tryz.prog 168 := Enters.mk Tryz.func168 (by kernel_rfl) (by kernel_rfl)
theorem wN7 : Enters Tryz.prog 169 := Enters.mk Tryz.func169 (by kernel_rfl) (by kernel_rfl)
theorem wN9 : Enters Tryz.prog 170 := Enters.mk Tryz.func170 (by kernel_rfl) (by kernel_rfl)
theorem yI2 (s p : List UInt8) : Fn Tryz.prog 73 [.string (str s), .string (str p)] [] fun v _ => v = .bool (p.isPrefixOf s) :=
 Fn.of_same wN4 fun w => (Any.strings_HasPrefix hpf0 (str s) (str p) w).mono fun e w' ⟨he, hw⟩ => ⟨by rw [he]; simp [str, Lib.hasPrefix], hw.symm⟩
theorem zF2 (s p : List UInt8) : Fn Tryz.prog 167 [.string (str s), .string (str p)] [] fun v _ => v = .tuple #[.string (str (Lib.trimPrefix s p)), .bool (p.isPrefixOf s)] :=
 Fn.of_same wN6 fun w => (Any.strings_CutPrefix cpf0 (str s) (str p) w).mono fun e w' ⟨he, hw⟩ => ⟨by rw [he]; simp [str, Lib.hasPrefix], hw.symm⟩
def jY9 (l : List UInt8) : Prop := ∀ (j : Nat) b, l[j]? = some b → b.toNat < 128
theorem yZ4 (s p : List UInt8) (hp : p.length ≤ 100) (ha : jY9 p) : Fn Tryz.prog 166 [.string (str s), .string (str p)] [] fun v _ => v = .string (str (Lib.trimLeftS s p)) :=
 Fn.of_bel wM9 fun w => (Any.strings_TrimLeft_laid trl0 (by kernel_rfl) (str s) (str p) w (by show p.length < _; omega) (by simpa [str, jY9] using ha)).mono fun e w' ⟨he, hw⟩ => ⟨by rw [he]; simp [str], hw⟩
theorem yZ3 (s p : List UInt8) (hs : s.length ≤ 1000000) (hp : p.length ≤ 100) (ha : jY9 p) : Fn Tryz.prog 168 [.string (str s), .string (str p)] [] fun v _ => v = .string (str (Lib.trimS s p)) :=
 Fn.of_bel wM8 fun w => (Any.strings_Trim_laid trm0 (by kernel_rfl) (str s) (str p) w (by show s.length ≤ _; omega) (by show p.length < _; omega) (by simpa [str, jY9] using ha)).mono fun e w' ⟨he, hw⟩ => ⟨by rw [he]; simp [str], hw⟩
theorem zF3 (s p : List UInt8) (hs : s.length ≤ 1000000) (hp : p.length ≤ 100) (hb : jY9 s) (ha : jY9 p) : Fn Tryz.prog 169 [.string (str s), .string (str p)] [] fun v _ => v = .bool (Lib.containsAny s p) :=
 Fn.of_bel wN7 fun w => (Any.strings_ContainsAny_laid cny0 (by kernel_rfl) (str s) (str p) w (by show s.length < _; omega) (by show p.length < _; omega) (by simpa [str, jY9] using hb) (by simpa [str, jY9] using ha)).mono fun e w' ⟨he, hw⟩ => ⟨by rw [he]; simp [str], hw⟩
def atoQ (l : List UInt8) : Option Int := match Lib.atoiAll l with | .ok n => some n | _ => none
def zJ5 (l : List UInt8) (v : Value) : Prop := ∃ n e, v = .tuple #[iq n, e] ∧ ((atoQ l = some n ∧ e = .nilIface) ∨ (atoQ l = none ∧ ∃ t x, e = .iface t x))
theorem zG1 (l : List UInt8) (hl : l.length ≤ 1000000) (er es : Value) (h1 : ErOk er) (h2 : ErOk es) : Fn Tryz.prog 170 [.string (str l)] (TJ er es) fun v H' => zJ5 l v ∧ H' = [] := by
 refine ⟨wN9, fun w hw => ?_⟩
 have hE := zJ2 hw
 have hb : ∀ {w'}, Bel w w' → Sat w (wrs (TJ er es)) [] w' := fun h => ⟨Only.of_bel h, by simp, qH⟩
 rcases h : Lib.atoiAll l with n | _ | _
 · refine (Any.strconv_Atoi_ok ato0 (str l) (by show l.length ≤ _; omega) n h w).mono ?_
   rintro e w' ⟨rfl, hw'⟩
   refine ⟨_, [], rfl, ⟨⟨n, .nilIface, rfl, .inl ⟨by unfold atoQ; rw [h], rfl⟩⟩, rfl⟩, hb ?_⟩
   rcases hw' with rfl | ⟨t, rfl⟩
   ·exact Bel.refl _
   ·exact Lib.bytesWorld_below _ _ _
 · refine (Any.strconv_Atoi_syntax ato0 (str l) (by show l.length ≤ _; omega) h es w hE.2 h2).mono ?_
   rintro e w' ⟨N, rfl, _, _, hw'⟩
   exact ⟨_, [], rfl, ⟨⟨_, _, rfl, .inr ⟨by unfold atoQ; rw [h], _, _, rfl⟩⟩, rfl⟩, hb hw'⟩
 · refine (Any.strconv_Atoi_range ato0 (str l) (by show l.length ≤ _; omega) h er w hE.1 h1).mono ?_
   rintro e w' ⟨N, rfl, _, _, hw'⟩
   exact ⟨_, [], rfl, ⟨⟨_, _, rfl, .inr ⟨by unfold atoQ; rw [h], _, _, rfl⟩⟩, rfl⟩, hb hw'⟩
def TagIs (t : Nat) (v : Value) : Prop := if t = 1 then ∃ x, v = .iface 73 x else v = .nilIface ∨ ∃ k x, k ≠ 73 ∧ v = .iface k x
theorem jO8 : TagIs 0 .nilIface := .inl rfl
theorem jJ2 (g : Nat) (s : List UInt8) (i j f : Nat) : Fn Tryz.prog 66 [ptr g 0, iq (j : Nat), iq (f : Nat)] [rdr g s i 0] fun v H' => v = .nilIface ∧ H' = [rdr g s j f] := wW9 g s i 0 j f
theorem kC2 (g : Nat) (s : List UInt8) (i : Nat) : Fn Tryz.prog 116 [ptr g 0] [rdr g s i 0] fun v H' => v = .nilIface ∧ H' = [rdr g s i (if i = s.length then 3 else 4)] := by
 refine Fn.enter (N := 25) Tryz.func116 rfl (by kernel_rfl) rfl (fun w0 => ?_)
 refine aA rfl rfl <| f1K 0 rfl <| aS <| jC6 mixed (by kernel_rfl) (fun Z hZ => ?_)
 refine qM rfl rfl <| jA9 rfl rfl <| qFA0 jC5 ?_
 first | refine jB6 0 tyA3 tyS3 ?_
 refine qM rfl rfl <| jA9 rfl rfl <| qFA0 jG5 ?_
 first | refine jB6 0 tyA9 tyS9 ?_
 refine jQ1 Tryz.underlying9 rfl rfl <| jM6 rfl rfl rfl <| jF0 (hZ _ _ <| f2K 0 12 rfl <| aC0 (fun h => ?_) (fun h => ?_))
 ·have h' : i = s.length := by simp at h; omega
  rw [if_pos h']
  refine aR fun Z hZ => sM rfl rfl <| sM rfl rfl <| jA0 ?_
  refine sFA0 jC5 ?_
  first | refine sL0 0 tyA3 tyS3 ?_
  refine jA5 [rdr g s i 0] [] (jJ2 g s i i 3) rfl (HLe.refl _) rfl ?_
  rintro v H' ⟨rfl, rfl⟩
  refine sAN hZ rfl rfl <| f1K 2 rfl <| aE ?_
  repeat refine nTR ?_
  exact nR10 ⟨rfl, rfl⟩
 have h' : i ≠ s.length := by simp at h; omega
 rw [if_neg h']
 refine aK <| nN <| aR fun Z hZ => sM rfl rfl <| sM rfl rfl <| jA0 ?_
 refine sFA0 jC5 ?_
 first | refine sL0 0 tyA3 tyS3 ?_
 refine jA5 [rdr g s i 0] [] (jJ2 g s i i 4) rfl (HLe.refl _) rfl ?_
 rintro v H' ⟨rfl, rfl⟩
 refine sAN hZ rfl rfl <| f1K 2 rfl <| aE <| nR10 ⟨rfl, rfl⟩
theorem vD7 (g : Nat) (s : List UInt8) (i : Nat) (hs : s.length ≤ 100000) (hi : i ≤ s.length) :
  Fn Tryz.prog 118 [ptr g 0] ([rdr g s i 0] ++ T8) fun v H' => v = .string (str (if (jJ0 s i).2.2 = 0 then (jJ0 s i).1 else [])) ∧ H' = [rdr g s (jJ0 s i).2.1 (jJ0 s i).2.2] := by
 have ht := wJ9 s i hs hi
 obtain ⟨t, n, e, hq⟩ : ∃ t n e, jJ0 s i = (t, n, e) := ⟨_, _, _, rfl⟩
 rw [hq] at ht ⊢
 simp only at ht ⊢
 refine Fn.enter (N := 30) Tryz.func118 rfl (by kernel_rfl) rfl (fun w0 => ?_)
 refine aA rfl rfl <| f1K 0 rfl <| jD3 _ [(0, true), (1, true), (2, true), (3, true), (4, true), (5, true), (6, true), (7, true), (8, false), (9, true), (10, true), (11, true), (12, true), (13, true), (14, true), (15, true)] mixed (by kernel_rfl) (HLe.pick [0] (by simp) (by simp only [pick, l7, lZ]; rfl)) (fun Z hZ => ?_)
 refine tw_p rfl <| jA8 ?_
 refine vN <| tw_p rfl <| jE0 rfl rfl <| vN <| tw_p rfl <| jA7 jG5 ?_
 refine vN <| tw_p rfl ?_
 first | refine jE6 0 rfl rfl tyA9 tyS9 rfl rfl ?_
 refine vN <| tw_p rfl <| jA8 ?_
 refine vN <| tw_p rfl <| jE0 rfl rfl <| vN <| tw_p rfl <| jA7 jC5 ?_
 refine vN <| tw_p rfl ?_
 first | refine jE6 0 rfl rfl tyA3 tyS3 rfl rfl ?_
 refine vN <| tw_g rfl <| jD1 T8 ht rfl (by repeat (first | exact xU _ | exact lN _ | exact lP _ _ | refine List.Sublist.trans ?_ (lS _ _) | exact qC _ (lN _) | refine zF _ ?_)) vZ8 rfl ?_
 refine sN ⟨HLe.pick [0] (by simp) rfl, ?_⟩
 refine tw_p rfl <| jA8 ?_
 refine vN <| tw_p rfl <| jF7 rfl rfl rfl <| vN <| tw_p rfl <| jF7 rfl rfl rfl <| vN <| tw_p rfl <| jF7 rfl rfl rfl <| vN ?_
 refine tw_p rfl <| jE7 rfl rfl <| vN <| tw_p rfl <| jE7 rfl rfl <| vN <| tw_p rfl <| jE7 rfl rfl <| vN <| jI7 (hZ _ _ ?_)
 refine f4K 0 3 4 5 rfl <| aS <| aR fun Z hZ => sM rfl rfl <| jC7 ?_
 refine sN (hZ _ _ <| f5K 0 3 4 5 20 rfl <| aC0 (fun h => ?_) (fun h => ?_))
 ·have h' : e ≠ 0 := by simpa using h
  rw [if_neg h']
  refine aR fun Z hZ => sM rfl rfl <| sM rfl rfl <| sM rfl rfl <| jA5 [rdr g s i 0] [] (jJ2 g s i n e) rfl (HLe.sub (lS _ _)) rfl ?_
  rintro v H' ⟨rfl, rfl⟩
  refine sN (hZ _ _ <| aF [] (Kn.nil) <| aA rfl rfl <| f1K 2 rfl <| aE ?_)
  repeat refine nTR ?_
  exact nR10 ⟨rfl, rfl⟩
 have h' : e = 0 := by simpa using h
 subst h'
 rw [if_pos rfl]
 refine aK <| nN <| jA6 [rdr g s i 0] (HLe.sub (lS _ _)) <| aR fun Z hZ => sM rfl rfl <| sM rfl rfl <| jA0 ?_
 refine sFA0 jC5 ?_
 first | refine sS10 0 tyS3 ?_
 refine sN (hZ _ _ <| f1K 3 rfl <| aR fun Z hZ => sM rfl rfl <| sAN hZ rfl rfl <| f1K 2 rfl <| aE <| nR10 ⟨rfl, rfl⟩)
def kI8 (s : List UInt8) (i : Nat) (w : List UInt8) (t : Nat) : Nat × Nat × Nat :=
 if w.isPrefixOf (s.drop i) = true then (t, i + w.length, 0) else if (s.drop i).isPrefixOf w = true then (0, s.length, 3) else (0, i, 4)
theorem kT7 {s : List UInt8} {i : Nat} (w : List UInt8) (t : Nat) (hi : i ≤ s.length) : (kI8 s i w t).2.1 ≤ s.length := by
 unfold kI8
 split
 ·rename_i h
  have := (List.isPrefixOf_iff_prefix.1 h).length_le
  rw [xY] at this
  show i + w.length ≤ s.length
  omega
 split
 ·exact xB _
 ·exact hi
theorem kW7 (g : Nat) (s : List UInt8) (i : Nat) (w : List UInt8) (v : Value) (t : Nat) (hv : TagIs t v) (hs : s.length ≤ 100000) (hi : i ≤ s.length) (hw : w.length ≤ 10) :
  Fn Tryz.prog 117 [ptr g 0, .string (str w), v] [rdr g s i 0] fun u H' => TagIs (kI8 s i w t).1 u ∧ H' = [rdr g s (kI8 s i w t).2.1 (kI8 s i w t).2.2] := by
 unfold kI8
 refine Fn.enter (N := 48) Tryz.func117 rfl (by kernel_rfl) rfl (fun w0 => ?_)
 refine aA rfl rfl <| f3K 0 1 2 rfl <| jD3 _ [(0, true), (1, true), (2, true), (3, true), (4, true), (5, true), (6, true), (7, true), (8, true), (9, true)] mixed (by kernel_rfl) (HLe.pick [0] (by simp) (by simp only [pick, l7, qS]; rfl)) (fun Z hZ => ?_)
 refine tw_p rfl <| jA8 ?_
 refine vN <| tw_p rfl <| jE0 rfl rfl <| vN <| tw_p rfl <| jA7 jG5 ?_
 refine vN <| tw_p rfl ?_
 first | refine jE6 0 rfl rfl tyA9 tyS9 rfl rfl ?_
 refine vN <| tw_p rfl <| jA8 ?_
 refine vN <| tw_p rfl <| jE0 rfl rfl <| vN <| tw_p rfl <| jA7 jC5 ?_
 refine vN <| tw_p rfl ?_
 first | refine jE6 0 rfl rfl tyA3 tyS3 rfl rfl ?_
 refine vN <| tw_p rfl <| jV0 (s.drop i) Tryz.underlying9 rfl rfl rfl (by omega) (by omega) (by omega) (by rw [x9, x9]; exact qZ (by rw [xY]; omega)) rfl ?_
 refine vN <| tw_p rfl <| jE7 rfl rfl <| vN <| jI7 (hZ _ _ <| f4K 0 1 2 7 rfl <| aS (aB <| aR fun Z hZ => sM rfl rfl <| sM rfl rfl <| sCP0 (yI2 (s.drop i) w) ?_))
 refine sAN hZ rfl rfl <| f5K 0 1 2 7 17 rfl <| aC0 (fun h => ?_) (fun h => ?_)
 ·rw [if_pos h]
  refine aR fun Z hZ => sM rfl rfl <| jA0 ?_
  refine sFA0 jC5 ?_
  first | refine sL0 0 tyA3 tyS3 ?_
  refine sM rfl rfl ?_
  refine jD6 Tryz.underlying9 rfl rfl ?_
  refine jC2 rfl rfl ((i + w.length : Nat) : Int) (by rw [lT _ (by omega)]; omega) rfl ?_
  refine jA0 ?_
  refine sFA0 jC5 ?_
  first | refine sS10 0 tyS3 ?_
  refine sN (hZ _ _ <| f1K 2 rfl <| aR fun Z hZ => sM rfl rfl <| sAN hZ rfl rfl <| f1K 6 rfl <| aE ?_)
  repeat (with_reducible (first | refine nTR ?_ | refine nBR ?_))
  exact nR10 ⟨hv, rfl⟩
 rw [if_neg (by rw [h]; decide)]
 refine aR fun Z hZ => sM rfl rfl <| sM rfl rfl <| sCP0 (yI2 w (s.drop i)) ?_
 refine sAN hZ rfl rfl <| f2K 0 31 rfl <| aC0 (fun h1 => ?_) (fun h1 => ?_)
 ·rw [if_pos h1]
  refine aR fun Z hZ => sM rfl rfl <| sM rfl rfl <| jA0 ?_
  refine sFA0 jG5 ?_
  first | refine sL0 0 tyA9 tyS9 ?_
  refine jD6 Tryz.underlying9 rfl rfl <| jA5 [rdr g s i 0] [] (jJ2 g s i s.length 3) rfl (HLe.refl _) rfl ?_
  rintro v H' ⟨rfl, rfl⟩
  refine sAN hZ rfl rfl <| f1K 6 rfl <| aE ?_
  repeat (with_reducible (first | refine nTR ?_ | refine nBR ?_))
  exact nR10 ⟨jO8, rfl⟩
 rw [if_neg (by rw [h1]; decide)]
 refine aK ?_
 repeat refine nBN ?_
 refine nN <| aR fun Z hZ => sM rfl rfl <| sM rfl rfl <| jA0 ?_
 refine sFA0 jC5 ?_
 first | refine sL0 0 tyA3 tyS3 ?_
 refine jA5 [rdr g s i 0] [] (jJ2 g s i i 4) rfl (HLe.refl _) rfl ?_
 rintro v H' ⟨rfl, rfl⟩
 refine sAN hZ rfl rfl <| f1K 6 rfl <| aE <| nR10 ⟨jO8, rfl⟩
def vX8 : List UInt8 := [48, 49, 50, 51, 52, 53, 54, 55, 56, 57, 43, 45, 46, 101, 69]
def kP6 : List UInt8 := [48, 49, 50, 51, 52, 53, 54, 55, 56, 57]
def wZ1 : List UInt8 := [43, 45, 46, 101, 69]
def numN (r : List UInt8) : Nat := r.length - (Lib.trimLeftS r vX8).length
def numW (r : List UInt8) : List UInt8 := Lib.trimPrefix (r.take (numN r)) [45]
def numM (r : List UInt8) : Bool := ([45] : List UInt8).isPrefixOf (r.take (numN r))
def numQ (s : List UInt8) (i : Nat) : Nat × Nat × Nat :=
 if numW (s.drop i) = [] ∨ Lib.trimS (numW (s.drop i)) kP6 ≠ [] ∨ Lib.containsAny (numW (s.drop i)) wZ1 = true then (0, i, 4)
 else if (numW (s.drop i))[0]? = some 48 ∧ (1 < (numW (s.drop i)).length ∨ numM (s.drop i) = true) then (0, i, 4)
 else match atoQ (numW (s.drop i)) with
  | none => (0, i, 11)
  | some n => if 9007199254740991 < n then (0, i, 11) else (2, i + numN (s.drop i), 0)
theorem jY6 {α : Type} (p : α → Bool) : ∀ l : List α, l.take (l.length - (l.dropWhile p).length) = l.takeWhile p
 | [] => rfl
 | x :: l => by
  cases h : p x with
  | true =>
   rw [List.dropWhile_cons_of_pos h, List.takeWhile_cons_of_pos h, ← jY6 p l]
   have := (List.dropWhile_suffix p (l := l)).length_le
   rw [lE, show l.length + 1 - (l.dropWhile p).length = l.length - (l.dropWhile p).length + 1 by omega, lJ]
  | false =>
   rw [List.dropWhile_cons_of_neg (by rw [h]; decide), List.takeWhile_cons_of_neg (by rw [h]; decide), uL]
   rfl
theorem vX7 (r : List UInt8) : jY9 (numW r) := by
 have h1 : ∀ b ∈ r.take (numN r), b.toNat < 128 := fun b hb => by
  unfold numN Lib.trimLeftS at hb
  rw [jY6] at hb
  have := List.all_eq_true.1 List.all_takeWhile b hb
  simp [vX8] at this
  rcases this with rfl | rfl | rfl | rfl | rfl | rfl | rfl | rfl | rfl | rfl | rfl | rfl | rfl | rfl | rfl <;> decide
 intro j b hb
 have hm := xM hb
 unfold numW Lib.trimPrefix at hm
 split at hm
 ·exact h1 b (List.mem_of_mem_drop hm)
 ·exact h1 b hm
theorem vL4 (r : List UInt8) : numN r ≤ r.length := Nat.sub_le _ _
theorem yQ9 (r : List UInt8) : (numW r).length ≤ r.length := by
 have := vL4 r
 unfold numW Lib.trimPrefix
 split
 ·rw [xY, xS]; omega
 ·rw [xS]; omega
theorem yR0 {s : List UInt8} {i : Nat} (hi : i ≤ s.length) : (numQ s i).2.1 ≤ s.length := by
 have h := vL4 (s.drop i)
 rw [xY] at h
 unfold numQ
 repeat' split
 all_goals (simp only; omega)
theorem vA5 {l : List UInt8} (h : l.all (fun b => decide (b.toNat < 128)) = true) : jY9 l := fun j b hb => by simpa using List.all_eq_true.1 h b (xM hb)
theorem yO6 (g : Nat) (s : List UInt8) (i : Nat) (hs : s.length ≤ 100000) (hi : i ≤ s.length) (er es : Value) (he1 : ErOk er) (he2 : ErOk es) :
  Fn Tryz.prog 121 [ptr g 0] ([rdr g s i 0] ++ TJ er es) fun u H' => TagIs (numQ s i).1 u ∧ H' = [rdr g s (numQ s i).2.1 (numQ s i).2.2] := by
 have hrl : (s.drop i).length = s.length - i := xY
 have hN := vL4 (s.drop i)
 have hWl := yQ9 (s.drop i)
 have hWa := vX7 (s.drop i)
 have f1 := yZ4 (s.drop i) vX8 (by decide) (vA5 (by decide))
 have f2 := zF2 ((s.drop i).take (numN (s.drop i))) [45]
 have f3 := yZ3 (numW (s.drop i)) kP6 (by omega) (by decide) (vA5 (by decide))
 have f4 := zF3 (numW (s.drop i)) wZ1 (by omega) (by decide) hWa (vA5 (by decide))
 have f5 := zG1 (numW (s.drop i)) (by omega) er es he1 he2
 have hq : numQ s i = if numW (s.drop i) = [] ∨ Lib.trimS (numW (s.drop i)) kP6 ≠ [] ∨ Lib.containsAny (numW (s.drop i)) wZ1 = true then (0, i, 4)
  else if (numW (s.drop i))[0]? = some 48 ∧ (1 < (numW (s.drop i)).length ∨ numM (s.drop i) = true) then (0, i, 4)
  else match atoQ (numW (s.drop i)) with
   | none => (0, i, 11)
   | some n => if 9007199254740991 < n then (0, i, 11) else (2, i + numN (s.drop i), 0) := rfl
 rw [hq]
 clear hq
 have e2 : Lib.trimPrefix ((s.drop i).take (numN (s.drop i))) [45] = numW (s.drop i) := rfl
 have e3 : ([45] : List UInt8).isPrefixOf ((s.drop i).take (numN (s.drop i))) = numM (s.drop i) := rfl
 have e1 : numN (s.drop i) = (s.drop i).length - (Lib.trimLeftS (s.drop i) vX8).length := rfl
 have h1l : (Lib.trimLeftS (s.drop i) vX8).length ≤ (s.drop i).length := (List.dropWhile_suffix _).length_le
 rw [e2, e3] at f2
 obtain ⟨R, hR⟩ := xZ9 (s.drop i)
 rw [hR] at hrl hN hWl hWa f1 f2 f3 f4 f5 e1 e2 e3 h1l ⊢
 obtain ⟨n, hn⟩ := xZ9 (numN R)
 obtain ⟨W, hW⟩ := xZ9 (numW R)
 obtain ⟨m, hm⟩ := xZ9 (numM R)
 obtain ⟨T1, hT1⟩ := xZ9 (Lib.trimLeftS R vX8)
 obtain ⟨T3, hT3⟩ := xZ9 (Lib.trimS W kP6)
 obtain ⟨C, hC⟩ := xZ9 (Lib.containsAny W wZ1)
 rw [hn] at hN f2 e1 ⊢
 rw [hW] at hWl f2 f3 f4 f5 ⊢
 rw [hm] at f2 ⊢
 rw [hT1] at f1 e1 h1l
 rw [hT3] at f3 ⊢
 rw [hC] at f4 ⊢
 clear hn hW hm hT1 hT3 hC e2 e3 hWa
 refine Fn.enter (N := 97) Tryz.func121 rfl (by kernel_rfl) rfl (fun w0 => ?_)
 refine aA rfl rfl <| f1K 0 rfl <| jD3 _ [(0, true), (1, true), (2, true), (3, true), (4, true), (5, true), (6, true), (7, true), (8, true), (9, true)] mixed (by kernel_rfl) (HLe.pick [0] (by simp) (by simp only [pick, l7, lZ]; rfl)) (fun Z hZ => ?_)
 refine tw_p rfl <| jA8 ?_
 refine vN <| tw_p rfl <| jE0 rfl rfl <| vN <| tw_p rfl <| jA7 jG5 ?_
 refine vN <| tw_p rfl ?_
 first | refine jE6 0 rfl rfl tyA9 tyS9 rfl rfl ?_
 refine vN <| tw_p rfl <| jA8 ?_
 refine vN <| tw_p rfl <| jE0 rfl rfl <| vN <| tw_p rfl <| jA7 jC5 ?_
 refine vN <| tw_p rfl ?_
 first | refine jE6 0 rfl rfl tyA3 tyS3 rfl rfl ?_
 refine vN <| tw_p rfl <| jV0 R Tryz.underlying9 rfl rfl rfl (by omega) (by omega) (by omega) (by rw [x9, x9, hR]; exact qZ (by omega)) rfl ?_
 refine vN <| tw_p rfl <| jE7 rfl rfl <| vN <| jI7 (hZ _ _ <| f2K 0 3 rfl <| aR fun Z hZ => sM rfl rfl <| jD6 Tryz.underlying9 rfl rfl <| sM rfl rfl <| sCP0 f1 ?_)
 refine jD6 Tryz.underlying9 rfl rfl <| jN3 rfl rfl ((n : Nat) : Int) (by rw [lT _ (by omega)]; omega) rfl ?_
 refine sAN hZ rfl rfl <| f3K 0 3 4 rfl <| aR fun Z hZ => sM rfl rfl <| sM rfl rfl <| jL9 (R.take n) Tryz.underlying9 rfl rfl rfl (by omega) (by omega) (by omega) (by simp) rfl ?_
 refine sCP0 f2 ?_
 refine sM rfl rfl <| sX rfl rfl rfl <| sX rfl rfl rfl <| sA rfl rfl <| sAN hZ rfl rfl <| f4K 0 4 5 6 rfl <| aS (aB <| jA3 [(0, ptr g 0), (4, iq (n : Nat)), (5, .string (str W)), (6, .bool m), (31, .bool (decide (W = [] ∨ T3 ≠ [] ∨ C = true)))] ([rdr g s i 0] ++ TJ er es) (fun Z hZ => ?_) ?_)
 ·refine sM rfl rfl <| jU4 rfl rfl rfl <| sM rfl rfl <| jD0 34 rfl (fun hb2 => ?_) (fun hb2 => ?_)
  ·refine sO0 ?_
   refine sO0 ?_
   refine sO0 ?_
   refine sP rfl rfl rfl <| sM rfl rfl <| sO0 ?_
   refine sO0 ?_
   refine sP rfl rfl rfl <| sA rfl rfl <| sN (hZ _ _ ?_ ?_)
   ·exact Kn.cons rfl (Kn.cons rfl (Kn.cons rfl (Kn.cons rfl (Kn.cons (congrArg some (congrArg Value.bool (by rw [lR]; first | (simp at *; done) | (simp at *; simp [*])))) Kn.nil))))
   ·exact HLe.refl _
  ·refine sOn0 ?_
   refine sM rfl rfl <| sOn0 ?_
   refine sCP0 f3 ?_
   refine sOn0 ?_
   refine wB9 rfl rfl rfl <| sP rfl rfl rfl <| sM rfl rfl <| jD0 39 rfl (fun hb7 => ?_) (fun hb7 => ?_)
   ·refine sO0 ?_
    refine sO0 ?_
    refine sP rfl rfl rfl <| sA rfl rfl <| sN (hZ _ _ ?_ ?_)
    ·exact Kn.cons rfl (Kn.cons rfl (Kn.cons rfl (Kn.cons rfl (Kn.cons (congrArg some (congrArg Value.bool (by rw [lR]; first | (simp at *; done) | (simp at *; simp [*])))) Kn.nil))))
    ·exact HLe.refl _
   ·refine sOn0 ?_
    refine sM rfl rfl <| sOn0 ?_
    refine sCP0 f4 ?_
    refine sP rfl rfl rfl <| sA rfl rfl <| sN (hZ _ _ ?_ ?_)
    ·exact Kn.cons rfl (Kn.cons rfl (Kn.cons rfl (Kn.cons rfl (Kn.cons (congrArg some (congrArg Value.bool (by rw [lR]; first | (simp at *; done) | (simp at *; simp [*])))) Kn.nil))))
    ·exact HLe.refl _
 refine aC0 (fun h => ?_) (fun h => ?_)
 ·have h' : W = [] ∨ T3 ≠ [] ∨ C = true := by simpa using h
  rw [if_pos h']
  refine aR fun Z hZ => sM rfl rfl <| sM rfl rfl <| jA0 ?_
  refine sFA0 jC5 ?_
  first | refine sL0 0 tyA3 tyS3 ?_
  refine jA5 [rdr g s i 0] [] (jJ2 g s i i 4) rfl (HLe.sub (lS _ _)) rfl ?_
  rintro v H' ⟨rfl, rfl⟩
  refine sAN hZ rfl rfl <| f1K 2 rfl <| aE ?_
  repeat (with_reducible (first | refine nTR ?_ | refine nBR ?_))
  exact nR10 ⟨jO8, rfl⟩
 have h' : ¬ (W = [] ∨ T3 ≠ [] ∨ C = true) := by simpa using h
 rw [if_neg h']
 have hne : 0 < W.length := List.length_pos_iff.2 fun e => h' (.inl e)
 obtain ⟨c, hc⟩ : ∃ c, W[0]? = some c := ⟨_, xC hne⟩
 have h48 : ((c.toNat : Int) == 48) = decide (W[0]? = some 48) := by
  rw [hc, lR]
  simp only [beq_iff_eq, decide_eq_true_eq, x5]
  exact ⟨fun h => UInt8.toNat_inj.1 (show c.toNat = 48 by omega), fun h => by rw [h]; rfl⟩
 refine jA3 [(0, ptr g 0), (4, iq (n : Nat)), (5, .string (str W)), (6, .bool m), (49, .bool (decide (W[0]? = some 48 ∧ (1 < W.length ∨ m = true))))] ([rdr g s i 0] ++ TJ er es) (fun Z hZ => ?_) ?_
 ·refine sM rfl rfl <| jK4 Tryz.underlying9 rfl rfl (by omega) (by simpa using hc) rfl ?_
  refine jB0 ?_
  refine sM rfl rfl <| jD0 53 rfl (fun hb3 => ?_) (fun hb3 => ?_)
  ·refine sOn0 ?_
   refine sM rfl rfl <| sOn0 ?_
   refine jD6 Tryz.underlying9 rfl rfl <| sOn0 ?_
   refine jC4 ?_
   refine sOn0 ?_
   refine sM rfl rfl <| jD0 57 rfl (fun hb7 => ?_) (fun hb7 => ?_)
   ·refine sO0 ?_
    refine sOn0 ?_
    refine sP rfl rfl rfl <| sP rfl rfl rfl <| sA rfl rfl <| sN (hZ _ _ ?_ ?_)
    ·exact Kn.cons rfl (Kn.cons rfl (Kn.cons rfl (Kn.cons rfl (Kn.cons (congrArg some (congrArg Value.bool (by have e3 := (show decide (W[0]? = some 48) = _ from h48.symm.trans hb3); rw [lR]; first | (have a := of_decide_eq_true e3; have b := of_decide_eq_true hb7; simp only [a, true_and, decide_eq_true_eq]; exact ⟨fun _ => .inl (by omega), fun _ => by trivial⟩) | (have a := of_decide_eq_true e3; have b := of_decide_eq_false hb7; simp only [a, true_and, decide_eq_true_eq]; exact ⟨fun h => .inr h, fun h => h.resolve_left (by omega)⟩) | (simp at e3; simp [e3]; done)))) Kn.nil))))
    ·exact HLe.refl _
   ·refine sOn0 ?_
    refine sM rfl rfl <| sOn0 ?_
    refine sP rfl rfl rfl <| sP rfl rfl rfl <| sA rfl rfl <| sN (hZ _ _ ?_ ?_)
    ·exact Kn.cons rfl (Kn.cons rfl (Kn.cons rfl (Kn.cons rfl (Kn.cons (congrArg some (congrArg Value.bool (by have e3 := (show decide (W[0]? = some 48) = _ from h48.symm.trans hb3); rw [lR]; first | (have a := of_decide_eq_true e3; have b := of_decide_eq_true hb7; simp only [a, true_and, decide_eq_true_eq]; exact ⟨fun _ => .inl (by omega), fun _ => by trivial⟩) | (have a := of_decide_eq_true e3; have b := of_decide_eq_false hb7; simp only [a, true_and, decide_eq_true_eq]; exact ⟨fun h => .inr h, fun h => h.resolve_left (by omega)⟩) | (simp at e3; simp [e3]; done)))) Kn.nil))))
    ·exact HLe.refl _
  ·refine sO0 ?_
   refine sO0 ?_
   refine sO0 ?_
   refine sO0 ?_
   refine yM0 rfl rfl rfl rfl <| sO0 ?_
   refine sP rfl rfl rfl <| sA rfl rfl <| sN (hZ _ _ ?_ ?_)
   ·exact Kn.cons rfl (Kn.cons rfl (Kn.cons rfl (Kn.cons rfl (Kn.cons (congrArg some (congrArg Value.bool (by have e3 := (show decide (W[0]? = some 48) = _ from h48.symm.trans hb3); rw [lR]; first | (have a := of_decide_eq_true e3; have b := of_decide_eq_true hb7; simp only [a, true_and, decide_eq_true_eq]; exact ⟨fun _ => .inl (by omega), fun _ => by trivial⟩) | (have a := of_decide_eq_true e3; have b := of_decide_eq_false hb7; simp only [a, true_and, decide_eq_true_eq]; exact ⟨fun h => .inr h, fun h => h.resolve_left (by omega)⟩) | (simp at e3; simp [e3]; done)))) Kn.nil))))
   ·exact HLe.refl _
 refine aC0 (fun h1 => ?_) (fun h1 => ?_)
 ·have h1' : W[0]? = some 48 ∧ (1 < W.length ∨ m = true) := by simpa using h1
  rw [if_pos h1']
  refine aR fun Z hZ => sM rfl rfl <| sM rfl rfl <| jA0 ?_
  refine sFA0 jC5 ?_
  first | refine sL0 0 tyA3 tyS3 ?_
  refine jA5 [rdr g s i 0] [] (jJ2 g s i i 4) rfl (HLe.sub (lS _ _)) rfl ?_
  rintro v H' ⟨rfl, rfl⟩
  refine sAN hZ rfl rfl <| f1K 2 rfl <| aE ?_
  repeat (with_reducible (first | refine nTR ?_ | refine nBR ?_))
  exact nR10 ⟨jO8, rfl⟩
 have h1' : ¬ (W[0]? = some 48 ∧ (1 < W.length ∨ m = true)) := by simpa using h1
 rw [if_neg h1']
 refine aK ?_
 repeat refine nBN ?_
 refine nN <| aR fun Z hZ => sM rfl rfl <| jK1 [] (TJ er es) ([rdr g s i 0] ++ TJ er es) f5 rfl (HLe.refl _) (lP _ _) (kA9 _ _) rfl ?_
 rintro v H' ⟨⟨x, ev, rfl, hx⟩, rfl⟩
 refine sM rfl rfl <| sX rfl rfl rfl <| sX rfl rfl rfl <| sA rfl rfl <| sAN hZ rfl rfl <| f5K 0 4 6 7 8 rfl ?_
 rcases hx with ⟨hx, rfl⟩ | ⟨hx, t, y, rfl⟩
 ·rw [hx]
  simp only
  refine aS <| jA3 [(0, ptr g 0), (4, iq (n : Nat)), (6, .bool m), (7, iq x), (77, .bool (decide (9007199254740991 < x)))] ([rdr g s i 0] ++ TJ er es) (fun Z hZ => ?_) ?_
  ·refine sM rfl rfl <| wU9 Tryz.underlying213 rfl rfl <| sM rfl rfl <| jE5 74 rfl false (by rfl) ?_
   refine sOn0 ?_
   refine sM rfl rfl <| sOn0 ?_
   refine jC4 ?_
   refine sP rfl rfl rfl <| sN (hZ _ _ ?_ ?_)
   ·exact kR rfl
   ·exact HLe.refl _
  refine aC0 (fun h2 => ?_) (fun h2 => ?_)
  ·have h2' : 9007199254740991 < x := by simpa using h2
   rw [if_pos h2']
   refine aR fun Z hZ => sM rfl rfl <| sM rfl rfl <| jA0 ?_
   refine sFA0 jC5 ?_
   first | refine sL0 0 tyA3 tyS3 ?_
   refine jA5 [rdr g s i 0] [] (jJ2 g s i i 11) rfl (HLe.sub (lS _ _)) rfl ?_
   rintro v H' ⟨rfl, rfl⟩
   refine sAN hZ rfl rfl <| f1K 2 rfl <| aE ?_
   repeat refine nTR ?_
   exact nR10 ⟨jO8, rfl⟩
  have h2' : ¬ 9007199254740991 < x := by simpa using h2
  rw [if_neg h2']
  refine aK <| nN <| jA6 [rdr g s i 0] (HLe.sub (lS _ _)) <| aS <| aR fun Z hZ => sMN hZ rfl rfl <| f4K 0 4 7 84 rfl <| aC0 (fun h3 => ?_) (fun h3 => ?_)
  ·refine aG (fun Z hZ => sM rfl rfl <| zA0 rfl _ rfl rfl <| sAN hZ rfl rfl <| nF [(0, _), (4, _), (7, _)] (kR rfl) <| nN <| aR fun Z hZ => sM rfl rfl <| jA0 ?_)
   refine sFA0 jC5 ?_
   first | refine sL0 0 tyA3 tyS3 ?_
   refine sM rfl rfl ?_
   refine jC2 rfl rfl ((i + n : Nat) : Int) (by rw [lT _ (by omega)]; omega) rfl ?_
   refine jA0 ?_
   refine sFA0 jC5 ?_
   first | refine sS10 0 tyS3 ?_
   refine sN (hZ _ _ ?_)
   refine f1K 7 rfl ?_
   refine aR fun Z hZ => sM rfl rfl ?_
   refine jK8 Tryz.underlying3 rfl rfl rfl ?_
   refine sAN hZ rfl rfl ?_
   refine f1K 2 rfl ?_
   refine aE ?_
   exact nR1 rfl rfl ⟨.inr ⟨_, _, by decide, rfl⟩, rfl⟩
  ·refine aK <| nN <| aR fun Z hZ => sM rfl rfl <| jA0 ?_
   refine sFA0 jC5 ?_
   first | refine sL0 0 tyA3 tyS3 ?_
   refine sM rfl rfl ?_
   refine jC2 rfl rfl ((i + n : Nat) : Int) (by rw [lT _ (by omega)]; omega) rfl ?_
   refine jA0 ?_
   refine sFA0 jC5 ?_
   first | refine sS10 0 tyS3 ?_
   refine sN (hZ _ _ ?_)
   refine f1K 7 rfl ?_
   refine aR fun Z hZ => sM rfl rfl ?_
   refine jK8 Tryz.underlying3 rfl rfl rfl ?_
   refine sAN hZ rfl rfl ?_
   refine f1K 2 rfl ?_
   refine aE ?_
   exact nR1 rfl rfl ⟨.inr ⟨_, _, by decide, rfl⟩, rfl⟩
 ·rw [hx]
  simp only
  refine aS <| jA3 [(0, ptr g 0), (4, iq (n : Nat)), (6, .bool m), (7, iq x), (77, .bool true)] ([rdr g s i 0] ++ TJ er es) (fun Z hZ => ?_) ?_
  ·refine sM rfl rfl <| yM4 Tryz.underlying213 rfl rfl <| sM rfl rfl <| jE5 74 rfl true (by rfl) ?_
   refine sO0 ?_
   refine sO0 ?_
   refine sP rfl rfl rfl <| sN (hZ _ _ ?_ ?_)
   ·exact kR rfl
   ·exact HLe.refl _
  refine aC0 (fun h2 => ?_) (fun h2 => ?_)
  ·refine aR (fun Z hZ => sM rfl rfl <| sM rfl rfl <| jA0 ?_)
   refine sFA0 jC5 ?_
   first | refine sL0 0 tyA3 tyS3 ?_
   refine jA5 [rdr g s i 0] [] (jJ2 g s i i 11) rfl (HLe.sub (lS _ _)) rfl ?_
   rintro v H' ⟨rfl, rfl⟩
   refine sAN hZ rfl rfl <| f1K 2 rfl <| aE ?_
   repeat refine nTR ?_
   exact nR10 ⟨jO8, rfl⟩
  ·cases h2
end
section
open Go.RowKit
theorem wC7 {P : Program} {N : Frm} {w0 : World} {Wr : List Nat} {ops : Array Oper} {rest : List Oper} {fr : Fr} {H : Heap} {Z : Fr → Heap → Prop} {ty : Nat} {pos : String} {after : Array Edge}
  {f : FuncId} {caps : List Value} {x : Operand} {xs : List Operand} {vs : List Value} {ts : Array TypeId} {dst : Option Nat} {R : Value → Heap → Prop} (Hc K : Heap) (hc : Fn P f (vs ++ caps) Hc R) (hf : ev fr x = some (.func (.func f) #[] caps.toArray)) (hx : evs fr xs = some vs) (hH : HLe (Hc ++ K) H) (hN : dstB N dst = true)
  (h : ∀ v H', R v H' → sx P N w0 Wr ops rest (match dst with | some d => (d, v) :: fr | none => fr) (H'.filter Ent.wr ++ K) Z) :
  sx P N w0 Wr ops (⟨dst, .call { callee := .value x, args := xs.toArray, argTypes := ts }, ty, pos, after, none⟩ :: rest) fr H Z :=
 vC1 (R := fun v H2 => ∃ H', R v H' ∧ H2 = H'.filter Ent.wr ++ K) hc.1 hf hx hN (fun w hw => by
  have hw' := hH _ _ _ hw
  have hpre : Sat w (wrs Hc) Hc w := by
   have hsub := hw'.sub (lS Hc K)
   exact ⟨Only.refl _ _, fun e he => ⟨(hsub.ents e he).1, fun h => .inl (mem_wrs.2 ⟨e, he, h, rfl⟩)⟩, hsub.sep⟩
  exact (hc.2 w hpre).mono fun e w' he => by
   obtain ⟨v, H', h1, h2, h3⟩ := he
   exact ⟨v, _, h1, ⟨H', h2, rfl⟩, hw'.callA (U := []) Ro.nil (by rw [lH]; exact h3)⟩) (fun v H2 hR => by obtain ⟨H', hR, rfl⟩ := hR; exact h v H' hR)
end
section
open Go.RowKit
set_option maxRecDepth 100000
def vG3 {σ : Type} (s : List UInt8) (to : UInt8) (one : σ → Nat → σ × Nat × Nat) : Nat → Nat → σ → Nat → σ × Nat × Nat
 | 0, _, x, i => (x, i, 0)
 | f + 1, n, x, i =>
  if n = 64 ∧ i < s.length then (x, i, 21)
  else if (one x i).2.2 ≠ 0 then one x i
  else if jG9 s (jD2 s (one x i).2.1) to = true then ((one x i).1, jD2 s (one x i).2.1 + 1, 0)
  else if jG9 s (jD2 s (one x i).2.1) 44 = true then vG3 s to one f (n + 1) (one x i).1 (jD2 s (jD2 s (one x i).2.1 + 1))
  else ((one x i).1, jD2 s (one x i).2.1, if jD2 s (one x i).2.1 = s.length then 3 else 4)
def vG2 {σ : Type} (s : List UInt8) (to : UInt8) (one : σ → Nat → σ × Nat × Nat) (x : σ) (i : Nat) : σ × Nat × Nat :=
 if jG9 s (jD2 s (i + 1)) to = true then (x, jD2 s (i + 1) + 1, 0) else vG3 s to one 65 0 x (jD2 s (i + 1))
theorem kF7 {s : List UInt8} {i : Nat} {c : UInt8} (h : jG9 s i c = true) : i < s.length := by
 have hc : s[i]? = some c := by simpa [jG9] using h
 exact (List.getElem?_eq_some_iff.1 hc).1
theorem vT8 {σ : Type} {s : List UInt8} {to : UInt8} {one : σ → Nat → σ × Nat × Nat} (h1 : ∀ x i, i ≤ s.length → (one x i).2.1 ≤ s.length) :
  ∀ (f n : Nat) (x : σ) (i : Nat), i ≤ s.length → (vG3 s to one f n x i).2.1 ≤ s.length
 | 0, _, _, _, h => h
 | f + 1, n, x, i, h => by
  have ho := h1 x i h
  have hb := (jJ6 ho).2
  rw [vG3]
  split
  ·exact h
  split
  ·exact ho
  split
  ·rename_i hs; exact kF7 hs
  split
  ·rename_i hs; exact vT8 h1 f (n + 1) _ _ (jJ6 (kF7 hs)).2
  ·exact hb
theorem vT7 {σ : Type} {s : List UInt8} {to : UInt8} {one : σ → Nat → σ × Nat × Nat} (h1 : ∀ x i, i ≤ s.length → (one x i).2.1 ≤ s.length) (x : σ) {i : Nat} (hi : i < s.length) : (vG2 s to one x i).2.1 ≤ s.length := by
 unfold vG2
 split
 ·rename_i hs; exact kF7 hs
 ·exact vT8 h1 _ _ _ _ (jJ6 hi).2
theorem vE1 (g : Nat) (s : List UInt8) (i deep : Nat) (a b : UInt8) (f : Value) (hd : 4 < deep) (hd2 : deep ≤ 100) :
  Fn Tryz.prog 160 [ptr g 0, iq (deep : Nat), .int .u8 (a.toNat : Int), .int .u8 (b.toNat : Int), f] [rdr g s i 0] fun v H' => v = .tuple #[] ∧ H' = [rdr g s i 20] := by
 refine Fn.enter (N := 70) Tryz.func160 rfl (by kernel_rfl) rfl (fun w0 => ?_)
 refine aS <| aR fun Z hZ => sM rfl rfl <| jC4 ?_
 refine sN (hZ _ _ <| f5K 0 2 3 4 12 rfl <| aC0 (fun h => ?_) (fun h => ?_))
 ·refine aR (fun Z hZ => sM rfl rfl <| sM rfl rfl <| jA0 ?_)
  refine sFA0 jC5 ?_
  first | refine sL0 0 tyA3 tyS3 ?_
  refine jA5 [rdr g s i 0] [] (jJ2 g s i i 20) rfl (HLe.refl _) rfl ?_
  rintro v H' ⟨rfl, rfl⟩
  refine sN (hZ _ _ <| aF [] (Kn.nil) <| aE ?_)
  repeat refine nTR ?_
  exact jK3 _ rfl (HLe.refl _) ⟨rfl, rfl⟩
 ·simp at h; omega
theorem vE0 {σ τ : Type} (g : Nat) (s : List UInt8) (frm to : UInt8) (hs : s.length ≤ 100000) (T : Heap) (hro : Ro T) (F : FuncId) (caps : List Value) (K : τ → Heap) (ab : τ → σ) (Iv : Nat → τ → Prop) (one : σ → Nat → σ × Nat × Nat)
  (hK : ∀ t, Wrs (K t)) (h1 : ∀ x i, i ≤ s.length → (one x i).2.1 ≤ s.length) (h2 : ∀ x, (one x s.length).2.2 ≠ 0)
  (hone : ∀ n t i, n ≤ 64 → i ≤ s.length → Iv n t → Fn Tryz.prog F ([iq (n : Nat)] ++ caps) (rdr g s i 0 :: (K t ++ T)) fun v H' => v = .tuple #[] ∧ ∃ t', Iv (n + 1) t' ∧ ab t' = (one (ab t) i).1 ∧ H' = rdr g s (one (ab t) i).2.1 (one (ab t) i).2.2 :: K t')
  (t0 : τ) (h0 : Iv 0 t0) (i0 deep : Nat) (hd : deep ≤ 4) (hi0 : i0 < s.length) (ha : jG9 s i0 frm = true) :
  Fn Tryz.prog 160 [ptr g 0, iq (deep : Nat), .int .u8 (frm.toNat : Int), .int .u8 (to.toNat : Int), .func (.func F) #[] caps.toArray] (rdr g s i0 0 :: (K t0 ++ T)) fun v H' => v = .tuple #[] ∧ ∃ t', ab t' = (vG2 s to one (ab t0) i0).1 ∧ H' = rdr g s (vG2 s to one (ab t0) i0).2.1 (vG2 s to one (ab t0) i0).2.2 :: K t' := by
 have q1 := kJ9 g s i0 0 frm (by omega) (by omega)
 rw [ha, if_pos rfl] at q1
 have hbl := (jJ6 (s := s) (i := i0 + 1) hi0).2
 obtain ⟨b, hb⟩ := xZ9 (jD2 s (i0 + 1))
 have hQ : vG2 s to one (ab t0) i0 = if jG9 s b to = true then (ab t0, b + 1, 0) else vG3 s to one 65 0 (ab t0) b := by rw [← hb]; rfl
 rw [hb] at q1 hbl
 have q2 := vK4 g s b 0 to hbl (by omega)
 rw [hQ]
 clear hQ
 refine Fn.enter (N := 70) Tryz.func160 rfl (by kernel_rfl) rfl (fun w0 => ?_)
 refine aS <| aR fun Z hZ => sM rfl rfl <| jC4 ?_
 refine sN (hZ _ _ <| f5K 0 2 3 4 12 rfl <| aC0 (fun h => ?_) (fun h => ?_))
 ·simp at h; omega
 refine aK <| nN <| aR fun Z hZ => sM rfl rfl <| sM rfl rfl <| jA5 [rdr g s i0 0] (K t0 ++ T) q1 rfl (HLe.refl _) rfl ?_
 rintro v H' ⟨rfl, rfl⟩
 refine sN (hZ _ _ <| f3K 0 3 4 rfl <| jA6 (rdr g s b 0 :: (K t0 ++ T)) (HLe.refl _) ?_)
 by_cases hsb : jG9 s b to = true
 ·rw [hsb, if_pos rfl] at q2
  rw [if_pos hsb]
  refine aS <| aR fun Z hZ => sM rfl rfl <| sM rfl rfl <| jA5 [rdr g s b 0] (K t0 ++ T) q2 rfl (HLe.refl _) rfl ?_
  rintro v H' ⟨rfl, rfl⟩
  refine sN (hZ _ _ <| f4K 0 3 4 24 rfl <| aC0 (fun h => ?_) (fun h => ?_))
  ·refine aE ?_
   repeat refine nTR ?_
   exact jK3 (rdr g s (b + 1) 0 :: K t0) rfl (HLe.sub ((lS (K t0) T).cons_cons _)) ⟨rfl, t0, rfl, rfl⟩
  ·cases h
 have hsb' : jG9 s b to = false := by simpa using hsb
 rw [hsb', if_neg (by decide)] at q2
 rw [if_neg hsb]
 refine aS <| aR fun Z hZ => sM rfl rfl <| sM rfl rfl <| jA5 [rdr g s b 0] (K t0 ++ T) q2 rfl (HLe.refl _) rfl ?_
 rintro v H' ⟨rfl, rfl⟩
 refine sN (hZ _ _ <| f4K 0 3 4 24 rfl <| aC0 (fun h => ?_) (fun h => ?_))
 ·cases h
 refine aK <| nN <| jA6 (rdr g s b 0 :: (K t0 ++ T)) (HLe.refl _) <| aA rfl rfl <| f4K 0 3 4 10 rfl ?_
 obtain ⟨R, hR⟩ := xZ9 (vG3 s to one 65 0 (ab t0) b)
 rw [hR]
 clear q1 q2
 refine aB ?_
 refine jB9 (ι := τ × Nat × Nat × Nat × Nat) (fun j => [(0, ptr g 0), (3, .int .u8 (to.toNat : Int)), (4, .func (.func F) #[] caps.toArray), (10, iq (j.2.2.2.1 : Nat))]) (fun j => rdr g s j.2.1 j.2.2.1 :: (K j.1 ++ T))
  (fun j => j.2.1 ≤ s.length ∧ j.2.2.2.1 ≤ 65 ∧ ((j.2.2.1 = 0 ∧ j.2.2.2.2 + j.2.2.2.1 = 65 ∧ j.2.2.2.1 ≤ 64 ∧ Iv j.2.2.2.1 j.1 ∧ vG3 s to one j.2.2.2.2 j.2.2.2.1 (ab j.1) j.2.1 = R) ∨ (j.2.2.1 ≠ 0 ∧ j.2.2.2.2 = 0 ∧ (ab j.1, j.2.1, j.2.2.1) = R))) (fun j => j.2.2.2.2) (t0, b, 0, 0, 65)
  ⟨hbl, by dsimp only; omega, .inl ⟨rfl, rfl, by dsimp only; omega, h0, hR⟩⟩ (kR rfl) (HLe.refl _) ?_
 rintro ⟨t, i, e, n, f⟩ ⟨hi, hn, hcase⟩
 simp only at hi hn hcase
 refine jA6 (rdr g s i e :: (K t ++ T)) (HLe.refl _) <| aS <| aR fun Z hZ => sM rfl rfl <| jA0 ?_
 refine sFA0 jH9 ?_
 first | refine sL0 0 tyA33 tyS33 ?_
 refine jB0 ?_
 refine sN (hZ _ _ <| f5K 0 3 4 10 29 rfl <| aC0 (fun h => ?_) (fun h => ?_))
 ·have he : e = 0 := by simpa using h
  subst he
  rcases hcase with ⟨_, hf, hn4, hiv, hq⟩ | ⟨h', _⟩
  case inr => exact absurd rfl h'
  obtain ⟨f', rfl⟩ : ∃ f', f = f' + 1 := ⟨f - 1, by omega⟩
  rw [vG3] at hq
  refine aK <| nN <| aS (aB ?_)
  by_cases hm : n = 64 ∧ i < s.length
  ·rw [if_pos hm] at hq
   rw [← hq]
   refine aS <| jE8 [(0, ptr g 0), (3, .int .u8 (to.toNat : Int)), (4, .func (.func F) #[] caps.toArray), (10, iq (n : Nat)), (45, .bool true)] (rdr g s i 0 :: (K t ++ T)) mixed (by kernel_rfl) (fun Z hZ => ?_) ?_
   ·refine qM rfl rfl <| jM6 rfl rfl rfl <| qM rfl rfl <| jL7 34 rfl true (by first | (simp; done) | (simp; omega)) ?_
    refine jA4 ?_
    refine qM rfl rfl <| jA4 ?_
    refine jA9 rfl rfl <| jA4 ?_
    refine qFA0 jC5 ?_
    refine jA4 ?_
    first | refine jB6 0 tyA3 tyS3 ?_
    refine jA4 ?_
    refine qM rfl rfl <| jA4 ?_
    refine jA9 rfl rfl <| jA4 ?_
    refine qFA0 jG5 ?_
    refine jA4 ?_
    first | refine jB6 0 tyA9 tyS9 ?_
    refine jA4 ?_
    refine jQ1 Tryz.underlying9 rfl rfl <| jA4 ?_
    refine kQ6 rfl rfl rfl <| jE3 rfl rfl rfl <| jF0 (hZ _ _ ?_ ?_)
    ·exact Kn.cons rfl (Kn.cons rfl (Kn.cons rfl (Kn.cons rfl (Kn.cons (congrArg some (congrArg Value.bool (by simp; omega))) Kn.nil))))
    ·exact HLe.refl _
   refine aC0 (fun h3 => ?_) (fun h3 => ?_)
   ·refine aR (fun Z hZ => sM rfl rfl <| sM rfl rfl <| jA0 ?_)
    refine sFA0 jC5 ?_
    first | refine sL0 0 tyA3 tyS3 ?_
    refine jA5 [rdr g s i 0] (K t ++ T) (jJ2 g s i i 21) rfl (HLe.refl _) rfl ?_
    rintro v H' ⟨rfl, rfl⟩
    refine sN (hZ _ _ <| aF [] (Kn.nil) <| aE ?_)
    repeat (with_reducible (first | refine nTR ?_ | refine nBR ?_))
    exact jK3 (rdr g s i 21 :: K t) rfl (HLe.sub ((lS (K t) T).cons_cons _)) ⟨rfl, t, rfl, rfl⟩
   ·cases h3
  rw [if_neg hm] at hq
  refine jJ7 (ι := Unit) (fun _ => [(0, ptr g 0), (3, .int .u8 (to.toNat : Int)), (4, .func (.func F) #[] caps.toArray), (10, iq (n : Nat))]) (fun _ => rdr g s i 0 :: (K t ++ T)) (fun _ => True) ?_ ?_
  ·by_cases h64 : n = 64
   ·subst h64
    refine jE8 [(0, ptr g 0), (3, .int .u8 (to.toNat : Int)), (4, .func (.func F) #[] caps.toArray), (10, iq (64 : Nat)), (45, .bool false)] (rdr g s i 0 :: (K t ++ T)) mixed (by kernel_rfl) (fun Z hZ => ?_) ?_
    ·refine qM rfl rfl <| jM6 rfl rfl rfl <| qM rfl rfl <| jL7 34 rfl true (by first | rfl | (simp; done) | (simp; omega)) ?_
     refine jA4 ?_
     refine qM rfl rfl <| jA4 ?_
     refine jA9 rfl rfl <| jA4 ?_
     refine qFA0 jC5 ?_
     refine jA4 ?_
     first | refine jB6 0 tyA3 tyS3 ?_
     refine jA4 ?_
     refine qM rfl rfl <| jA4 ?_
     refine jA9 rfl rfl <| jA4 ?_
     refine qFA0 jG5 ?_
     refine jA4 ?_
     first | refine jB6 0 tyA9 tyS9 ?_
     refine jA4 ?_
     refine jQ1 Tryz.underlying9 rfl rfl <| jA4 ?_
     refine kQ6 rfl rfl rfl <| jE3 rfl rfl rfl <| jF0 (hZ _ _ ?_ ?_)
     ·exact Kn.cons rfl (Kn.cons rfl (Kn.cons rfl (Kn.cons rfl (Kn.cons (congrArg some (congrArg Value.bool (by simp; omega))) Kn.nil))))
     ·exact HLe.refl _
    refine aC0 (fun h3 => ?_) (fun h3 => ?_)
    ·cases h3
    refine aK <| jE4 () trivial (kR rfl) (HLe.refl _)
   ·refine jE8 [(0, ptr g 0), (3, .int .u8 (to.toNat : Int)), (4, .func (.func F) #[] caps.toArray), (10, iq (n : Nat)), (45, .bool false)] (rdr g s i 0 :: (K t ++ T)) mixed (by kernel_rfl) (fun Z hZ => ?_) ?_
    ·refine qM rfl rfl <| jM6 rfl rfl rfl <| qM rfl rfl <| jL7 34 rfl false (by simp; omega) ?_
     refine qO0 ?_
     refine qO0 ?_
     refine qO0 ?_
     refine qO0 ?_
     refine qO0 ?_
     refine qO0 ?_
     refine qO0 ?_
     refine qO0 ?_
     refine qO0 ?_
     refine qO0 ?_
     refine jE3 rfl rfl rfl <| jF0 (hZ _ _ ?_ ?_)
     ·exact kR rfl
     ·exact HLe.refl _
    refine aC0 (fun h3 => ?_) (fun h3 => ?_)
    ·cases h3
    refine aK <| jE4 () trivial (kR rfl) (HLe.refl _)
  rintro ⟨⟩ -
  have ho := hone n t i hn4 hi hiv
  have ho1 := h1 (ab t) i hi
  have ho2 : i = s.length → (one (ab t) i).2.2 ≠ 0 := fun e => by rw [e]; exact h2 _
  obtain ⟨x, j, e, hr⟩ : ∃ x j e, one (ab t) i = (x, j, e) := ⟨_, _, _, rfl⟩
  rw [hr] at ho ho1 ho2 hq
  simp only at ho ho1 ho2 hq
  refine aR fun Z hZ => sM rfl rfl <| sM rfl rfl <| wC7 (vs := [iq (n : Nat)]) (caps := caps) (rdr g s i 0 :: (K t ++ T)) T ho rfl rfl (HLe.dup ((lP _ _).cons _) hro) rfl ?_
  rintro v H' ⟨rfl, t', hiv', ht', rfl⟩
  rw [show (rdr g s j e :: K t').filter Ent.wr = rdr g s j e :: K t' from (Wrs.cons rfl (hK t')).filter]
  refine sN (hZ _ _ <| f4K 0 3 4 10 rfl <| jA6 (rdr g s j e :: (K t' ++ T)) (HLe.refl _) <| aS <| aR fun Z hZ => sM rfl rfl <| jA0 ?_)
  refine sFA0 jH9 ?_
  first | refine sL0 0 tyA33 tyS33 ?_
  refine jC7 ?_
  refine sN (hZ _ _ <| f5K 0 3 4 10 59 rfl <| aC0 (fun h4 => ?_) (fun h4 => ?_))
  ·have h4' : e ≠ 0 := by simpa using h4
   rw [if_pos h4'] at hq
   rw [← hq]
   refine aE ?_
   repeat (with_reducible (first | refine nTR ?_ | refine nBR ?_))
   exact jK3 (rdr g s j e :: K t') rfl (HLe.sub ((lS (K t') T).cons_cons _)) ⟨rfl, t', ht', rfl⟩
  have h4' : e = 0 := by simpa using h4
  subst h4'
  rw [if_neg (by simp)] at hq
  have hn64 : n < 64 := by
   rcases xP n 64 with h' | h'
   ·exact h'
   ·exact absurd rfl (ho2 (by omega))
  refine aK <| nN ?_
  have hbj := jJ6 ho1
  obtain ⟨c, hc⟩ := xZ9 (jD2 s j)
  have q3 := jO4 g s j 0 ho1 (by omega)
  rw [hc] at q3 hbj hq
  have q4 := vK4 g s c 0 to hbj.2 (by omega)
  have q5 := kJ9 g s c 0 44 hbj.2 (by omega)
  refine aR fun Z hZ => sM rfl rfl <| jA5 [rdr g s j 0] (K t' ++ T) q3 rfl (HLe.refl _) rfl ?_
  rintro v H' ⟨rfl, rfl⟩
  refine sN (hZ _ _ <| f4K 0 3 4 10 rfl <| jA6 (rdr g s c 0 :: (K t' ++ T)) (HLe.refl _) ?_)
  by_cases hs1 : jG9 s c to = true
  ·rw [hs1, if_pos rfl] at q4
   rw [if_pos hs1] at hq
   rw [← hq]
   refine aS <| aR fun Z hZ => sM rfl rfl <| sM rfl rfl <| jA5 [rdr g s c 0] (K t' ++ T) q4 rfl (HLe.refl _) rfl ?_
   rintro v H' ⟨rfl, rfl⟩
   refine sN (hZ _ _ <| f5K 0 3 4 10 64 rfl <| aC0 (fun h5 => ?_) (fun h5 => ?_))
   ·refine aE ?_
    repeat (with_reducible (first | refine nTR ?_ | refine nBR ?_))
    exact jK3 (rdr g s (c + 1) 0 :: K t') rfl (HLe.sub ((lS (K t') T).cons_cons _)) ⟨rfl, t', ht', rfl⟩
   ·cases h5
  have hs1' : jG9 s c to = false := by simpa using hs1
  rw [hs1', if_neg (by decide)] at q4
  rw [if_neg hs1] at hq
  refine aS <| aR fun Z hZ => sM rfl rfl <| sM rfl rfl <| jA5 [rdr g s c 0] (K t' ++ T) q4 rfl (HLe.refl _) rfl ?_
  rintro v H' ⟨rfl, rfl⟩
  refine sN (hZ _ _ <| f5K 0 3 4 10 64 rfl <| aC0 (fun h5 => ?_) (fun h5 => ?_))
  ·cases h5
  refine aK <| nN <| jA6 (rdr g s c 0 :: (K t' ++ T)) (HLe.refl _) ?_
  by_cases hs2 : jG9 s c 44 = true
  ·rw [hs2, if_pos rfl] at q5
   rw [if_pos hs2] at hq
   have hcl := kF7 hs2
   have hbl2 := (jJ6 (s := s) (i := c + 1) hcl).2
   refine aR fun Z hZ => sM rfl rfl <| jA5 [rdr g s c 0] (K t' ++ T) q5 rfl (HLe.refl _) rfl ?_
   rintro v H' ⟨rfl, rfl⟩
   refine jI8 rfl rfl <| sN (hZ _ _ <| f5K 0 3 4 10 67 rfl <| aC0 (fun h6 => ?_) (fun h6 => ?_))
   ·cases h6
   refine aK ?_
   repeat refine nBN ?_
   refine nN ?_
   refine aG (fun Z hZ => ?_)
   refine sM rfl rfl ?_
   refine jC2 rfl rfl ((n + 1 : Nat) : Int) (by rw [lT _ (by omega)]; omega) rfl ?_
   refine sAN hZ rfl rfl <| nF [(0, _), (3, _), (4, _), (10, _)] (kR rfl) <| jB8 (t', jD2 s (c + 1), 0, n + 1, f') ⟨hbl2, by dsimp only; omega, .inl ⟨rfl, by dsimp only; omega, by dsimp only; omega, hiv', by rw [← ht'] at hq; exact hq⟩⟩ (Nat.lt_succ_self _) (kR rfl) (HLe.refl _)
  have hs2' : jG9 s c 44 = false := by simpa using hs2
  rw [hs2', if_neg (by decide)] at q5
  rw [if_neg hs2] at hq
  refine aR fun Z hZ => sM rfl rfl <| jA5 [rdr g s c 0] (K t' ++ T) q5 rfl (HLe.refl _) rfl ?_
  rintro v H' ⟨rfl, rfl⟩
  refine jI8 rfl rfl <| sN (hZ _ _ <| f5K 0 3 4 10 67 rfl <| aC0 (fun h6 => ?_) (fun h6 => ?_))
  ·refine jA6 (rdr g s c 0 :: (K t' ++ T)) (HLe.refl _) <| aG (fun Z hZ => sM rfl rfl <| jA5 [rdr g s c 0] (K t' ++ T) (kC2 g s c) rfl (HLe.refl _) rfl ?_)
   rintro v H' ⟨rfl, rfl⟩
   refine sN (hZ _ _ <| nF [(0, _), (3, _), (4, _), (10, _)] (kR rfl) ?_)
   repeat refine nBN ?_
   refine nN ?_
   refine aG (fun Z hZ => ?_)
   refine sM rfl rfl ?_
   refine jC2 rfl rfl ((n + 1 : Nat) : Int) (by rw [lT _ (by omega)]; omega) rfl ?_
   refine sAN hZ rfl rfl <| nF [(0, _), (3, _), (4, _), (10, _)] (kR rfl) <| jB8 (t', c, (if c = s.length then 3 else 4), n + 1, 0) ⟨hbj.2, by dsimp only; omega, .inr ⟨by dsimp only; split <;> decide, rfl, by rw [ht']; exact hq⟩⟩ (Nat.succ_pos _) (kR rfl) (HLe.refl _)
  ·cases h6
 ·have he : e ≠ 0 := by simpa using h
  rcases hcase with ⟨h', _⟩ | ⟨_, _, hq⟩
  ·exact absurd h' he
  rw [← hq]
  refine jB1 ?_
  repeat refine nTE ?_
  refine nBE <| jH5 (rdr g s i e :: K t) rfl (HLe.sub ((lS (K t) T).cons_cons _)) ⟨rfl, t, rfl, rfl⟩
end
end Go.Proofs.YtfeopecgedbfpaaGreatDoor
