/- Walks and plain laws for this claim (texts Ghd1, Ghd2, Ghd3, LayJoin, Gly1, Nt3, Nt4, Bd1, Bd2, joined). Each theorem states its own conditions. -/
import Derived.Test.YtfeopecgedbfpaaGreatDoorJ08
import Derived.Shelf.Strings.OnBuilder
import Derived.Shelf.Strings.Builder1
import Derived.Lib.UnsafeStr
set_option linter.all false
namespace Go.Proofs.YtfeopecgedbfpaaGreatDoor
namespace Y
open Go.RowKit
theorem kS4 (f l : Nat) : Fn Tryz.prog 80 [.agg #[.int .u64 f, .int .u64 l]] [] fun v _ => v = .int .u64 (IntKind.u64.wrap (f + l)) := by
 refine Fn.enter (N := 8) Tryz.func80 rfl (by kernel_rfl) rfl (fun w0 => ?_)
 refine aR (fun Z hZ => jB5 (fun g1 => ?_))
 refine sAN hZ rfl rfl <| f1K 1 rfl <| aR (fun Z hZ => sFA0 jZ1 ?_)
 first | refine sL0 0 tyA25 tyS25 ?_
 refine sFA0 kU9 ?_
 first | refine sL0 0 tyA25 tyS25 ?_
 refine jZ5 _ rfl ?_
 refine sAN hZ rfl rfl <| f1K 2 rfl <| aE <| nR10 rfl
def kD7 (f l : Nat) : Bool := decide (f ≤ 1099511627776) && decide (l ≤ 1099511627776) && decide (IntKind.u64.wrap (f + l) ≤ 1099511627776)
theorem yB1 (f l : Nat) : Fn Tryz.prog 129 [.agg #[.int .u64 f, .int .u64 l]] [] fun v _ => v = .bool (kD7 f l) := by
 refine Fn.enter (N := 16) Tryz.func129 rfl (by kernel_rfl) rfl (fun w0 => ?_)
 refine aR (fun Z hZ => jB5 (fun g1 => ?_))
 refine sAN hZ rfl rfl <| f1K 1 rfl <| jA3 [(2, .bool (kD7 f l))] [] (fun Z hZ => ?_) ?_
 ·refine sFA0 jZ1 ?_
  first | refine sL0 0 tyA25 tyS25 ?_
  refine jN4 rfl rfl rfl <| sM rfl rfl <| jD0 6 rfl (fun hb3 => ?_) (fun hb3 => ?_)
  ·refine sOn0 ?_
   refine sFA0 kU9 ?_
   refine sOn0 ?_
   first | refine sL0 0 tyA25 tyS25 ?_
   refine sOn0 ?_
   refine jN4 rfl rfl rfl <| sP rfl rfl rfl <| sM rfl rfl <| jD0 11 rfl (fun hb8 => ?_) (fun hb8 => ?_)
   ·refine sOn0 ?_
    first | refine sLA0 0 tyA66 tyS66 ?_
    refine sOn0 ?_
    refine sCP0 (kS4 _ _) ?_
    refine sOn0 ?_
    refine jN4 rfl rfl rfl <| sP rfl rfl rfl <| sA rfl rfl <| sN (hZ _ _ ?_ ?_)
    ·exact Kn.cons (congrArg some (congrArg Value.bool (by simp [kD7] at *; omega))) Kn.nil
    ·exact HLe.pick [] (by simp) rfl
   ·refine sO0 ?_
    refine sO0 ?_
    refine sO0 ?_
    refine sP rfl rfl rfl <| sA rfl rfl <| sN (hZ _ _ ?_ ?_)
    ·exact Kn.cons (congrArg some (congrArg Value.bool (by simp [kD7] at *; omega))) Kn.nil
    ·exact HLe.pick [] (by simp) rfl
  ·refine sO0 ?_
   refine sO0 ?_
   refine sO0 ?_
   refine sP rfl rfl rfl <| sM rfl rfl <| sO0 ?_
   refine sO0 ?_
   refine sO0 ?_
   refine sP rfl rfl rfl <| sA rfl rfl <| sN (hZ _ _ ?_ ?_)
   ·exact Kn.cons (congrArg some (congrArg Value.bool (by simp [kD7] at *; omega))) Kn.nil
   ·exact HLe.pick [] (by simp) rfl
 refine aE <| nR10 rfl
def ints (l : List Int) : List Value := l.map (Value.int .i64)
theorem wK4 {l : List Int} {k : Nat} (h : k < l.length) : (ints l)[k]? = some (.int .i64 l[k]) := by simp [ints, h]
theorem kG3 (lo hi : Int) (g : Nat) (l : List Int) (hl : l.length ≤ 1000) : Fn Tryz.prog 130 [.int .i64 lo, .int .i64 hi, .slice (some ⟨g, 0, none⟩) l.length l.length] [.own g 3 (ints l)]
  fun v H' => v = .bool (l.all fun n => decide (lo ≤ n) && decide (n ≤ hi)) ∧ H' = [.own g 3 (ints l)] := by
 refine Fn.enter (N := 24) Tryz.func130 rfl (by kernel_rfl) rfl (fun w0 => ?_)
 refine aA rfl rfl <| f3K 0 1 2 rfl <| aS <| aR fun Z hZ => sM rfl rfl <| jE2 Tryz.underlying247 rfl rfl <| sMN hZ rfl rfl <| f5K 0 1 9 10 11 rfl <| aB ?_
 refine jB9 (fun k : Nat => [(0, .int .i64 lo), (1, .int .i64 hi), (9, .slice (some ⟨g, 0, none⟩) l.length l.length), (10, .int .i64 l.length), (11, .int .i64 (k : Int))]) (fun _ => [.own g 3 (ints l)])
  (fun k => k ≤ l.length ∧ (l.take k).all (fun n => decide (lo ≤ n) && decide (n ≤ hi)) = true) (fun k => l.length - k) 0 ⟨by omega, by simp⟩ (kR rfl) (HLe.refl _) ?_
 rintro k ⟨hk, hall⟩
 refine aR (fun Z hZ => jB2 ?_)
 refine sN (hZ _ _ <| f6K 0 1 9 10 11 12 rfl <| aS (aC0 (fun h => ?_) (fun h => ?_)))
 ·have hlt : k < l.length := by simpa using h
  refine aK <| nN <| aS (aB <| aR (fun Z hZ => jB3 (k * 1) Tryz.underlying247 tyS3 rfl rfl (by omega) (by simp) rfl ?_))
  refine sL 0 rfl rfl tyA3 tyS3 (by rw [zE]; exact wK4 hlt) rfl ?_
  refine sAN hZ rfl rfl <| f6K 0 1 8 9 10 11 rfl <| jA3 [(0, .int .i64 lo), (1, .int .i64 hi), (9, .slice (some ⟨g, 0, none⟩) l.length l.length), (10, .int .i64 l.length), (11, .int .i64 (k : Int)), (22, .bool (!(decide (lo ≤ l[k]) && decide (l[k] ≤ hi))))] [.own g 3 (ints l)] (fun Z hZ => ?_) ?_
  ·refine sM rfl rfl <| sM rfl rfl <| jB2 ?_
   refine sM rfl rfl <| jD0 18 rfl (fun hb3 => ?_) (fun hb3 => ?_)
   ·refine sO0 ?_
    refine sO0 ?_
    refine sO0 ?_
    refine sP rfl rfl rfl <| sN (hZ _ _ ?_ ?_)
    ·exact Kn.cons rfl (Kn.cons rfl (Kn.cons rfl (Kn.cons rfl (Kn.cons rfl (Kn.cons (congrArg some (congrArg Value.bool (by simp at hb3; rw [lR]; simp; omega))) Kn.nil)))))
    ·exact HLe.refl _
   ·refine sOn0 ?_
    refine sM rfl rfl <| sOn0 ?_
    refine sM rfl rfl <| sOn0 ?_
    refine jC4 ?_
    refine sP rfl rfl rfl <| sN (hZ _ _ ?_ ?_)
    ·exact Kn.cons rfl (Kn.cons rfl (Kn.cons rfl (Kn.cons rfl (Kn.cons rfl (Kn.cons (congrArg some (congrArg Value.bool (by simp at hb3; rw [lR]; simp; omega))) Kn.nil)))))
    ·exact HLe.refl _
  refine aC0 (fun h22 => ?_) (fun h22 => ?_)
  ·refine aR (fun Z hZ => sAN hZ rfl rfl <| f1K 6 rfl <| aE ?_)
   repeat (with_reducible (first | refine nTR ?_ | refine nBR ?_))
   refine nR10 ⟨congrArg Value.bool ?_, rfl⟩
   symm
   rw [List.all_eq_false]
   exact ⟨l[k], uA _, by simp at h22 ⊢; omega⟩
  ·refine aK ?_
   repeat refine nBN ?_
   refine nN ?_
   refine aG (fun Z hZ => ?_)
   refine jC2 rfl rfl ((k + 1 : Nat) : Int) (by rw [lT _ (by omega)]; omega) rfl ?_
   refine sMN hZ rfl rfl <| nF [(0, _), (1, _), (9, _), (10, _), (11, _)] (kR rfl) <| jB8 (k + 1) ⟨by omega, ?_⟩ (by omega) (kR rfl) (HLe.refl _)
   rw [qB hlt, List.all_append, hall]
   simp at h22 ⊢
   omega
 ·refine jB1 ?_
  repeat refine nTE ?_
  refine nBE <| nN ?_
  have hke : k = l.length := by simp at h; omega
  subst hke
  refine aA rfl rfl <| f1K 6 rfl <| aE <| nR10 ⟨congrArg Value.bool ?_, rfl⟩
  rw [x6] at hall
  exact hall.symm
structure Hdr where
 (r0 r1 m0 m1 l0 l1 d0 d1 ad en co : Nat)
 cl : Bool
 (ic oc ki : Nat)
 (z0 z1 lo0 la0 lo1 la1 zo lon lat : Int)
abbrev Hdr.cells (h : Hdr) : List Value :=
 [uq h.r0, uq h.r1, uq h.m0, uq h.m1, uq h.l0, uq h.l1, uq h.d0, uq h.d1, uq h.ad, uq h.en, uq h.co, .bool h.cl, ub h.ic, ub h.oc, ub h.ki, iq h.z0, iq h.z1, iq h.lo0, iq h.la0, iq h.lo1, iq h.la1, iq h.zo, iq h.lon, iq h.lat]
abbrev Hdr.val (h : Hdr) : Value := .agg h.cells.toArray
abbrev Hdr.secs (h : Hdr) : List Value := [uq h.r0, uq h.r1, uq h.m0, uq h.m1, uq h.l0, uq h.l1, uq h.d0, uq h.d1]
theorem jV9 (h : Hdr) : Fn Tryz.prog 109 [h.val] [] fun v _ => v = .agg h.secs.toArray := by
 refine Fn.enter (N := 12) Tryz.func109 rfl (by kernel_rfl) rfl (fun w0 => ?_)
 refine aR (fun Z hZ => jB5 (fun g1 => ?_))
 refine sAl tyZ133 rfl (fun g2 => sN (hZ _ _ <| f2K 1 2 rfl <| aR (fun Z hZ => sFA0 jZ0 ?_)))
 refine sLA0 1 tyA66 tyS66 ?_
 refine sFA0 kF3 ?_
 refine sLA0 1 tyA66 tyS66 ?_
 refine sFA0 kF2 ?_
 refine sLA0 1 tyA66 tyS66 ?_
 refine sFA0 kF1 ?_
 refine sLA0 1 tyA66 tyS66 ?_
 refine jU8 tyZ133 Tryz.underlying133 tyS66 rfl rfl (by simp only [qS, Nat.reduceAdd, Value.cells, wrV, Nat.reduceMul, xK]; rfl) rfl ?_
 refine sS0 0 tyS133 ?_
 refine sN (hZ _ _ <| aE <| nR1 rfl (ResOk.cell 0 rfl rfl tyA133 tyS133 rfl) rfl)
def wi (lo hi : Int) (l : List Int) : Bool := l.all fun n => decide (lo ≤ n) && decide (n ≤ hi)
def vM1 (h : Hdr) : Bool := decide (4 < h.ic) || decide (4 < h.oc) || decide (5 < h.ki)
def jU2 (lo hi a b c : Int) : Bool := !(wi lo hi [a, b, c]) || decide (b < a)
def kJ0 (h : Hdr) : Bool := kD7 h.r0 h.r1 && kD7 h.m0 h.m1 && kD7 h.l0 h.l1 && kD7 h.d0 h.d1
def jG0 (h : Hdr) : Int :=
 if kJ0 h = false then 8 else if vM1 h = true then 14 else if jU2 0 26 h.z0 h.z1 h.zo = true then 8
 else if jU2 (-1800000000) 1800000000 h.lo0 h.lo1 h.lon = true then 8 else if jU2 (-900000000) 900000000 h.la0 h.la1 h.lat = true then 8 else 0
def secL (h : Hdr) : List (Nat × Nat) := [(h.r0, h.r1), (h.m0, h.m1), (h.l0, h.l1), (h.d0, h.d1)]
theorem kO1 (h : Hdr) : Fn Tryz.prog 77 [h.val] [] fun v _ => v = .int .i64 (jG0 h) := by
 refine Fn.enter (N := 79) Tryz.func77 rfl (by kernel_rfl) rfl (fun w0 => ?_)
 refine aR (fun Z hZ => jB5 (fun g1 => ?_))
 refine sAN hZ rfl rfl <| f1K 1 rfl <| aS <| aR (fun Z hZ => ?_)
 first | refine sLA0 0 tyA68 tyS68 ?_
 refine sCP0 (jV9 h) ?_
 refine sMN hZ rfl rfl <| f3K 1 6 7 rfl <| aB ?_
 refine jB9 (fun k : Nat => [(1, ptr g1 0), (6, .agg h.secs.toArray), (7, .int .i64 (k : Int))]) (fun _ => [.own g1 68 h.cells])
  (fun k => k ≤ 4 ∧ ((secL h).take k).all (fun p => kD7 p.1 p.2) = true) (fun k => 4 - k) 0 ⟨by omega, by simp⟩ (kR rfl) (HLe.pick [0] (by simp) rfl) ?_
 rintro k ⟨hk, hall⟩
 refine aR (fun Z hZ => jB2 ?_)
 refine sN (hZ _ _ <| f4K 1 6 7 8 rfl <| aS (aC0 (fun h4 => ?_) (fun h4 => ?_)))
 ·have hlt : k < 4 := by simp at h4; omega
  refine aK <| nN ?_
  obtain ⟨p, hp, hrd⟩ : ∃ p : Nat × Nat, (secL h)[k]? = some p ∧ rdV true 2 h.secs (k * 2) = some (.agg #[uq p.1, uq p.2]) := by
   obtain rfl | rfl | rfl | rfl : k = 0 ∨ k = 1 ∨ k = 2 ∨ k = 3 := by omega
   all_goals exact ⟨_, rfl, rfl⟩
  refine aS (aB <| aR (fun Z hZ => jQ0 Tryz.underlying133 tyA66 tyS66 rfl rfl (by omega) hrd rfl ?_))
  refine sAl tyZ66 rfl (fun g2 => sS0 0 tyS66 ?_)
  refine sN (hZ _ _ <| f4K 1 4 6 7 rfl <| aR (fun Z hZ => sLA0 0 tyA66 tyS66 ?_))
  refine sCP0 (yB1 _ _) ?_
  refine jI8 rfl rfl <| sN (hZ _ _ <| f4K 1 6 7 12 rfl <| aC0 (fun h12 => ?_) (fun h12 => ?_))
  ·refine aR (fun Z hZ => sAN hZ rfl rfl <| f1K 2 rfl <| aE ?_)
   repeat (with_reducible (first | refine nTR ?_ | refine nBR ?_))
   refine nR10 (congrArg (Value.int .i64) ?_)
   have : kJ0 h = false := by
    have hm : p ∈ secL h := xM hp
    have h13 : kD7 p.1 p.2 = false := by simpa using h12
    simp only [secL, lY, List.not_mem_nil, or_false] at hm
    unfold kJ0
    rcases hm with rfl | rfl | rfl | rfl <;> simp_all
   simp [jG0, this]
  ·refine aK ?_
   repeat refine nBN ?_
   refine nN ?_
   refine aG (fun Z hZ => ?_)
   refine jC2 rfl rfl ((k + 1 : Nat) : Int) (by rw [lT _ (by omega)]; omega) rfl ?_
   refine sMN hZ rfl rfl <| nF [(1, _), (6, _), (7, _)] (kR rfl) <| jB8 (k + 1) ⟨by omega, ?_⟩ (by omega) (kR rfl) (HLe.pick [1] (by simp) rfl)
   obtain ⟨hk', hp'⟩ := List.getElem?_eq_some_iff.1 hp
   rw [qB hk', List.all_append, hall, hp']
   simpa using h12
 ·refine jB1 ?_
  repeat refine nTE ?_
  refine nBE <| nN ?_
  have hke : k = 4 := by simp at h4; omega
  subst hke
  have hs : kJ0 h = true := by simpa [secL, kJ0, Bool.and_assoc] using hall
  refine aS (aB <| jA3 [(1, ptr g1 0), (14, .bool (vM1 h))] [.own g1 68 h.cells] (fun Z hZ => ?_) ?_)
  ·refine sFA0 kU5 ?_
   first | refine sL0 0 tyA5 tyS5 ?_
   refine jC4 ?_
   refine sM rfl rfl <| jD0 18 rfl (fun hb3 => ?_) (fun hb3 => ?_)
   ·refine sO0 ?_
    refine sO0 ?_
    refine sO0 ?_
    refine sP rfl rfl rfl <| sM rfl rfl <| sO0 ?_
    refine sO0 ?_
    refine sO0 ?_
    refine sP rfl rfl rfl <| sA rfl rfl <| sN (hZ _ _ ?_ ?_)
    ·exact Kn.cons rfl (Kn.cons (congrArg some (congrArg Value.bool (by rw [lR]; simp [vM1] at *; omega))) Kn.nil)
    ·exact HLe.refl _
   ·refine sOn0 ?_
    refine sFA0 kU4 ?_
    refine sOn0 ?_
    first | refine sL0 0 tyA5 tyS5 ?_
    refine sOn0 ?_
    refine jC4 ?_
    refine sP rfl rfl rfl <| sM rfl rfl <| jD0 23 rfl (fun hb8 => ?_) (fun hb8 => ?_)
    ·refine sO0 ?_
     refine sO0 ?_
     refine sO0 ?_
     refine sP rfl rfl rfl <| sA rfl rfl <| sN (hZ _ _ ?_ ?_)
     ·exact Kn.cons rfl (Kn.cons (congrArg some (congrArg Value.bool (by rw [lR]; simp [vM1] at *; omega))) Kn.nil)
     ·exact HLe.refl _
    ·refine sOn0 ?_
     refine sFA0 kU8 ?_
     refine sOn0 ?_
     first | refine sL0 0 tyA5 tyS5 ?_
     refine sOn0 ?_
     refine jC4 ?_
     refine sP rfl rfl rfl <| sA rfl rfl <| sN (hZ _ _ ?_ ?_)
     ·exact Kn.cons rfl (Kn.cons (congrArg some (congrArg Value.bool (by rw [lR]; simp [vM1] at *; omega))) Kn.nil)
     ·exact HLe.refl _
  refine aC0 (fun h14 => ?_) (fun h14 => ?_)
  ·refine aR (fun Z hZ => sAN hZ rfl rfl <| f1K 2 rfl <| aE ?_)
   repeat (with_reducible (first | refine nTR ?_ | refine nBR ?_))
   exact nR1 rfl rfl (by simp [jG0, hs, h14])
  refine jA3 [(1, ptr g1 0), (28, .bool (jU2 0 26 h.z0 h.z1 h.zo))] [.own g1 68 h.cells] (fun Z hZ => ?_) ?_
  ·refine sFA0 jS6 ?_
   first | refine sL0 0 tyA3 tyS3 ?_
   refine sFA0 jW8 ?_
   first | refine sL0 0 tyA3 tyS3 ?_
   refine sFA0 kJ4 ?_
   first | refine sL0 0 tyA3 tyS3 ?_
   refine sBS0 Tryz.underlying247 tyS3 tyZ3 (fun g3 => ?_)
   refine jD7 [0] [1] (kG3 0 26 _ [h.z0, h.z1, h.zo] (by simp)) rfl rfl (by simp) rfl ?_
   rintro v H' ⟨rfl, rfl⟩
   refine jD5 ?_
   refine jI8 rfl rfl <| sM rfl rfl <| jD0 38 rfl (fun hb9 => ?_) (fun hb9 => ?_)
   ·refine sO0 ?_
    refine sO0 ?_
    refine sO0 ?_
    refine sO0 ?_
    refine sO0 ?_
    refine sP rfl rfl rfl <| sA rfl rfl <| sN (hZ _ _ ?_ ?_)
    ·exact Kn.cons rfl (Kn.cons (congrArg some (congrArg Value.bool (by rw [lR]; simp [jU2, wi] at *; omega))) Kn.nil)
    ·exact HLe.pick [1] (by simp) rfl
   ·refine sOn0 ?_
    refine sFA0 jS6 ?_
    refine sOn0 ?_
    refine sL0 1 tyA3 tyS3 ?_
    refine sOn0 ?_
    refine sFA0 jW8 ?_
    refine sOn0 ?_
    refine sL0 1 tyA3 tyS3 ?_
    refine sOn0 ?_
    refine jC4 ?_
    refine sP rfl rfl rfl <| sA rfl rfl <| sN (hZ _ _ ?_ ?_)
    ·exact Kn.cons rfl (Kn.cons (congrArg some (congrArg Value.bool (by rw [lR]; simp [jU2, wi] at *; omega))) Kn.nil)
    ·exact HLe.pick [1] (by simp) rfl
  refine aC0 (fun h28 => ?_) (fun h28 => ?_)
  ·refine aR (fun Z hZ => sAN hZ rfl rfl <| f1K 2 rfl <| aE ?_)
   repeat (with_reducible (first | refine nTR ?_ | refine nBR ?_))
   exact nR1 rfl rfl (by simp [jG0, hs, h14, h28])
  refine jA3 [(1, ptr g1 0), (45, .bool (jU2 (-1800000000) 1800000000 h.lo0 h.lo1 h.lon))] [.own g1 68 h.cells] (fun Z hZ => ?_) ?_
  ·refine sFA0 kB5 ?_
   first | refine sL0 0 tyA3 tyS3 ?_
   refine sFA0 kB3 ?_
   first | refine sL0 0 tyA3 tyS3 ?_
   refine sFA0 kU7 ?_
   first | refine sL0 0 tyA3 tyS3 ?_
   refine sBS0 Tryz.underlying247 tyS3 tyZ3 (fun g4 => ?_)
   refine jD7 [0] [1] (kG3 (-1800000000) 1800000000 _ [h.lo0, h.lo1, h.lon] (by simp)) rfl rfl (by simp) rfl ?_
   rintro v H' ⟨rfl, rfl⟩
   refine jD5 ?_
   refine jI8 rfl rfl <| sM rfl rfl <| jD0 55 rfl (fun hb9 => ?_) (fun hb9 => ?_)
   ·refine sO0 ?_
    refine sO0 ?_
    refine sO0 ?_
    refine sO0 ?_
    refine sO0 ?_
    refine sP rfl rfl rfl <| sA rfl rfl <| sN (hZ _ _ ?_ ?_)
    ·exact Kn.cons rfl (Kn.cons (congrArg some (congrArg Value.bool (by rw [lR]; simp [jU2, wi] at *; omega))) Kn.nil)
    ·exact HLe.pick [1] (by simp) rfl
   ·refine sOn0 ?_
    refine sFA0 kB5 ?_
    refine sOn0 ?_
    refine sL0 1 tyA3 tyS3 ?_
    refine sOn0 ?_
    refine sFA0 kB3 ?_
    refine sOn0 ?_
    refine sL0 1 tyA3 tyS3 ?_
    refine sOn0 ?_
    refine jC4 ?_
    refine sP rfl rfl rfl <| sA rfl rfl <| sN (hZ _ _ ?_ ?_)
    ·exact Kn.cons rfl (Kn.cons (congrArg some (congrArg Value.bool (by rw [lR]; simp [jU2, wi] at *; omega))) Kn.nil)
    ·exact HLe.pick [1] (by simp) rfl
  refine aC0 (fun h45 => ?_) (fun h45 => ?_)
  ·refine aR (fun Z hZ => sAN hZ rfl rfl <| f1K 2 rfl <| aE ?_)
   repeat (with_reducible (first | refine nTR ?_ | refine nBR ?_))
   exact nR1 rfl rfl (by simp [jG0, hs, h14, h28, h45])
  refine jA3 [(1, ptr g1 0), (62, .bool (jU2 (-900000000) 900000000 h.la0 h.la1 h.lat))] [.own g1 68 h.cells] (fun Z hZ => ?_) ?_
  ·refine sFA0 kB4 ?_
   first | refine sL0 0 tyA3 tyS3 ?_
   refine sFA0 kB2 ?_
   first | refine sL0 0 tyA3 tyS3 ?_
   refine sFA0 kU6 ?_
   first | refine sL0 0 tyA3 tyS3 ?_
   refine sBS0 Tryz.underlying247 tyS3 tyZ3 (fun g5 => ?_)
   refine jD7 [0] [1] (kG3 (-900000000) 900000000 _ [h.la0, h.la1, h.lat] (by simp)) rfl rfl (by simp) rfl ?_
   rintro v H' ⟨rfl, rfl⟩
   refine jD5 ?_
   refine jI8 rfl rfl <| sM rfl rfl <| jD0 72 rfl (fun hb9 => ?_) (fun hb9 => ?_)
   ·refine sO0 ?_
    refine sO0 ?_
    refine sO0 ?_
    refine sO0 ?_
    refine sO0 ?_
    refine sP rfl rfl rfl <| sA rfl rfl <| sN (hZ _ _ ?_ ?_)
    ·exact Kn.cons rfl (Kn.cons (congrArg some (congrArg Value.bool (by rw [lR]; simp [jU2, wi] at *; omega))) Kn.nil)
    ·exact HLe.pick [1] (by simp) rfl
   ·refine sOn0 ?_
    refine sFA0 kB4 ?_
    refine sOn0 ?_
    refine sL0 1 tyA3 tyS3 ?_
    refine sOn0 ?_
    refine sFA0 kB2 ?_
    refine sOn0 ?_
    refine sL0 1 tyA3 tyS3 ?_
    refine sOn0 ?_
    refine jC4 ?_
    refine sP rfl rfl rfl <| sA rfl rfl <| sN (hZ _ _ ?_ ?_)
    ·exact Kn.cons rfl (Kn.cons (congrArg some (congrArg Value.bool (by rw [lR]; simp [jU2, wi] at *; omega))) Kn.nil)
    ·exact HLe.pick [1] (by simp) rfl
  refine aC0 (fun h62 => ?_) (fun h62 => ?_)
  ·refine aR (fun Z hZ => sAN hZ rfl rfl <| f1K 2 rfl <| aE ?_)
   repeat (with_reducible (first | refine nTR ?_ | refine nBR ?_))
   exact nR1 rfl rfl (by simp [jG0, hs, h14, h28, h45, h62])
  refine aK ?_
  repeat refine nBN ?_
  refine nN ?_
  refine aA rfl rfl ?_
  refine f1K 2 rfl ?_
  refine aE ?_
  exact nR1 rfl rfl (by simp [jG0, hs, h14, h28, h45, h62])
end Y
namespace Y
open Go.RowKit
def jR1 : List (Nat × Nat) → Int → Option Int
 | [], e => some e
 | (f, l) :: r, e => if (f : Int) < e then none else jR1 r (IntKind.u64.wrap (f + l))
def vE9 (h : Hdr) (n : Int) : Int :=
 if jG0 h ≠ 0 then jG0 h else match jR1 (secL h) 127 with
  | none => 10
  | some e => if n < e then 8 else 0
theorem yB0 (h : Hdr) (n : Int) : Fn Tryz.prog 79 [h.val, .int .u64 n] [] fun v _ => v = .int .i64 (vE9 h n) := by
 refine Fn.enter (N := 29) Tryz.func79 rfl (by kernel_rfl) rfl (fun w0 => ?_)
 refine aR (fun Z hZ => jB5 (fun g1 => ?_))
 refine sAN hZ rfl rfl <| f2K 1 2 rfl <| aS <| aR (fun Z hZ => ?_)
 first | refine sLA0 0 tyA68 tyS68 ?_
 refine sCP0 (kO1 h) ?_
 refine sAN hZ rfl rfl <| f3K 1 2 5 rfl <| aR fun Z hZ => sM rfl rfl <| jC7 ?_
 refine sN (hZ _ _ <| f4K 1 2 5 12 rfl <| aC0 (fun h12 => ?_) (fun h12 => ?_))
 ·refine aR (fun Z hZ => sM rfl rfl <| sAN hZ rfl rfl <| f1K 4 rfl <| aE ?_)
  repeat refine nTR ?_
  exact nR1 rfl rfl (by simp [vE9]; intro hh; simp [hh] at h12)
 refine aK <| nN ?_
 have hc0 : jG0 h = 0 := by simpa using h12
 refine aA rfl rfl <| f3K 1 2 6 rfl <| aS <| aR (fun Z hZ => ?_)
 first | refine sLA0 0 tyA68 tyS68 ?_
 refine sCP0 (jV9 h) ?_
 refine sMN hZ rfl rfl <| f4K 1 6 15 16 rfl <| aB ?_
 refine jB9 (ι := Nat × Int) (fun i => [(1, .int .u64 n), (6, .int .u64 i.2), (15, .agg h.secs.toArray), (16, .int .i64 (i.1 : Int))]) (fun _ => [])
  (fun i => i.1 ≤ 4 ∧ jR1 (secL h) 127 = jR1 ((secL h).drop i.1) i.2) (fun i => 4 - i.1) (0, 127) ⟨by simp, rfl⟩ (kR rfl) (HLe.pick [] (by simp) rfl) ?_
 rintro ⟨k, e⟩ ⟨hk, hgo⟩
 simp only at hk hgo
 refine aR (fun Z hZ => jB2 ?_)
 refine sN (hZ _ _ <| f5K 1 6 15 16 17 rfl <| aS (aC0 (fun h4 => ?_) (fun h4 => ?_)))
 ·have hlt : k < 4 := by simp at h4; omega
  refine aK <| nN ?_
  obtain ⟨p, hp, hrd⟩ : ∃ p : Nat × Nat, (secL h).drop k = p :: (secL h).drop (k + 1) ∧ rdV true 2 h.secs (k * 2) = some (.agg #[uq p.1, uq p.2]) := by
   obtain rfl | rfl | rfl | rfl : k = 0 ∨ k = 1 ∨ k = 2 ∨ k = 3 := by omega
   all_goals exact ⟨_, rfl, rfl⟩
  rw [hp] at hgo
  refine aS (aB <| aR (fun Z hZ => jQ0 Tryz.underlying133 tyA66 tyS66 rfl rfl (by omega) hrd rfl ?_))
  refine sAl tyZ66 rfl (fun g2 => ?_)
  first | refine sS0 0 tyS66 ?_
  refine sN (hZ _ _ <| f5K 1 6 8 15 16 rfl <| aS <| aR (fun Z hZ => sFA0 jZ1 ?_))
  first | refine sL0 0 tyA25 tyS25 ?_
  refine sM rfl rfl <| jB2 ?_
  refine sN (hZ _ _ <| f5K 1 8 15 16 22 rfl <| aC0 (fun h22 => ?_) (fun h22 => ?_))
  ·refine aR (fun Z hZ => sAN hZ rfl rfl <| f1K 4 rfl <| aE ?_)
   repeat (with_reducible (first | refine nTR ?_ | refine nBR ?_))
   have hlt2 : (p.1 : Int) < e := by simpa using h22
   refine nR10 (congrArg (Value.int .i64) ?_)
   simp [vE9, hc0, hgo, jR1, hlt2]
  refine aK <| nN ?_
  have hge : ¬ (p.1 : Int) < e := by simpa using h22
  refine aG (fun Z hZ => ?_)
  first | refine sLA0 0 tyA66 tyS66 ?_
  refine sCP0 (kS4 _ _) ?_
  refine sAN hZ rfl rfl <| nF [(1, _), (6, _), (15, _), (16, _)] (kR rfl) ?_
  repeat refine nBN ?_
  refine nN ?_
  refine aG (fun Z hZ => ?_)
  refine jC2 rfl rfl ((k + 1 : Nat) : Int) (by rw [lT _ (by omega)]; omega) rfl ?_
  refine sMN hZ rfl rfl <| nF [(1, _), (6, _), (15, _), (16, _)] (kR rfl) <| jB8 (k + 1, IntKind.u64.wrap (p.1 + p.2)) ⟨by omega, ?_⟩ (by simp; omega) (kR rfl) (HLe.pick [] (by simp) rfl)
  rw [hgo, jR1, if_neg hge]
 ·refine jB1 ?_
  repeat refine nTE ?_
  refine nBE <| nN ?_
  have hke : k = 4 := by simp at h4; omega
  subst hke
  have hgo' : jR1 (secL h) 127 = some e := hgo
  refine aS <| aR fun Z hZ => sM rfl rfl <| sM rfl rfl <| jC4 ?_
  refine sN (hZ _ _ <| f1K 28 rfl <| aC0 (fun h28 => ?_) (fun h28 => ?_))
  ·refine aR (fun Z hZ => sAN hZ rfl rfl <| f1K 4 rfl <| aE ?_)
   repeat refine nTR ?_
   have : n < e := by simpa using h28
   exact nR1 rfl rfl (by simp [vE9, hc0, hgo', this])
  refine aK <| nN <| aA rfl rfl <| f1K 4 rfl <| aE ?_
  have : ¬ n < e := by simpa using h28
  exact nR1 rfl rfl (by simp [vE9, hc0, hgo', this])
end Y
namespace Y
open Go.RowKit
def sgB (v : Int) : List UInt8 := leB 4 (unsV v 4).toNat
theorem yL2 (v : Int) : 0 ≤ unsV v 4 ∧ unsV v 4 < 4294967296 := by
 unfold unsV
 split
 ·have e : ((2 : Int) ^ (8 * (4 : Int)).toNat) = 4294967296 := by decide
  rw [e]
  omega
 ·omega
end Y
namespace Y
open Go.RowKit
structure Hdr.Ok (h : Hdr) : Prop where
 r0 : h.r0 < 18446744073709551616
 r1 : h.r1 < 18446744073709551616
 m0 : h.m0 < 18446744073709551616
 m1 : h.m1 < 18446744073709551616
 l0 : h.l0 < 18446744073709551616
 l1 : h.l1 < 18446744073709551616
 d0 : h.d0 < 18446744073709551616
 d1 : h.d1 < 18446744073709551616
 ad : h.ad < 18446744073709551616
 en : h.en < 18446744073709551616
 co : h.co < 18446744073709551616
 ic : h.ic < 256
 oc : h.oc < 256
 ki : h.ki < 256
theorem vU4 {h : Hdr} (hc : jG0 h = 0) : kJ0 h = true ∧ (h.ic ≤ 4 ∧ h.oc ≤ 4 ∧ h.ki ≤ 5) ∧ ((0 ≤ h.z0 ∧ h.z0 ≤ 26) ∧ (0 ≤ h.z1 ∧ h.z1 ≤ 26) ∧ (0 ≤ h.zo ∧ h.zo ≤ 26) ∧ h.z0 ≤ h.z1) ∧
  ((-1800000000 ≤ h.lo0 ∧ h.lo0 ≤ 1800000000) ∧ (-1800000000 ≤ h.lo1 ∧ h.lo1 ≤ 1800000000) ∧ (-1800000000 ≤ h.lon ∧ h.lon ≤ 1800000000) ∧ h.lo0 ≤ h.lo1) ∧
  ((-900000000 ≤ h.la0 ∧ h.la0 ≤ 900000000) ∧ (-900000000 ≤ h.la1 ∧ h.la1 ≤ 900000000) ∧ (-900000000 ≤ h.lat ∧ h.lat ≤ 900000000) ∧ h.la0 ≤ h.la1) := by
 unfold jG0 at hc
 by_cases h1 : kJ0 h = false
 ·simp [h1] at hc
 by_cases h2 : vM1 h = true
 ·simp [h1, h2] at hc
 by_cases h3 : jU2 0 26 h.z0 h.z1 h.zo = true
 ·simp [h1, h2, h3] at hc
 by_cases h4 : jU2 (-1800000000) 1800000000 h.lo0 h.lo1 h.lon = true
 ·simp [h1, h2, h3, h4] at hc
 by_cases h5 : jU2 (-900000000) 900000000 h.la0 h.la1 h.lat = true
 ·simp [h1, h2, h3, h4, h5] at hc
 simp [vM1] at h2
 simp [jU2, wi] at h3 h4 h5
 refine ⟨by simpa using h1, by omega, by omega, by omega, by omega⟩
def secB (f l : Nat) : List UInt8 := leB 8 f ++ leB 8 l
def clN (h : Hdr) : Nat := if h.cl = true then 1 else 0
def enc1 (h : Hdr) : List UInt8 := [80, 77, 84, 105, 108, 101, 115, 3] ++ secB h.r0 h.r1 ++ secB h.m0 h.m1 ++ secB h.l0 h.l1 ++ secB h.d0 h.d1
def enc2 (h : Hdr) : List UInt8 := enc1 h ++ leB 8 h.ad ++ leB 8 h.en ++ leB 8 h.co ++ leB 1 (clN h)
def enc3 (h : Hdr) : List UInt8 := enc2 h ++ leB 1 h.ic ++ leB 1 h.oc ++ leB 1 h.ki ++ leB 1 h.z0.toNat ++ leB 1 h.z1.toNat
def enc4 (h : Hdr) : List UInt8 := enc3 h ++ sgB h.lo0 ++ sgB h.la0 ++ sgB h.lo1 ++ sgB h.la1
def enc5 (h : Hdr) : List UInt8 := enc4 h ++ leB 1 h.zo.toNat ++ sgB h.lon ++ sgB h.lat
theorem kM8 (f l : Nat) : (secB f l).length = 16 := by simp [secB, jH0]
theorem kF8 (v : Int) : (sgB v).length = 4 := by simp [sgB, jH0]
theorem kA8 (h : Hdr) : (enc1 h).length = 72 := by simp [enc1, kM8]
theorem vM8 (h : Hdr) : (enc2 h).length = 97 := by simp [enc2, kA8, jH0]
theorem kO5 (h : Hdr) : (enc3 h).length = 102 := by simp [enc3, vM8, jH0]
theorem kO4 (h : Hdr) : (enc4 h).length = 118 := by simp [enc4, kO5, kF8]
theorem kA7 (h : Hdr) : (enc5 h).length = 127 := by simp [enc5, kO4, jH0, kF8]
def encV (h : Hdr) : List UInt8 := if jG0 h = 0 then enc5 h else []
theorem kT3 {n : Nat} (h : n < 18446744073709551616) : IntKind.u64.wrap (n : Int) = (n : Int) := l6 _ (by omega)
theorem kF0 {n : Int} (h : 0 ≤ n ∧ n ≤ 26) : IntKind.u64.wrap n = ((n.toNat : Nat) : Int) := by rw [l6 _ (by omega)]; omega
end Y
namespace Y
open Go.RowKit
abbrev rowV (g n c : Nat) : Value := .slice (some ⟨g, 0, none⟩) n c
abbrev rowH (g c : Nat) (b : List UInt8) : Ent := .ob g (RowP 5 1 b.length c (bv b))
theorem vF7 : Enters Tryz.prog 154 := Enters.mk Tryz.func154 (by kernel_rfl) (by kernel_rfl)
theorem jZ9 (b : List UInt8) (m : Int) (x : Nat) : (putL b m x).length ≤ b.length + 8 ∧ b.length ≤ (putL b m x).length := by
 unfold putL
 split <;> simp [jH0] <;> omega
def jV5 (b : List UInt8) (m : Int) (xs : List Nat) : List UInt8 := xs.foldl (fun b x => putL b m x) b
theorem kI2 (m : Int) : ∀ (xs : List Nat) (b : List UInt8), (jV5 b m xs).length ≤ b.length + 8 * xs.length ∧ b.length ≤ (jV5 b m xs).length
 | [], b => by simp [jV5]
 | x :: xs, b => by
  have h1 := jZ9 b m x
  have h2 := kI2 m xs (putL b m x)
  simp only [jV5, zA, lE] at h2 ⊢
  omega
def uqs (l : List Nat) : List Value := l.map uq
theorem yY8 {l : List Nat} {k : Nat} (h : k < l.length) : (uqs l)[k]? = some (uq l[k]) := by simp [uqs, h]
theorem wG3 (A : Option Addr) (c : Nat) (b : List UInt8) (m : Int) (x : Nat) (w : World) (hr : Rd w 1 A b.length (bv b)) (hc : A = none → c = 0) (hb : b.length ≤ 1000000) (hx : x < 18446744073709551616) :
  Calls Tryz.prog 154 #[.slice A b.length c, .int .i64 m, .int .u64 x] w (kE9 w 5 1 (bv (putL b m x)) (putL b m x).length) := by
 have := yP3 A c b m (x : Int) w hr hc (by omega) (by omega)
 simpa using this
theorem kZ0 (g0 c0 g : Nat) (b : List UInt8) (m : Int) (xs : List Nat) (hb : 0 < b.length ∧ b.length ≤ 10000) (hl : xs.length ≤ 100) (hx : ∀ x ∈ xs, x < 18446744073709551616) :
  Fn Tryz.prog 110 [rowV g0 b.length c0, .int .i64 m, rowV g xs.length xs.length] [.own g 25 (uqs xs), rowH g0 c0 b]
  fun v H' => ∃ g' c', v = rowV g' (jV5 b m xs).length c' ∧ H' = [.own g 25 (uqs xs), rowH g' c' (jV5 b m xs)] := by
 refine Fn.enter (N := 21) Tryz.func110 rfl (by kernel_rfl) rfl (fun w0 => ?_)
 refine aA rfl rfl <| f3K 0 1 2 rfl <| aS <| aR fun Z hZ => sM rfl rfl <| jE2 Tryz.underlying127 rfl rfl <| sMN hZ rfl rfl <| f5K 0 1 9 10 11 rfl <| aB ?_
 refine jB9 (ι := Nat × Nat × Nat × List UInt8) (fun i => [(0, rowV i.2.1 i.2.2.2.length i.2.2.1), (1, .int .i64 m), (9, rowV g xs.length xs.length), (10, .int .i64 xs.length), (11, .int .i64 (i.1 : Int))])
  (fun i => [.own g 25 (uqs xs), rowH i.2.1 i.2.2.1 i.2.2.2])
  (fun i => i.1 ≤ xs.length ∧ i.2.2.2 = jV5 b m (xs.take i.1)) (fun i => xs.length - i.1) (0, g0, c0, b) ⟨by simp, by simp [jV5]⟩ (kR rfl) (HLe.refl _) ?_
 rintro ⟨k, g1, c1, bs⟩ ⟨hk, hbs⟩
 simp only at hk hbs
 have hlen := kI2 m (xs.take k) b
 rw [← hbs, xS] at hlen
 refine aR (fun Z hZ => jB2 ?_)
 refine sN (hZ _ _ <| f6K 0 1 9 10 11 12 rfl <| aS (aC0 (fun h12 => ?_) (fun h12 => ?_)))
 ·have hlt : k < xs.length := by simpa using h12
  obtain ⟨x, hxe, hx64⟩ : ∃ x, xs[k] = x ∧ x < 18446744073709551616 := ⟨_, rfl, hx _ (uA _)⟩
  have hld : rdV false 1 (uqs xs) (k * 1) = some (uq x) := by rw [zE, ← hxe]; exact yY8 hlt
  refine aK <| nN <| aS (aB <| aR (fun Z hZ => jB3 (k * 1) Tryz.underlying127 tyS25 rfl rfl (by omega) (by simp) rfl ?_))
  refine sL 0 rfl rfl tyA25 tyS25 hld rfl <| sAN hZ rfl rfl <| f6K 0 1 8 9 10 11 rfl <| aG (fun Z hZ => sM rfl rfl <| sM rfl rfl <| sM rfl rfl <| vP6 vF7 rfl rfl (fun w hw => wG3 (some ⟨g1, 0, none⟩) c1 bs m x w (jV4 (i := 1) rfl hw) (fun h => by cases h) (by omega) hx64) (fun v2 hv2 => ?_))
  obtain ⟨g2, c2, rfl⟩ := hv2.some (by have := jZ9 bs m x; omega)
  refine sAN hZ rfl rfl <| nF [(0, _), (1, _), (9, _), (10, _), (11, _)] (kR rfl) ?_
  repeat refine nBN ?_
  refine nN ?_
  refine aG (fun Z hZ => ?_)
  refine jC2 rfl rfl ((k + 1 : Nat) : Int) (by rw [lT _ (by omega)]; omega) rfl ?_
  refine sMN hZ rfl rfl <| nF [(0, _), (1, _), (9, _), (10, _), (11, _)] (kR rfl) <| jB8 (k + 1, g2, c2, putL bs m x) ⟨by omega, ?_⟩ (by simp; omega) (kR rfl) (HLe.pick [1, 0] (by simp) rfl)
  simp only
  rw [qB hlt, hbs, hxe]
  simp [jV5]
 ·refine jB1 ?_
  repeat refine nTE ?_
  refine nBE <| nN ?_
  have hke : k = xs.length := by simp at h12; omega
  subst hke
  rw [x6] at hbs
  refine aR fun Z hZ => sM rfl rfl <| sAN hZ rfl rfl ?_
  refine f1K 6 rfl ?_
  refine aE ?_
  exact nR1 rfl rfl ⟨g1, c1, by rw [hbs], by rw [hbs]⟩
theorem wM7 : Enters Tryz.prog 155 := Enters.mk Tryz.func155 (by kernel_rfl) (by kernel_rfl)
theorem yY9 (v n : Int) (hx : -9223372036854775808 ≤ v ∧ v < 9223372036854775808) : Fn Tryz.prog 155 [.int .i64 v, .int .i64 n] [] fun u _ => u = .tuple #[.int .u64 (unsV v n), .int .i64 (unsE v n)] :=
 Fn.of_same wM7 fun w => vB4 v n w hx
def kJ2 (b : List UInt8) (xs : List Int) : List UInt8 := xs.foldl (fun b v => b ++ sgB v) b
theorem kI5 : ∀ (xs : List Int) (b : List UInt8), (kJ2 b xs).length = b.length + 4 * xs.length
 | [], b => by simp [kJ2]
 | x :: xs, b => by
  have h2 := kI5 xs (b ++ sgB x)
  simp only [kJ2, zA, lE, lX, kF8] at h2 ⊢
  omega
theorem kO0 (g0 c0 g : Nat) (b : List UInt8) (xs : List Int) (hb : 0 < b.length ∧ b.length ≤ 10000) (hl : xs.length ≤ 100) (hx : ∀ x ∈ xs, -9223372036854775808 ≤ x ∧ x < 9223372036854775808) :
  Fn Tryz.prog 111 [rowV g0 b.length c0, rowV g xs.length xs.length] [.own g 3 (ints xs), rowH g0 c0 b]
  fun v H' => ∃ g' c', v = rowV g' (kJ2 b xs).length c' ∧ H' = [.own g 3 (ints xs), rowH g' c' (kJ2 b xs)] := by
 refine Fn.enter (N := 25) Tryz.func111 rfl (by kernel_rfl) rfl (fun w0 => ?_)
 refine aA rfl rfl <| f2K 0 1 rfl <| aS <| aR fun Z hZ => sM rfl rfl <| jE2 Tryz.underlying247 rfl rfl <| sMN hZ rfl rfl <| f4K 0 9 10 11 rfl <| aB ?_
 refine jB9 (ι := Nat × Nat × Nat × List UInt8) (fun i => [(0, rowV i.2.1 i.2.2.2.length i.2.2.1), (9, rowV g xs.length xs.length), (10, .int .i64 xs.length), (11, .int .i64 (i.1 : Int))])
  (fun i => [.own g 3 (ints xs), rowH i.2.1 i.2.2.1 i.2.2.2])
  (fun i => i.1 ≤ xs.length ∧ i.2.2.2 = kJ2 b (xs.take i.1)) (fun i => xs.length - i.1) (0, g0, c0, b) ⟨by simp, by simp [kJ2]⟩ (kR rfl) (HLe.refl _) ?_
 rintro ⟨k, g1, c1, bs⟩ ⟨hk, hbs⟩
 simp only at hk hbs
 have hlen := kI5 (xs.take k) b
 rw [← hbs, xS] at hlen
 refine aR (fun Z hZ => jB2 ?_)
 refine sN (hZ _ _ <| f5K 0 9 10 11 12 rfl <| aS (aC0 (fun h12 => ?_) (fun h12 => ?_)))
 ·have hlt : k < xs.length := by simpa using h12
  obtain ⟨x, hxe, hx64⟩ : ∃ x, xs[k] = x ∧ (-9223372036854775808 ≤ x ∧ x < 9223372036854775808) := ⟨_, rfl, hx _ (uA _)⟩
  have hld : rdV false 1 (ints xs) (k * 1) = some (.int .i64 x) := by rw [zE, ← hxe]; exact wK4 hlt
  obtain ⟨u, hu⟩ : ∃ u : Nat, unsV x 4 = u := ⟨(unsV x 4).toNat, by have := yL2 x; omega⟩
  have hu2 : u < 4294967296 := by have := yL2 x; omega
  have hput : putL bs 4 u = bs ++ sgB x := by unfold putL; rw [if_pos (by omega)]; simp [sgB, hu]
  refine aK <| nN <| aS (aB <| aR (fun Z hZ => jB3 (k * 1) Tryz.underlying247 tyS3 rfl rfl (by omega) (by simp) rfl ?_))
  refine sL 0 rfl rfl tyA3 tyS3 hld rfl <| sAN hZ rfl rfl <| f5K 0 6 9 10 11 rfl <| aR fun Z hZ => sM rfl rfl <| sCP0 (yY9 x 4 hx64) ?_
  rw [hu]
  refine sM rfl rfl <| sX rfl rfl rfl <| sX rfl rfl rfl <| sA rfl rfl <| sAN hZ rfl rfl <| f5K 0 7 9 10 11 rfl <| aG (fun Z hZ => sM rfl rfl <| sM rfl rfl <| vP6 vF7 rfl rfl (fun w hw => wG3 (some ⟨g1, 0, none⟩) c1 bs 4 u w (jV4 (i := 1) rfl hw) (fun h => by cases h) (by omega) (by omega)) (fun v2 hv2 => ?_))
  obtain ⟨g2, c2, rfl⟩ := hv2.some (by have := jZ9 bs 4 u; omega)
  refine sAN hZ rfl rfl <| nF [(0, _), (9, _), (10, _), (11, _)] (kR rfl) ?_
  repeat refine nBN ?_
  refine nN ?_
  refine aG (fun Z hZ => ?_)
  refine jC2 rfl rfl ((k + 1 : Nat) : Int) (by rw [lT _ (by omega)]; omega) rfl ?_
  refine sMN hZ rfl rfl <| nF [(0, _), (9, _), (10, _), (11, _)] (kR rfl) <| jB8 (k + 1, g2, c2, putL bs 4 u) ⟨by omega, ?_⟩ (by simp; omega) (kR rfl) (HLe.pick [1, 0] (by simp) rfl)
  simp only
  rw [qB hlt, hbs, hxe, ← hbs, hput]
  simp [kJ2, hbs]
 ·refine jB1 ?_
  repeat refine nTE ?_
  refine nBE <| nN ?_
  have hke : k = xs.length := by simp at h12; omega
  subst hke
  rw [x6] at hbs
  refine aR fun Z hZ => sM rfl rfl <| sAN hZ rfl rfl ?_
  refine f1K 4 rfl ?_
  refine aE ?_
  exact nR1 rfl rfl ⟨g1, c1, by rw [hbs], by rw [hbs]⟩
theorem wG9 (b : List UInt8) (n x : Nat) (hn : 1 ≤ n ∧ n ≤ 8) : putL b n x = b ++ leB n x := by unfold putL; rw [if_pos (by omega)]; simp
theorem put8 (b : List UInt8) (x : Nat) : putL b 8 x = b ++ leB 8 x := wG9 b 8 x (by omega)
theorem put1 (b : List UInt8) (x : Nat) : putL b 1 x = b ++ leB 1 x := wG9 b 1 x (by omega)
def encS (h : Hdr) (k : Nat) : List UInt8 := ((secL h).take k).foldl (fun b p => b ++ secB p.1 p.2) [80, 77, 84, 105, 108, 101, 115, 3]
theorem vM7 (h : Hdr) : ∀ k, k ≤ 4 → (encS h k).length = 8 + 16 * k := by
 intro k hk
 obtain rfl | rfl | rfl | rfl | rfl : k = 0 ∨ k = 1 ∨ k = 2 ∨ k = 3 ∨ k = 4 := by omega
 all_goals simp [encS, secL, kM8]
theorem vF8 (h : Hdr) : encS h 4 = enc1 h := rfl
def kP7 (h : Hdr) : List UInt8 := enc1 h ++ leB 8 h.ad ++ leB 8 h.en ++ leB 8 h.co
theorem vF9 (h : Hdr) : (kP7 h).length = 96 := by simp [kP7, kA8, jH0]
set_option maxHeartbeats 1000000 in
theorem vY2 (h : Hdr) (hk : h.Ok) : Fn Tryz.prog 58 [h.val] [] fun v _ => v = .tuple #[.string (str (encV h)), .int .i64 (jG0 h)] := by
 refine Fn.enter (N := 86) Tryz.func58 rfl (by kernel_rfl) rfl (fun w0 => ?_)
 refine aR (fun Z hZ => jB5 (fun g1 => ?_))
 refine sA rfl rfl <| sAN hZ rfl rfl <| f1K 1 rfl <| aS <| aR (fun Z hZ => ?_)
 first | refine sLA0 0 tyA68 tyS68 ?_
 refine sCP0 (kO1 h) ?_
 refine sAN hZ rfl rfl <| f2K 1 4 rfl <| aR fun Z hZ => sM rfl rfl <| jC7 ?_
 refine sN (hZ _ _ <| f3K 1 4 12 rfl <| aC0 (fun h10 => ?_) (fun h10 => ?_))
 ·refine aR (fun Z hZ => sM rfl rfl <| sA rfl rfl <| sAN hZ rfl rfl <| f2K 2 3 rfl <| aE ?_)
  repeat refine nTR ?_
  have : ¬ jG0 h = 0 := by simpa using h10
  exact jF8 rfl rfl rfl (by simp [encV, this]; rfl)
 refine aK <| nN ?_
 have hc0 : jG0 h = 0 := by simpa using h10
 obtain ⟨_, hkd, hz, hlo, hla⟩ := vU4 hc0
 refine aR (fun Z hZ => sBS0 Tryz.underlying44 tyS5 tyZ5 (fun g2 => ?_))
 refine wV4 0 Tryz.underlying44 Tryz.underlying5 rfl rfl rfl <| sBS0 Tryz.underlying44 tyS5 tyZ5 (fun g3 => ?_)
 refine kW1 kI3 rfl rfl (fun w hw => yO9 (i := 1) rfl rfl hw) (fun w hw => jJ3 (i := 0) rfl rfl hw) (by omega) (by omega) (by omega) (by decide) (by omega) rfl (fun v hv => ?_)
 obtain ⟨g5, c5, rfl⟩ := hv.some (by omega)
 refine sAN hZ rfl rfl <| f2K 1 5 rfl <| jA6 [.own g1 68 h.cells, rowH g5 c5 (encS h 0)] (HLe.pick [3, 0] (by simp) rfl) ?_
 refine aS <| aR (fun Z hZ => ?_)
 first | refine sLA0 0 tyA68 tyS68 ?_
 refine sCP0 (jV9 h) ?_
 refine sMN hZ rfl rfl <| f4K 1 5 19 20 rfl <| aB ?_
 refine jB9 (ι := Nat × Nat × Nat) (fun i => [(1, ptr g1 0), (5, rowV i.2.1 (encS h i.1).length i.2.2), (19, .agg h.secs.toArray), (20, .int .i64 (i.1 : Int))])
  (fun i => [.own g1 68 h.cells, rowH i.2.1 i.2.2 (encS h i.1)])
  (fun i => i.1 ≤ 4) (fun i => 4 - i.1) (0, g5, c5) (by simp) (kR rfl) (HLe.refl _) ?_
 rintro ⟨k, g2, c2⟩ hk4
 simp only at hk4
 have hlen := vM7 h k hk4
 refine aR (fun Z hZ => jB2 ?_)
 refine sN (hZ _ _ <| f5K 1 5 19 20 21 rfl <| aS (aC0 (fun h4 => ?_) (fun h4 => ?_)))
 ·have hlt : k < 4 := by simp at h4; omega
  refine aK <| nN ?_
  obtain ⟨p, hp, hrd, hpb⟩ : ∃ p : Nat × Nat, encS h (k + 1) = encS h k ++ secB p.1 p.2 ∧ rdV true 2 h.secs (k * 2) = some (.agg #[uq p.1, uq p.2]) ∧ ∀ x ∈ [p.1, p.2], x < 18446744073709551616 := by
   obtain rfl | rfl | rfl | rfl : k = 0 ∨ k = 1 ∨ k = 2 ∨ k = 3 := by omega
   ·exact ⟨(h.r0, h.r1), rfl, rfl, by simp [hk.r0, hk.r1]⟩
   ·exact ⟨(h.m0, h.m1), rfl, rfl, by simp [hk.m0, hk.m1]⟩
   ·exact ⟨(h.l0, h.l1), rfl, rfl, by simp [hk.l0, hk.l1]⟩
   ·exact ⟨(h.d0, h.d1), rfl, rfl, by simp [hk.d0, hk.d1]⟩
  have he : jV5 (encS h k) 8 [p.1, p.2] = encS h (k + 1) := by rw [hp]; simp [jV5, put8, secB]
  refine aS (aB <| aR (fun Z hZ => jQ0 Tryz.underlying133 tyA66 tyS66 rfl rfl (by omega) hrd rfl ?_))
  refine sAl tyZ66 rfl (fun g4 => sS0 0 tyS66 ?_)
  refine sN (hZ _ _ <| f5K 1 5 7 19 20 rfl <| aG (fun Z hZ => sM rfl rfl <| sFA0 jZ1 ?_))
  refine sL0 0 tyA25 tyS25 ?_
  refine sFA0 kU9 ?_
  refine sL0 0 tyA25 tyS25 ?_
  refine sBS0 Tryz.underlying127 tyS25 tyZ25 (fun g5 => ?_)
  refine jD7 [0, 3] [1, 2] (kZ0 g2 c2 _ (encS h k) 8 [p.1, p.2] (by omega) (by simp) hpb) rfl rfl (by simp) rfl ?_
  rintro v H' ⟨g9, c9, rfl, rfl⟩
  refine jD5 ?_
  rw [he]
  refine sAN hZ rfl rfl <| nF [(1, _), (5, _), (19, _), (20, _)] (kR rfl) ?_
  repeat refine nBN ?_
  refine nN ?_
  refine aG (fun Z hZ => ?_)
  refine jC2 rfl rfl ((k + 1 : Nat) : Int) (by rw [lT _ (by omega)]; omega) rfl ?_
  refine sMN hZ rfl rfl <| nF [(1, _), (5, _), (19, _), (20, _)] (kR rfl) <| jB8 (k + 1, g9, c9) (by simp; omega) (by simp; omega) (kR rfl) (HLe.pick [3, 1] (by simp) rfl)
 refine jB1 ?_
 repeat refine nTE ?_
 refine nBE <| nN ?_
 obtain rfl : k = 4 := by simp at h4; omega
 have l1 := kA8 h
 have he10 : jV5 (encS h 4) 8 [h.ad, h.en, h.co] = kP7 h := by rw [vF8]; simp [jV5, put8, kP7]
 refine aR fun Z hZ => sM rfl rfl <| sFA0 vI5 ?_
 first | refine sL0 0 tyA25 tyS25 ?_
 refine sFA0 vI4 ?_
 first | refine sL0 0 tyA25 tyS25 ?_
 refine sFA0 vI3 ?_
 first | refine sL0 0 tyA25 tyS25 ?_
 refine sBS0 Tryz.underlying127 tyS25 tyZ25 (fun g6 => ?_)
 refine jD7 [0, 2] [1] (kZ0 g2 c2 _ (encS h 4) 8 [h.ad, h.en, h.co] (by rw [vF8]; omega) (by simp) (by simp [hk.ad, hk.en, hk.co])) rfl rfl (by simp) rfl ?_
 rintro v H' ⟨g3, c3, rfl, rfl⟩
 refine jD5 ?_
 rw [he10]
 refine sAN hZ rfl rfl <| f2K 1 5 rfl <| jA6 [.own g1 68 h.cells, rowH g3 c3 (kP7 h)] (HLe.pick [2, 1] (by simp) rfl) ?_
 have l2 := vF9 h
 refine aA rfl rfl <| f3K 1 5 8 rfl <| jJ7 (fun _ : Unit => [(1, ptr g1 0), (5, rowV g3 (kP7 h).length c3), (8, .int .u64 (clN h : Int))]) (fun _ => [.own g1 68 h.cells, rowH g3 c3 (kP7 h)]) (fun _ => True) ?_ (fun _ _ => ?_)
 ·refine aR (fun Z hZ => sFA0 vI2 ?_)
  first | refine sL0 0 tyA4 tyS4 ?_
  refine sN (hZ _ _ <| f4K 1 5 8 41 rfl <| aC0 (fun h13 => ?_) (fun h13 => ?_))
  ·refine aG (fun Z hZ => sAN hZ rfl rfl <| nF [(1, _), (5, _), (8, _)] (kR rfl) <| jE4 () trivial (Kn.cons rfl (Kn.cons rfl (Kn.cons (congrArg some (congrArg (Value.int .u64) (by simp [clN, h13]))) Kn.nil))) (HLe.refl _))
  ·refine aK <| jE4 () trivial (Kn.cons rfl (Kn.cons rfl (Kn.cons (congrArg some (congrArg (Value.int .u64) (by simp [clN, h13]))) Kn.nil))) (HLe.refl _)
 have hcl : clN h < 18446744073709551616 := by unfold clN; split <;> omega
 have he14 : jV5 (kP7 h) 1 [clN h, h.ic, h.oc, h.ki, h.z0.toNat, h.z1.toNat] = enc3 h := by simp [jV5, put1, enc3, enc2, kP7]
 refine aR fun Z hZ => sM rfl rfl <| sM rfl rfl <| sFA0 kU5 ?_
 first | refine sL0 0 tyA5 tyS5 ?_
 refine jB7 Tryz.underlying5 Tryz.underlying25 rfl (h.ic : Int) (kT3 (by have := hk.ic; omega)) rfl ?_
 refine sFA0 kU4 ?_
 first | refine sL0 0 tyA5 tyS5 ?_
 refine jB7 Tryz.underlying5 Tryz.underlying25 rfl (h.oc : Int) (kT3 (by have := hk.oc; omega)) rfl ?_
 refine sFA0 kU8 ?_
 first | refine sL0 0 tyA5 tyS5 ?_
 refine jB7 Tryz.underlying5 Tryz.underlying25 rfl (h.ki : Int) (kT3 (by have := hk.ki; omega)) rfl ?_
 refine sFA0 jS6 ?_
 first | refine sL0 0 tyA3 tyS3 ?_
 refine jB7 Tryz.underlying3 Tryz.underlying25 rfl (h.z0.toNat : Int) (kF0 (by omega)) rfl ?_
 refine sFA0 jW8 ?_
 first | refine sL0 0 tyA3 tyS3 ?_
 refine jB7 Tryz.underlying3 Tryz.underlying25 rfl (h.z1.toNat : Int) (kF0 (by omega)) rfl ?_
 refine sBS0 Tryz.underlying127 tyS25 tyZ25 (fun g7 => ?_)
 refine jD7 [0, 2] [1] (kZ0 g3 c3 _ (kP7 h) 1 [clN h, h.ic, h.oc, h.ki, h.z0.toNat, h.z1.toNat] (by omega) (by simp) (by simp; omega)) rfl rfl (by simp) rfl ?_
 rintro v H' ⟨g4, c4, rfl, rfl⟩
 refine jD5 ?_
 rw [he14]
 refine sAN hZ rfl rfl <| f2K 1 5 rfl <| jA6 [.own g1 68 h.cells, rowH g4 c4 (enc3 h)] (HLe.pick [2, 1] (by simp) rfl) ?_
 have l3 := kO5 h
 have he15 : kJ2 (enc3 h) [h.lo0, h.la0, h.lo1, h.la1] = enc4 h := by simp [kJ2, enc4]
 refine aR fun Z hZ => sM rfl rfl <| sFA0 kB5 ?_
 first | refine sL0 0 tyA3 tyS3 ?_
 refine sFA0 kB4 ?_
 first | refine sL0 0 tyA3 tyS3 ?_
 refine sFA0 kB3 ?_
 first | refine sL0 0 tyA3 tyS3 ?_
 refine sFA0 kB2 ?_
 first | refine sL0 0 tyA3 tyS3 ?_
 refine sBS0 Tryz.underlying247 tyS3 tyZ3 (fun g8 => ?_)
 refine jD7 [0, 2] [1] (kO0 g4 c4 _ (enc3 h) [h.lo0, h.la0, h.lo1, h.la1] (by omega) (by simp) (by simp; omega)) rfl rfl (by simp) rfl ?_
 rintro v H' ⟨g6, c6, rfl, rfl⟩
 refine jD5 ?_
 rw [he15]
 refine sAN hZ rfl rfl <| f2K 1 5 rfl <| jA6 [.own g1 68 h.cells, rowH g6 c6 (enc4 h)] (HLe.pick [2, 1] (by simp) rfl) ?_
 have l4 := kO4 h
 have he16 : jV5 (enc4 h) 1 [h.zo.toNat] = enc4 h ++ leB 1 h.zo.toNat := by simp [jV5, put1]
 refine aR fun Z hZ => sM rfl rfl <| sFA0 kJ4 ?_
 first | refine sL0 0 tyA3 tyS3 ?_
 refine jB7 Tryz.underlying3 Tryz.underlying25 rfl (h.zo.toNat : Int) (kF0 (by omega)) rfl ?_
 refine sBS0 Tryz.underlying127 tyS25 tyZ25 (fun g9 => ?_)
 refine jD7 [0, 2] [1] (kZ0 g6 c6 _ (enc4 h) 1 [h.zo.toNat] (by omega) (by simp) (by simp; omega)) rfl rfl (by simp) rfl ?_
 rintro v H' ⟨g7, c7, rfl, rfl⟩
 refine jD5 ?_
 rw [he16]
 refine sAN hZ rfl rfl <| f2K 1 5 rfl <| jA6 [.own g1 68 h.cells, rowH g7 c7 (enc4 h ++ leB 1 h.zo.toNat)] (HLe.pick [2, 1] (by simp) rfl) ?_
 have l5 : (enc4 h ++ leB 1 h.zo.toNat).length = 119 := by simp [l4, jH0]
 have he17 : kJ2 (enc4 h ++ leB 1 h.zo.toNat) [h.lon, h.lat] = enc5 h := by simp [kJ2, enc5]
 refine aR fun Z hZ => sM rfl rfl <| sFA0 kU7 ?_
 first | refine sL0 0 tyA3 tyS3 ?_
 refine sFA0 kU6 ?_
 first | refine sL0 0 tyA3 tyS3 ?_
 refine sBS0 Tryz.underlying247 tyS3 tyZ3 (fun g10 => ?_)
 refine jD7 [0, 2] [1] (kO0 g7 c7 _ (enc4 h ++ leB 1 h.zo.toNat) [h.lon, h.lat] (by omega) (by simp) (by simp; omega)) rfl rfl (by simp) rfl ?_
 rintro v H' ⟨g8, c8, rfl, rfl⟩
 refine jD5 ?_
 rw [he17]
 refine kM3 Tryz.underlying44 Tryz.underlying5 Tryz.underlying9 rfl (fun w hw => jV4 (i := 1) rfl hw) rfl <| sA rfl rfl <| sAN hZ rfl rfl <| f2K 2 3 rfl <| aE <| jF8 rfl rfl rfl (by simp [encV, hc0])
end Y
namespace Y
open Go.RowKit
def atL (l : List UInt8) (i n : Nat) : Nat := numL ((l.drop i).take n)
theorem zG2 (l : List UInt8) (i n : Nat) (hn : n ≤ 8) : atL l i n < 18446744073709551616 := by
 have h1 := kY2 ((l.drop i).take n)
 have h2 := wH3 (n := ((l.drop i).take n).length) (by simp; omega)
 unfold atL
 omega
theorem kZ1 (l p : List UInt8) : Fn Tryz.prog 126 [.string (str l), .string (str p)] [] fun v _ => v = .bool (decide (p.length ≤ l.length) && (l.take p.length == p)) := by
 refine Fn.enter (N := 18) Tryz.func126 rfl (by kernel_rfl) rfl (fun w0 => ?_)
 refine aA rfl rfl <| f2K 0 1 rfl <| jA3 [(4, .bool (decide (p.length ≤ l.length) && (l.take p.length == p)))] [] (fun Z hZ => ?_) ?_
 ·refine sM rfl rfl <| jD6 Tryz.underlying9 rfl rfl <| sM rfl rfl <| jD6 Tryz.underlying9 rfl rfl <| jO3 rfl rfl rfl <| sM rfl rfl <| jD0 10 rfl (fun hb5 => ?_) (fun hb5 => ?_)
  ·refine sOn0 ?_
   refine sM rfl rfl <| sOn0 ?_
   refine sM rfl rfl <| sOn0 ?_
   refine jD6 Tryz.underlying9 rfl rfl <| sOn0 ?_
   refine jL9 (l.take p.length) Tryz.underlying9 rfl rfl rfl (by omega) (by omega) (by simp at hb5; omega) (by simp) rfl ?_
   refine sOn0 ?_
   refine sM rfl rfl <| sOn0 ?_
   refine jU4 rfl rfl rfl <| sP rfl rfl rfl <| sA rfl rfl <| sN (hZ _ _ ?_ ?_)
   ·exact Kn.cons (congrArg some (congrArg Value.bool (by simp at hb5; first | (simp [hb5]; done) | (simp; intro; omega)))) Kn.nil
   ·exact HLe.refl _
  ·refine sO0 ?_
   refine sO0 ?_
   refine sO0 ?_
   refine sO0 ?_
   refine sO0 ?_
   refine sO0 ?_
   refine sP rfl rfl rfl <| sA rfl rfl <| sN (hZ _ _ ?_ ?_)
   ·exact Kn.cons (congrArg some (congrArg Value.bool (by simp at hb5; first | (simp []; done) | (simp; intro; omega)))) Kn.nil
   ·exact HLe.refl _
 refine aE <| nR10 rfl
theorem vF2 (l p : List UInt8) : Fn Tryz.prog 73 [.string (str l), .string (str p)] [] fun v _ => v = .bool (decide (p.length ≤ l.length) && (l.take p.length == p)) := by
 refine Fn.enter (N := 8) Tryz.func73 rfl (by kernel_rfl) rfl (fun w0 => ?_)
 refine aA rfl rfl <| f2K 0 1 rfl <| aR fun Z hZ => sM rfl rfl <| sM rfl rfl <| sCP0 (kZ1 l p) ?_
 refine sAN hZ rfl rfl <| f1K 4 rfl <| aE <| nR10 rfl
theorem wN2 : Enters Tryz.prog 127 := Enters.mk Tryz.func127 (by kernel_rfl) (by kernel_rfl)
abbrev yO2 (l : List UInt8) (p : Nat) : List Value := [.string (str l), .int .i64 (p : Int), .int .i64 0]
theorem yN6 (l : List UInt8) (p n : Nat) (hn : 1 ≤ n ∧ n ≤ 8) (hp : p + n ≤ l.length) (hl : l.length ≤ 9223372036854775807) :
  Fn Tryz.prog 127 [.agg (yO2 l p).toArray, .int .i64 (n : Int)] [] fun v _ => v = .tuple #[uq (atL l p n), .agg (yO2 l (p + n)).toArray] := by
 refine Fn.of_bel wN2 fun w => ?_
 have h := yQ8 (str l) (p : Int) 0 (n : Int) w (by rw [str_size]; unfold maxLen; omega)
 have hf : jN2 (n : Int) = true := by simp [jN2]; omega
 have hst : stands (str l) (p : Int) = true := by simp [stands, str_size]; omega
 have hE : jY2 (str l) (p : Int) 0 (n : Int) true = 0 := by
  unfold jY2
  rw [if_neg (by simp), if_neg (by simp [hst]), if_neg (by rw [str_size]; omega)]
 rw [hf] at h
 have hT : jZ3 (str l) (p : Int) 0 (n : Int) true = str ((l.drop p).take n) := by
  unfold jZ3
  rw [if_pos hE, show ((p : Int)).toNat = p by omega, show ((p : Int) + (n : Int)).toNat = p + n by omega, vJ5]
  congr 2
  omega
 have hP : kF5 (str l) (p : Int) 0 (n : Int) true = ((p + n : Nat) : Int) := by unfold kF5; rw [if_pos hE]; omega
 rw [hT, hP, hE, jX3] at h
 exact h
abbrev vB6 (g : Nat) (l : List UInt8) (p : Nat) : Ent := .own g 161 (yO2 l p)
theorem jN5 (g : Nat) (l : List UInt8) (p n : Nat) (hn : 1 ≤ n ∧ n ≤ 8) (hp : p + n ≤ l.length) (hl : l.length ≤ 9223372036854775807) :
  Fn Tryz.prog 75 [ptr g 0, .int .i64 (n : Int)] [vB6 g l p] fun v H' => v = uq (atL l p n) ∧ H' = [vB6 g l (p + n)] := by
 refine Fn.enter (N := 19) Tryz.func75 rfl (by kernel_rfl) rfl (fun w0 => ?_)
 refine aA rfl rfl <| f2K 0 1 rfl <| aA rfl rfl <| f2K 0 1 rfl <| aR fun Z hZ => sM rfl rfl <| sM rfl rfl <| jA0 ?_
 refine sFA0 vO8 ?_
 first | refine sLA0 0 tyA159 tyS159 ?_
 refine sM rfl rfl <| sCP0 (yN6 l p n hn hp hl) ?_
 refine sM rfl rfl <| sX rfl rfl rfl <| sX rfl rfl rfl <| sA rfl rfl <| jA0 ?_
 refine sFA0 vO8 ?_
 first | refine sS0 0 tyS159 ?_
 refine sN (hZ _ _ <| f1K 5 rfl <| aR fun Z hZ => sM rfl rfl <| sAN hZ rfl rfl <| f1K 4 rfl <| aE <| nR10 ⟨rfl, rfl⟩)
theorem jS7 (g : Nat) (l : List UInt8) (p : Nat) (hp : p + 16 ≤ l.length) (hl : l.length ≤ 9223372036854775807) :
  Fn Tryz.prog 74 [ptr g 0] [vB6 g l p] fun v H' => v = .agg #[uq (atL l p 8), uq (atL l (p + 8) 8)] ∧ H' = [vB6 g l (p + 16)] := by
 refine Fn.enter (N := 10) Tryz.func74 rfl (by kernel_rfl) rfl (fun w0 => ?_)
 refine aR (fun Z hZ => sAl tyZ66 rfl (fun g1 => sN (hZ _ _ <| f2K 0 2 rfl <| aR fun Z hZ => sM rfl rfl <| jD7 [1] [0] (jN5 g l p 8 (by omega) (by omega) hl) rfl rfl (by simp) rfl ?_)))
 rintro v H' ⟨rfl, rfl⟩
 refine jD5 ?_
 refine sAN hZ rfl rfl <| f3K 0 2 3 rfl <| aR fun Z hZ => sM rfl rfl <| sM rfl rfl <| jD7 [0] [1] (jN5 g l (p + 8) 8 (by omega) (by omega) hl) rfl rfl (by simp) rfl ?_
 rintro v H' ⟨rfl, rfl⟩
 refine jD5 ?_
 refine jD4 tyZ66 tyP66 ?_
 refine sS0 1 tyS66 ?_
 refine sN (hZ _ _ <| aE <| jC1 [vB6 g l (p + 16)] rfl (ResOk.cell 1 rfl rfl tyA66 tyS66 rfl) (HLe.pick [0] (by simp) rfl) ⟨rfl, rfl⟩)
theorem wN0 : Enters Tryz.prog 128 := Enters.mk Tryz.func128 (by kernel_rfl) (by kernel_rfl)
theorem zA9 (x n : Int) (hx : 0 ≤ x ∧ x < 18446744073709551616) : Fn Tryz.prog 128 [.int .u64 x, .int .i64 n] [] fun u _ => u = .tuple #[.int .i64 (sgnV x n), .int .i64 (sgnE n)] :=
 Fn.of_same wN0 fun w => vW3 x n w hx
def dgL (l : List UInt8) (i : Nat) : Int := sgnV (atL l i 4) 4
theorem jP9 (g : Nat) (l : List UInt8) (p : Nat) (hp : p + 4 ≤ l.length) (hl : l.length ≤ 9223372036854775807) :
  Fn Tryz.prog 76 [ptr g 0] [vB6 g l p] fun v H' => v = iq (dgL l p) ∧ H' = [vB6 g l (p + 4)] := by
 have hb := zG2 l p 4 (by omega)
 refine Fn.enter (N := 12) Tryz.func76 rfl (by kernel_rfl) rfl (fun w0 => ?_)
 refine aA rfl rfl <| f1K 0 rfl <| aR fun Z hZ => sM rfl rfl <| jD7 [0] [] (jN5 g l p 4 (by omega) (by omega) hl) rfl rfl (by simp) rfl ?_
 rintro v H' ⟨rfl, rfl⟩
 refine jD5 ?_
 refine sCP0 (zA9 (atL l p 4) 4 (by omega)) ?_
 refine sM rfl rfl <| sX rfl rfl rfl <| sX rfl rfl rfl <| sA rfl rfl <| sAN hZ rfl rfl <| f1K 3 rfl <| aR fun Z hZ => sM rfl rfl <| sAN hZ rfl rfl <| f1K 2 rfl <| aE <| nR10 ⟨rfl, rfl⟩
end Y
namespace Y
open Go.RowKit
def zeroH : Hdr := ⟨0, 0, 0, 0, 0, 0, 0, 0, 0, 0, 0, false, 0, 0, 0, 0, 0, 0, 0, 0, 0, 0, 0, 0⟩
def kD3 : List UInt8 := [80, 77, 84, 105, 108, 101, 115]
def decH (l : List UInt8) : Hdr :=
  ⟨atL l 8 8, atL l 16 8, atL l 24 8, atL l 32 8, atL l 40 8, atL l 48 8, atL l 56 8, atL l 64 8, atL l 72 8, atL l 80 8, atL l 88 8, decide (atL l 96 1 = 1),
   atL l 97 1, atL l 98 1, atL l 99 1, atL l 100 1, atL l 101 1, dgL l 102, dgL l 106, dgL l 110, dgL l 114, atL l 118 1, dgL l 119, dgL l 123⟩
def decE (l : List UInt8) : Int :=
 if l.length < 127 then 3 else if l.take 7 ≠ kD3 then 12 else if l[7]? ≠ some 3 then 13 else if 1 < atL l 96 1 then 4 else jG0 (decH l)
def decV (l : List UInt8) : Hdr := if decE l = 0 then decH l else zeroH
theorem vV0 (l : List UInt8) (i : Nat) : atL l i 1 < 256 := by
 have h1 := kY2 ((l.drop i).take 1)
 unfold atL
 have h2 : ((l.drop i).take 1).length ≤ 1 := by simp; omega
 have : 256 ^ ((l.drop i).take 1).length ≤ 256 ^ 1 := z7 (by omega) h2
 omega
set_option maxHeartbeats 1000000 in
theorem kS0 (l : List UInt8) (hl : l.length ≤ 9223372036854775807) : Fn Tryz.prog 30 [.string (str l)] [] fun v _ => v = .tuple #[(decV l).val, .int .i64 (decE l)] := by
 have hz : ∀ e : Int, decE l = e → e ≠ 0 → (Value.tuple #[zeroH.val, .int .i64 e] : Value) = .tuple #[(decV l).val, .int .i64 (decE l)] := fun e he h0 => by
  have : decV l = zeroH := by unfold decV; rw [if_neg (by omega)]
  rw [this, he]
 refine Fn.enter (N := 105) Tryz.func30 rfl (by kernel_rfl) rfl (fun w0 => ?_)
 refine aR (fun Z hZ => sAl tyZ68 rfl (fun g1 => sAN hZ rfl rfl <| f2K 0 2 rfl <| aS (aB <| aR fun Z hZ => sM rfl rfl <| jD6 Tryz.underlying9 rfl rfl <| jB2 ?_)))
 refine sAN hZ rfl rfl <| f3K 0 2 8 rfl <| aC0 (fun h11 => ?_) (fun h11 => ?_)
 ·refine aR (fun Z hZ => jD4 tyZ68 tyP68 ?_)
  first | refine sS0 0 tyS68 ?_
  refine sAN hZ rfl rfl <| aE ?_
  repeat (with_reducible (first | refine nTR ?_ | refine nBR ?_))
  exact jF8 rfl (ResOk.cell 0 rfl rfl tyA68 tyS68 rfl) rfl (hz 3 (by simp at h11; unfold decE; rw [if_pos (by omega)]) (by omega))
 have h127 : 127 ≤ l.length := by simp at h11; omega
 refine aR fun Z hZ => sM rfl rfl <| sCP0 (vF2 l kD3) ?_
 refine jI8 rfl rfl <| sAN hZ rfl rfl <| f3K 0 2 13 rfl <| aC0 (fun h16 => ?_) (fun h16 => ?_)
 ·refine aR (fun Z hZ => jD4 tyZ68 tyP68 ?_)
  first | refine sS0 0 tyS68 ?_
  refine sAN hZ rfl rfl <| aE ?_
  repeat (with_reducible (first | refine nTR ?_ | refine nBR ?_))
  exact jF8 rfl (ResOk.cell 0 rfl rfl tyA68 tyS68 rfl) rfl (hz 12 (by
   have h7 : l.take 7 ≠ kD3 := by intro e; simp [kD3] at h16 e; rcases h16 with h16 | h16; omega; exact h16 e
   unfold decE; rw [if_neg (by omega), if_pos h7]) (by omega))
 have h7 : l.take 7 = kD3 := by simp [kD3] at h16 ⊢; exact h16.2
 obtain ⟨c7, hc7⟩ : ∃ c, l[7]? = some c := ⟨l[7]'(by omega), by simp [show 7 < l.length by omega]⟩
 refine aR fun Z hZ => sM rfl rfl <| jK4 Tryz.underlying9 rfl rfl (by omega) hc7 rfl ?_
 refine jC7 ?_
 refine sAN hZ rfl rfl <| f3K 0 2 18 rfl <| aC0 (fun h20 => ?_) (fun h20 => ?_)
 ·refine aR (fun Z hZ => jD4 tyZ68 tyP68 ?_)
  first | refine sS0 0 tyS68 ?_
  refine sAN hZ rfl rfl <| aE ?_
  repeat (with_reducible (first | refine nTR ?_ | refine nBR ?_))
  exact jF8 rfl (ResOk.cell 0 rfl rfl tyA68 tyS68 rfl) rfl (hz 13 (by
   have h3 : l[7]? ≠ some 3 := by rw [hc7]; intro e; obtain rfl := lV e; simp at h20
   unfold decE; rw [if_neg (by omega), if_neg (by simp [h7]), if_pos h3]) (by omega))
 have h3 : l[7]? = some 3 := by
  rw [hc7]
  have : (c7.toNat : Int) = 3 := by simpa using h20
  exact congrArg some (UInt8.toNat_inj.1 (by simp; omega))
 refine aK ?_
 repeat refine nBN ?_
 refine nN <| aR fun Z hZ => sM rfl rfl <| jD4 tyZ159 tyP159 ?_
 refine jD4 tyZ161 tyP161 ?_
 refine jB5 (fun g2 => ?_)
 refine sAN hZ rfl rfl <| f2K 2 4 rfl <| aR (fun Z hZ => sAl tyZ68 rfl (fun g3 => sN (hZ _ _ <| f3K 2 4 5 rfl <| jA6 [vB6 _ l 8, .own _ 68 zeroH.cells, .own _ 68 zeroH.cells] (HLe.pick [1, 0, 2] (by simp) rfl) ?_)))
 refine aR fun Z hZ => sM rfl rfl <| jD7 [0] [1, 2] (jS7 _ l 8 (by omega) hl) rfl rfl (by simp) rfl ?_
 rintro v H' ⟨rfl, rfl⟩
 refine jD5 ?_
 refine sM rfl rfl <| jD7 [0] [1, 2] (jS7 _ l 24 (by omega) hl) rfl rfl (by simp) rfl ?_
 rintro v H' ⟨rfl, rfl⟩
 refine jD5 ?_
 refine sM rfl rfl <| jD7 [0] [1, 2] (jS7 _ l 40 (by omega) hl) rfl rfl (by simp) rfl ?_
 rintro v H' ⟨rfl, rfl⟩
 refine jD5 ?_
 refine sM rfl rfl <| jD7 [0] [1, 2] (jS7 _ l 56 (by omega) hl) rfl rfl (by simp) rfl ?_
 rintro v H' ⟨rfl, rfl⟩
 refine jD5 ?_
 refine sFA0 jZ0 ?_
 refine sS0 1 tyS66 ?_
 refine sFA0 kF3 ?_
 refine sS0 1 tyS66 ?_
 refine sFA0 kF2 ?_
 refine sS0 1 tyS66 ?_
 refine sFA0 kF1 ?_
 refine sS0 1 tyS66 ?_
 refine sN (hZ _ _ <| f3K 2 4 5 rfl <| aR fun Z hZ => sM rfl rfl <| jD7 [0] [1, 2] (jN5 _ l 72 8 (by omega) (by omega) hl) rfl rfl (by simp) rfl ?_)
 rintro v H' ⟨rfl, rfl⟩
 refine jD5 ?_
 refine sM rfl rfl <| jD7 [0] [1, 2] (jN5 _ l 80 8 (by omega) (by omega) hl) rfl rfl (by simp) rfl ?_
 rintro v H' ⟨rfl, rfl⟩
 refine jD5 ?_
 refine sM rfl rfl <| jD7 [0] [1, 2] (jN5 _ l 88 8 (by omega) (by omega) hl) rfl rfl (by simp) rfl ?_
 rintro v H' ⟨rfl, rfl⟩
 refine jD5 ?_
 refine sFA0 vI5 ?_
 refine sS10 1 tyS25 ?_
 refine sFA0 vI4 ?_
 refine sS10 1 tyS25 ?_
 refine sFA0 vI3 ?_
 refine sS10 1 tyS25 ?_
 refine sN (hZ _ _ <| f3K 2 4 5 rfl <| aR fun Z hZ => sM rfl rfl <| jD7 [0] [1, 2] (jN5 _ l 96 1 (by omega) (by omega) hl) rfl rfl (by simp) rfl ?_)
 rintro v H' ⟨rfl, rfl⟩
 refine jD5 ?_
 refine sAN hZ rfl rfl <| f4K 2 4 5 6 rfl <| aS <| aR fun Z hZ => sM rfl rfl <| jC4 ?_
 refine sN (hZ _ _ <| f5K 2 4 5 6 51 rfl <| aC0 (fun h51 => ?_) (fun h51 => ?_))
 ·refine aR (fun Z hZ => jD4 tyZ68 tyP68 ?_)
  refine sS0 2 tyS68 ?_
  refine sAN hZ rfl rfl <| aE ?_
  repeat refine nTR ?_
  exact jF8 rfl (ResOk.cell 2 rfl rfl tyA68 tyS68 rfl) rfl (hz 4 (by
   have : 1 < atL l 96 1 := by simp at h51; omega
   unfold decE; rw [if_neg (by omega), if_neg (by simp [h7]), if_neg (by simp [h3]), if_pos this]) (by omega))
 refine aK <| nN ?_
 have h96 : ¬ 1 < atL l 96 1 := by simp at h51; omega
 have hcl : ((atL l 96 1 : Int) == 1) = (decH l).cl := by rw [lR]; simp [decH]; omega
 have hu : ∀ i, IntKind.u8.wrap ((atL l i 1 : Nat) : Int) = ((atL l i 1 : Nat) : Int) := fun i => IntWalk.u8_in _ (by have := vV0 l i; omega)
 have hi : ∀ i, IntKind.i64.wrap ((atL l i 1 : Nat) : Int) = ((atL l i 1 : Nat) : Int) := fun i => lT _ (by have := vV0 l i; omega)
 refine aR fun Z hZ => sM rfl rfl <| jB0 ?_
 rw [hcl]
 refine sFA0 vI2 ?_
 refine sS10 1 tyS4 ?_
 refine sN (hZ _ _ <| f3K 2 4 5 rfl <| aR fun Z hZ => sM rfl rfl <| jD7 [0] [1, 2] (jN5 _ l 97 1 (by omega) (by omega) hl) rfl rfl (by simp) rfl ?_)
 rintro v H' ⟨rfl, rfl⟩
 refine jD5 ?_
 refine jB7 Tryz.underlying25 Tryz.underlying5 rfl _ (hu 97) rfl <| sM rfl rfl <| jD7 [0] [1, 2] (jN5 _ l 98 1 (by omega) (by omega) hl) rfl rfl (by simp) rfl ?_
 rintro v H' ⟨rfl, rfl⟩
 refine jD5 ?_
 refine jB7 Tryz.underlying25 Tryz.underlying5 rfl _ (hu 98) rfl <| sM rfl rfl <| jD7 [0] [1, 2] (jN5 _ l 99 1 (by omega) (by omega) hl) rfl rfl (by simp) rfl ?_
 rintro v H' ⟨rfl, rfl⟩
 refine jD5 ?_
 refine jB7 Tryz.underlying25 Tryz.underlying5 rfl _ (hu 99) rfl <| sFA0 kU5 ?_
 refine sS10 1 tyS5 ?_
 refine sFA0 kU4 ?_
 refine sS10 1 tyS5 ?_
 refine sFA0 kU8 ?_
 refine sS10 1 tyS5 ?_
 refine sN (hZ _ _ <| f3K 2 4 5 rfl <| aR fun Z hZ => sM rfl rfl <| jD7 [0] [1, 2] (jN5 _ l 100 1 (by omega) (by omega) hl) rfl rfl (by simp) rfl ?_)
 rintro v H' ⟨rfl, rfl⟩
 refine jD5 ?_
 refine jB7 Tryz.underlying25 Tryz.underlying3 rfl _ (hi 100) rfl <| sM rfl rfl <| jD7 [0] [1, 2] (jN5 _ l 101 1 (by omega) (by omega) hl) rfl rfl (by simp) rfl ?_
 rintro v H' ⟨rfl, rfl⟩
 refine jD5 ?_
 refine jB7 Tryz.underlying25 Tryz.underlying3 rfl _ (hi 101) rfl <| sFA0 jS6 ?_
 refine sS10 1 tyS3 ?_
 refine sFA0 jW8 ?_
 refine sS10 1 tyS3 ?_
 refine sN (hZ _ _ <| f3K 2 4 5 rfl <| aR fun Z hZ => sM rfl rfl <| jD7 [0] [1, 2] (jP9 _ l 102 (by omega) hl) rfl rfl (by simp) rfl ?_)
 rintro v H' ⟨rfl, rfl⟩
 refine jD5 ?_
 refine sM rfl rfl <| jD7 [0] [1, 2] (jP9 _ l 106 (by omega) hl) rfl rfl (by simp) rfl ?_
 rintro v H' ⟨rfl, rfl⟩
 refine jD5 ?_
 refine sM rfl rfl <| jD7 [0] [1, 2] (jP9 _ l 110 (by omega) hl) rfl rfl (by simp) rfl ?_
 rintro v H' ⟨rfl, rfl⟩
 refine jD5 ?_
 refine sM rfl rfl <| jD7 [0] [1, 2] (jP9 _ l 114 (by omega) hl) rfl rfl (by simp) rfl ?_
 rintro v H' ⟨rfl, rfl⟩
 refine jD5 ?_
 refine sFA0 kB5 ?_
 refine sS10 1 tyS3 ?_
 refine sFA0 kB4 ?_
 refine sS10 1 tyS3 ?_
 refine sFA0 kB3 ?_
 refine sS10 1 tyS3 ?_
 refine sFA0 kB2 ?_
 refine sS10 1 tyS3 ?_
 refine sN (hZ _ _ <| f3K 2 4 5 rfl <| aR fun Z hZ => sM rfl rfl <| jD7 [0] [1, 2] (jN5 _ l 118 1 (by omega) (by omega) hl) rfl rfl (by simp) rfl ?_)
 rintro v H' ⟨rfl, rfl⟩
 refine jD5 ?_
 refine jB7 Tryz.underlying25 Tryz.underlying3 rfl _ (hi 118) rfl <| sM rfl rfl <| jD7 [0] [1, 2] (jP9 _ l 119 (by omega) hl) rfl rfl (by simp) rfl ?_
 rintro v H' ⟨rfl, rfl⟩
 refine jD5 ?_
 refine sM rfl rfl <| jD7 [0] [1, 2] (jP9 _ l 123 (by omega) hl) rfl rfl (by simp) rfl ?_
 rintro v H' ⟨rfl, rfl⟩
 refine jD5 ?_
 refine sFA0 kJ4 ?_
 refine sS10 1 tyS3 ?_
 refine sFA0 kU7 ?_
 refine sS10 1 tyS3 ?_
 refine sFA0 kU6 ?_
 refine sS10 1 tyS3 ?_
 refine sN (hZ _ _ <| f2K 2 5 rfl <| jA6 [.own g3 68 (decH l).cells, .own g1 68 zeroH.cells] (HLe.pick [1, 2] (by simp) rfl) ?_)
 refine aS <| aR (fun Z hZ => sLA0 0 tyA68 tyS68 ?_)
 refine sCP0 (kO1 (decH l)) ?_
 refine sAN hZ rfl rfl <| f3K 2 5 7 rfl <| aR fun Z hZ => sM rfl rfl <| jC7 ?_
 refine sN (hZ _ _ <| f4K 2 5 7 101 rfl ?_)
 have hE : decE l = jG0 (decH l) := by unfold decE; rw [if_neg (by omega), if_neg (by simp [h7]), if_neg (by simp [h3]), if_neg h96]
 refine aC0 (fun h101 => ?_) (fun h101 => ?_)
 ·refine aR (fun Z hZ => jD4 tyZ68 tyP68 ?_)
  refine sM rfl rfl <| sS0 1 tyS68 ?_
  refine sAN hZ rfl rfl <| aE ?_
  repeat refine nTR ?_
  have hne : ¬ jG0 (decH l) = 0 := by simpa using h101
  exact jF8 rfl (ResOk.cell 1 rfl rfl tyA68 tyS68 rfl) rfl (hz _ hE hne)
 refine aK <| nN ?_
 have hc0 : jG0 (decH l) = 0 := by simpa using h101
 refine aR (fun Z hZ => sLA0 0 tyA68 tyS68 ?_)
 refine sS0 1 tyS68 ?_
 refine sAN hZ rfl rfl <| aE <| jF8 rfl (ResOk.cell 1 rfl rfl tyA68 tyS68 rfl) rfl ?_
 have : decV l = decH l := by unfold decV; rw [hE, if_pos hc0]
 rw [this, hE, hc0]
 rfl
end Y
namespace Y
open Go.RowKit
end Y
namespace Y
open Go.RowKit
end Y
namespace Y
open Go.RowKit
end Y
namespace Y
open Go.RowKit
theorem vR9 : ∀ n x, numL (leB n x) = x % 256 ^ n
 | 0, x => by simp [leB, numL, Nat.mod_one]
 | n + 1, x => by
  have h : (UInt8.ofNat (x % 256)).toNat = x % 256 := by simp
  rw [leB, numL, h, vR9 n, qY, qN (256 ^ n) 256, Nat.mod_mul]
def flat : List (Nat × Nat) → List UInt8
 | [] => []
 | (n, x) :: r => leB n x ++ flat r
theorem yE4 (p t : List UInt8) (n x : Nat) : atL (p ++ (leB n x ++ t)) p.length n = x % 256 ^ n := by
 unfold atL
 rw [List.drop_left, List.take_append_of_le_length (by rw [jH0]; omega), qZ (by rw [jH0]; omega), vR9]
theorem vU9 (t : List UInt8) : ∀ (fs : List (Nat × Nat)) (p : List UInt8) (k n x : Nat), fs[k]? = some (n, x) → atL (p ++ (flat fs ++ t)) (p.length + ((fs.take k).map Prod.fst).sum) n = x % 256 ^ n
 | [], _, _, _, _, h => by simp at h
 | (m, y) :: r, p, 0, n, x, h => by
  simp at h
  obtain ⟨rfl, rfl⟩ := h
  simp only [qS, qJ, List.sum_nil, flat, xF]
  exact yE4 _ _ _ _
 | (m, y) :: r, p, k + 1, n, x, h => by
  have := vU9 t r (p ++ leB m y) k n x (by simpa using h)
  rw [lX, jH0] at this
  rw [lJ, xN, List.sum_cons, ← qI]
  simpa [flat, xF] using this
def uv4 (v : Int) : Nat := (unsV v 4).toNat
def fld (h : Hdr) : List (Nat × Nat) :=
 [(8, h.r0), (8, h.r1), (8, h.m0), (8, h.m1), (8, h.l0), (8, h.l1), (8, h.d0), (8, h.d1), (8, h.ad), (8, h.en), (8, h.co), (1, clN h), (1, h.ic), (1, h.oc), (1, h.ki), (1, h.z0.toNat), (1, h.z1.toNat),
  (4, uv4 h.lo0), (4, uv4 h.la0), (4, uv4 h.lo1), (4, uv4 h.la1), (1, h.zo.toNat), (4, uv4 h.lon), (4, uv4 h.lat)]
def mag8 : List UInt8 := [80, 77, 84, 105, 108, 101, 115, 3]
theorem kZ6 (h : Hdr) : enc5 h = mag8 ++ flat (fld h) := by
 simp only [enc5, enc4, enc3, enc2, enc1, secB, sgB, flat, fld, mag8, uv4, xF, lH]
theorem jG8 (h : Hdr) (t : List UInt8) (k : Nat) {n x i : Nat} (hk : (fld h)[k]? = some (n, x)) (hi : 8 + (((fld h).take k).map Prod.fst).sum = i) (hx : x < 256 ^ n) : atL (enc5 h ++ t) i n = x := by
 rw [kZ6, xF, ← hi]
 exact (vU9 t (fld h) mag8 k n x hk).trans (zU hx)
theorem wA9 {v : Int} (hv : -1800000000 ≤ v ∧ v ≤ 1800000000) : unsV v 4 = v % 4294967296 := by
 have h1 : unsE v 4 = 0 := by
  unfold unsE
  rw [if_pos (by omega), if_pos (by simp only [show (8 * (4 : Int) - 1).toNat = 31 from rfl]; omega)]
 unfold unsV
 rw [if_pos h1]
 rfl
theorem vV5 (v : Int) : uv4 v < 256 ^ 4 := by have := yL2 v; unfold uv4; omega
theorem kQ8 {v : Int} (hv : -1800000000 ≤ v ∧ v ≤ 1800000000) : sgnV (uv4 v : Int) 4 = v := by
 unfold uv4 sgnV
 rw [wA9 hv, if_pos (by omega)]
 simp only [show (8 * (4 : Int) - 1).toNat = 31 from rfl, show (8 * (4 : Int)).toNat = 32 from rfl]
 omega
theorem wO7 {h : Hdr} (hk : h.Ok) (hc : jG0 h = 0) (t : List UInt8) : decH (enc5 h ++ t) = h ∧ decE (enc5 h ++ t) = 0 := by
 obtain ⟨_, ⟨c1, c2, c3⟩, ⟨⟨z0a, z0b⟩, ⟨z1a, z1b⟩, ⟨zoa, zob⟩, _⟩, ⟨lo0, lo1, lon, _⟩, ⟨la0, la1, lat, _⟩⟩ := vU4 hc
 have hcl : clN h ≤ 1 := by unfold clN; split <;> omega
 have e96 : atL (enc5 h ++ t) 96 1 = clN h := jG8 h t 11 (by kernel_rfl) (by kernel_rfl) (by omega)
 have hH : decH (enc5 h ++ t) = h := by
  have q1 := hk.r0
  have q2 := hk.r1
  have q3 := hk.m0
  have q4 := hk.m1
  have q5 := hk.l0
  have q6 := hk.l1
  have q7 := hk.d0
  have q8 := hk.d1
  have q9 := hk.ad
  have q10 := hk.en
  have q11 := hk.co
  have e8 : atL (enc5 h ++ t) 8 8 = h.r0 := jG8 h t 0 (by kernel_rfl) (by kernel_rfl) (by omega)
  have e16 : atL (enc5 h ++ t) 16 8 = h.r1 := jG8 h t 1 (by kernel_rfl) (by kernel_rfl) (by omega)
  have e24 : atL (enc5 h ++ t) 24 8 = h.m0 := jG8 h t 2 (by kernel_rfl) (by kernel_rfl) (by omega)
  have e32 : atL (enc5 h ++ t) 32 8 = h.m1 := jG8 h t 3 (by kernel_rfl) (by kernel_rfl) (by omega)
  have e40 : atL (enc5 h ++ t) 40 8 = h.l0 := jG8 h t 4 (by kernel_rfl) (by kernel_rfl) (by omega)
  have e48 : atL (enc5 h ++ t) 48 8 = h.l1 := jG8 h t 5 (by kernel_rfl) (by kernel_rfl) (by omega)
  have e56 : atL (enc5 h ++ t) 56 8 = h.d0 := jG8 h t 6 (by kernel_rfl) (by kernel_rfl) (by omega)
  have e64 : atL (enc5 h ++ t) 64 8 = h.d1 := jG8 h t 7 (by kernel_rfl) (by kernel_rfl) (by omega)
  have e72 : atL (enc5 h ++ t) 72 8 = h.ad := jG8 h t 8 (by kernel_rfl) (by kernel_rfl) (by omega)
  have e80 : atL (enc5 h ++ t) 80 8 = h.en := jG8 h t 9 (by kernel_rfl) (by kernel_rfl) (by omega)
  have e88 : atL (enc5 h ++ t) 88 8 = h.co := jG8 h t 10 (by kernel_rfl) (by kernel_rfl) (by omega)
  have e97 : atL (enc5 h ++ t) 97 1 = h.ic := jG8 h t 12 (by kernel_rfl) (by kernel_rfl) (by omega)
  have e98 : atL (enc5 h ++ t) 98 1 = h.oc := jG8 h t 13 (by kernel_rfl) (by kernel_rfl) (by omega)
  have e99 : atL (enc5 h ++ t) 99 1 = h.ki := jG8 h t 14 (by kernel_rfl) (by kernel_rfl) (by omega)
  have e100 : atL (enc5 h ++ t) 100 1 = h.z0.toNat := jG8 h t 15 (by kernel_rfl) (by kernel_rfl) (by omega)
  have e101 : atL (enc5 h ++ t) 101 1 = h.z1.toNat := jG8 h t 16 (by kernel_rfl) (by kernel_rfl) (by omega)
  have e102 : atL (enc5 h ++ t) 102 4 = uv4 h.lo0 := jG8 h t 17 (by kernel_rfl) (by kernel_rfl) (vV5 _)
  have e106 : atL (enc5 h ++ t) 106 4 = uv4 h.la0 := jG8 h t 18 (by kernel_rfl) (by kernel_rfl) (vV5 _)
  have e110 : atL (enc5 h ++ t) 110 4 = uv4 h.lo1 := jG8 h t 19 (by kernel_rfl) (by kernel_rfl) (vV5 _)
  have e114 : atL (enc5 h ++ t) 114 4 = uv4 h.la1 := jG8 h t 20 (by kernel_rfl) (by kernel_rfl) (vV5 _)
  have e118 : atL (enc5 h ++ t) 118 1 = h.zo.toNat := jG8 h t 21 (by kernel_rfl) (by kernel_rfl) (by omega)
  have e119 : atL (enc5 h ++ t) 119 4 = uv4 h.lon := jG8 h t 22 (by kernel_rfl) (by kernel_rfl) (vV5 _)
  have e123 : atL (enc5 h ++ t) 123 4 = uv4 h.lat := jG8 h t 23 (by kernel_rfl) (by kernel_rfl) (vV5 _)
  unfold decH dgL
  rw [e8, e16, e24, e32, e40, e48, e56, e64, e72, e80, e88, e96, e97, e98, e99, e100, e101, e102, e106, e110, e114, e118, e119, e123, kQ8 (by omega), kQ8 (by omega), kQ8 (by omega), kQ8 (by omega), kQ8 (by omega), kQ8 (by omega), Int.toNat_of_nonneg z0a, Int.toNat_of_nonneg z1a, Int.toNat_of_nonneg zoa]
  have : decide (clN h = 1) = h.cl := by unfold clN; cases h.cl <;> simp
  rw [this]
 refine ⟨hH, ?_⟩
 have hl := kA7 h
 unfold decE
 rw [hH, e96, if_neg (by rw [lX]; omega), if_neg, if_neg, if_neg (by omega), hc]
 ·rw [kZ6]; simp [mag8]
 ·rw [kZ6]; simp [mag8, kD3]
theorem yC7 {h : Hdr} (hk : h.Ok) (hc : jG0 h = 0) (t : List UInt8) : decV (encV h ++ t) = h ∧ decE (encV h ++ t) = 0 := by
 unfold encV decV
 rw [if_pos hc, (wO7 hk hc t).2, if_pos rfl, (wO7 hk hc t).1]
 exact ⟨rfl, rfl⟩
theorem yV6 {l : List UInt8} (h : decE l = 0) : 127 ≤ l.length ∧ l.take 7 = kD3 ∧ l[7]? = some 3 ∧ atL l 96 1 ≤ 1 ∧ jG0 (decH l) = 0 := by
 unfold decE at h
 by_cases h1 : l.length < 127
 ·simp [h1] at h
 by_cases h2 : l.take 7 ≠ kD3
 ·simp [h1, h2] at h
 by_cases h3 : l[7]? ≠ some 3
 ·simp [h1, h2, h3] at h
 by_cases h4 : 1 < atL l 96 1
 ·simp [h1, h2, h3, h4] at h
 rw [if_neg h1, if_neg h2, if_neg h3, if_neg h4] at h
 exact ⟨by omega, Classical.byContradiction h2, Classical.byContradiction h3, by omega, h⟩
end Y
section
open Go.RowKit
theorem zI1 : Lays.n156 Tryz.prog jM4 where
 mixed := by kernel_rfl
 f156 := by kernel_rfl
 f165 := by kernel_rfl
 f166 := by kernel_rfl
 f169 := by kernel_rfl
 f240 := by kernel_rfl
 f241 := by kernel_rfl
 f276 := by kernel_rfl
 f277 := by kernel_rfl
 t0 := by kernel_rfl
 a0 := fun w => by kernel_rfl
 z0 := fun w => by kernel_rfl
 v0 := fun w => by kernel_rfl
 t3 := by kernel_rfl
 a3 := fun w => by kernel_rfl
 z3 := fun w => by kernel_rfl
 v3 := fun w => by kernel_rfl
 t4 := by kernel_rfl
 a4 := fun w => by kernel_rfl
 z4 := fun w => by kernel_rfl
 v4 := fun w => by kernel_rfl
 t9 := by kernel_rfl
 a9 := fun w => by kernel_rfl
 z9 := fun w => by kernel_rfl
 v9 := fun w => by kernel_rfl
 t20 := by kernel_rfl
 a20 := fun w => by kernel_rfl
 z20 := fun w => by kernel_rfl
 v20 := fun w => by kernel_rfl
 t31 := by kernel_rfl
 a31 := fun w => by kernel_rfl
 z31 := fun w => by kernel_rfl
 v31 := fun w => by kernel_rfl
 t37 := by kernel_rfl
 a37 := fun w => by kernel_rfl
 z37 := fun w => by kernel_rfl
 v37 := fun w => by kernel_rfl
 t70 := by kernel_rfl
 a70 := fun w => by kernel_rfl
 z70 := fun w => by kernel_rfl
 v70 := fun w => by kernel_rfl
 t72 := by kernel_rfl
 a72 := fun w => by kernel_rfl
 z72 := fun w => by kernel_rfl
 v72 := fun w => by kernel_rfl
 t75 := by kernel_rfl
 a75 := fun w => by kernel_rfl
 z75 := fun w => by kernel_rfl
 v75 := fun w => by kernel_rfl
 t76 := by kernel_rfl
 a76 := fun w => by kernel_rfl
 z76 := fun w => by kernel_rfl
 v76 := fun w => by kernel_rfl
 t127 := by kernel_rfl
 a127 := fun w => by kernel_rfl
 z127 := fun w => by kernel_rfl
 v127 := fun w => by kernel_rfl
 t164 := by kernel_rfl
 a164 := fun w => by kernel_rfl
 z164 := fun w => by kernel_rfl
 v164 := fun w => by kernel_rfl
theorem zI0 : Builder.Extra Tryz.prog jM4 where
 sizeBuilder := by kernel_rfl
 liesBuilder := by kernel_rfl
 t5 := by kernel_rfl
 a5 := fun w => by kernel_rfl
 z5 := fun w => by kernel_rfl
 v5 := fun w => by kernel_rfl
 infoByte := by kernel_rfl
 cellsByte := by kernel_rfl
 sizeByte := by kernel_rfl
 neB5 := by decide
theorem vY5 : Enters Tryz.prog 60 := Enters.mk Tryz.func60 (by kernel_rfl) (by kernel_rfl)
theorem yA5 (bk o c : Nat) (xs : List (List UInt8)) (sep : List UInt8) (w : World)
  (hcells : ∀ (j : Nat) x, xs[j]? = some x → w.cell? ⟨bk, o + j, none⟩ = some (.string (str x)))
  (hbk : bk < w.heap.size) (hN : xs.length ≤ 140737488355328) (hcap : xs.length ≤ c) (hlen : (Lib.join xs sep).length ≤ 140737488355328) :
  Calls Tryz.prog 60 #[.slice (some ⟨bk, o, none⟩) xs.length c, .string (str sep)] w fun e w' => e = .returned (.string (str (Lib.join xs sep))) ∧ Bel w w' := by
 have e : (xs.map str).map (fun (x : ByteArray) => x.data.toList) = xs := by
  rw [uJ]
  conv => rhs; rw [← List.map_id xs]
  exact List.map_congr_left fun l _ => by simp [str]
 have h := Any.strings_Join zI1 zI0 bk o c (xs.map str) (str sep) w (fun j x hx => by
  rw [xR] at hx
  cases hj : xs[j]? with
  | none => rw [hj] at hx; cases hx
  | some y => rw [hj] at hx; rw [← lV hx]; exact hcells j y hj) hbk (by simpa using hN) (by simpa using hcap) (by rw [e]; simpa [str] using hlen)
 rw [e, zG] at h
 exact h
end
namespace Y
open Go.RowKit
def vJ8 (a b c d : Nat) : Bool := decide (127 + a + b + c + d ≤ 1099511627776)
def wS6 : List Value := [uq 0, uq 0, uq 0, uq 0, uq 0, uq 0, uq 0, uq 0]
def secC (a b c d : Nat) : List Value := if vJ8 a b c d = true then [uq 127, uq a, uq (127 + a), uq b, uq (127 + a + b), uq c, uq (127 + a + b + c), uq d] else wS6
def secN (a b c d : Nat) : Nat := if vJ8 a b c d = true then 127 + a + b + c + d else 0
def secE (a b c d : Nat) : Int := if vJ8 a b c d = true then 0 else 8
def atK (a b c d : Nat) : Nat → Nat
 | 0 => 127 | 1 => 127 + a | 2 => 127 + a + b | 3 => 127 + a + b + c | _ => 127 + a + b + c + d
def lnK (a b c d : Nat) : Nat → Nat
 | 0 => a | 1 => b | 2 => c | _ => d
def outK (a b c d : Nat) : Nat → List Value
 | 0 => wS6
 | 1 => [uq 127, uq a, uq 0, uq 0, uq 0, uq 0, uq 0, uq 0]
 | 2 => [uq 127, uq a, uq (127 + a), uq b, uq 0, uq 0, uq 0, uq 0]
 | 3 => [uq 127, uq a, uq (127 + a), uq b, uq (127 + a + b), uq c, uq 0, uq 0]
 | _ => [uq 127, uq a, uq (127 + a), uq b, uq (127 + a + b), uq c, uq (127 + a + b + c), uq d]
theorem four {k : Nat} (h : k < 4) : k = 0 ∨ k = 1 ∨ k = 2 ∨ k = 3 := by omega
section
variable (a b c d : Nat) {k : Nat}
theorem zH8 (h : k < 4) : rdV false 1 [uq a, uq b, uq c, uq d] k = some (uq (lnK a b c d k)) := by obtain rfl | rfl | rfl | rfl := four h <;> rfl
theorem out_wr (h : k < 4) : wrV (outK a b c d k) (k * 2) [uq (atK a b c d k), uq (lnK a b c d k)] = outK a b c d (k + 1) := by obtain rfl | rfl | rfl | rfl := four h <;> rfl
theorem out_len : (outK a b c d k).length = 8 := by unfold outK; split <;> rfl
theorem yX3 (h : k < 4) : atK a b c d (k + 1) = atK a b c d k + lnK a b c d k := by obtain rfl | rfl | rfl | rfl := four h <;> rfl
theorem zJ0 (h : k ≤ 4) : atK a b c d k ≤ 127 + a + b + c + d := by
 obtain rfl | rfl | rfl | rfl | rfl : k = 0 ∨ k = 1 ∨ k = 2 ∨ k = 3 ∨ k = 4 := by omega
 all_goals simp [atK]
 all_goals omega
theorem zH9 (h : k < 4) : lnK a b c d k ≤ a + b + c + d := by obtain rfl | rfl | rfl | rfl := four h <;> simp [lnK] <;> omega
end
theorem vJ7 (a b c d : Nat) (h4 : a < 18446744073709551616 ∧ b < 18446744073709551616 ∧ c < 18446744073709551616 ∧ d < 18446744073709551616) :
  Fn Tryz.prog 57 [.agg #[uq a, uq b, uq c, uq d]] [] fun v _ => v = .tuple #[.agg (secC a b c d).toArray, uq (secN a b c d), iq (secE a b c d)] := by
 refine Fn.enter (N := 30) Tryz.func57 rfl (by kernel_rfl) rfl (fun w0 => ?_)
 refine aR (fun Z hZ => jB5 (fun g1 => ?_))
 refine sAl tyZ133 rfl (fun g2 => sA rfl rfl <| sAN hZ rfl rfl <| f2K 1 2 rfl <| aR (fun Z hZ => sAl tyZ133 rfl (fun g3 => sN (hZ _ _ <| f3K 1 2 5 rfl <| aA rfl rfl <| f4K 1 2 5 6 rfl <| aS ?_))))
 refine aR (fun Z hZ => sLA0 2 tyA132 tyS132 ?_)
 refine sMN hZ rfl rfl <| f5K 2 5 6 9 10 rfl <| aB ?_
 refine jB9 (ι := Nat) (fun k => [(2, ptr g2 0), (5, ptr g3 0), (6, uq (atK a b c d k)), (9, .agg #[uq a, uq b, uq c, uq d]), (10, iq (k : Nat))]) (fun k => [.own g3 133 (outK a b c d k), .own g2 133 wS6])
  (fun k => k ≤ 4 ∧ atK a b c d k ≤ 1099511627776) (fun k => 4 - k) 0 ⟨by omega, by simp [atK]⟩ (kR rfl) (HLe.pick [0, 1] (by simp) rfl) ?_
 rintro k ⟨hk, hat⟩
 refine aR (fun Z hZ => jB2 ?_)
 refine sN (hZ _ _ <| f6K 2 5 6 9 10 11 rfl <| aS (aC0 (fun h => ?_) (fun h => ?_)))
 ·have hlt : k < 4 := by simp at h; omega
  have hnx := yX3 a b c d hlt
  have hle := zJ0 a b c d (k := k + 1) (by omega)
  have hll := zH9 a b c d hlt
  refine aK <| nN <| aS (aB <| aR fun Z hZ => sM rfl rfl <| jQ0 Tryz.underlying132 tyA25 tyS25 rfl rfl (by omega) (by simpa using zH8 a b c d hlt) rfl ?_)
  refine sA rfl rfl <| sAN hZ rfl rfl <| f7K 2 5 6 7 8 9 10 rfl <| aS <| aR fun Z hZ => sM rfl rfl <| sM rfl rfl <| jN3 rfl rfl ((1099511627776 - atK a b c d k : Nat) : Int) (by rw [l6 _ (by omega)]; omega) rfl ?_
  refine jC4 ?_
  refine sN (hZ _ _ <| f8K 2 5 6 7 8 9 10 17 rfl <| aC0 (fun hf => ?_) (fun hf => ?_))
  ·refine aR (fun Z hZ => jU8 tyZ133 Tryz.underlying133 tyS66 rfl rfl rfl rfl <| sS 1 rfl rfl rfl tyS133 rfl rfl rfl rfl (cs' := wS6) rfl rfl <| sA rfl rfl <| sAN hZ rfl rfl <| f3K 2 3 4 rfl <| aE ?_)
   repeat (with_reducible (first | refine nTR ?_ | refine nBR ?_))
   have hno : vJ8 a b c d = false := decide_eq_false (by simp at hf; omega)
   refine jH2 rfl (ResOk.cell 1 rfl rfl tyA133 tyS133 rfl) rfl rfl ?_
   simp only [secC, secN, secE, hno]
   rfl
  have hfit : lnK a b c d k + atK a b c d k ≤ 1099511627776 := by simp at hf; omega
  refine aK <| nN <| aR fun Z hZ => sM rfl rfl <| sM rfl rfl <| sM rfl rfl <| jD4 tyZ66 tyP66 ?_
  refine jP3 (k * 2) Tryz.underlying133 tyS66 rfl rfl (by omega) (by simp) rfl ?_
  refine sS 0 rfl rfl rfl tyS66 rfl rfl rfl (by rw [out_len]; exact Nat.ble_eq_true_of_le (by omega)) (out_wr a b c d hlt) rfl ?_
  refine sN (hZ _ _ ?_)
  refine f6K 2 5 6 8 9 10 rfl ?_
  refine aG (fun Z hZ => ?_)
  refine sM rfl rfl <| sM rfl rfl ?_
  refine jC2 rfl rfl ((atK a b c d (k + 1) : Nat) : Int) (by rw [l6 _ (by omega)]; omega) rfl ?_
  refine sAN hZ rfl rfl <| nF [(2, _), (5, _), (6, _), (9, _), (10, _)] (kR rfl) ?_
  repeat refine nBN ?_
  refine nN ?_
  refine aG (fun Z hZ => ?_)
  refine jC2 rfl rfl ((k + 1 : Nat) : Int) (by rw [lT _ (by omega)]; omega) rfl ?_
  refine sMN hZ rfl rfl <| nF [(2, _), (5, _), (6, _), (9, _), (10, _)] (kR rfl) <| jB8 (k + 1) ⟨by omega, by omega⟩ (by omega) (kR rfl) (HLe.refl _)
 ·refine jB1 ?_
  repeat refine nTE ?_
  refine nBE <| nN ?_
  have hke : k = 4 := by simp at h; omega
  subst hke
  have hyes : vJ8 a b c d = true := decide_eq_true hat
  refine aR (fun Z hZ => sLA0 0 tyA133 tyS133 ?_)
  refine sM rfl rfl <| sS0 1 tyS133 ?_
  refine sA rfl rfl <| sAN hZ rfl rfl <| f3K 2 3 4 rfl <| aE <| jH2 rfl (ResOk.cell 1 rfl rfl tyA133 tyS133 rfl) rfl rfl ?_
  simp only [secC, secN, secE, hyes]
  rfl
end Y
namespace Y
open Go.RowKit
def wA5 (h : Hdr) (p0 q0 p1 q1 p2 q2 p3 q3 : Nat) : Hdr := { h with r0 := p0, r1 := q0, m0 := p1, m1 := q1, l0 := p2, l1 := q2, d0 := p3, d1 := q3 }
abbrev sec8 (p0 q0 p1 q1 p2 q2 p3 q3 : Nat) : List Value := [uq p0, uq q0, uq p1, uq q1, uq p2, uq q2, uq p3, uq q3]
theorem yK2 (h : Hdr) (p0 q0 p1 q1 p2 q2 p3 q3 : Nat) : Fn Tryz.prog 59 [h.val, .agg (sec8 p0 q0 p1 q1 p2 q2 p3 q3).toArray] [] fun v _ => v = (wA5 h p0 q0 p1 q1 p2 q2 p3 q3).val := by
 refine Fn.enter (N := 18) Tryz.func59 rfl (by kernel_rfl) rfl (fun w0 => ?_)
 refine aR (fun Z hZ => jB5 (fun g1 => ?_))
 refine jB5 (fun g2 => ?_)
 refine sAl tyZ68 rfl (fun g3 => sN (hZ _ _ <| f3K 2 3 4 rfl <| kP8 1 [(0, true), (1, true), (2, true), (3, true), (4, true), (5, true), (6, true), (7, true), (8, true), (9, false), (10, true), (11, false), (12, true), (13, false), (14, true), (15, false)] mixed (by kernel_rfl) rfl (fun Z hZ => ?_)))
 refine tv_p rfl <| jP7 0 Tryz.underlying133 tyS66 rfl rfl (by omega) rfl rfl ?_
 refine kI1 <| kV3 rfl rfl tyA66 tyS66 rfl rfl <| tv_p rfl <| jP7 2 Tryz.underlying133 tyS66 rfl rfl (by omega) rfl rfl ?_
 refine kI1 <| kV3 rfl rfl tyA66 tyS66 rfl rfl <| tv_p rfl <| jP7 4 Tryz.underlying133 tyS66 rfl rfl (by omega) rfl rfl ?_
 refine kI1 <| kV3 rfl rfl tyA66 tyS66 rfl rfl <| tv_p rfl <| jP7 6 Tryz.underlying133 tyS66 rfl rfl (by omega) rfl rfl ?_
 refine kI1 <| kV3 rfl rfl tyA66 tyS66 rfl rfl <| tv_p rfl <| jQ9 rfl jZ0 (by simp only [lM]; rfl) rfl ?_
 refine kI1 <| tv_g 1 rfl <| sS0 2 tyS66 ?_
 refine sN ⟨rfl, ?_⟩
 refine tv_p rfl <| jQ9 rfl kF3 (by simp only [lA]; rfl) rfl ?_
 refine kI1 <| tv_g 1 rfl <| sS0 2 tyS66 ?_
 refine sN ⟨rfl, ?_⟩
 refine tv_p rfl <| jQ9 rfl kF2 (by simp only [lA]; rfl) rfl ?_
 refine kI1 <| tv_g 1 rfl <| sS0 2 tyS66 ?_
 refine sN ⟨rfl, ?_⟩
 refine tv_p rfl <| jQ9 rfl kF1 (by simp only [lA]; rfl) rfl ?_
 refine kI1 <| tv_g 1 rfl <| sS0 2 tyS66 ?_
 refine sN ⟨rfl, ?_⟩
 refine yZ2 (hZ _ _ <| f2K 2 4 rfl <| aR (fun Z hZ => sLA0 2 tyA68 tyS68 ?_))
 refine sS0 0 tyS68 ?_
 refine sN (hZ _ _ <| f1K 4 rfl <| aE <| nR1 rfl (ResOk.cell 0 rfl rfl tyA68 tyS68 rfl) rfl)
end Y
namespace Y
open Go.RowKit
structure P4 where
 (a b c d : List UInt8)
structure P4.Ok (p : P4) : Prop where
 a : p.a.length ≤ 20000
 b : p.b.length ≤ 20000
 c : p.c.length ≤ 20000
 d : p.d.length ≤ 20000
abbrev P4.cells (p : P4) : List Value := [.string (str p.a), .string (str p.b), .string (str p.c), .string (str p.d)]
def P4.at_ (p : P4) : Nat → List UInt8
 | 0 => p.a | 1 => p.b | 2 => p.c | _ => p.d
def P4.lens (p : P4) : Nat → List Value
 | 0 => [uq 0, uq 0, uq 0, uq 0]
 | 1 => [uq p.a.length, uq 0, uq 0, uq 0]
 | 2 => [uq p.a.length, uq p.b.length, uq 0, uq 0]
 | 3 => [uq p.a.length, uq p.b.length, uq p.c.length, uq 0]
 | _ => [uq p.a.length, uq p.b.length, uq p.c.length, uq p.d.length]
def P4.all (p : P4) : List UInt8 := p.a ++ p.b ++ p.c ++ p.d
theorem P4.rd (p : P4) {k : Nat} (h : k < 4) : rdV false 1 p.cells k = some (.string (str (p.at_ k))) := by obtain rfl | rfl | rfl | rfl := four h <;> rfl
theorem P4.at_ok (p : P4) (hp : p.Ok) (k : Nat) : (p.at_ k).length ≤ 20000 := by
 unfold P4.at_
 split
 ·exact hp.a
 ·exact hp.b
 ·exact hp.c
 ·exact hp.d
theorem P4.wr (p : P4) {k : Nat} (h : k < 4) : (p.lens k).set k (uq (p.at_ k).length) = p.lens (k + 1) := by obtain rfl | rfl | rfl | rfl := four h <;> rfl
theorem P4.len (p : P4) (k : Nat) : (p.lens k).length = 4 := by unfold P4.lens; split <;> rfl
def layH (h : Hdr) (a b c d : Nat) : Hdr := wA5 h 127 a (127 + a) b (127 + a + b) c (127 + a + b + c) d
def jH8 (h : Hdr) (p : P4) : Hdr := layH h p.a.length p.b.length p.c.length p.d.length
def vF3 (h : Hdr) (p : P4) : List UInt8 := if jG0 (jH8 h p) = 0 then encV (jH8 h p) ++ p.all else []
theorem P4.fits (p : P4) (hp : p.Ok) : vJ8 p.a.length p.b.length p.c.length p.d.length = true := decide_eq_true (by have := hp.a; have := hp.b; have := hp.c; have := hp.d; omega)
theorem vT3 (h : Hdr) (hk : h.Ok) (p : P4) (hp : p.Ok) : (jH8 h p).Ok := by
 have := hp.a; have := hp.b; have := hp.c; have := hp.d
 obtain ⟨_, _, _, _, _, _, _, _, q8, q9, q10, q11, q12, q13⟩ := hk
 exact ⟨by show 127 < _; omega, by show p.a.length < _; omega, by show 127 + p.a.length < _; omega, by show p.b.length < _; omega, by show 127 + p.a.length + p.b.length < _; omega, by show p.c.length < _; omega, by show 127 + p.a.length + p.b.length + p.c.length < _; omega, by show p.d.length < _; omega, q8, q9, q10, q11, q12, q13⟩
theorem yO0 {a b c d : Nat} (h : vJ8 a b c d = true) : secC a b c d = sec8 127 a (127 + a) b (127 + a + b) c (127 + a + b + c) d ∧ secE a b c d = 0 ∧ secN a b c d = 127 + a + b + c + d := ⟨if_pos h, if_pos h, if_pos h⟩
section
variable {P : Program} {N : Frm} {w0 : World} {Wr : List Nat} {ops : Array Oper} {rest : List Oper} {fr : Fr} {H : Heap} {Z : Fr → Heap → Prop}
variable {d ty : Nat} {pos : String} {after : Array Edge}
theorem vJ1 {t e n size : Nat} {x : Operand} {g o : Nat} (ht : P.underlying t = some (.array n e)) (hs : tySize P e = some size) (hn : 0 < n) (hx : ev fr x = some (ptr g o)) (hN : Nat.ble (d + 1) N.n = true)
  (h : sx P N w0 Wr ops rest ((d, .slice (some ⟨g, o, none⟩) n n) :: fr) H Z) : sx P N w0 Wr ops (⟨some d, .slice t x none none none, ty, pos, after, none⟩ :: rest) fr H Z :=
 jE9 _ hN (fun a w ha _ => by
  have hn' : ¬ n = 0 := by omega
  simp only [execOp, Instr.sliceAt, ha.eval hx, lI, run_underlying ht, lQ, ptr, Instr.sureAddr, l9, uC, Instr.sliceBounds, jC0 hs, jI3, xK, lM, Nat.sub_zero]
  simp [hn']) h
end
theorem yT5 (h : Hdr) (hk : h.Ok) (p : P4) (hp : p.Ok) : Fn Tryz.prog 24 [h.val, .agg p.cells.toArray] [] fun v _ => v = .tuple #[.string (str (vF3 h p)), iq (jG0 (jH8 h p))] := by
 obtain ⟨hC, hE, hN⟩ := yO0 (p.fits hp)
 have := hp.a; have := hp.b; have := hp.c; have := hp.d
 obtain ⟨G, hG⟩ := xZ9 (jH8 h p)
 have hGk := vT3 h hk p hp
 unfold vF3
 rw [hG] at hGk ⊢
 have henc : (encV G).length ≤ 127 := by
  unfold encV
  split
  ·rw [kA7]; omega
  ·simp
 refine Fn.enter (N := 47) Tryz.func24 rfl (by kernel_rfl) rfl (fun w0 => ?_)
 refine aR (fun Z hZ => jB5 (fun g1 => ?_))
 refine jB5 (fun g2 => ?_)
 refine sA rfl rfl <| sAN hZ rfl rfl <| f2K 2 3 rfl <| aR (fun Z hZ => sAl tyZ132 rfl (fun g3 => sN (hZ _ _ <| f3K 2 3 6 rfl <| aS <| aR (fun Z hZ => sLA0 1 tyA70 tyS70 ?_))))
 refine sMN hZ rfl rfl <| f5K 2 3 6 13 14 rfl <| aB ?_
 refine jB9 (ι := Nat) (fun k => [(2, ptr g1 0), (3, ptr g2 0), (6, ptr g3 0), (13, .agg p.cells.toArray), (14, iq (k : Nat))]) (fun k => [.own g3 132 (p.lens k), .own g2 70 p.cells, .own g1 68 h.cells])
  (fun k => k ≤ 4) (fun k => 4 - k) 0 (by omega) (kR rfl) (HLe.refl _) ?_
 intro k hk4
 refine aR (fun Z hZ => jB2 ?_)
 refine sN (hZ _ _ <| f6K 2 3 6 13 14 15 rfl <| aS (aC0 (fun hh => ?_) (fun hh => ?_)))
 ·have hlt : k < 4 := by simp at hh; omega
  have hal := p.at_ok hp k
  refine aK <| nN <| aS (aB <| aR fun Z hZ => sM rfl rfl <| jQ0 Tryz.underlying70 tyA9 tyS9 rfl rfl (by omega) (by simpa using p.rd hlt) rfl ?_)
  refine sA rfl rfl <| sAN hZ rfl rfl <| f7K 2 3 6 7 8 13 14 rfl <| aG (fun Z hZ => sM rfl rfl <| sM rfl rfl <| jD6 Tryz.underlying9 rfl rfl <| jB7 Tryz.underlying3 Tryz.underlying25 rfl (((p.at_ k).length : Nat) : Int) (by rw [l6 _ (by omega)]) rfl ?_)
  refine jP3 k Tryz.underlying132 tyS25 rfl rfl (by omega) (by simp) rfl ?_
  refine sS1 0 rfl rfl rfl tyS25 rfl (by rw [P4.len]; exact Nat.ble_eq_true_of_le (by omega)) (p.wr hlt) rfl ?_
  refine sN (hZ _ _ <| nF [(2, _), (3, _), (6, _), (13, _), (14, _)] (kR rfl) ?_)
  repeat refine nBN ?_
  refine nN ?_
  refine aG (fun Z hZ => ?_)
  refine jC2 rfl rfl ((k + 1 : Nat) : Int) (by rw [lT _ (by omega)]; omega) rfl ?_
  refine sMN hZ rfl rfl <| nF [(2, _), (3, _), (6, _), (13, _), (14, _)] (kR rfl) <| jB8 (k + 1) (by omega) (by omega) (kR rfl) (HLe.refl _)
 ·refine jB1 ?_
  repeat refine nTE ?_
  refine nBE <| nN ?_
  have hke : k = 4 := by simp at hh; omega
  subst hke
  refine aR (fun Z hZ => sLA0 0 tyA132 tyS132 ?_)
  refine sCP0 (vJ7 p.a.length p.b.length p.c.length p.d.length (by omega)) ?_
  rw [hC, hE, hN]
  refine sM rfl rfl <| sX rfl rfl rfl <| sX rfl rfl rfl <| sX rfl rfl rfl <| sAl tyZ133 rfl (fun g4 => sS0 0 tyS133 ?_)
  refine sA rfl rfl <| sAN hZ rfl rfl <| f4K 2 3 9 11 rfl <| aS <| aR fun Z hZ => sM rfl rfl <| jC7 ?_
  refine sN (hZ _ _ <| f5K 2 3 9 11 31 rfl <| aC0 (fun he => ?_) (fun he => ?_))
  ·simp at he
  refine aK <| nN <| aR (fun Z hZ => sLA0 3 tyA68 tyS68 ?_)
  refine sLA0 0 tyA133 tyS133 ?_
  refine sCP0 (yK2 h 127 p.a.length (127 + p.a.length) p.b.length (127 + p.a.length + p.b.length) p.c.length (127 + p.a.length + p.b.length + p.c.length) p.d.length) ?_
  rw [show wA5 h 127 p.a.length (127 + p.a.length) p.b.length (127 + p.a.length + p.b.length) p.c.length (127 + p.a.length + p.b.length + p.c.length) p.d.length = G from hG]
  refine sCP0 (vY2 G hGk) ?_
  refine sM rfl rfl <| sX rfl rfl rfl <| sX rfl rfl rfl <| sA rfl rfl <| sAN hZ rfl rfl <| f3K 3 11 12 rfl <| aS <| aR fun Z hZ => sM rfl rfl <| jC7 ?_
  refine sN (hZ _ _ <| f4K 3 11 12 41 rfl <| aC0 (fun he2 => ?_) (fun he2 => ?_))
  ·refine aR (fun Z hZ => sM rfl rfl <| sA rfl rfl <| sAN hZ rfl rfl <| f2K 4 5 rfl <| aE ?_)
   repeat refine nTR ?_
   exact jF8 rfl rfl rfl (by rw [if_neg (by simpa using he2)]; rfl)
  refine aK <| nN ?_
  have hc0 : jG0 G = 0 := by simpa using he2
  have hj : Lib.join [p.a, p.b, p.c, p.d] [] = p.all := by simp [Lib.join_cons, Lib.joinTail, P4.all]
  refine aR fun Z hZ => sM rfl rfl <| vJ1 Tryz.underlying70 tyS9 (by omega) rfl rfl ?_
  refine wV5 (v := .string (str p.all)) vY5 rfl rfl (fun w hw => ?_) ?_
  rotate_left
  refine zA4 rfl rfl (by (simp only [P4.all, lX]; omega)) rfl ?_
  refine sA rfl rfl <| sAN hZ rfl rfl <| f2K 4 5 rfl ?_
  ·refine aE <| jF8 rfl rfl rfl (by rw [hc0, if_pos rfl])
  ·have hm := Ent.cell (hw.mem (i := 2) rfl)
   have hl := Ent.lt (hw.mem (i := 2) rfl)
   have := yA5 g2 0 4 [p.a, p.b, p.c, p.d] [] w (fun j x hx => by
    rw [lA, hm]
    have hj4 : j < 4 := by have := (List.getElem?_eq_some_iff.1 hx).1; simpa using this
    obtain rfl | rfl | rfl | rfl := four hj4 <;> (simp at hx; subst hx; rfl)) hl (by simp) (by simp) (by rw [hj]; simp only [P4.all, lX]; omega)
   rw [hj] at this
   exact this
end Y
namespace Y
open Go.RowKit
def hf (h : Hdr) : Nat → Nat
 | 0 => h.r0 | 1 => h.m0 | 2 => h.l0 | _ => h.d0
def hl (h : Hdr) : Nat → Nat
 | 0 => h.r1 | 1 => h.m1 | 2 => h.l1 | _ => h.d1
theorem h_rd (h : Hdr) {k : Nat} (hk : k < 4) : rdV true 2 h.secs (k * 2) = some (.agg #[uq (hf h k), uq (hl h k)]) := by obtain rfl | rfl | rfl | rfl := four hk <;> rfl
theorem zE1 {h : Hdr} (hs : kJ0 h = true) (k : Nat) : hf h k ≤ 1099511627776 ∧ hl h k ≤ 1099511627776 := by
 simp only [kJ0, kD7, xW, decide_eq_true_eq] at hs
 unfold hf hl
 constructor <;> split <;> omega
theorem vD2 {h : Hdr} (hc : jG0 h = 0) : kJ0 h = true := by
 unfold jG0 at hc
 cases hs : kJ0 h with
 | true => rfl
 | false => rw [if_pos hs] at hc; cases hc
def inL (l : List UInt8) (k : Nat) : Bool := decide (hf (decV l) k + hl (decV l) k ≤ l.length)
def wP2 (l : List UInt8) : Bool := inL l 0 && inL l 1 && inL l 2 && inL l 3
def cutE (l : List UInt8) : Int := if decE l = 0 then (if wP2 l = true then 0 else 8) else decE l
def piece (l : List UInt8) (k : Nat) : List UInt8 := (l.drop (hf (decV l) k)).take (hl (decV l) k)
def cutH (l : List UInt8) : Hdr := if cutE l = 0 then decV l else zeroH
def cutP (l : List UInt8) : P4 := if cutE l = 0 then ⟨piece l 0, piece l 1, piece l 2, piece l 3⟩ else ⟨[], [], [], []⟩
def P4.out (p : P4) : Nat → List Value
 | 0 => [.string (str []), .string (str []), .string (str []), .string (str [])]
 | 1 => [.string (str p.a), .string (str []), .string (str []), .string (str [])]
 | 2 => [.string (str p.a), .string (str p.b), .string (str []), .string (str [])]
 | 3 => [.string (str p.a), .string (str p.b), .string (str p.c), .string (str [])]
 | _ => [.string (str p.a), .string (str p.b), .string (str p.c), .string (str p.d)]
theorem P4.out_wr (p : P4) {k : Nat} (h : k < 4) : (p.out k).set k (.string (str (p.at_ k))) = p.out (k + 1) := by obtain rfl | rfl | rfl | rfl := four h <;> rfl
theorem P4.out_len (p : P4) (k : Nat) : (p.out k).length = 4 := by unfold P4.out; split <;> rfl
def cutQ (l : List UInt8) : P4 := ⟨piece l 0, piece l 1, piece l 2, piece l 3⟩
theorem yW0 (l : List UInt8) {k : Nat} (h : k < 4) : (cutQ l).at_ k = piece l k := by obtain rfl | rfl | rfl | rfl := four h <;> rfl
theorem zF1 {l : List UInt8} {k : Nat} (hd : decE l = 0) (hk : k < 4) (h : inL l k = false) : cutE l = 8 := by
 have : wP2 l = false := by
  unfold wP2
  obtain rfl | rfl | rfl | rfl := four hk <;> simp [h]
 unfold cutE
 rw [if_pos hd, this]
 rfl
theorem wP0 {l : List UInt8} (hd : decE l = 0) (h : ∀ k, k < 4 → inL l k = true) : cutE l = 0 := by
 have : wP2 l = true := by unfold wP2; rw [h 0 (by omega), h 1 (by omega), h 2 (by omega), h 3 (by omega)]; rfl
 unfold cutE
 rw [if_pos hd, this]
 rfl
theorem vN1 {l : List UInt8} (h : decE l = 0) : jG0 (decV l) = 0 := by
 unfold decV
 rw [if_pos h]
 exact (yV6 h).2.2.2.2
theorem cut_fn (l : List UInt8) (hl0 : l.length ≤ 100000) : Fn Tryz.prog 67 [.string (str l)] [] fun v _ => v = .tuple #[(cutH l).val, .agg (cutP l).cells.toArray, iq (cutE l)] := by
 refine Fn.enter (N := 52) Tryz.func67 rfl (by kernel_rfl) rfl (fun w0 => ?_)
 refine aR (fun Z hZ => sAl tyZ68 rfl (fun g1 => sAl tyZ70 rfl (fun g2 => sAN hZ rfl rfl <| f3K 0 2 3 rfl <| aR fun Z hZ => sM rfl rfl <| sCP0 (kS0 l (by omega)) ?_)))
 refine sM rfl rfl <| sX rfl rfl rfl <| sX rfl rfl rfl <| sAl tyZ68 rfl (fun g3 => sS0 0 tyS68 ?_)
 refine sAN hZ rfl rfl <| f5K 0 2 3 5 6 rfl <| aS <| aR fun Z hZ => sM rfl rfl <| jC7 ?_
 refine sN (hZ _ _ <| f6K 0 2 3 5 6 16 rfl <| aC0 (fun h => ?_) (fun h => ?_))
 ·skip
  refine aR (fun Z hZ => jD4 tyZ68 tyP68 ?_)
  refine jU8 tyZ70 Tryz.underlying70 tyS9 rfl rfl rfl rfl <| sM rfl rfl <| sS0 2 tyS68 ?_
  refine sS0 1 tyS70 ?_
  refine sAN hZ rfl rfl <| f3K 2 3 4 rfl <| aE ?_
  repeat refine nTR ?_
  have hd : ¬ decE l = 0 := by simpa using h
  have e : cutE l = decE l := if_neg hd
  exact jH2 rfl (ResOk.cell 2 rfl rfl tyA68 tyS68 rfl) (ResOk.cell 1 rfl rfl tyA70 tyS70 rfl) rfl (by rw [cutH, cutP, e, if_neg hd, if_neg hd]; rfl)
 refine aK <| nN ?_
 have hd : decE l = 0 := by simpa using h
 have hs := vD2 (vN1 hd)
 refine aR (fun Z hZ => sAl tyZ70 rfl (fun g4 => sN (hZ _ _ <| f5K 0 2 3 5 7 rfl <| aS <| aR (fun Z hZ => sFA0 jZ0 ?_))))
 refine sLA0 1 tyA66 tyS66 ?_
 refine sFA0 kF3 ?_
 refine sLA0 1 tyA66 tyS66 ?_
 refine sFA0 kF2 ?_
 refine sLA0 1 tyA66 tyS66 ?_
 refine sFA0 kF1 ?_
 refine sLA0 1 tyA66 tyS66 ?_
 refine jU8 tyZ133 Tryz.underlying133 tyS66 rfl rfl (by simp only [qS, Nat.reduceAdd, Value.cells, wrV, Nat.reduceMul, xK]; rfl) rfl ?_
 refine sMN hZ rfl rfl <| f7K 0 2 3 5 7 28 29 rfl <| aB ?_
 refine jB9 (ι := Nat) (fun k => [(0, .string (str l)), (2, ptr g1 0), (3, ptr g2 0), (5, ptr g3 0), (7, ptr g4 0), (28, .agg (decV l).secs.toArray), (29, iq (k : Nat))]) (fun k => [.own g4 70 ((cutQ l).out k), .own g3 68 (decV l).cells, .own g2 70 [.string (str []), .string (str []), .string (str []), .string (str [])], .own g1 68 zeroH.cells])
  (fun k => k ≤ 4 ∧ ∀ j, j < k → inL l j = true) (fun k => 4 - k) 0 ⟨by omega, fun j h => by omega⟩ (kR rfl) (HLe.refl _) ?_
 rintro k ⟨hk, hall⟩
 refine aR (fun Z hZ => jB2 ?_)
 refine sN (hZ _ _ <| f8K 0 2 3 5 7 28 29 30 rfl <| aS (aC0 (fun hh => ?_) (fun hh => ?_)))
 ·have hlt : k < 4 := by simp at hh; omega
  have hft := zE1 hs k
  have hat := yW0 l hlt
  have hrd := h_rd (decV l) hlt
  have hpc : piece l k = (l.drop (hf (decV l) k)).take (hl (decV l) k) := rfl
  have hin : inL l k = decide (hf (decV l) k + hl (decV l) k ≤ l.length) := rfl
  generalize hf (decV l) k = F at hft hrd hpc hin
  generalize hl (decV l) k = L at hft hrd hpc hin
  have hend : IntKind.u64.wrap ((F : Int) + L) = ((F + L : Nat) : Int) := by rw [l6 _ (by omega)]; omega
  refine aK <| nN <| aS (aB <| aR fun Z hZ => sM rfl rfl <| jQ0 Tryz.underlying133 tyA66 tyS66 rfl rfl (by omega) (by simpa using hrd) rfl ?_)
  refine sAl tyZ66 rfl (fun g5 => sA rfl rfl <| sS0 0 tyS66 ?_)
  refine sN (hZ _ _ <| f9K 0 2 3 5 7 8 9 28 29 rfl <| aS <| aR (fun Z hZ => sLA0 0 tyA66 tyS66 ?_))
  refine sCP0 (kS4 F L) ?_
  rw [hend]
  refine sM rfl rfl <| jD6 Tryz.underlying9 rfl rfl <| jB7 Tryz.underlying3 Tryz.underlying25 rfl (((l.length : Nat)) : Int) (by rw [l6 _ (by omega)]) rfl ?_
  refine jC4 ?_
  refine sN (hZ _ _ <| f10K 0 2 3 5 7 8 9 28 29 38 rfl <| aC0 (fun hf => ?_) (fun hf => ?_))
  ·have hno : inL l k = false := by rw [hin]; simp at hf ⊢; omega
   refine aR (fun Z hZ => jD4 tyZ68 tyP68 ?_)
   refine jU8 tyZ70 Tryz.underlying70 tyS9 rfl rfl rfl rfl <| sS0 4 tyS68 ?_
   refine sS0 3 tyS70 ?_
   refine sAN hZ rfl rfl <| f3K 2 3 4 rfl <| aE ?_
   repeat (with_reducible (first | refine nTR ?_ | refine nBR ?_))
   have e := zF1 hd hlt hno
   exact jH2 rfl (ResOk.cell 4 rfl rfl tyA68 tyS68 rfl) (ResOk.cell 3 rfl rfl tyA70 tyS70 rfl) rfl (by rw [cutH, cutP, e]; rfl)
  refine aK <| nN ?_
  have hfit : F + L ≤ l.length := by simp at hf; omega
  refine kG9 _ [(0, true), (1, true), (2, true), (3, true), (4, true), (5, false), (6, true), (7, true), (8, false)] mixed (by kernel_rfl) (HLe.pick [0] (by simp) (by simp only [pick, l7, qS]; rfl)) (fun Z hZ => ?_)
  refine tw_p rfl <| jA8 ?_
  refine vN <| tw_p rfl <| jA8 ?_
  refine vN <| tw_p rfl <| jA7 jZ1 ?_
  refine vN <| tw_p rfl ?_
  first | refine jE6 0 rfl rfl tyA25 tyS25 rfl rfl ?_
  refine vN <| tw_p rfl ?_
  first | refine jM3 0 rfl rfl tyA66 tyS66 rfl (by simp only [qS]; rfl) rfl ?_
  refine vN <| tw_g rfl <| sCP0 (kS4 F L) ?_
  rw [hend]
  refine sN ⟨HLe.pick [0] (by simp) rfl, ?_⟩
  refine tw_p rfl <| jV0 (piece l k) Tryz.underlying9 rfl rfl rfl (by omega) (by omega) (by omega) (by rw [hpc]; show (l.drop F).take (F + L - F) = _; rw [Nat.add_sub_cancel_left]) rfl ?_
  refine vN <| tw_p rfl <| kW2 k Tryz.underlying70 tyS9 rfl rfl (by omega) (by simp) rfl ?_
  refine vN <| tw_g rfl <| sS1 1 (cs' := (cutQ l).out (k + 1)) rfl rfl rfl tyS9 rfl (by rw [P4.out_len]; exact Nat.ble_eq_true_of_le (by omega)) (by rw [← hat]; exact P4.out_wr _ hlt) (by simp only [qS]; rfl) ?_
  refine sN ⟨HLe.pick [0] (by simp) rfl, ?_⟩
  refine jI7 (hZ _ _ <| nF [(0, _), (2, _), (3, _), (5, _), (7, _), (28, _), (29, _)] (kR rfl) ?_)
  repeat refine nBN ?_
  refine nN ?_
  refine aG (fun Z hZ => ?_)
  refine jC2 rfl rfl ((k + 1 : Nat) : Int) (by rw [lT _ (by omega)]; omega) rfl ?_
  refine sMN hZ rfl rfl <| nF [(0, _), (2, _), (3, _), (5, _), (7, _), (28, _), (29, _)] (kR rfl) <| jB8 (k + 1) ⟨by omega, fun j hj => ?_⟩ (by omega) (kR rfl) (HLe.pick [1, 2, 3, 4] (by simp) rfl)
  rcases xP j k with hj' | hj'
  ·exact hall j hj'
  ·obtain rfl : j = k := by omega
   rw [hin]; simpa using hfit
 ·refine jB1 ?_
  repeat refine nTE ?_
  refine nBE <| nN ?_
  have hke : k = 4 := by simp at hh; omega
  subst hke
  have e := wP0 hd hall
  refine jD3 _ [(0, true), (1, true), (2, false), (3, false), (4, true)] mixed (by kernel_rfl) (HLe.pick [0, 1] (by simp) (by simp only [pick, l7, qS]; rfl)) (fun Z hZ => ?_)
  refine tw_p rfl <| jM3 1 rfl rfl tyA68 tyS68 rfl (by simp only [qS]; rfl) rfl ?_
  refine vN <| tw_p rfl <| jM3 0 rfl rfl tyA70 tyS70 rfl rfl rfl <| vN <| tw_g rfl <| sS0 3 tyS68 ?_
  refine sN ⟨HLe.pick [0, 1] (by simp) rfl, ?_⟩
  refine tw_g rfl <| sS 2 rfl rfl rfl tyS70 rfl rfl rfl rfl (cs' := (cutQ l).out 4) rfl rfl <| sN ⟨HLe.pick [0, 1] (by simp) rfl, ?_⟩
  refine tw_p rfl <| jE7 rfl rfl <| vN <| jI7 (hZ _ _ <| f3K 2 3 4 rfl <| aE <| jH2 rfl (ResOk.cell 3 rfl rfl tyA68 tyS68 rfl) (ResOk.cell 2 rfl rfl tyA70 tyS70 rfl) rfl (by rw [cutH, cutP, e]; rfl))
end Y
namespace Y
open Go.RowKit
end Y
section
open Go.RowKit V Y
set_option maxRecDepth 100000
section
variable {P : Program} {N : Frm} {w0 : World} {Wr : List Nat} {ops : Array Oper} {rest : List Oper} {fr : Fr} {H : Heap} {Z : Fr → Heap → Prop}
variable {d ty : Nat} {pos : String} {after : Array Edge}
theorem jU9 {t xT e : TypeId} {x : Operand} {v : Value} (ht : P.underlying t = some (.slice e)) (hx : ev fr x = some (.iface t v)) (hN : Nat.ble (d + 1) N.n = true)
  (h : sx P N w0 Wr ops rest ((d, .tuple #[v, .bool true]) :: fr) H Z) : sx P N w0 Wr ops (⟨some d, .typeAssert x xT t true, ty, pos, after, none⟩ :: rest) fr H Z :=
 jE9 _ hN (fun a w ha _ => by
  simp [execOp, Instr.typeAssert, ha.eval hx, lI, run_underlying ht]) h
end
structure Pn where
 b : Nat
 k : Nat
 note : List UInt8
abbrev Pn.cells (p : Pn) : List Value := [iq (p.b : Nat), .int .u8 (p.k : Nat), .string (str p.note)]
def vV3 (note : List UInt8) : Prop := Fn Tryz.prog 26 [.string (str note)] [] fun u _ => ∃ x n, u = .tuple #[.iface 73 x, iq (n : Nat), iq 0]
theorem zH6 : vV3 [123, 125] := by
 obtain ⟨h1, h2⟩ := wU4 [123, 125] (by decide) (by decide) (by decide) (by decide)
 exact ⟨h1, fun w hw => (h2 w hw).mono fun e w' he => by
  obtain ⟨v, H', e1, ⟨A, c, e2⟩, e3⟩ := he
  exact ⟨v, H', e1, ⟨_, _, e2⟩, e3⟩⟩
theorem wH7 (p : Pn) (hb : 512 ≤ p.b ∧ p.b ≤ 16257) (hk : p.k ≤ 5) (hn : vV3 p.note) : Fn Tryz.prog 8 [.agg p.cells.toArray] [] fun v _ => v = iq 0 := by
 refine Fn.enter (N := 38) Tryz.func8 rfl (by kernel_rfl) rfl (fun w0 => ?_)
 refine aR (fun Z hZ => jB5 (fun g1 => ?_))
 refine sAN hZ rfl rfl <| f1K 1 rfl <| aS (aB <| jA3 [(1, ptr g1 0), (8, .bool false)] [.own g1 36 p.cells] (fun Z hZ => ?_) ?_)
 ·refine sFA0 kL9 ?_
  first | refine sL0 0 tyA3 tyS3 ?_
  refine jB2 ?_
  refine sM rfl rfl <| jE5 12 rfl false (by simp; omega) ?_
  refine sOn0 ?_
  refine sFA0 kL9 ?_
  refine sOn0 ?_
  first | refine sL0 0 tyA3 tyS3 ?_
  refine sOn0 ?_
  refine jC4 ?_
  refine sP rfl rfl rfl <| sA rfl rfl <| sN (hZ _ _ ?_ ?_)
  ·exact Kn.cons rfl (Kn.cons (congrArg some (congrArg Value.bool (by simp; omega))) Kn.nil)
  ·exact HLe.refl _
 refine aC0 (fun h => ?_) (fun h => ?_)
 ·cases h
 refine aR (fun Z hZ => sFA0 vI7 ?_)
 first | refine sL0 0 tyA5 tyS5 ?_
 refine jC4 ?_
 refine sAN hZ rfl rfl <| f2K 1 17 rfl <| aC0 (fun h => ?_) (fun h => ?_)
 ·simp at h; omega
 refine aK ?_
 repeat refine nBN ?_
 refine nN <| aR (fun Z hZ => sFA0 vI6 ?_)
 first | refine sL0 0 tyA9 tyS9 ?_
 refine jK1 [] [] [.own g1 36 p.cells] hn rfl (HLe.refl _) (lN _) Ro.nil rfl ?_
 rintro v H' ⟨x, m, rfl⟩
 refine jC3 [.own g1 36 p.cells] (HLe.sub (lP _ _)) <| sM rfl rfl <| sX rfl rfl rfl <| sX rfl rfl rfl <| sX rfl rfl rfl <| sA rfl rfl <| sA rfl rfl <| sAN hZ rfl rfl <| f2K 3 5 rfl <| aS <| aR fun Z hZ => sM rfl rfl <| jC7 ?_
 refine sN (hZ _ _ <| f3K 3 5 29 rfl <| aC0 (fun h => ?_) (fun h => ?_))
 ·cases h
 refine aK <| nN <| aS <| aR fun Z hZ => sM rfl rfl <| jU9 Tryz.underlying73 rfl rfl <| sM rfl rfl <| sX rfl rfl rfl <| sX rfl rfl rfl <| sA rfl rfl <| sAN hZ rfl rfl <| f1K 7 rfl <| aR fun Z hZ => sM rfl rfl <| jI8 rfl rfl <| sN (hZ _ _ ?_)
 refine f1K 37 rfl <| aC0 (fun h => ?_) (fun h => ?_)
 ·cases h
 refine aK <| nN <| aA rfl rfl <| f1K 2 rfl <| aE <| nR10 rfl
theorem vN5 (L : List En) : (cstM L).length ≤ L.length := by
 obtain ⟨h1, h2⟩ := kK8 L [] uB
 rw [← yW1]
 have := kG1 (jD8 (cstM L)) (L.map fun e => (e.off, e.len)) h1 (fun k hk => by
  rcases (h2 k).1 hk with h3 | ⟨e, he, _, h3⟩
  ·simp [jD8] at h3
  ·exact List.mem_map.2 ⟨e, he, h3⟩)
 rwa [zG] at this
def kJ1 (L : List It) (R : List En) (k : Nat) : Hdr :=
 ⟨0, 0, 0, 0, 0, 0, 0, 0, L.length, R.length, (cstM R).length, true, 1, 1, k, zLo L, zHi L, -1800000000, -850511287, 1800000000, 850511287, zLo L, 0, 0⟩
theorem wY4 (A : Option Addr) (c : Nat) (L : List It) (T : Heap) (hA : jH6 A L.length) (hT : 0 < L.length → T = roE A (jA2 L)) (hro : Ro T) (hL : L.length ≤ 100000) (hk : yX9 L)
  (B : Option Addr) (d : Nat) (R : List En) (U : Heap) (hB : jH6 B R.length) (hU : 0 < R.length → U = roE B (jA1 R)) (hroU : Ro U) (hR : R.length ≤ 100000) (hE : jF4 R) (k : Nat) :
  Fn Tryz.prog 25 [chV A L.length c, .slice B R.length d, .int .u8 (k : Nat)] (T ++ U) fun v _ => v = (kJ1 L R k).val := by
 refine Fn.enter (N := 35) Tryz.func25 rfl (by kernel_rfl) rfl (fun w0 => ?_)
 refine aR (fun Z hZ => jB5 (fun g1 => ?_))
 refine sAl tyZ68 rfl (fun g2 => sN (hZ _ _ <| f4K 1 2 3 6 rfl ?_))
 have hlen : ∀ n : Nat, n ≤ 100000 → IntKind.u64.wrap ((n : Nat) : Int) = ((n : Nat) : Int) := fun n hn => l6 _ ⟨by omega, by omega⟩
 have hcs := vN5 R
 refine aR (fun Z hZ => sLA0 1 tyA30 tyS30 ?_)
 refine sCP0 (zD3 A L.length c) ?_
 refine jB7 Tryz.underlying3 Tryz.underlying25 rfl _ (hlen _ hL) rfl <| sM rfl rfl <| jE2 Tryz.underlying58 rfl rfl <| jB7 Tryz.underlying3 Tryz.underlying25 rfl _ (hlen _ hR) rfl <| sM rfl rfl <| jD1 U (vN6 B d R U hB hU hR hE) rfl ((lP T U).trans (lP [_, _] _)) hroU rfl <| jB7 Tryz.underlying3 Tryz.underlying25 rfl _ (hlen _ (by omega)) rfl ?_
 refine sM rfl rfl <| kW0 (cs := [uq 0, uq 0, uq 0, uq 0, uq 0, uq 0, uq 0, uq 0, uq L.length, uq R.length, uq (cstM R).length, .bool true, ub 1, ub 1, ub k, iq 0, iq 0, iq 0, iq 0, iq 0, iq 0, iq 0, iq 0, iq 0]) tyZ68 tyP68 rfl (by kernel_rfl) rfl rfl ?_
 refine sAl tyZ68 rfl (fun g3 => sS0 0 tyS68 ?_)
 refine sN (hZ _ _ <| f3K 3 6 7 rfl <| aR (fun Z hZ => sLA0 2 tyA30 tyS30 ?_))
 refine jD1 T (wS4 A c L T hA hT hro (by omega) hk) rfl ((lS T U).trans (lP [_, _, _] _)) hro rfl ?_
 refine sM rfl rfl <| sX rfl rfl rfl <| sX rfl rfl rfl <| sX rfl rfl rfl <| sFA0 jS6 ?_
 refine sS10 0 tyS3 ?_
 refine sFA0 jW8 ?_
 refine sS10 0 tyS3 ?_
 refine sN (hZ _ _ <| f2K 6 7 rfl <| aR (fun Z hZ => sFA0 jS6 ?_))
 refine sL0 0 tyA3 tyS3 ?_
 refine sFA0 kJ4 ?_
 refine sS10 0 tyS3 ?_
 refine sN (hZ _ _ <| f2K 6 7 rfl <| aR (fun Z hZ => sFA0 kB5 ?_))
 refine sS10 0 tyS3 ?_
 refine sFA0 kB3 ?_
 refine sS10 0 tyS3 ?_
 refine sFA0 kB4 ?_
 refine sS10 0 tyS3 ?_
 refine sFA0 kB2 ?_
 refine sS10 0 tyS3 ?_
 refine sN (hZ _ _ <| f2K 6 7 rfl <| aR (fun Z hZ => sLA0 0 tyA68 tyS68 ?_))
 refine sS0 1 tyS68 ?_
 refine sN (hZ _ _ <| f1K 6 rfl <| aE <| jC1 [] rfl (ResOk.cell 1 rfl rfl tyA68 tyS68 rfl) (HLe.sub (lN _)) rfl)
abbrev errE (g : Nat) (e : Int) : Ent := .own g 33 [iq e]
abbrev strE (g : Nat) (s : List UInt8) : Ent := .own g 9 [.string (str s)]
theorem kX6 (ge gs : Nat) (e : Int) (s : List UInt8) : FnD Tryz.prog 20 [ptr ge 0, ptr gs 0] [errE ge e, strE gs s] fun v H' => v = .tuple #[] ∧ H' = [errE ge e, strE gs (if e = 0 then s else [])] := by
 refine FnD.enter (N := 4) Tryz.func20 rfl (by kernel_rfl) rfl (fun w0 => ?_)
 refine aR (fun Z hZ => ?_)
 first | refine sL0 0 tyA33 tyS33 ?_ | refine sL0 1 tyA33 tyS33 ?_
 first | refine jC7 ?_ | refine wB9 rfl rfl rfl ?_
 refine sN (hZ _ _ <| f2K 1 3 rfl ?_)
 first | refine aC0 (fun h => ?_) (fun h => ?_) | refine aS (aC0 (fun h => ?_) (fun h => ?_))
 ·have h' : e ≠ 0 := by simpa using h
  rw [if_neg h']
  refine aG (fun Z hZ => ?_)
  first | refine sS1 0 rfl rfl rfl tyS9 rfl (by first | (simp only [qS, Nat.reduceAdd]; first | done | rfl) | rfl) (by first | (simp only [qS, Nat.reduceAdd]; first | done | rfl) | rfl) (by first | (simp only [qS]; first | done | rfl) | rfl) ?_ | refine sS1 1 rfl rfl rfl tyS9 rfl (by first | (simp only [qS, Nat.reduceAdd]; first | done | rfl) | rfl) (by first | (simp only [qS, Nat.reduceAdd]; first | done | rfl) | rfl) (by first | (simp only [qS]; first | done | rfl) | rfl) ?_
  refine sN (hZ _ _ <| nF [] (Kn.nil) <| jH5 _ rfl (HLe.refl _) ⟨rfl, rfl⟩)
 ·have h' : e = 0 := by simpa using h
  subst h'
  refine aK <| jH5 _ rfl (HLe.refl _) ⟨rfl, rfl⟩
def prR (L : List It) : List En := (jL3 L).1
def prD (L : List It) : List UInt8 := (jL3 L).2.flatten
def prS (L : List It) (b : Nat) : List En × List UInt8 × Nat × Nat := jK5 (prR L) (b : Nat)
def prP (L : List It) (p : Pn) : P4 := ⟨(encQ (prS L p.b).1).1, p.note, (prS L p.b).2.1, prD L⟩
def prH (L : List It) (p : Pn) : Hdr := kJ1 L (prR L) p.k
def prE (L : List It) (p : Pn) : Int := if (prS L p.b).2.2.2 ≠ 0 then ((prS L p.b).2.2.2 : Nat) else if (encQ (prS L p.b).1).2 ≠ 0 then ((encQ (prS L p.b).1).2 : Nat) else jG0 (jH8 (prH L p) (prP L p))
def prT (L : List It) (p : Pn) : List UInt8 := if prE L p = 0 then vF3 (prH L p) (prP L p) else []
structure PrOk (L : List It) (p : Pn) : Prop where
 ok : ChOk L
 b : 512 ≤ p.b ∧ p.b ≤ 16257
 k : p.k ≤ 5
 note : vV3 p.note
 parts : (prP L p).Ok
 root : (prS L p.b).1.length ≤ 10000 ∧ jF4 (prS L p.b).1
 rows : (prR L).length ≤ 10000 ∧ jF4 (prR L)
theorem vT1 {L : List It} {R : List En} {k : Nat} (hL : L.length ≤ 100000) (hR : R.length ≤ 100000) (hk : k ≤ 5) : (kJ1 L R k).Ok := by
 have := vN5 R
 refine ⟨?_, ?_, ?_, ?_, ?_, ?_, ?_, ?_, ?_, ?_, ?_, ?_, ?_, ?_⟩ <;> simp only [kJ1] <;> omega
theorem zD6 (S G R T : Heap) : HLe (S ++ (G ++ (R ++ T))) (R ++ (S ++ (G ++ T))) := fun _ _ _ hw => hw.perm (by
 have h1 := List.perm_append_comm_assoc R (S ++ G) T
 simp only [xF] at h1 ⊢
 exact h1)
theorem SlOk.nil' {A : Option Addr} {n : Nat} (h : SlOk A n) : A = none → n = 0 := by
 rcases h with ⟨rfl, rfl⟩ | ⟨g, o, rfl⟩
 ·exact fun _ => rfl
 ·exact fun h => by cases h
end
section
open Go.RowKit
set_option maxRecDepth 100000
theorem cck0 : Lays.n240 Tryz.prog jM4 where
 mixed := by kernel_rfl
 f240 := by kernel_rfl
 f276 := by kernel_rfl
 t0 := by kernel_rfl
 a0 := fun w => by kernel_rfl
 z0 := fun w => by kernel_rfl
 v0 := fun w => by kernel_rfl
 t4 := by kernel_rfl
 a4 := fun w => by kernel_rfl
 z4 := fun w => by kernel_rfl
 v4 := fun w => by kernel_rfl
 t9 := by kernel_rfl
 a9 := fun w => by kernel_rfl
 z9 := fun w => by kernel_rfl
 v9 := fun w => by kernel_rfl
 t20 := by kernel_rfl
 a20 := fun w => by kernel_rfl
 z20 := fun w => by kernel_rfl
 v20 := fun w => by kernel_rfl
 t70 := by kernel_rfl
 a70 := fun w => by kernel_rfl
 z70 := fun w => by kernel_rfl
 v70 := fun w => by kernel_rfl
 t72 := by kernel_rfl
 a72 := fun w => by kernel_rfl
 z72 := fun w => by kernel_rfl
 v72 := fun w => by kernel_rfl
 t164 := by kernel_rfl
 a164 := fun w => by kernel_rfl
 z164 := fun w => by kernel_rfl
 v164 := fun w => by kernel_rfl
theorem cck1 : Builder.X72 Tryz.prog jM4 where
 sizeBuilder := by kernel_rfl
 liesBuilder := by kernel_rfl
theorem wN8 : Enters Tryz.prog 156 := Enters.mk Tryz.func156 (by kernel_rfl) (by kernel_rfl)
abbrev bldE (g : Nat) (p v : Value) : Ent := .own g 211 [p, v]
theorem zF7 (g : Nat) (p v : Value) (hp : p = .pointer none ∨ p = ptr g 0) : Fn Tryz.prog 156 [ptr g 0] [bldE g p v] fun u H' => u = .tuple #[] ∧ H' = [bldE g (ptr g 0) v] :=
 ⟨wN8, fun w hw => by
  have hm : w.heap[g]? = some (.cells [p, v].toArray 211 (0, 0)) := hw.mem (i := 0) (e := bldE g p v) rfl
  rcases hp with rfl | rfl
  ·refine (Any.Builder_copyCheck_fresh cck0 cck1 g w (by simp [World.cell?, hm]) (by simp [World.shape?, hm]; rfl) (by simp [World.frozen?, hm])).mono ?_
   rintro e w' ⟨rfl, rfl⟩
   exact ⟨_, _, rfl, ⟨rfl, rfl⟩, hw.turn (i := 0) rfl rfl (e' := bldE g (ptr g 0) v) rfl (Only.setCell w g 0 _) (Ent.setCell hm 0 (ptr g 0))⟩
  ·refine (Any.Builder_copyCheck_used cck0 cck1 g w (by simp [World.cell?, hm, ptr])).mono ?_
   rintro e w' ⟨rfl, rfl⟩
   exact ⟨_, _, rfl, ⟨rfl, rfl⟩, hw⟩⟩
section
variable {P : Program} {N : Frm} {w0 : World} {Wr : List Nat} {ops : Array Oper} {rest : List Oper} {fr : Fr} {H : Heap} {Z : Fr → Heap → Prop}
variable {d ty : Nat} {pos : String} {after : Array Edge}
theorem vB8 {t : TypeId} {x : Operand} {b : Addr} {n c : Nat} (hx : ev fr x = some (.slice (some b) n c)) (hc : c ≠ 0) (hN : Nat.ble (d + 1) N.n = true)
  (h : sx P N w0 Wr ops rest ((d, .pointer (some b)) :: fr) H Z) : sx P N w0 Wr ops (⟨some d, .call { callee := .builtin .unsafeSliceData, args := #[x], argTypes := #[t] }, ty, pos, after, none⟩ :: rest) fr H Z :=
 jE9 _ hN (fun a w ha _ => by
  have := ha.eval hx
  simp [execOp, resolve, invoke, builtin, this, lI, Lib.run_unsafeSliceData_row (P := P) w _ _ _ _ _ hc]) h
theorem kV7 {t : TypeId} {x : Operand} (hx : ev fr x = some (.slice none 0 0)) (hN : Nat.ble (d + 1) N.n = true)
  (h : sx P N w0 Wr ops rest ((d, .pointer none) :: fr) H Z) : sx P N w0 Wr ops (⟨some d, .call { callee := .builtin .unsafeSliceData, args := #[x], argTypes := #[t] }, ty, pos, after, none⟩ :: rest) fr H Z :=
 jE9 _ hN (fun a w ha _ => by
  have := ha.eval hx
  have hd : (Builtin.unsafeSliceData_ #[t] ty #[.slice none 0 0]).run P w = .ok (.pointer none) w := rfl
  simp [execOp, resolve, invoke, builtin, this, lI, hd]) h
theorem kI9 {t i : TypeId} {x y : Operand} {p : Option Addr} (hx : ev fr x = some (.pointer p)) (hy : ev fr y = some (iq 0)) (hN : Nat.ble (d + 1) N.n = true)
  (h : sx P N w0 Wr ops rest ((d, .string (str [])) :: fr) H Z) : sx P N w0 Wr ops (⟨some d, .call { callee := .builtin .unsafeString, args := #[x, y], argTypes := #[t, i] }, ty, pos, after, none⟩ :: rest) fr H Z :=
 jE9 _ hN (fun a w ha _ => by
  have h1 := ha.eval hx
  have h2 := ha.eval hy
  simp only [execOp, resolve, uE, xN, qJ, h1, h2, lI, l9, lQ, invoke, builtin, Lib.run_unsafeString_none]
  rfl) h
theorem kM2 (i : Nat) {t it e : TypeId} {x y : Operand} {g n c : Nat} {l : List UInt8} (ht : P.underlying t = some (.pointer e)) (hc : P.cellsOf e = 1) (hx : ev fr x = some (ptr g 0)) (hy : ev fr y = some (iq (n : Nat))) (hH : H[i]? = some (.ob g (RowP e 1 n c (bv l)))) (h0 : l ≠ []) (hn : n = l.length) (hN : Nat.ble (d + 1) N.n = true)
  (h : sx P N w0 Wr ops rest ((d, .string (str l)) :: fr) (H.set i (.ro g 0 (bv l))) Z) : sx P N w0 Wr ops (⟨some d, .call { callee := .builtin .unsafeString, args := #[x, y], argTypes := #[t, it] }, ty, pos, after, none⟩ :: rest) fr H Z := by
 subst hn
 refine jL0 (R := fun v H' => v = .string (str l) ∧ H' = H.set i (.ro g 0 (bv l))) hN (fun a w ha hw => ?_) (fun v H' hR => by obtain ⟨rfl, rfl⟩ := hR; exact h)
 obtain ⟨ob, h1, cur, rfl, h2, h3, h4, h5, h6⟩ := hw.mem hH
 have h1' : w.heap[g]? = some (.cells cur e (0, 0)) := h1
 have had : ∀ j : Nat, (⟨g, 0, none⟩ : Addr).add j = ⟨g, j, none⟩ := fun j => by unfold Addr.add; split <;> simp_all
 have hcell : ∀ j x, l[j]? = some x → w.cell? ((⟨g, 0, none⟩ : Addr).add j) = some (.int .u8 x.toNat) := fun j x hj => by
  have hu : (bv l)[j]? = some (.int .u8 (x.toNat : Int)) := by simp [bv, hj]
  rw [← h5, qU] at hu
  split at hu
  ·rw [had j, cell_of_row w g j cur e (0, 0) h1']
   simpa using hu
  ·cases hu
 have hrun := Lib.run_unsafeString_row (P := P) w t it ty e ht hc g cur.size (by simp [World.shape?, h1']) l h0 (by omega) (by unfold maxLen at h3; omega) hcell
 refine ⟨_, w.freeze ⟨g, 0, none⟩ l.length, _, ?_, ⟨rfl, rfl⟩, hw.turn hH rfl (e' := .ro g 0 (bv l)) rfl ?_ ?_⟩
 ·simp only [execOp, resolve, uE, xN, qJ, ha.eval hx, ha.eval hy, lI, l9, lQ, invoke, builtin, ptr, hrun]
  rfl
 ·refine ⟨by simp [World.freeze, h0], by simp [World.freeze, h0], by simp [World.freeze, h0], by simp [World.freeze, h0], fun k _ hk => ?_⟩
  have hk' : g ≠ k := fun e => hk (by simp [Ent.g, e])
  simp [World.freeze, h0, zX, hk']
 ·have hl : g < w.heap.size := (Array.getElem?_eq_some_iff.1 h1').1
  refine ⟨by simpa [World.freeze, h0, Ent.g] using hl, fun j u hu => ?_⟩
  have hj : l[j]?.isSome := by
   simp only [bv, xR, Option.map_eq_some_iff] at hu
   obtain ⟨x, hx, _⟩ := hu
   rw [hx]; rfl
  obtain ⟨x, hx'⟩ := Option.isSome_iff_exists.1 hj
  have hux : u = .int .u8 (x.toNat : Int) := by simpa [bv, hx'] using hu.symm
  have hc2 := hcell j x hx'
  rw [had j] at hc2
  rw [lA, hux, ← hc2]
  simp [World.freeze, h0, World.cell?, zX, h1']
end
abbrev i32v (c : UInt8) : Value := .int .i32 (c.toNat : Int)
theorem yE5 (v : Value) (n : Nat) (l : List UInt8) (c : UInt8) (hc : c.toNat < 128) (hv : RowOk v n) (hn : n = l.length) (hl : l.length ≤ 1000000) :
  Fn Tryz.prog 231 [v, i32v c] (rowE v 5 1 (bv l)) fun u H' => RowOk u (n + 1) ∧ H' = rowE u 5 1 (bv (l ++ [c])) := by
 refine Fn.enter (N := 16) Tryz.func231 rfl (by kernel_rfl) rfl (fun w0 => ?_)
 refine aA rfl rfl <| f2K 0 1 rfl <| aS <| jA3 [(0, v), (1, i32v c), (7, .bool true)] (rowE v 5 1 (bv l)) (fun Z hZ => ?_) ?_
 ·refine sM rfl rfl <| jB7 Tryz.underlying21 Tryz.underlying78 rfl ((c.toNat : Nat) : Int) (IntWalk.u32_in _ (by omega)) rfl ?_
  refine jN4 rfl rfl rfl <| sN (hZ _ _ ?_ ?_)
  ·exact Kn.cons rfl (Kn.cons rfl (Kn.cons (congrArg some (congrArg Value.bool (by simp; omega))) Kn.nil))
  ·exact HLe.refl _
 refine aC0 (fun h => ?_) (fun h => ?_)
 ·refine aR (fun Z hZ => sM rfl rfl <| sM rfl rfl <| jB7 Tryz.underlying21 Tryz.underlying5 rfl ((c.toNat : Nat) : Int) (IntWalk.u8_in _ (by omega)) rfl ?_)
  refine sBS0 Tryz.underlying44 tyS5 tyZ5 (fun g1 => ?_)
  refine jC9 [_] kI3 rfl hv (by rw [jH3, hn, zE]) rfl (fun w hw => jJ3 (i := 0) (n := 1) (xs := bv [c]) rfl rfl hw) rfl (by show _ ≤ 9223372036854775807; omega) (by omega) (HLe.refl _) rfl (fun v2 hv2 => ?_)
  refine sAN hZ rfl rfl <| f1K 4 rfl <| aE ?_
  repeat refine nTR ?_
  exact jC1 (rowE v2 5 1 (bv l ++ bv [c])) rfl rfl (HLe.sub (lP [_] _)) ⟨hv2, by rw [jN1]⟩
 ·cases h
theorem yW8 (g : Nat) (p v : Value) (l : List UInt8) (hv : RowOk v l.length) (h0 : l = [] → v = .slice none 0 0) :
  Fn Tryz.prog 114 [ptr g 0] ([bldE g p v] ++ rowE v 5 1 (bv l)) fun u _ => u = .string (str l) := by
 refine Fn.enter (N := 14) Tryz.func114 rfl (by kernel_rfl) rfl (fun w0 => ?_)
 refine aA rfl rfl <| f1K 0 rfl ?_
 rcases hv with ⟨rfl, hl0⟩ | ⟨g', cp, rfl⟩
 ·have hl : l = [] := List.length_eq_zero_iff.1 hl0
  subst hl
  refine jD3 _ [(0, true), (1, true), (2, true), (3, true), (4, false), (5, true), (6, true), (7, true), (8, true), (9, true), (10, false), (11, true)] mixed (by kernel_rfl) (HLe.pick [0] (by simp) (by simp only [pick, l7, lZ]; rfl)) (fun Z hZ => ?_)
  refine tw_p rfl <| jA8 ?_
  refine vN <| tw_p rfl <| jE0 rfl rfl <| vN <| tw_p rfl <| jA7 jQ8 ?_
  refine vN <| tw_p rfl ?_
  first | refine jE6 0 rfl rfl tyA44 tyS44 rfl rfl ?_
  refine vN <| tw_g rfl <| kV7 rfl rfl <| sN ⟨HLe.pick [0] (by simp) rfl, ?_⟩
  refine tw_p rfl <| jA8 ?_
  refine vN <| tw_p rfl <| jE0 rfl rfl <| vN <| tw_p rfl <| jA7 jQ8 ?_
  refine vN <| tw_p rfl ?_
  first | refine jE6 0 rfl rfl tyA44 tyS44 rfl rfl ?_
  refine vN <| tw_p rfl <| vC4 Tryz.underlying44 rfl rfl <| vN <| tw_g rfl <| kI9 rfl rfl rfl <| sN ⟨HLe.pick [0] (by simp) rfl, ?_⟩
  refine tw_p rfl <| jE7 rfl rfl <| vN <| jI7 (hZ _ _ <| f1K 2 rfl <| aE <| nR10 rfl)
 ·have hl : l ≠ [] := fun h => by cases h0 h
  refine yD9 (fun w hw => row_cap (RowOk.mk g' l.length cp) (fun x hx => x0 _ hx) hw) (fun hcap => ?_)
  have hpos : 0 < l.length := List.length_pos_iff.2 hl
  refine jD3 _ [(0, true), (1, true), (2, true), (3, true), (4, false), (5, true), (6, true), (7, true), (8, true), (9, true), (10, false), (11, true)] mixed (by kernel_rfl) (HLe.pick [0] (by simp) (by simp only [pick, l7, lZ]; rfl)) (fun Z hZ => ?_)
  refine tw_p rfl <| jA8 ?_
  refine vN <| tw_p rfl <| jE0 rfl rfl <| vN <| tw_p rfl <| jA7 jQ8 ?_
  refine vN <| tw_p rfl ?_
  first | refine jE6 0 rfl rfl tyA44 tyS44 rfl rfl ?_
  refine vN <| tw_g rfl <| vB8 rfl (by have := hcap.1; omega) rfl ?_
  refine sN ⟨HLe.pick [0] (by simp) rfl, ?_⟩
  refine tw_p rfl <| jA8 ?_
  refine vN <| tw_p rfl <| jE0 rfl rfl <| vN <| tw_p rfl <| jA7 jQ8 ?_
  refine vN <| tw_p rfl ?_
  first | refine jE6 0 rfl rfl tyA44 tyS44 rfl rfl ?_
  refine vN <| tw_p rfl <| vC4 Tryz.underlying44 rfl rfl <| vN <| tw_g rfl <| kM2 1 Tryz.underlying254 (by kernel_rfl) rfl rfl rfl hl rfl rfl ?_
  refine sN ⟨HLe.pick [0] (by simp) rfl, ?_⟩
  refine tw_p rfl <| jE7 rfl rfl <| vN <| jI7 (hZ _ _ <| f1K 2 rfl <| aE <| nR10 rfl)
end
end Go.Proofs.YtfeopecgedbfpaaGreatDoor
