/- Walks and plain laws for this claim (texts Ghd1, joined). Each theorem states its own conditions. -/
import Derived.Test.YtkojkeabelckjaaGreatDoorJ05
import Derived.Test.YtkojkeabelckjaaGreatDoorJ21

set_option linter.all false
namespace Go.Proofs.YtkojkeabelckjaaGreatDoor.Y
open Go.RowKit
theorem end_fn (f l : Nat) : Fn Tryz.prog 112 [.agg #[.int .u64 f, .int .u64 l]] [] fun v _ => v = .int .u64 (IntKind.u64.wrap (f + l)) := by
 refine Fn.enter (N := 8) Tryz.func112 rfl (by kernel_rfl) rfl (fun w0 => ?_)
 refine aR (fun Z hZ => ?_)
 refine jC3 rfl rfl rfl (fun g1 => ?_)
 refine sA rfl rfl <| sN (hZ _ _ ?_)
 refine aF [(1, _)] (Kn.cons rfl (Kn.nil)) ?_
 refine aR (fun Z hZ => ?_)
 refine sFA rfl tyF76_0 (by simp only [Nat.add_zero]; rfl) rfl ?_
 first | refine sL 0 rfl rfl tyA45 tyS45 rfl rfl ?_
 refine sFA rfl tyF76_1 (by simp only [Nat.zero_add]; rfl) rfl ?_
 first | refine sL 0 rfl rfl tyA45 tyS45 rfl rfl ?_
 refine jB8 rfl rfl _ rfl rfl ?_
 refine sA rfl rfl <| sN (hZ _ _ ?_)
 refine aF [(2, _)] (Kn.cons rfl (Kn.nil)) ?_
 refine aE ?_
 exact nR1 rfl rfl rfl
def fitsV (f l : Nat) : Bool := decide (f ≤ 1099511627776) && decide (l ≤ 1099511627776) && decide (IntKind.u64.wrap (f + l) ≤ 1099511627776)
theorem hfits_fn (f l : Nat) : Fn Tryz.prog 145 [.agg #[.int .u64 f, .int .u64 l]] [] fun v _ => v = .bool (fitsV f l) := by
 refine Fn.enter (N := 16) Tryz.func145 rfl (by kernel_rfl) rfl (fun w0 => ?_)
 refine aR (fun Z hZ => ?_)
 refine jC3 rfl rfl rfl (fun g1 => ?_)
 refine sA rfl rfl <| sN (hZ _ _ ?_)
 refine aF [(1, _)] (Kn.cons rfl (Kn.nil)) ?_
 refine jA7 [(2, .bool (fitsV f l))] [] (fun Z hZ => ?_) ?_
 ·refine sFA rfl tyF76_0 (by simp only [Nat.add_zero]; rfl) rfl ?_
  first | refine sL 0 rfl rfl tyA45 tyS45 rfl rfl ?_
  refine sx_leq rfl rfl rfl ?_
  refine sM rfl rfl ?_
  refine jG0 6 rfl (fun hb3 => ?_) (fun hb3 => ?_)
  ·refine sOn rfl rfl rfl ?_
   refine sFA rfl tyF76_1 (by simp only [Nat.zero_add]; rfl) rfl ?_
   refine sOn rfl rfl rfl ?_
   first | refine sL 0 rfl rfl tyA45 tyS45 rfl rfl ?_
   refine sOn rfl rfl rfl ?_
   refine sx_leq rfl rfl rfl ?_
   refine sP rfl rfl rfl <| sM rfl rfl ?_
   refine jG0 11 rfl (fun hb8 => ?_) (fun hb8 => ?_)
   ·refine sOn rfl rfl rfl ?_
    first | refine sLA 0 rfl rfl tyA76 tyS76 rfl (by simp only [qS, Value.cells]; rfl) rfl ?_
    refine sOn rfl rfl rfl ?_
    refine sCP (end_fn _ _) rfl rfl ?_
    refine sOn rfl rfl rfl ?_
    refine sx_leq rfl rfl rfl ?_
    refine sP rfl rfl rfl <| sA rfl rfl ?_
    refine sN (hZ _ _ ?_ ?_)
    ·exact Kn.cons (congrArg some (congrArg Value.bool (by simp [fitsV] at *; omega))) Kn.nil
    ·exact HLe.pick [] (by simp) rfl
   ·refine sO rfl rfl rfl rfl rfl ?_
    refine sO rfl rfl rfl rfl rfl ?_
    refine sO rfl rfl rfl rfl rfl ?_
    refine sP rfl rfl rfl <| sA rfl rfl ?_
    refine sN (hZ _ _ ?_ ?_)
    ·exact Kn.cons (congrArg some (congrArg Value.bool (by simp [fitsV] at *; omega))) Kn.nil
    ·exact HLe.pick [] (by simp) rfl
  ·refine sO rfl rfl rfl rfl rfl ?_
   refine sO rfl rfl rfl rfl rfl ?_
   refine sO rfl rfl rfl rfl rfl ?_
   refine sP rfl rfl rfl <| sM rfl rfl ?_
   refine sO rfl rfl rfl rfl rfl ?_
   refine sO rfl rfl rfl rfl rfl ?_
   refine sO rfl rfl rfl rfl rfl ?_
   refine sP rfl rfl rfl <| sA rfl rfl ?_
   refine sN (hZ _ _ ?_ ?_)
   ·exact Kn.cons (congrArg some (congrArg Value.bool (by simp [fitsV] at *; omega))) Kn.nil
   ·exact HLe.pick [] (by simp) rfl
 refine aE ?_
 exact nR1 rfl rfl rfl
def ints (l : List Int) : List Value := l.map (Value.int .i64)
theorem ints_at {l : List Int} {k : Nat} (h : k < l.length) : (ints l)[k]? = some (.int .i64 l[k]) := by simp [ints, h]
theorem hwithin_fn (lo hi : Int) (g : Nat) (l : List Int) (hl : l.length ≤ 1000) : Fn Tryz.prog 146 [.int .i64 lo, .int .i64 hi, .slice (some ⟨g, 0, none⟩) l.length l.length] [.own g 3 (ints l)]
  fun v H' => v = .bool (l.all fun n => decide (lo ≤ n) && decide (n ≤ hi)) ∧ H' = [.own g 3 (ints l)] := by
 refine Fn.enter (N := 24) Tryz.func146 rfl (by kernel_rfl) rfl (fun w0 => ?_)
 refine aR fun Z hZ => sA rfl rfl <| sN (hZ _ _ ?_)
 refine aF [(0, _), (1, _), (2, _)] (kR rfl) ?_
 refine aS ?_
 refine aR fun Z hZ => sM rfl rfl ?_
 refine jD9 Tryz.underlying247 rfl rfl ?_
 refine sM rfl rfl <| sN (hZ _ _ ?_)
 refine aF [(0, _), (1, _), (9, _), (10, _), (11, _)] (kR rfl) ?_
 refine aB ?_
 refine jB6 (fun k : Nat => [(0, .int .i64 lo), (1, .int .i64 hi), (9, .slice (some ⟨g, 0, none⟩) l.length l.length), (10, .int .i64 l.length), (11, .int .i64 (k : Int))]) (fun _ => [.own g 3 (ints l)])
  (fun k => k ≤ l.length ∧ (l.take k).all (fun n => decide (lo ≤ n) && decide (n ≤ hi)) = true) (fun k => l.length - k) 0 ⟨by omega, by simp⟩ (kR rfl) (HLe.refl _) ?_
 rintro k ⟨hk, hall⟩
 refine aR (fun Z hZ => ?_)
 refine jC4 rfl rfl rfl ?_
 refine sN (hZ _ _ ?_)
 refine aF [(0, _), (1, _), (9, _), (10, _), (11, _), (12, _)] (kR rfl) ?_
 refine aS (aC rfl (fun h => ?_) (fun h => ?_))
 ·have hlt : k < l.length := by simpa using h
  refine aK ?_
  with_reducible refine nN ?_
  refine aS (aB ?_)
  refine aR (fun Z hZ => ?_)
  refine jA6 (k * 1) Tryz.underlying247 tyS3 rfl rfl (by omega) (by simp) rfl ?_
  refine sL 0 rfl rfl tyA3 tyS3 (by rw [Nat.mul_one]; exact ints_at hlt) rfl ?_
  refine sA rfl rfl <| sN (hZ _ _ ?_)
  refine aF [(0, _), (1, _), (8, _), (9, _), (10, _), (11, _)] (kR rfl) ?_
  refine jA7 [(0, .int .i64 lo), (1, .int .i64 hi), (9, .slice (some ⟨g, 0, none⟩) l.length l.length), (10, .int .i64 l.length), (11, .int .i64 (k : Int)), (22, .bool (!(decide (lo ≤ l[k]) && decide (l[k] ≤ hi))))] [.own g 3 (ints l)] (fun Z hZ => ?_) ?_
  ·refine sM rfl rfl ?_
   refine sM rfl rfl ?_
   refine jC4 rfl rfl rfl ?_
   refine sM rfl rfl ?_
   refine jG0 18 rfl (fun hb3 => ?_) (fun hb3 => ?_)
   ·refine sO rfl rfl rfl rfl rfl ?_
    refine sO rfl rfl rfl rfl rfl ?_
    refine sO rfl rfl rfl rfl rfl ?_
    refine sP rfl rfl rfl ?_
    refine sN (hZ _ _ ?_ ?_)
    ·exact Kn.cons rfl (Kn.cons rfl (Kn.cons rfl (Kn.cons rfl (Kn.cons rfl (Kn.cons (congrArg some (congrArg Value.bool (by simp at hb3; rw [Bool.eq_iff_iff]; simp; omega))) Kn.nil)))))
    ·exact HLe.refl _
   ·refine sOn rfl rfl rfl ?_
    refine sM rfl rfl ?_
    refine sOn rfl rfl rfl ?_
    refine sM rfl rfl ?_
    refine sOn rfl rfl rfl ?_
    refine jF3 rfl rfl rfl ?_
    refine sP rfl rfl rfl ?_
    refine sN (hZ _ _ ?_ ?_)
    ·exact Kn.cons rfl (Kn.cons rfl (Kn.cons rfl (Kn.cons rfl (Kn.cons rfl (Kn.cons (congrArg some (congrArg Value.bool (by simp at hb3; rw [Bool.eq_iff_iff]; simp; omega))) Kn.nil)))))
    ·exact HLe.refl _
  refine aC rfl (fun h22 => ?_) (fun h22 => ?_)
  ·refine aR (fun Z hZ => ?_)
   refine sA rfl rfl <| sN (hZ _ _ ?_)
   refine aF [(6, _)] (Kn.cons rfl (Kn.nil)) ?_
   refine aE ?_
   repeat (with_reducible (first | refine nTR ?_ | refine nBR ?_))
   refine nR1 rfl rfl ⟨congrArg Value.bool ?_, rfl⟩
   symm
   rw [List.all_eq_false]
   exact ⟨l[k], List.getElem_mem _, by simp at h22 ⊢; omega⟩
  ·refine aK ?_
   repeat (with_reducible refine nBN ?_)
   with_reducible refine nN ?_
   refine aG (fun Z hZ => ?_)
   refine jB8 rfl rfl ((k + 1 : Nat) : Int) (by rw [IntWalk.i64_in _ (by omega)]; omega) rfl ?_
   refine sM rfl rfl <| sN (hZ _ _ ?_)
   refine nF [(0, _), (1, _), (9, _), (10, _), (11, _)] (kR rfl) ?_
   refine jB5 (k + 1) ⟨by omega, ?_⟩ (by omega) (kR rfl) (HLe.refl _)
   rw [List.take_succ_eq_append_getElem hlt, List.all_append, hall]
   simp at h22 ⊢
   omega
 ·refine jB1 ?_
  repeat (with_reducible refine nTE ?_)
  with_reducible refine nBE ?_
  with_reducible refine nN ?_
  have hke : k = l.length := by simp at h; omega
  subst hke
  refine aR fun Z hZ => sA rfl rfl <| sN (hZ _ _ ?_)
  refine aF [(6, _)] (Kn.cons rfl (Kn.nil)) ?_
  refine aE ?_
  refine nR1 rfl rfl ⟨congrArg Value.bool ?_, rfl⟩
  rw [List.take_length] at hall
  exact hall.symm
structure Hdr where
 (r0 r1 m0 m1 l0 l1 d0 d1 ad en co : Nat)
 cl : Bool
 (ic oc ki : Nat)
 (z0 z1 lo0 la0 lo1 la1 zo lon lat : Int)
abbrev Hdr.cells (h : Hdr) : List Value :=
 [uq h.r0, uq h.r1, uq h.m0, uq h.m1, uq h.l0, uq h.l1, uq h.d0, uq h.d1, uq h.ad, uq h.en, uq h.co, .bool h.cl, ub h.ic, ub h.oc, ub h.ki, iq h.z0, iq h.z1, iq h.lo0, iq h.la0, iq h.lo1, iq h.la1, iq h.zo, iq h.lon, iq h.lat]
abbrev Hdr.val (h : Hdr) : Value := .agg h.cells.toArray
abbrev Hdr.secs (h : Hdr) : List Value := [uq h.r0, uq h.r1, uq h.m0, uq h.m1, uq h.l0, uq h.l1, uq h.d0, uq h.d1]
theorem hsections_fn (h : Hdr) : Fn Tryz.prog 101 [h.val] [] fun v _ => v = .agg h.secs.toArray := by
 refine Fn.enter (N := 12) Tryz.func101 rfl (by kernel_rfl) rfl (fun w0 => ?_)
 refine aR (fun Z hZ => ?_)
 refine jC3 rfl rfl rfl (fun g1 => ?_)
 refine sAl tyZ141 rfl (fun g2 => ?_)
 refine sN (hZ _ _ ?_)
 refine aF [(1, _), (2, _)] (kR rfl) ?_
 refine aR (fun Z hZ => ?_)
 refine sFA rfl tyF78_0 (by simp only [Nat.add_zero]; rfl) rfl ?_
 refine sLA 1 rfl rfl tyA76 tyS76 rfl (by simp only [qS, Value.cells]; rfl) rfl ?_
 refine sFA rfl tyF78_1 (by simp only [Nat.zero_add]; rfl) rfl ?_
 refine sLA 1 rfl rfl tyA76 tyS76 rfl (by simp only [qS, Value.cells]; rfl) rfl ?_
 refine sFA rfl tyF78_2 (by simp only [Nat.zero_add]; rfl) rfl ?_
 refine sLA 1 rfl rfl tyA76 tyS76 rfl (by simp only [qS, Value.cells]; rfl) rfl ?_
 refine sFA rfl tyF78_3 (by simp only [Nat.zero_add]; rfl) rfl ?_
 refine sLA 1 rfl rfl tyA76 tyS76 rfl (by simp only [qS, Value.cells]; rfl) rfl ?_
 refine sx_buildA tyZ141 Tryz.underlying141 tyS76 rfl rfl (by simp only [qS, Nat.reduceAdd, Value.cells, wrV, Nat.reduceMul, Nat.zero_mul]; rfl) rfl ?_
 refine sS 0 rfl rfl rfl tyS141 (by simp only [Value.cells]; rfl) rfl rfl rfl (by simp only [qS, Nat.reduceAdd, wrV]; rfl) (by simp only [List.set_cons_zero]; rfl) ?_
 refine sN (hZ _ _ ?_)
 refine aE ?_
 exact nR1 rfl (ResOk.cell 0 rfl rfl tyA141 tyS141 rfl) rfl
def wi (lo hi : Int) (l : List Int) : Bool := l.all fun n => decide (lo ≤ n) && decide (n ≤ hi)
def kindV (h : Hdr) : Bool := decide (4 < h.ic) || decide (4 < h.oc) || decide (5 < h.ki)
def pairV (lo hi a b c : Int) : Bool := !(wi lo hi [a, b, c]) || decide (b < a)
def secsV (h : Hdr) : Bool := fitsV h.r0 h.r1 && fitsV h.m0 h.m1 && fitsV h.l0 h.l1 && fitsV h.d0 h.d1
def jG3 (h : Hdr) : Int :=
 if secsV h = false then 8 else if kindV h = true then 14 else if pairV 0 26 h.z0 h.z1 h.zo = true then 8
 else if pairV (-1800000000) 1800000000 h.lo0 h.lo1 h.lon = true then 8 else if pairV (-900000000) 900000000 h.la0 h.la1 h.lat = true then 8 else 0
def secL (h : Hdr) : List (Nat × Nat) := [(h.r0, h.r1), (h.m0, h.m1), (h.l0, h.l1), (h.d0, h.d1)]
theorem hcheck_fn (h : Hdr) : Fn Tryz.prog 100 [h.val] [] fun v _ => v = .int .i64 (jG3 h) := by
 refine Fn.enter (N := 79) Tryz.func100 rfl (by kernel_rfl) rfl (fun w0 => ?_)
 refine aR (fun Z hZ => ?_)
 refine jC3 rfl rfl rfl (fun g1 => ?_)
 refine sA rfl rfl <| sN (hZ _ _ ?_)
 refine aF [(1, _)] (Kn.cons rfl (Kn.nil)) ?_
 refine aS ?_
 refine aR (fun Z hZ => ?_)
 first | refine sLA 0 rfl rfl tyA78 tyS78 rfl (by simp only [qS, Value.cells]; rfl) rfl ?_
 refine sCP (hsections_fn h) rfl rfl ?_
 refine sM rfl rfl <| sN (hZ _ _ ?_)
 refine aF [(1, _), (6, _), (7, _)] (kR rfl) ?_
 refine aB ?_
 refine jB6 (fun k : Nat => [(1, ptr g1 0), (6, .agg h.secs.toArray), (7, .int .i64 (k : Int))]) (fun _ => [.own g1 78 h.cells])
  (fun k => k ≤ 4 ∧ ((secL h).take k).all (fun p => fitsV p.1 p.2) = true) (fun k => 4 - k) 0 ⟨by omega, by simp⟩ (kR rfl) (HLe.pick [0] (by simp) rfl) ?_
 rintro k ⟨hk, hall⟩
 refine aR (fun Z hZ => ?_)
 refine jC4 rfl rfl rfl ?_
 refine sN (hZ _ _ ?_)
 refine aF [(1, _), (6, _), (7, _), (8, _)] (kR rfl) ?_
 refine aS (aC rfl (fun h4 => ?_) (fun h4 => ?_))
 ·have hlt : k < 4 := by simp at h4; omega
  refine aK ?_
  with_reducible refine nN ?_
  obtain ⟨p, hp, hrd⟩ : ∃ p : Nat × Nat, (secL h)[k]? = some p ∧ rdV true 2 h.secs (k * 2) = some (.agg #[uq p.1, uq p.2]) := by
   obtain rfl | rfl | rfl | rfl : k = 0 ∨ k = 1 ∨ k = 2 ∨ k = 3 := by omega
   all_goals exact ⟨_, rfl, rfl⟩
  refine aS (aB ?_)
  refine aR (fun Z hZ => ?_)
  refine sx_indexA Tryz.underlying141 tyA76 tyS76 rfl rfl (by omega) hrd rfl ?_
  refine sAl tyZ76 rfl (fun g2 => ?_)
  refine sS 0 rfl rfl rfl tyS76 (by simp only [Value.cells]; rfl) rfl rfl rfl (by simp only [qS, Nat.reduceAdd, wrV]; rfl) (by simp only [List.set_cons_zero]; rfl) ?_
  refine sN (hZ _ _ ?_)
  refine aF [(1, _), (4, _), (6, _), (7, _)] (kR rfl) ?_
  refine aR (fun Z hZ => ?_)
  refine sLA 0 rfl rfl tyA76 tyS76 rfl (by simp only [qS]; rfl) rfl ?_
  refine sCP (hfits_fn _ _) rfl rfl ?_
  refine sx_not rfl rfl ?_
  refine sN (hZ _ _ ?_)
  refine aF [(1, _), (6, _), (7, _), (12, _)] (kR rfl) ?_
  refine aC rfl (fun h12 => ?_) (fun h12 => ?_)
  ·refine aR (fun Z hZ => ?_)
   refine sA rfl rfl <| sN (hZ _ _ ?_)
   refine aF [(2, _)] (Kn.cons rfl (Kn.nil)) ?_
   refine aE ?_
   repeat (with_reducible (first | refine nTR ?_ | refine nBR ?_))
   refine nR1 rfl rfl (congrArg (Value.int .i64) ?_)
   have : secsV h = false := by
    have hm : p ∈ secL h := List.mem_of_getElem? hp
    have h13 : fitsV p.1 p.2 = false := by simpa using h12
    simp only [secL, List.mem_cons, List.not_mem_nil, or_false] at hm
    unfold secsV
    rcases hm with rfl | rfl | rfl | rfl <;> simp_all
   simp [jG3, this]
  ·refine aK ?_
   repeat (with_reducible refine nBN ?_)
   with_reducible refine nN ?_
   refine aG (fun Z hZ => ?_)
   refine jB8 rfl rfl ((k + 1 : Nat) : Int) (by rw [IntWalk.i64_in _ (by omega)]; omega) rfl ?_
   refine sM rfl rfl <| sN (hZ _ _ ?_)
   refine nF [(1, _), (6, _), (7, _)] (kR rfl) ?_
   refine jB5 (k + 1) ⟨by omega, ?_⟩ (by omega) (kR rfl) (HLe.pick [1] (by simp) rfl)
   obtain ⟨hk', hp'⟩ := List.getElem?_eq_some_iff.1 hp
   rw [List.take_succ_eq_append_getElem hk', List.all_append, hall, hp']
   simpa using h12
 ·refine jB1 ?_
  repeat (with_reducible refine nTE ?_)
  with_reducible refine nBE ?_
  with_reducible refine nN ?_
  have hke : k = 4 := by simp at h4; omega
  subst hke
  have hs : secsV h = true := by simpa [secL, secsV, Bool.and_assoc] using hall
  refine aS (aB ?_)
  refine jA7 [(1, ptr g1 0), (14, .bool (kindV h))] [.own g1 78 h.cells] (fun Z hZ => ?_) ?_
  ·refine sFA rfl tyF78_8 (by simp only [Nat.zero_add]; rfl) rfl ?_
   first | refine sL 0 rfl rfl tyA5 tyS5 rfl rfl ?_
   refine jF3 rfl rfl rfl ?_
   refine sM rfl rfl ?_
   refine jG0 18 rfl (fun hb3 => ?_) (fun hb3 => ?_)
   ·refine sO rfl rfl rfl rfl rfl ?_
    refine sO rfl rfl rfl rfl rfl ?_
    refine sO rfl rfl rfl rfl rfl ?_
    refine sP rfl rfl rfl <| sM rfl rfl ?_
    refine sO rfl rfl rfl rfl rfl ?_
    refine sO rfl rfl rfl rfl rfl ?_
    refine sO rfl rfl rfl rfl rfl ?_
    refine sP rfl rfl rfl <| sA rfl rfl ?_
    refine sN (hZ _ _ ?_ ?_)
    ·exact Kn.cons rfl (Kn.cons (congrArg some (congrArg Value.bool (by rw [Bool.eq_iff_iff]; simp [kindV] at *; omega))) Kn.nil)
    ·exact HLe.refl _
   ·refine sOn rfl rfl rfl ?_
    refine sFA rfl tyF78_9 (by simp only [Nat.zero_add]; rfl) rfl ?_
    refine sOn rfl rfl rfl ?_
    first | refine sL 0 rfl rfl tyA5 tyS5 rfl rfl ?_
    refine sOn rfl rfl rfl ?_
    refine jF3 rfl rfl rfl ?_
    refine sP rfl rfl rfl <| sM rfl rfl ?_
    refine jG0 23 rfl (fun hb8 => ?_) (fun hb8 => ?_)
    ·refine sO rfl rfl rfl rfl rfl ?_
     refine sO rfl rfl rfl rfl rfl ?_
     refine sO rfl rfl rfl rfl rfl ?_
     refine sP rfl rfl rfl <| sA rfl rfl ?_
     refine sN (hZ _ _ ?_ ?_)
     ·exact Kn.cons rfl (Kn.cons (congrArg some (congrArg Value.bool (by rw [Bool.eq_iff_iff]; simp [kindV] at *; omega))) Kn.nil)
     ·exact HLe.refl _
    ·refine sOn rfl rfl rfl ?_
     refine sFA rfl tyF78_10 (by simp only [Nat.zero_add]; rfl) rfl ?_
     refine sOn rfl rfl rfl ?_
     first | refine sL 0 rfl rfl tyA5 tyS5 rfl rfl ?_
     refine sOn rfl rfl rfl ?_
     refine jF3 rfl rfl rfl ?_
     refine sP rfl rfl rfl <| sA rfl rfl ?_
     refine sN (hZ _ _ ?_ ?_)
     ·exact Kn.cons rfl (Kn.cons (congrArg some (congrArg Value.bool (by rw [Bool.eq_iff_iff]; simp [kindV] at *; omega))) Kn.nil)
     ·exact HLe.refl _
  refine aC rfl (fun h14 => ?_) (fun h14 => ?_)
  ·refine aR (fun Z hZ => ?_)
   refine sA rfl rfl <| sN (hZ _ _ ?_)
   refine aF [(2, _)] (Kn.cons rfl (Kn.nil)) ?_
   refine aE ?_
   repeat (with_reducible (first | refine nTR ?_ | refine nBR ?_))
   exact nR1 rfl rfl (by simp [jG3, hs, h14])
  refine jA7 [(1, ptr g1 0), (28, .bool (pairV 0 26 h.z0 h.z1 h.zo))] [.own g1 78 h.cells] (fun Z hZ => ?_) ?_
  ·refine sFA rfl tyF78_11 (by simp only [Nat.zero_add]; rfl) rfl ?_
   first | refine sL 0 rfl rfl tyA3 tyS3 rfl rfl ?_
   refine sFA rfl tyF78_12 (by simp only [Nat.zero_add]; rfl) rfl ?_
   first | refine sL 0 rfl rfl tyA3 tyS3 rfl rfl ?_
   refine sFA rfl tyF78_17 (by simp only [Nat.zero_add]; rfl) rfl ?_
   first | refine sL 0 rfl rfl tyA3 tyS3 rfl rfl ?_
   refine sBS Tryz.underlying247 tyS3 tyZ3 rfl rfl rfl rfl (by simp only [qS, Nat.reduceAdd, Value.cells, wrV, jG9, List.replicate_succ, List.replicate_zero, Nat.reduceMul, Nat.zero_mul]; rfl) rfl (fun g3 => ?_)
   refine jB0 [0] [1] (hwithin_fn 0 26 _ [h.z0, h.z1, h.zo] (by simp)) rfl rfl (by simp) rfl ?_
   rintro v H' ⟨rfl, rfl⟩
   refine jC0 (by simp only [List.filter_cons, List.filter_nil, Ent.wr, if_true, qS, pick, List.filterMap_cons]; first | done | rfl) ?_
   refine sx_not rfl rfl ?_
   refine sM rfl rfl ?_
   refine jG0 38 rfl (fun hb9 => ?_) (fun hb9 => ?_)
   ·refine sO rfl rfl rfl rfl rfl ?_
    refine sO rfl rfl rfl rfl rfl ?_
    refine sO rfl rfl rfl rfl rfl ?_
    refine sO rfl rfl rfl rfl rfl ?_
    refine sO rfl rfl rfl rfl rfl ?_
    refine sP rfl rfl rfl <| sA rfl rfl ?_
    refine sN (hZ _ _ ?_ ?_)
    ·exact Kn.cons rfl (Kn.cons (congrArg some (congrArg Value.bool (by rw [Bool.eq_iff_iff]; simp [pairV, wi] at *; omega))) Kn.nil)
    ·exact HLe.pick [1] (by simp) rfl
   ·refine sOn rfl rfl rfl ?_
    refine sFA rfl tyF78_11 (by simp only [Nat.zero_add]; rfl) rfl ?_
    refine sOn rfl rfl rfl ?_
    refine sL 1 rfl rfl tyA3 tyS3 rfl rfl ?_
    refine sOn rfl rfl rfl ?_
    refine sFA rfl tyF78_12 (by simp only [Nat.zero_add]; rfl) rfl ?_
    refine sOn rfl rfl rfl ?_
    refine sL 1 rfl rfl tyA3 tyS3 rfl rfl ?_
    refine sOn rfl rfl rfl ?_
    refine jF3 rfl rfl rfl ?_
    refine sP rfl rfl rfl <| sA rfl rfl ?_
    refine sN (hZ _ _ ?_ ?_)
    ·exact Kn.cons rfl (Kn.cons (congrArg some (congrArg Value.bool (by rw [Bool.eq_iff_iff]; simp [pairV, wi] at *; omega))) Kn.nil)
    ·exact HLe.pick [1] (by simp) rfl
  refine aC rfl (fun h28 => ?_) (fun h28 => ?_)
  ·refine aR (fun Z hZ => ?_)
   refine sA rfl rfl <| sN (hZ _ _ ?_)
   refine aF [(2, _)] (Kn.cons rfl (Kn.nil)) ?_
   refine aE ?_
   repeat (with_reducible (first | refine nTR ?_ | refine nBR ?_))
   exact nR1 rfl rfl (by simp [jG3, hs, h14, h28])
  refine jA7 [(1, ptr g1 0), (45, .bool (pairV (-1800000000) 1800000000 h.lo0 h.lo1 h.lon))] [.own g1 78 h.cells] (fun Z hZ => ?_) ?_
  ·refine sFA rfl tyF78_13 (by simp only [Nat.zero_add]; rfl) rfl ?_
   first | refine sL 0 rfl rfl tyA3 tyS3 rfl rfl ?_
   refine sFA rfl tyF78_15 (by simp only [Nat.zero_add]; rfl) rfl ?_
   first | refine sL 0 rfl rfl tyA3 tyS3 rfl rfl ?_
   refine sFA rfl tyF78_18 (by simp only [Nat.zero_add]; rfl) rfl ?_
   first | refine sL 0 rfl rfl tyA3 tyS3 rfl rfl ?_
   refine sBS Tryz.underlying247 tyS3 tyZ3 rfl rfl rfl rfl (by simp only [qS, Nat.reduceAdd, Value.cells, wrV, jG9, List.replicate_succ, List.replicate_zero, Nat.reduceMul, Nat.zero_mul]; rfl) rfl (fun g4 => ?_)
   refine jB0 [0] [1] (hwithin_fn (-1800000000) 1800000000 _ [h.lo0, h.lo1, h.lon] (by simp)) rfl rfl (by simp) rfl ?_
   rintro v H' ⟨rfl, rfl⟩
   refine jC0 (by simp only [List.filter_cons, List.filter_nil, Ent.wr, if_true, qS, pick, List.filterMap_cons]; first | done | rfl) ?_
   refine sx_not rfl rfl ?_
   refine sM rfl rfl ?_
   refine jG0 55 rfl (fun hb9 => ?_) (fun hb9 => ?_)
   ·refine sO rfl rfl rfl rfl rfl ?_
    refine sO rfl rfl rfl rfl rfl ?_
    refine sO rfl rfl rfl rfl rfl ?_
    refine sO rfl rfl rfl rfl rfl ?_
    refine sO rfl rfl rfl rfl rfl ?_
    refine sP rfl rfl rfl <| sA rfl rfl ?_
    refine sN (hZ _ _ ?_ ?_)
    ·exact Kn.cons rfl (Kn.cons (congrArg some (congrArg Value.bool (by rw [Bool.eq_iff_iff]; simp [pairV, wi] at *; omega))) Kn.nil)
    ·exact HLe.pick [1] (by simp) rfl
   ·refine sOn rfl rfl rfl ?_
    refine sFA rfl tyF78_13 (by simp only [Nat.zero_add]; rfl) rfl ?_
    refine sOn rfl rfl rfl ?_
    refine sL 1 rfl rfl tyA3 tyS3 rfl rfl ?_
    refine sOn rfl rfl rfl ?_
    refine sFA rfl tyF78_15 (by simp only [Nat.zero_add]; rfl) rfl ?_
    refine sOn rfl rfl rfl ?_
    refine sL 1 rfl rfl tyA3 tyS3 rfl rfl ?_
    refine sOn rfl rfl rfl ?_
    refine jF3 rfl rfl rfl ?_
    refine sP rfl rfl rfl <| sA rfl rfl ?_
    refine sN (hZ _ _ ?_ ?_)
    ·exact Kn.cons rfl (Kn.cons (congrArg some (congrArg Value.bool (by rw [Bool.eq_iff_iff]; simp [pairV, wi] at *; omega))) Kn.nil)
    ·exact HLe.pick [1] (by simp) rfl
  refine aC rfl (fun h45 => ?_) (fun h45 => ?_)
  ·refine aR (fun Z hZ => ?_)
   refine sA rfl rfl <| sN (hZ _ _ ?_)
   refine aF [(2, _)] (Kn.cons rfl (Kn.nil)) ?_
   refine aE ?_
   repeat (with_reducible (first | refine nTR ?_ | refine nBR ?_))
   exact nR1 rfl rfl (by simp [jG3, hs, h14, h28, h45])
  refine jA7 [(1, ptr g1 0), (62, .bool (pairV (-900000000) 900000000 h.la0 h.la1 h.lat))] [.own g1 78 h.cells] (fun Z hZ => ?_) ?_
  ·refine sFA rfl tyF78_14 (by simp only [Nat.zero_add]; rfl) rfl ?_
   first | refine sL 0 rfl rfl tyA3 tyS3 rfl rfl ?_
   refine sFA rfl tyF78_16 (by simp only [Nat.zero_add]; rfl) rfl ?_
   first | refine sL 0 rfl rfl tyA3 tyS3 rfl rfl ?_
   refine sFA rfl tyF78_19 (by simp only [Nat.zero_add]; rfl) rfl ?_
   first | refine sL 0 rfl rfl tyA3 tyS3 rfl rfl ?_
   refine sBS Tryz.underlying247 tyS3 tyZ3 rfl rfl rfl rfl (by simp only [qS, Nat.reduceAdd, Value.cells, wrV, jG9, List.replicate_succ, List.replicate_zero, Nat.reduceMul, Nat.zero_mul]; rfl) rfl (fun g5 => ?_)
   refine jB0 [0] [1] (hwithin_fn (-900000000) 900000000 _ [h.la0, h.la1, h.lat] (by simp)) rfl rfl (by simp) rfl ?_
   rintro v H' ⟨rfl, rfl⟩
   refine jC0 (by simp only [List.filter_cons, List.filter_nil, Ent.wr, if_true, qS, pick, List.filterMap_cons]; first | done | rfl) ?_
   refine sx_not rfl rfl ?_
   refine sM rfl rfl ?_
   refine jG0 72 rfl (fun hb9 => ?_) (fun hb9 => ?_)
   ·refine sO rfl rfl rfl rfl rfl ?_
    refine sO rfl rfl rfl rfl rfl ?_
    refine sO rfl rfl rfl rfl rfl ?_
    refine sO rfl rfl rfl rfl rfl ?_
    refine sO rfl rfl rfl rfl rfl ?_
    refine sP rfl rfl rfl <| sA rfl rfl ?_
    refine sN (hZ _ _ ?_ ?_)
    ·exact Kn.cons rfl (Kn.cons (congrArg some (congrArg Value.bool (by rw [Bool.eq_iff_iff]; simp [pairV, wi] at *; omega))) Kn.nil)
    ·exact HLe.pick [1] (by simp) rfl
   ·refine sOn rfl rfl rfl ?_
    refine sFA rfl tyF78_14 (by simp only [Nat.zero_add]; rfl) rfl ?_
    refine sOn rfl rfl rfl ?_
    refine sL 1 rfl rfl tyA3 tyS3 rfl rfl ?_
    refine sOn rfl rfl rfl ?_
    refine sFA rfl tyF78_16 (by simp only [Nat.zero_add]; rfl) rfl ?_
    refine sOn rfl rfl rfl ?_
    refine sL 1 rfl rfl tyA3 tyS3 rfl rfl ?_
    refine sOn rfl rfl rfl ?_
    refine jF3 rfl rfl rfl ?_
    refine sP rfl rfl rfl <| sA rfl rfl ?_
    refine sN (hZ _ _ ?_ ?_)
    ·exact Kn.cons rfl (Kn.cons (congrArg some (congrArg Value.bool (by rw [Bool.eq_iff_iff]; simp [pairV, wi] at *; omega))) Kn.nil)
    ·exact HLe.pick [1] (by simp) rfl
  refine aC rfl (fun h62 => ?_) (fun h62 => ?_)
  ·refine aR (fun Z hZ => ?_)
   refine sA rfl rfl <| sN (hZ _ _ ?_)
   refine aF [(2, _)] (Kn.cons rfl (Kn.nil)) ?_
   refine aE ?_
   repeat (with_reducible (first | refine nTR ?_ | refine nBR ?_))
   exact nR1 rfl rfl (by simp [jG3, hs, h14, h28, h45, h62])
  refine aK ?_
  repeat (with_reducible refine nBN ?_)
  with_reducible refine nN ?_
  refine aR fun Z hZ => sA rfl rfl <| sN (hZ _ _ ?_)
  refine aF [(2, _)] (Kn.cons rfl (Kn.nil)) ?_
  refine aE ?_
  exact nR1 rfl rfl (by simp [jG3, hs, h14, h28, h45, h62])
end Go.Proofs.YtkojkeabelckjaaGreatDoor.Y
namespace Go.Proofs.YtkojkeabelckjaaGreatDoor.Y
open Go.RowKit
end Go.Proofs.YtkojkeabelckjaaGreatDoor.Y
namespace Go.Proofs.YtkojkeabelckjaaGreatDoor.Y
open Go.RowKit
def sgB (v : Int) : List UInt8 := leB 4 (unsV v 4).toNat
theorem unsV4 (v : Int) : 0 ≤ unsV v 4 ∧ unsV v 4 < 4294967296 := by
 unfold unsV
 split
 ·have e : ((2 : Int) ^ (8 * (4 : Int)).toNat) = 4294967296 := by decide
  rw [e]
  omega
 ·omega
end Go.Proofs.YtkojkeabelckjaaGreatDoor.Y
namespace Go.Proofs.YtkojkeabelckjaaGreatDoor.Y
open Go.RowKit
structure Hdr.Ok (h : Hdr) : Prop where
 r0 : h.r0 < 18446744073709551616
 r1 : h.r1 < 18446744073709551616
 m0 : h.m0 < 18446744073709551616
 m1 : h.m1 < 18446744073709551616
 l0 : h.l0 < 18446744073709551616
 l1 : h.l1 < 18446744073709551616
 d0 : h.d0 < 18446744073709551616
 d1 : h.d1 < 18446744073709551616
 ad : h.ad < 18446744073709551616
 en : h.en < 18446744073709551616
 co : h.co < 18446744073709551616
 ic : h.ic < 256
 oc : h.oc < 256
 ki : h.ki < 256
theorem check_ok {h : Hdr} (hc : jG3 h = 0) : secsV h = true ∧ (h.ic ≤ 4 ∧ h.oc ≤ 4 ∧ h.ki ≤ 5) ∧ ((0 ≤ h.z0 ∧ h.z0 ≤ 26) ∧ (0 ≤ h.z1 ∧ h.z1 ≤ 26) ∧ (0 ≤ h.zo ∧ h.zo ≤ 26) ∧ h.z0 ≤ h.z1) ∧
  ((-1800000000 ≤ h.lo0 ∧ h.lo0 ≤ 1800000000) ∧ (-1800000000 ≤ h.lo1 ∧ h.lo1 ≤ 1800000000) ∧ (-1800000000 ≤ h.lon ∧ h.lon ≤ 1800000000) ∧ h.lo0 ≤ h.lo1) ∧
  ((-900000000 ≤ h.la0 ∧ h.la0 ≤ 900000000) ∧ (-900000000 ≤ h.la1 ∧ h.la1 ≤ 900000000) ∧ (-900000000 ≤ h.lat ∧ h.lat ≤ 900000000) ∧ h.la0 ≤ h.la1) := by
 unfold jG3 at hc
 by_cases h1 : secsV h = false
 ·simp [h1] at hc
 by_cases h2 : kindV h = true
 ·simp [h1, h2] at hc
 by_cases h3 : pairV 0 26 h.z0 h.z1 h.zo = true
 ·simp [h1, h2, h3] at hc
 by_cases h4 : pairV (-1800000000) 1800000000 h.lo0 h.lo1 h.lon = true
 ·simp [h1, h2, h3, h4] at hc
 by_cases h5 : pairV (-900000000) 900000000 h.la0 h.la1 h.lat = true
 ·simp [h1, h2, h3, h4, h5] at hc
 simp [kindV] at h2
 simp [pairV, wi] at h3 h4 h5
 refine ⟨by simpa using h1, by omega, by omega, by omega, by omega⟩
def secB (f l : Nat) : List UInt8 := leB 8 f ++ leB 8 l
def clN (h : Hdr) : Nat := if h.cl = true then 1 else 0
def enc1 (h : Hdr) : List UInt8 := [80, 77, 84, 105, 108, 101, 115, 3] ++ secB h.r0 h.r1 ++ secB h.m0 h.m1 ++ secB h.l0 h.l1 ++ secB h.d0 h.d1
def enc2 (h : Hdr) : List UInt8 := enc1 h ++ leB 8 h.ad ++ leB 8 h.en ++ leB 8 h.co ++ leB 1 (clN h)
def enc3 (h : Hdr) : List UInt8 := enc2 h ++ leB 1 h.ic ++ leB 1 h.oc ++ leB 1 h.ki ++ leB 1 h.z0.toNat ++ leB 1 h.z1.toNat
def enc4 (h : Hdr) : List UInt8 := enc3 h ++ sgB h.lo0 ++ sgB h.la0 ++ sgB h.lo1 ++ sgB h.la1
def enc5 (h : Hdr) : List UInt8 := enc4 h ++ leB 1 h.zo.toNat ++ sgB h.lon ++ sgB h.lat
theorem secB_length (f l : Nat) : (secB f l).length = 16 := by simp [secB, jG7]
theorem sgB_length (v : Int) : (sgB v).length = 4 := by simp [sgB, jG7]
theorem enc1_length (h : Hdr) : (enc1 h).length = 72 := by simp [enc1, secB_length]
theorem enc2_length (h : Hdr) : (enc2 h).length = 97 := by simp [enc2, enc1_length, jG7]
theorem enc3_length (h : Hdr) : (enc3 h).length = 102 := by simp [enc3, enc2_length, jG7]
theorem enc4_length (h : Hdr) : (enc4 h).length = 118 := by simp [enc4, enc3_length, sgB_length]
theorem enc5_length (h : Hdr) : (enc5 h).length = 127 := by simp [enc5, enc4_length, jG7, sgB_length]
def encV (h : Hdr) : List UInt8 := if jG3 h = 0 then enc5 h else []
theorem wrap_nat {n : Nat} (h : n < 18446744073709551616) : IntKind.u64.wrap (n : Int) = (n : Int) := IntWalk.u64_in _ (by omega)
theorem wrap_toNat {n : Int} (h : 0 ≤ n ∧ n ≤ 26) : IntKind.u64.wrap n = ((n.toNat : Nat) : Int) := by rw [IntWalk.u64_in _ (by omega)]; omega
end Go.Proofs.YtkojkeabelckjaaGreatDoor.Y
namespace Go.Proofs.YtkojkeabelckjaaGreatDoor.Y
open Go.RowKit
abbrev rowV (g n c : Nat) : Value := .slice (some ⟨g, 0, none⟩) n c
abbrev rowH (g c : Nat) (b : List UInt8) : Ent := .ob g (RowP 5 1 b.length c (bv b))
theorem enter_put : Enters Tryz.prog 147 := Enters.mk Tryz.func147 (by kernel_rfl) (by kernel_rfl)
theorem putL_length (b : List UInt8) (m : Int) (x : Nat) : (putL b m x).length ≤ b.length + 8 ∧ b.length ≤ (putL b m x).length := by
 unfold putL
 split <;> simp [jG7] <;> omega
def putsL (b : List UInt8) (m : Int) (xs : List Nat) : List UInt8 := xs.foldl (fun b x => putL b m x) b
theorem putsL_length (m : Int) : ∀ (xs : List Nat) (b : List UInt8), (putsL b m xs).length ≤ b.length + 8 * xs.length ∧ b.length ≤ (putsL b m xs).length
 | [], b => by simp [putsL]
 | x :: xs, b => by
  have h1 := putL_length b m x
  have h2 := putsL_length m xs (putL b m x)
  simp only [putsL, List.foldl_cons, List.length_cons] at h2 ⊢
  omega
def uqs (l : List Nat) : List Value := l.map uq
theorem uqs_at {l : List Nat} {k : Nat} (h : k < l.length) : (uqs l)[k]? = some (uq l[k]) := by simp [uqs, h]
theorem put_row (A : Option Addr) (c : Nat) (b : List UInt8) (m : Int) (x : Nat) (w : World) (hr : Rd w 1 A b.length (bv b)) (hc : A = none → c = 0) (hb : b.length ≤ 1000000) (hx : x < 18446744073709551616) :
  Calls Tryz.prog 147 #[.slice A b.length c, .int .i64 m, .int .u64 x] w (MakesRow w 5 1 (bv (putL b m x)) (putL b m x).length) := by
 have := put_any A c b m (x : Int) w hr hc (by omega) (by omega)
 simpa using this
theorem hput_fn (g0 c0 g : Nat) (b : List UInt8) (m : Int) (xs : List Nat) (hb : 0 < b.length ∧ b.length ≤ 10000) (hl : xs.length ≤ 100) (hx : ∀ x ∈ xs, x < 18446744073709551616) :
  Fn Tryz.prog 102 [rowV g0 b.length c0, .int .i64 m, rowV g xs.length xs.length] [.own g 45 (uqs xs), rowH g0 c0 b]
  fun v H' => ∃ g' c', v = rowV g' (putsL b m xs).length c' ∧ H' = [.own g 45 (uqs xs), rowH g' c' (putsL b m xs)] := by
 refine Fn.enter (N := 21) Tryz.func102 rfl (by kernel_rfl) rfl (fun w0 => ?_)
 refine aR fun Z hZ => sA rfl rfl <| sN (hZ _ _ ?_)
 refine aF [(0, _), (1, _), (2, _)] (kR rfl) ?_
 refine aS ?_
 refine aR fun Z hZ => sM rfl rfl ?_
 refine jD9 Tryz.underlying135 rfl rfl ?_
 refine sM rfl rfl <| sN (hZ _ _ ?_)
 refine aF [(0, _), (1, _), (9, _), (10, _), (11, _)] (kR rfl) ?_
 refine aB ?_
 refine jB6 (ι := Nat × Nat × Nat × List UInt8) (fun i => [(0, rowV i.2.1 i.2.2.2.length i.2.2.1), (1, .int .i64 m), (9, rowV g xs.length xs.length), (10, .int .i64 xs.length), (11, .int .i64 (i.1 : Int))])
  (fun i => [.own g 45 (uqs xs), rowH i.2.1 i.2.2.1 i.2.2.2])
  (fun i => i.1 ≤ xs.length ∧ i.2.2.2 = putsL b m (xs.take i.1)) (fun i => xs.length - i.1) (0, g0, c0, b) ⟨by simp, by simp [putsL]⟩ (kR rfl) (HLe.refl _) ?_
 rintro ⟨k, g1, c1, bs⟩ ⟨hk, hbs⟩
 simp only at hk hbs
 have hlen := putsL_length m (xs.take k) b
 rw [← hbs, List.length_take] at hlen
 refine aR (fun Z hZ => ?_)
 refine jC4 rfl rfl rfl ?_
 refine sN (hZ _ _ ?_)
 refine aF [(0, _), (1, _), (9, _), (10, _), (11, _), (12, _)] (kR rfl) ?_
 refine aS (aC rfl (fun h12 => ?_) (fun h12 => ?_))
 ·have hlt : k < xs.length := by simpa using h12
  obtain ⟨x, hxe, hx64⟩ : ∃ x, xs[k] = x ∧ x < 18446744073709551616 := ⟨_, rfl, hx _ (List.getElem_mem _)⟩
  have hld : rdV false 1 (uqs xs) (k * 1) = some (uq x) := by rw [Nat.mul_one, ← hxe]; exact uqs_at hlt
  refine aK ?_
  with_reducible refine nN ?_
  refine aS (aB ?_)
  refine aR (fun Z hZ => ?_)
  refine jA6 (k * 1) Tryz.underlying135 tyS45 rfl rfl (by omega) (by simp) rfl ?_
  refine sL 0 rfl rfl tyA45 tyS45 hld rfl ?_
  refine sA rfl rfl <| sN (hZ _ _ ?_)
  refine aF [(0, _), (1, _), (8, _), (9, _), (10, _), (11, _)] (kR rfl) ?_
  refine aG (fun Z hZ => ?_)
  refine sM rfl rfl <| sM rfl rfl <| sM rfl rfl ?_
  refine sx_callR enter_put rfl rfl (fun w hw => put_row (some ⟨g1, 0, none⟩) c1 bs m x w (rd_row (i := 1) rfl hw) (fun h => by cases h) (by omega) hx64) (fun v2 hv2 => ?_)
  obtain ⟨g2, c2, rfl⟩ := hv2.some (by have := putL_length bs m x; omega)
  refine sA rfl rfl <| sN (hZ _ _ ?_)
  refine nF [(0, _), (1, _), (9, _), (10, _), (11, _)] (kR rfl) ?_
  repeat (with_reducible refine nBN ?_)
  with_reducible refine nN ?_
  refine aG (fun Z hZ => ?_)
  refine jB8 rfl rfl ((k + 1 : Nat) : Int) (by rw [IntWalk.i64_in _ (by omega)]; omega) rfl ?_
  refine sM rfl rfl <| sN (hZ _ _ ?_)
  refine nF [(0, _), (1, _), (9, _), (10, _), (11, _)] (kR rfl) ?_
  refine jB5 (k + 1, g2, c2, putL bs m x) ⟨by omega, ?_⟩ (by simp; omega) (kR rfl) (HLe.pick [1, 0] (by simp) rfl)
  simp only
  rw [List.take_succ_eq_append_getElem hlt, hbs, hxe]
  simp [putsL]
 ·refine jB1 ?_
  repeat (with_reducible refine nTE ?_)
  with_reducible refine nBE ?_
  with_reducible refine nN ?_
  have hke : k = xs.length := by simp at h12; omega
  subst hke
  rw [List.take_length] at hbs
  refine aR fun Z hZ => sM rfl rfl <| sA rfl rfl <| sN (hZ _ _ ?_)
  refine aF [(6, _)] (Kn.cons rfl (Kn.nil)) ?_
  refine aE ?_
  exact nR1 rfl rfl ⟨g1, c1, by rw [hbs], by rw [hbs]⟩
theorem enter_uns : Enters Tryz.prog 148 := Enters.mk Tryz.func148 (by kernel_rfl) (by kernel_rfl)
theorem uns_fn (v n : Int) (hx : -9223372036854775808 ≤ v ∧ v < 9223372036854775808) : Fn Tryz.prog 148 [.int .i64 v, .int .i64 n] [] fun u _ => u = .tuple #[.int .u64 (unsV v n), .int .i64 (unsE v n)] :=
 Fn.of_same enter_uns fun w => unsigned_any v n w hx
def degsL (b : List UInt8) (xs : List Int) : List UInt8 := xs.foldl (fun b v => b ++ sgB v) b
theorem degsL_length : ∀ (xs : List Int) (b : List UInt8), (degsL b xs).length = b.length + 4 * xs.length
 | [], b => by simp [degsL]
 | x :: xs, b => by
  have h2 := degsL_length xs (b ++ sgB x)
  simp only [degsL, List.foldl_cons, List.length_cons, List.length_append, sgB_length] at h2 ⊢
  omega
theorem hdegrees_fn (g0 c0 g : Nat) (b : List UInt8) (xs : List Int) (hb : 0 < b.length ∧ b.length ≤ 10000) (hl : xs.length ≤ 100) (hx : ∀ x ∈ xs, -9223372036854775808 ≤ x ∧ x < 9223372036854775808) :
  Fn Tryz.prog 103 [rowV g0 b.length c0, rowV g xs.length xs.length] [.own g 3 (ints xs), rowH g0 c0 b]
  fun v H' => ∃ g' c', v = rowV g' (degsL b xs).length c' ∧ H' = [.own g 3 (ints xs), rowH g' c' (degsL b xs)] := by
 refine Fn.enter (N := 25) Tryz.func103 rfl (by kernel_rfl) rfl (fun w0 => ?_)
 refine aR fun Z hZ => sA rfl rfl <| sN (hZ _ _ ?_)
 refine aF [(0, _), (1, _)] (kR rfl) ?_
 refine aS ?_
 refine aR fun Z hZ => sM rfl rfl ?_
 refine jD9 Tryz.underlying247 rfl rfl ?_
 refine sM rfl rfl <| sN (hZ _ _ ?_)
 refine aF [(0, _), (9, _), (10, _), (11, _)] (kR rfl) ?_
 refine aB ?_
 refine jB6 (ι := Nat × Nat × Nat × List UInt8) (fun i => [(0, rowV i.2.1 i.2.2.2.length i.2.2.1), (9, rowV g xs.length xs.length), (10, .int .i64 xs.length), (11, .int .i64 (i.1 : Int))])
  (fun i => [.own g 3 (ints xs), rowH i.2.1 i.2.2.1 i.2.2.2])
  (fun i => i.1 ≤ xs.length ∧ i.2.2.2 = degsL b (xs.take i.1)) (fun i => xs.length - i.1) (0, g0, c0, b) ⟨by simp, by simp [degsL]⟩ (kR rfl) (HLe.refl _) ?_
 rintro ⟨k, g1, c1, bs⟩ ⟨hk, hbs⟩
 simp only at hk hbs
 have hlen := degsL_length (xs.take k) b
 rw [← hbs, List.length_take] at hlen
 refine aR (fun Z hZ => ?_)
 refine jC4 rfl rfl rfl ?_
 refine sN (hZ _ _ ?_)
 refine aF [(0, _), (9, _), (10, _), (11, _), (12, _)] (kR rfl) ?_
 refine aS (aC rfl (fun h12 => ?_) (fun h12 => ?_))
 ·have hlt : k < xs.length := by simpa using h12
  obtain ⟨x, hxe, hx64⟩ : ∃ x, xs[k] = x ∧ (-9223372036854775808 ≤ x ∧ x < 9223372036854775808) := ⟨_, rfl, hx _ (List.getElem_mem _)⟩
  have hld : rdV false 1 (ints xs) (k * 1) = some (.int .i64 x) := by rw [Nat.mul_one, ← hxe]; exact ints_at hlt
  obtain ⟨u, hu⟩ : ∃ u : Nat, unsV x 4 = u := ⟨(unsV x 4).toNat, by have := unsV4 x; omega⟩
  have hu2 : u < 4294967296 := by have := unsV4 x; omega
  have hput : putL bs 4 u = bs ++ sgB x := by unfold putL; rw [if_pos (by omega)]; simp [sgB, hu]
  refine aK ?_
  with_reducible refine nN ?_
  refine aS (aB ?_)
  refine aR (fun Z hZ => ?_)
  refine jA6 (k * 1) Tryz.underlying247 tyS3 rfl rfl (by omega) (by simp) rfl ?_
  refine sL 0 rfl rfl tyA3 tyS3 hld rfl ?_
  refine sA rfl rfl <| sN (hZ _ _ ?_)
  refine aF [(0, _), (6, _), (9, _), (10, _), (11, _)] (kR rfl) ?_
  refine aR fun Z hZ => sM rfl rfl ?_
  refine sCP (uns_fn x 4 hx64) rfl rfl ?_
  rw [hu]
  refine sM rfl rfl <| sX rfl rfl rfl <| sX rfl rfl rfl <| sA rfl rfl <| sA rfl rfl <| sN (hZ _ _ ?_)
  refine aF [(0, _), (7, _), (9, _), (10, _), (11, _)] (kR rfl) ?_
  refine aG (fun Z hZ => ?_)
  refine sM rfl rfl <| sM rfl rfl ?_
  refine sx_callR enter_put rfl rfl (fun w hw => put_row (some ⟨g1, 0, none⟩) c1 bs 4 u w (rd_row (i := 1) rfl hw) (fun h => by cases h) (by omega) (by omega)) (fun v2 hv2 => ?_)
  obtain ⟨g2, c2, rfl⟩ := hv2.some (by have := putL_length bs 4 u; omega)
  refine sA rfl rfl <| sN (hZ _ _ ?_)
  refine nF [(0, _), (9, _), (10, _), (11, _)] (kR rfl) ?_
  repeat (with_reducible refine nBN ?_)
  with_reducible refine nN ?_
  refine aG (fun Z hZ => ?_)
  refine jB8 rfl rfl ((k + 1 : Nat) : Int) (by rw [IntWalk.i64_in _ (by omega)]; omega) rfl ?_
  refine sM rfl rfl <| sN (hZ _ _ ?_)
  refine nF [(0, _), (9, _), (10, _), (11, _)] (kR rfl) ?_
  refine jB5 (k + 1, g2, c2, putL bs 4 u) ⟨by omega, ?_⟩ (by simp; omega) (kR rfl) (HLe.pick [1, 0] (by simp) rfl)
  simp only
  rw [List.take_succ_eq_append_getElem hlt, hbs, hxe, ← hbs, hput]
  simp [degsL, hbs]
 ·refine jB1 ?_
  repeat (with_reducible refine nTE ?_)
  with_reducible refine nBE ?_
  with_reducible refine nN ?_
  have hke : k = xs.length := by simp at h12; omega
  subst hke
  rw [List.take_length] at hbs
  refine aR fun Z hZ => sM rfl rfl <| sA rfl rfl <| sN (hZ _ _ ?_)
  refine aF [(4, _)] (Kn.cons rfl (Kn.nil)) ?_
  refine aE ?_
  exact nR1 rfl rfl ⟨g1, c1, by rw [hbs], by rw [hbs]⟩
end Go.Proofs.YtkojkeabelckjaaGreatDoor.Y
