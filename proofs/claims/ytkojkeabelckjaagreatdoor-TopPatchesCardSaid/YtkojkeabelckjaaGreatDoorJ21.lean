/- Walks and plain laws for this claim (texts Gli1, Gli2, joined). Each theorem states its own conditions. -/
import Derived.Test.YtkojkeabelckjaaGreatDoorRows
import Derived.Test.YtkojkeabelckjaaGreatDoorJ01
import Derived.Test.YtkojkeabelckjaaGreatDoorJ04
import Derived.Lib.SlBytesConst

set_option linter.all false
namespace Go.Proofs.YtkojkeabelckjaaGreatDoor
open Go.RowKit
abbrev scanV (s : ByteArray) (p b : Int) : Value := .agg #[.string s, .int .i64 p, .int .i64 b]
def fitsB (n : Int) : Bool := decide (1 ≤ n ∧ n ≤ 8)
theorem fits_any (n : Int) (w : World) : Calls Tryz.prog 181 #[.int .i64 n] w fun e w' => e = .returned (.bool (fitsB n)) ∧ w = w' := by
 by_cases h1 : 1 ≤ n
 ·by_cases h2 : n ≤ 8
  ·have h : fitsB n = true := by simp [fitsB, h1, h2]
   rw [h]
   go_enter Tryz.func181, Tryz.ntmps181
   go_wp2
   go_ret
   exact ⟨rfl, rfl⟩
  ·have h : fitsB n = false := by simp [fitsB, h1, h2]
   rw [h]
   go_enter Tryz.func181, Tryz.ntmps181
   go_wp2
   go_ret
   exact ⟨rfl, rfl⟩
 ·have h : fitsB n = false := by simp [fitsB, h1]
  rw [h]
  go_enter Tryz.func181, Tryz.ntmps181
  go_wp2
  go_ret
  exact ⟨rfl, rfl⟩
def stands (s : ByteArray) (p : Int) : Bool := decide (0 ≤ p ∧ p ≤ s.size)
set_option maxHeartbeats 400000 in
theorem stands_any (s : ByteArray) (p e : Int) (w : World) : Calls Tryz.prog 220 #[scanV s p e] w fun e w' => e = .returned (.bool (stands s p)) ∧ Bel w w' := by
 by_cases h1 : 0 ≤ p
 ·by_cases h2 : p ≤ s.size
  ·have h : stands s p = true := by simp [stands, h1, h2]
   rw [h]
   go_enter Tryz.func220, Tryz.ntmps220
   go_wp2
   go_ret
   exact ⟨rfl, (Bel.refl _).alloc _⟩
  ·have h : stands s p = false := by simp [stands, h1, h2]
   rw [h]
   go_enter Tryz.func220, Tryz.ntmps220
   go_wp2
   go_ret
   exact ⟨rfl, (Bel.refl _).alloc _⟩
 ·have h : stands s p = false := by simp [stands, h1]
  rw [h]
  go_enter Tryz.func220, Tryz.ntmps220
  go_wp2
  go_ret
  exact ⟨rfl, (Bel.refl _).alloc _⟩
set_option maxHeartbeats 400000 in
theorem fail_any (s : ByteArray) (p b c : Int) (w : World) : Calls Tryz.prog 221 #[scanV s p b, .int .i64 c] w fun e w' => e = .returned (.tuple #[.string ⟨#[]⟩, scanV s p c]) ∧ Bel w w' := by
 go_enter Tryz.func221, Tryz.ntmps221
 go_wp2
 go_region
 go_wp2
 refine bodyPost_ret (v := .tuple #[.string ⟨#[]⟩, scanV s p c]) (by simp [results, Tryz.results221, go_sem]) rfl ⟨rfl, ?_⟩
 exact (by repeat (first | exact Bel.refl _ | exact Bel.drew (Bel.refl _) | refine Bel.drew ?_ | refine Bel.drewN ?_ _ | refine Bel.alloc ?_ _ | refine Bel.set ?_ (by simp; try omega) _ | refine Bel.trans ?_ (by assumption)))
def takeE (s : ByteArray) (p e n : Int) (may : Bool) : Int := if e ≠ 0 then e else if may = false ∨ stands s p = false then 2 else if (s.size : Int) - p < n then 3 else 0
def takeT (s : ByteArray) (p e n : Int) (may : Bool) : ByteArray := if takeE s p e n may = 0 then s.extract p.toNat (p + n).toNat else ⟨#[]⟩
def takeP (s : ByteArray) (p e n : Int) (may : Bool) : Int := if takeE s p e n may = 0 then p + n else p
set_option maxHeartbeats 400000 in
theorem cut_bad (s : ByteArray) (p e n : Int) (may : Bool) (w : World) (he : e ≠ 0) :
  Calls Tryz.prog 206 #[scanV s p e, .int .i64 n, .bool may] w fun x w' => x = .returned (.tuple #[.string ⟨#[]⟩, scanV s p e]) ∧ Bel w w' := by
 have h1 : (e != 0) = true := by simp [he]
 go_enter Tryz.func206, Tryz.ntmps206
 go_wp2
 go_region
 go_wp2
 refine bodyPost_ret (v := .tuple #[.string ⟨#[]⟩, scanV s p e]) (by simp [results, Tryz.results206, go_sem]) rfl ⟨rfl, ?_⟩
 exact (by repeat (first | exact Bel.refl _ | exact Bel.drew (Bel.refl _) | refine Bel.drew ?_ | refine Bel.drewN ?_ _ | refine Bel.alloc ?_ _ | refine Bel.set ?_ (by simp; try omega) _ | refine Bel.trans ?_ (by assumption)))
set_option maxHeartbeats 400000 in
theorem cut_arg (s : ByteArray) (p n : Int) (may : Bool) (w : World) (h : may = false ∨ stands s p = false) :
  Calls Tryz.prog 206 #[scanV s p 0, .int .i64 n, .bool may] w fun x w' => x = .returned (.tuple #[.string ⟨#[]⟩, scanV s p 2]) ∧ Bel w w' := by
 cases may with
 | false =>
  clear h
  go_enter Tryz.func206, Tryz.ntmps206
  go_wp2_with (first | (go_at_call 220; refine (stands_any _ _ _ _).mono ?_; rintro e w1 ⟨rfl, hb1⟩; obtain ⟨hb1c, hb1f, hb1z⟩ := Bel.took hb1; have hb1z0 : w.heap.size < w1.heap.size := (by (try simp at hb1z); omega); have hb1z1 : w.heap.size + 1 < w1.heap.size := (by (try simp at hb1z); omega); clear hb1z) | (go_at_call 221; refine (fail_any _ _ _ _ _).mono ?_; rintro e w1 ⟨rfl, hb1⟩; obtain ⟨hb1c, hb1f, hb1z⟩ := Bel.took hb1; have hb1z0 : w.heap.size < w1.heap.size := (by (try simp at hb1z); omega); have hb1z1 : w.heap.size + 1 < w1.heap.size := (by (try simp at hb1z); omega); clear hb1z))
  refine bodyPost_ret (v := .tuple #[.string ⟨#[]⟩, scanV s p 2]) (by simp [results, Tryz.results206, go_sem, *]) rfl ⟨rfl, ?_⟩
  exact (by repeat (first | exact Bel.refl _ | exact Bel.drew (Bel.refl _) | refine Bel.drew ?_ | refine Bel.drewN ?_ _ | refine Bel.alloc ?_ _ | refine Bel.set ?_ (by simp; try omega) _ | refine Bel.trans ?_ (by assumption)))
 | true =>
  have h : stands s p = false := by simpa using h
  go_enter Tryz.func206, Tryz.ntmps206
  go_wp2_with (first | (go_at_call 220; refine (stands_any _ _ _ _).mono ?_; rintro e w1 ⟨rfl, hb1⟩; obtain ⟨hb1c, hb1f, hb1z⟩ := Bel.took hb1; have hb1z0 : w.heap.size < w1.heap.size := (by (try simp at hb1z); omega); have hb1z1 : w.heap.size + 1 < w1.heap.size := (by (try simp at hb1z); omega); clear hb1z) | (go_at_call 221; refine (fail_any _ _ _ _ _).mono ?_; rintro e w2 ⟨rfl, hb2⟩; obtain ⟨hb2c, hb2f, hb2z⟩ := Bel.took hb2; have hb2z0 : w.heap.size < w2.heap.size := (by (try simp at hb2z); omega); have hb2z1 : w.heap.size + 1 < w2.heap.size := (by (try simp at hb2z); omega); clear hb2z))
  refine bodyPost_ret (v := .tuple #[.string ⟨#[]⟩, scanV s p 2]) (by simp [results, Tryz.results206, go_sem, *]) rfl ⟨rfl, ?_⟩
  exact (by repeat (first | exact Bel.refl _ | exact Bel.drew (Bel.refl _) | refine Bel.drew ?_ | refine Bel.drewN ?_ _ | refine Bel.alloc ?_ _ | refine Bel.set ?_ (by simp; try omega) _ | refine Bel.trans ?_ (by assumption)))
set_option maxHeartbeats 400000 in
theorem cut_short (s : ByteArray) (p n : Int) (w : World) (h : stands s p = true) (hn : (s.size : Int) - p < n) (hs : s.size ≤ maxLen) :
  Calls Tryz.prog 206 #[scanV s p 0, .int .i64 n, .bool true] w fun x w' => x = .returned (.tuple #[.string ⟨#[]⟩, scanV s p 3]) ∧ Bel w w' := by
 unfold maxLen at hs
 obtain ⟨k, rfl⟩ : ∃ k : Nat, p = k := ⟨p.toNat, by simp [stands] at h; omega⟩
 have hk : k ≤ s.size := by simp [stands] at h; omega
 go_enter Tryz.func206, Tryz.ntmps206
 go_wp2_with (first | (go_at_call 220; refine (stands_any _ _ _ _).mono ?_; rintro e w1 ⟨rfl, hb1⟩; obtain ⟨hb1c, hb1f, hb1z⟩ := Bel.took hb1; have hb1z0 : w.heap.size < w1.heap.size := (by (try simp at hb1z); omega); have hb1z1 : w.heap.size + 1 < w1.heap.size := (by (try simp at hb1z); omega); clear hb1z) | (go_at_call 221; refine (fail_any _ _ _ _ _).mono ?_; rintro e w2 ⟨rfl, hb2⟩; obtain ⟨hb2c, hb2f, hb2z⟩ := Bel.took hb2; have hb2z0 : w.heap.size < w2.heap.size := (by (try simp at hb2z); omega); have hb2z1 : w.heap.size + 1 < w2.heap.size := (by (try simp at hb2z); omega); clear hb2z))
 refine bodyPost_ret (v := .tuple #[.string ⟨#[]⟩, scanV s k 3]) (by simp [results, Tryz.results206, go_sem, *]) rfl ⟨rfl, ?_⟩
 exact (by repeat (first | exact Bel.refl _ | exact Bel.drew (Bel.refl _) | refine Bel.drew ?_ | refine Bel.drewN ?_ _ | refine Bel.alloc ?_ _ | refine Bel.set ?_ (by simp; try omega) _ | refine Bel.trans ?_ (by assumption)))
set_option maxHeartbeats 400000 in
theorem cut_ok (s : ByteArray) (k n : Nat) (w : World) (hn : k + n ≤ s.size) (hs : s.size ≤ maxLen) :
  Calls Tryz.prog 206 #[scanV s k 0, .int .i64 n, .bool true] w fun x w' => x = .returned (.tuple #[.string (s.extract k (k + n)), scanV s (k + n : Nat) 0]) ∧ Bel w w' := by
 unfold maxLen at hs
 have h : stands s k = true := by simp [stands]; omega
 go_enter Tryz.func206, Tryz.ntmps206
 go_wp2_with (first | (go_at_call 220; refine (stands_any _ _ _ _).mono ?_; rintro e w1 ⟨rfl, hb1⟩; obtain ⟨hb1c, hb1f, hb1z⟩ := Bel.took hb1; have hb1z0 : w.heap.size < w1.heap.size := (by (try simp at hb1z); omega); have hb1z1 : w.heap.size + 1 < w1.heap.size := (by (try simp at hb1z); omega); clear hb1z; have hs1 : ∀ u, (w1.setCell ⟨w.heap.size, 1, none⟩ u).cell? ⟨w.heap.size, 1, none⟩ = some u := (fun u => cell_set_here _ _ _ (by simp [go_sem, hb1c]))))
 go_region
 go_wp2
 refine bodyPost_ret (v := .tuple #[.string (s.extract k (k + n)), scanV s (k + n : Nat) 0]) (by simp [results, Tryz.results206, go_sem, *]) rfl ⟨rfl, ?_⟩
 exact (by repeat (first | exact Bel.refl _ | exact Bel.drew (Bel.refl _) | refine Bel.drew ?_ | refine Bel.drewN ?_ _ | refine Bel.alloc ?_ _ | refine Bel.set ?_ (by simp; try omega) _ | refine Bel.trans ?_ (by assumption)))
theorem cut_any (s : ByteArray) (p e n : Int) (may : Bool) (w : World) (hs : s.size ≤ maxLen) (hm : may = true → 0 ≤ n) :
  Calls Tryz.prog 206 #[scanV s p e, .int .i64 n, .bool may] w fun x w' => x = .returned (.tuple #[.string (takeT s p e n may), scanV s (takeP s p e n may) (takeE s p e n may)]) ∧ Bel w w' := by
 by_cases he : e = 0
 ·subst he
  by_cases h : may = false ∨ stands s p = false
  ·have h1 : takeE s p 0 n may = 2 := by simp [takeE, h]
   have h2 : takeT s p 0 n may = ⟨#[]⟩ := by simp [takeT, h1]
   have h3 : takeP s p 0 n may = p := by simp [takeP, h1]
   rw [h1, h2, h3]
   exact cut_arg s p n may w h
  ·have h' := h
   simp only [not_or, Bool.not_eq_false] at h'
   obtain ⟨rfl, hst⟩ := h'
   by_cases hn : (s.size : Int) - p < n
   ·have h1 : takeE s p 0 n true = 3 := by simp [takeE, hst, hn]
    have h2 : takeT s p 0 n true = ⟨#[]⟩ := by simp [takeT, h1]
    have h3 : takeP s p 0 n true = p := by simp [takeP, h1]
    rw [h1, h2, h3]
    exact cut_short s p n w hst hn hs
   ·have h1 : takeE s p 0 n true = 0 := by simp [takeE, hst, hn]
    have h2 : takeT s p 0 n true = s.extract p.toNat (p + n).toNat := by simp [takeT, h1]
    have h3 : takeP s p 0 n true = p + n := by simp [takeP, h1]
    rw [h1, h2, h3]
    have hst' := hst
    simp only [stands, decide_eq_true_eq] at hst'
    obtain ⟨k, rfl⟩ : ∃ k : Nat, p = k := ⟨p.toNat, by omega⟩
    obtain ⟨m, rfl⟩ : ∃ m : Nat, n = m := ⟨n.toNat, by have := hm rfl; omega⟩
    have e1 : ((k : Int) + (m : Int)).toNat = k + m := by omega
    have e2 : ((k : Int) + (m : Int)) = ((k + m : Nat) : Int) := by omega
    rw [e1, e2, Int.toNat_natCast]
    exact cut_ok s k m w (by omega) hs
 ·have h1 : takeE s p e n may = e := by simp [takeE, he]
  have h2 : takeT s p e n may = ⟨#[]⟩ := by simp [takeT, h1, he]
  have h3 : takeP s p e n may = p := by simp [takeP, h1, he]
  rw [h1, h2, h3]
  exact cut_bad s p e n may w he
end Go.Proofs.YtkojkeabelckjaaGreatDoor
namespace Go.Proofs.YtkojkeabelckjaaGreatDoor
open Go.RowKit
end Go.Proofs.YtkojkeabelckjaaGreatDoor
namespace Go.Proofs.YtkojkeabelckjaaGreatDoor
open Go.RowKit
def sgnE (n : Int) : Int := if 1 ≤ n ∧ n ≤ 8 then 0 else 2
def sgnV (x n : Int) : Int := if 1 ≤ n ∧ n ≤ 8 then (x + 2 ^ (8 * n - 1).toNat) % 2 ^ (8 * n).toNat - 2 ^ (8 * n - 1).toNat else 0
theorem ret2 {a b c d : Value} (h1 : a = c) (h2 : b = d) : Ending.returned (.tuple #[a, b]) = .returned (.tuple #[c, d]) := by rw [h1, h2]
theorem range8 {n : Int} (h : 1 ≤ n ∧ n ≤ 8) : n = 1 ∨ n = 2 ∨ n = 3 ∨ n = 4 ∨ n = 5 ∨ n = 6 ∨ n = 7 ∨ n = 8 := by omega
set_option maxHeartbeats 1000000 in
theorem signed_any (x n : Int) (w : World) (hx : 0 ≤ x ∧ x < 18446744073709551616) :
  Calls Tryz.prog 186 #[.int .u64 x, .int .i64 n] w fun e w' => e = .returned (.tuple #[.int .i64 (sgnV x n), .int .i64 (sgnE n)]) ∧ w = w' := by
 by_cases h : 1 ≤ n ∧ n ≤ 8
 ·rcases range8 h with rfl | rfl | rfl | rfl | rfl | rfl | rfl | rfl
  all_goals
   go_enter Tryz.func186, Tryz.ntmps186
   go_wp2_with (go_at_call 181; refine (fits_any _ _).mono ?_; rintro e w1 ⟨rfl, rfl⟩; rw [show fitsB _ = true from by decide])
   go_ret2
   refine ⟨ret2 (congrArg (Value.int _) ?_) rfl, rfl⟩
   simp [sgnV, wrap64, IntKind.wrap_u64]
   try omega
 ·have h1 : fitsB n = false := by simp [fitsB]; omega
  go_enter Tryz.func186, Tryz.ntmps186
  go_wp2_with (go_at_call 181; refine (fits_any _ _).mono ?_; rintro e w1 ⟨rfl, rfl⟩)
  go_ret2
  exact ⟨by simp [sgnV, sgnE, h], rfl⟩
def unsE (v n : Int) : Int := if 1 ≤ n ∧ n ≤ 8 then (if -2 ^ (8 * n - 1).toNat ≤ v ∧ v < 2 ^ (8 * n - 1).toNat then 0 else 8) else 2
def unsV (v n : Int) : Int := if unsE v n = 0 then v % 2 ^ (8 * n).toNat else 0
set_option maxHeartbeats 1000000 in
theorem unsigned_any (v n : Int) (w : World) (hx : -9223372036854775808 ≤ v ∧ v < 9223372036854775808) :
  Calls Tryz.prog 148 #[.int .i64 v, .int .i64 n] w fun e w' => e = .returned (.tuple #[.int .u64 (unsV v n), .int .i64 (unsE v n)]) ∧ w = w' := by
 by_cases h : 1 ≤ n ∧ n ≤ 8
 ·rcases range8 h with rfl | rfl | rfl | rfl | rfl | rfl | rfl | rfl
  all_goals
   go_enter Tryz.func148, Tryz.ntmps148
   go_wp2_with (go_at_call 181; refine (fits_any _ _).mono ?_; rintro e w1 ⟨rfl, rfl⟩; rw [show fitsB _ = true from by decide])
   all_goals
    go_ret2
    refine ⟨ret2 (congrArg (Value.int _) ?_) (congrArg (Value.int _) ?_), rfl⟩
    all_goals
     simp [unsV, unsE, wrap64, IntKind.wrap_u64] at *
     try (repeat' split) <;> omega
 ·have h1 : fitsB n = false := by simp [fitsB]; omega
  go_enter Tryz.func148, Tryz.ntmps148
  go_wp2_with (go_at_call 181; refine (fits_any _ _).mono ?_; rintro e w1 ⟨rfl, rfl⟩)
  go_ret2
  exact ⟨by simp [unsV, unsE, h], rfl⟩
end Go.Proofs.YtkojkeabelckjaaGreatDoor
namespace Go.Proofs.YtkojkeabelckjaaGreatDoor
open Go.RowKit
def numL : List UInt8 → Nat
 | [] => 0
 | c :: l => c.toNat + 256 * numL l
theorem numL_lt : ∀ l : List UInt8, numL l < 256 ^ l.length
 | [] => by simp [numL]
 | c :: l => by
  have h1 := numL_lt l
  have h2 : c.toNat < 256 := c.toNat_lt
  simp only [numL, List.length_cons, Nat.pow_succ]
  omega
theorem pow_le8 {n : Nat} (h : n ≤ 8) : 256 ^ n ≤ 18446744073709551616 := by
 have : 256 ^ n ≤ 256 ^ 8 := Nat.pow_le_pow_right (by omega) h
 simpa using this
theorem takeT_size (s : ByteArray) (p e n : Int) (m : Bool) (hm : m = true → 0 ≤ n ∧ n ≤ 8) : (takeT s p e n m).size ≤ 8 := by
 unfold takeT
 split
 ·rename_i h
  have h1 : m = true ∧ stands s p = true := by
   unfold takeE at h
   split at h
   ·omega
   ·split at h
    ·omega
    ·rename_i h'; simpa using h'
  have h2 := hm h1.1
  have h3 : 0 ≤ p ∧ p ≤ s.size := by have := h1.2; simpa [stands] using this
  simp
  omega
 ·exact Nat.zero_le _
theorem or_place (a c k : Nat) (ha : a < 2 ^ k) : a ||| (c * 2 ^ k) = a + c * 2 ^ k := by
 rw [Nat.or_comm, Nat.mul_comm, ← Nat.two_pow_add_eq_or_of_lt ha, Nat.add_comm]
theorem numL_snoc : ∀ (l : List UInt8) (c : UInt8), numL (l ++ [c]) = numL l + c.toNat * 256 ^ l.length
 | [], c => by simp [numL]
 | b :: l, c => by simp only [List.cons_append, numL, numL_snoc l c, List.length_cons, Nat.pow_succ]; rw [Nat.mul_add, Nat.add_assoc]; congr 2; rw [Nat.mul_comm, Nat.mul_assoc]
theorem take_at (s : ByteArray) (k : Nat) (h : k < s.size) : s.data.toList.take (k + 1) = s.data.toList.take k ++ [s[k]] := by
 rw [List.take_succ_eq_append_getElem (by simpa using h)]; rfl
theorem or_step (a c k : Nat) (hk : k < 8) (ha : a < 256 ^ k) (hc : c < 256) : bits .or .u64 (a : Int) (IntKind.u64.wrap ((c : Int) * 2 ^ (8 * k))) = ((a + c * 256 ^ k : Nat) : Int) := by
 have e : (256 : Nat) ^ k = 2 ^ (8 * k) := by rw [Nat.pow_mul]
 have h1 : 256 ^ (k + 1) ≤ 18446744073709551616 := pow_le8 (by omega)
 have h2 : c * 256 ^ k + 256 ^ k ≤ 256 ^ (k + 1) := by
  rw [Nat.pow_succ, Nat.mul_comm (256 ^ k) 256, ← Nat.succ_mul]
  exact Nat.mul_le_mul_right _ hc
 have h0 : 0 < 256 ^ k := Nat.pow_pos (by omega)
 have e2 : IntKind.u64.wrap ((c : Int) * 2 ^ (8 * k)) = ((c * 256 ^ k : Nat) : Int) := by
  have e3 : ((c : Int) * 2 ^ (8 * k)) = ((c * 256 ^ k : Nat) : Int) := by rw [e]; simp
  rw [IntKind.wrap_u64, e3]
  generalize c * 256 ^ k = y at *
  generalize 256 ^ (k + 1) = z at *
  generalize 256 ^ k = x at *
  omega
 rw [e2, u64_or_nat _ _ (by omega) (by omega)]
 rw [e] at ha ⊢
 rw [or_place _ _ _ ha]
set_option maxHeartbeats 400000 in
theorem num_any (s : ByteArray) (p e n : Int) (w : World) (hs : s.size ≤ maxLen) :
  Calls Tryz.prog 185 #[scanV s p e, .int .i64 n] w fun x w' => x = .returned (.tuple #[.int .u64 (numL (takeT s p e n (fitsB n)).data.toList), scanV s (takeP s p e n (fitsB n)) (takeE s p e n (fitsB n))]) ∧ Bel w w' := by
 have hm : fitsB n = true → 0 ≤ n ∧ n ≤ 8 := by intro h; simp [fitsB] at h; omega
 have ht := takeT_size s p e n (fitsB n) hm
 generalize hT : takeT s p e n (fitsB n) = T at ht
 have HT := hide hT
 clear hT
 have hmf : ∀ (fn : Go.Fn) (first cap : Array Value) (w : World), (Instr.makeFunc fn first cap).run Tryz.prog w = .ok (.func fn first cap) w := fun _ _ _ _ => rfl
 go_enter Tryz.func185, Tryz.ntmps185
 go_wp2_with (first | (go_at_call 181; refine (fits_any _ _).mono ?_; rintro e w1 ⟨rfl, rfl⟩) | (go_at_call 206; refine (cut_any _ _ _ _ _ _ hs (fun h => (hm h).1)).mono ?_; rintro e w1 ⟨rfl, hb1⟩; rw [HT.out]; obtain ⟨hb1c, hb1f, hb1z⟩ := Bel.took hb1; have hb1z0 : w.heap.size < w1.heap.size := (by (try simp at hb1z); omega); have hb1z1 : w.heap.size + 1 < w1.heap.size := (by (try simp at hb1z); omega); clear hb1z))
 go_loop [9, 10, 23] (fun x _ i => ∃ k : Nat, k ≤ T.size ∧ i = .int .i64 k ∧ x = .int .u64 (numL (T.data.toList.take k))) (fun _ _ i => T.size - (intOf i).toNat)
 case atStart => exact ⟨0, Nat.zero_le _, rfl, rfl⟩
 case round =>
  obtain ⟨k, hk, rfl, rfl⟩ := hrel
  by_cases hlt : k < T.size
  ·have hs1 := take_at T k hlt
   have hl : numL (T.data.toList.take k) < 256 ^ k := by
    have := numL_lt (T.data.toList.take k)
    rwa [List.length_take, Array.length_toList, Nat.min_eq_left (by simpa using hk)] at this
   have hb2 : (T[k]).toNat < 256 := (T[k]).toNat_lt
   have HS := hide hs1
   clear hs1
   go_wp2
   go_round
   case rel =>
    refine ⟨k + 1, by omega, by go_num, congrArg (Value.int _) ?_⟩
    rw [HS.out, numL_snoc]
    refine (or_step _ _ _ (by omega) hl hb2).trans ?_
    rw [List.length_take, Array.length_toList, Nat.min_eq_left (by simpa using hk)]
   case measure => simp [intOf]; omega
  ·have hke : k = T.size := by omega
   subst hke
   go_wp2
   have hT2 : List.take T.size T.data.toList = T.data.toList := List.take_of_length_le (by simp)
   rw [hT2]
   go_region
   go_wp2
   refine bodyPost_ret (v := .tuple #[.int .u64 (numL T.data.toList), scanV s (takeP s p e n (fitsB n)) (takeE s p e n (fitsB n))]) (by simp [results, Tryz.results185, go_sem, hb1c, hb1z0, hb1z1]) rfl ⟨rfl, ?_⟩
   exact (by repeat (first | exact Bel.refl _ | exact Bel.drew (Bel.refl _) | refine Bel.drew ?_ | refine Bel.drewN ?_ _ | refine Bel.alloc ?_ _ | refine Bel.set ?_ (by simp; try omega) _ | refine Bel.trans ?_ (by assumption)))
end Go.Proofs.YtkojkeabelckjaaGreatDoor
namespace Go.Proofs.YtkojkeabelckjaaGreatDoor
open Go.RowKit
end Go.Proofs.YtkojkeabelckjaaGreatDoor
namespace Go.Proofs.YtkojkeabelckjaaGreatDoor
open Go.RowKit
@[go_sem] theorem eqnil_bytes (w : World) (A : Option Addr) (n c : Nat) : (binOp .eql 132 (.slice A n c) (.slice none 0 0)).run Tryz.prog w = .ok (.bool A.isNone) w := Lib.run_eql_slice_nil w _ _ A n c 0 0 Tryz.underlying132
theorem elemU8 : ElemOk Tryz.prog 132 5 1 1 := ElemOk.mk_ (z := .int .u8 0) Tryz.underlying132 (by kernel_rfl) rfl (by omega)
def leB : Nat → Nat → List UInt8
 | 0, _ => []
 | n + 1, x => UInt8.ofNat (x % 256) :: leB n (x / 256)
theorem jG7 : ∀ n x, (leB n x).length = n
 | 0, _ => rfl
 | n + 1, x => by simp [leB, jG7 n]
theorem leB_snoc : ∀ n x, leB (n + 1) x = leB n x ++ [UInt8.ofNat (x / 256 ^ n % 256)]
 | 0, x => by simp [leB]
 | n + 1, x => by
  rw [leB, leB_snoc n (x / 256), leB]
  simp only [List.cons_append]
  rw [Nat.div_div_eq_div_mul, Nat.pow_succ, Nat.mul_comm 256]
def putL (b : List UInt8) (n : Int) (x : Nat) : List UInt8 := if 1 ≤ n ∧ n ≤ 8 then b ++ leB n.toNat x else b
theorem own_form {w : World} {base : Nat} {e : TypeId} {size : Nat} {v : Value} {n : Nat} {xs : List Value} (h : w.ownsRow base e size v n xs) : ∃ A c, v = .slice A n c ∧ (A = none → n = 0 ∧ c = 0) := by
 rcases h.2 with ⟨rfl, rfl⟩ | ⟨g, cap, cur, rfl, _⟩
 ·exact ⟨_, _, rfl, fun _ => ⟨rfl, rfl⟩⟩
 ·exact ⟨_, _, rfl, fun h => by cases h⟩
def MakesRow (W0 : World) (e : TypeId) (size : Nat) (xs : List Value) (len : Nat) (x : Ending) (w' : World) : Prop :=
 ∃ A c, x = .returned (.slice A len c) ∧ w'.ownsRow W0.heap.size e size (.slice A len c) len xs ∧ (A = none → len = 0 ∧ c = 0) ∧ Bel W0 w'
set_option maxHeartbeats 400000 in
theorem clone_any (A : Option Addr) (c : Nat) (l : List UInt8) (w : World) (hr : Rd w 1 A l.length (bv l)) (hc : A = none → c = 0) (hn : l.length ≤ 1099511627776) :
  Calls Tryz.prog 180 #[.slice A l.length c] w (MakesRow w 5 1 (bv l) l.length) := by
 rcases A with _ | ad
 ·obtain rfl := hc rfl
  have h0 := hr.2.1 rfl
  obtain rfl : l = [] := List.eq_nil_of_length_eq_zero h0
  go_enter Tryz.func180, Tryz.ntmps180
  go_wp2
  go_ret
  exact ⟨_, _, rfl, by simpa [bv] using World.ownsRow_nil w _ _ 1, fun _ => ⟨rfl, rfl⟩, Bel.refl _⟩
 ·clear hc
  go_enter Tryz.func180, Tryz.ntmps180
  have hown : ∀ W : World, Bel w W → (W.alloc (.cells #[] 5)).ownsRow w.heap.size 5 1 (.slice (some ⟨W.heap.size, 0, none⟩) 0 0) 0 [] := fun W hW => World.ownsRow_lit W #[] 0 hW.size (by unfold maxLen; omega) rfl
  go_wp2_with (at_builtin; refine wpList_app w elemU8 rfl _ _ rfl ((Bel.refl w).alloc _) (Nat.le_refl _) (by simp) rfl (hown w (Bel.refl w)) rfl (hr.alloc _) (bv_one l) (by unfold maxLen; omega) (by omega) ?_; intro v' w1 hown1 hb1 _ _)
  simp only [Nat.zero_add, List.nil_append] at hown1
  obtain ⟨A', c', rfl, hA⟩ := own_form hown1
  go_wp2
  go_ret
  exact ⟨_, _, rfl, hown1, hA, hb1⟩
set_option maxHeartbeats 1000000 in
theorem put_yes (A : Option Addr) (c : Nat) (l : List UInt8) (m x : Nat) (w : World) (hr : Rd w 1 A l.length (bv l)) (hc : A = none → c = 0) (hn : l.length ≤ 1099511627776) (hm : 1 ≤ m ∧ m ≤ 8) (hx : x < 18446744073709551616) :
  Calls Tryz.prog 147 #[.slice A l.length c, .int .i64 m, .int .u64 x] w (MakesRow w 5 1 (bv (l ++ leB m x)) (l.length + m)) := by
 have hf : fitsB m = true := by simp [fitsB]; omega
 go_enter Tryz.func147, Tryz.ntmps147
 go_wp2_with (first | (go_at_call 180; refine (clone_any A c l _ hr hc hn).mono ?_; rintro e w1 ⟨A1, c1, rfl, hown1, hA1, hb1⟩) | (go_at_call 181; refine (fits_any _ _).mono ?_; rintro e w2 ⟨rfl, rfl⟩))
 go_loopw [2, 7, 15] (fun y o i wr => ∃ (k : Nat) (Ao : Option Addr) (co : Nat), k ≤ m ∧ i = .int .i64 k ∧ y = .int .u64 ((x / 256 ^ k : Nat) : Int) ∧ o = .slice Ao (l.length + k) co ∧ wr.ownsRow w.heap.size 5 1 (.slice Ao (l.length + k) co) (l.length + k) (bv (l ++ leB k x)) ∧ (Ao = none → l.length + k = 0 ∧ co = 0) ∧ Bel w wr) (fun _ _ i _ => m - (intOf i).toNat)
 case atStart => exact ⟨0, A1, c1, Nat.zero_le _, rfl, by simp, rfl, by simpa [leB] using hown1, by simpa using hA1, hb1⟩
 case round =>
  obtain ⟨k, Ao, co, hk, rfl, rfl, rfl, hown, hAo, hbw⟩ := hrel
  by_cases hlt : k < m
  ·have hy : x / 256 ^ k < 18446744073709551616 := Nat.lt_of_le_of_lt (Nat.div_le_self _ _) hx
   go_wp2_with (at_builtin; refine wpList_app w elemU8 rfl _ _ rfl (hbw.alloc _) (Nat.le_refl _) (by have := hbw.size; simp; omega) rfl (hown.alloc _) rfl (Rd.new wr _ _ 1 rfl) (by intro u hu; simp at hu; subst hu; rfl) (by unfold maxLen; omega) (by omega) ?_; intro v' w3 hown3 hb3 _ _)
   go_roundw
   case rel =>
    obtain ⟨A2, c2, hv2, hA2⟩ := own_form hown3
    rw [hv2] at hown3
    refine ⟨k + 1, A2, c2, by omega, by go_num, ?_, hv2, ?_, fun h => by have := hA2 h; omega, hb3⟩
    ·rw [Nat.pow_succ, ← Nat.div_div_eq_div_mul]; simp
    ·have e : bv (l ++ leB (k + 1) x) = bv (l ++ leB k x) ++ #[Value.int .u8 ((x : Int) / 256 ^ k % 256)].toList := by
      rw [leB_snoc, ← List.append_assoc, bv_append (l ++ leB k x)]
      simp [bv]
     rw [e]
     exact hown3
   case measure => simp [intOf]; omega
  ·have hke : k = m := by omega
   subst hke
   go_wp2
   go_ret
   exact ⟨_, _, rfl, hown, hAo, hbw⟩
set_option maxHeartbeats 1000000 in
theorem put_no (A : Option Addr) (c : Nat) (l : List UInt8) (m x : Int) (w : World) (hr : Rd w 1 A l.length (bv l)) (hc : A = none → c = 0) (hn : l.length ≤ 1099511627776) (hm : ¬ (1 ≤ m ∧ m ≤ 8)) :
  Calls Tryz.prog 147 #[.slice A l.length c, .int .i64 m, .int .u64 x] w (MakesRow w 5 1 (bv l) l.length) := by
 have hf : fitsB m = false := by simp [fitsB]; omega
 go_enter Tryz.func147, Tryz.ntmps147
 go_wp2_with (first | (go_at_call 180; refine (clone_any A c l _ hr hc hn).mono ?_; rintro e w1 ⟨A1, c1, rfl, hown1, hA1, hb1⟩) | (go_at_call 181; refine (fits_any _ _).mono ?_; rintro e w2 ⟨rfl, rfl⟩))
 go_ret
 exact ⟨_, _, rfl, hown1, hA1, hb1⟩
theorem put_any (A : Option Addr) (c : Nat) (l : List UInt8) (m x : Int) (w : World) (hr : Rd w 1 A l.length (bv l)) (hc : A = none → c = 0) (hn : l.length ≤ 1099511627776) (hx : 0 ≤ x ∧ x < 18446744073709551616) :
  Calls Tryz.prog 147 #[.slice A l.length c, .int .i64 m, .int .u64 x] w (MakesRow w 5 1 (bv (putL l m x.toNat)) (putL l m x.toNat).length) := by
 by_cases hm : 1 ≤ m ∧ m ≤ 8
 ·obtain ⟨k, rfl⟩ : ∃ k : Nat, m = k := ⟨m.toNat, by omega⟩
  obtain ⟨y, rfl⟩ : ∃ y : Nat, x = y := ⟨x.toNat, by omega⟩
  have e : putL l k (y : Int).toNat = l ++ leB k y := by simp only [putL, if_pos hm, Int.toNat_natCast]
  have e2 : (l ++ leB k y).length = l.length + k := by simp [jG7]
  rw [e, e2]
  exact put_yes A c l k y w hr hc hn (by omega) (by omega)
 ·have e : putL l m x.toNat = l := if_neg hm
  rw [e]
  exact put_no A c l m x w hr hc hn hm
end Go.Proofs.YtkojkeabelckjaaGreatDoor
namespace Go.Proofs.YtkojkeabelckjaaGreatDoor
open Go.RowKit
end Go.Proofs.YtkojkeabelckjaaGreatDoor
namespace Go.Proofs.YtkojkeabelckjaaGreatDoor
open Go.RowKit
end Go.Proofs.YtkojkeabelckjaaGreatDoor
