/- Walks and plain laws for this claim (texts Gli1, Gli2, Ghd1, Ghd2, Ghd3, LayJoin, Gly1, Nt3, Nt4, Mg4, Lf10, Lf11, Lf12, Lf13, joined). Each theorem states its own conditions. -/
import Derived.Test.YteofkgedfjffcaaGreatDoorRows
import Derived.Lib.SlBytesConst
import Derived.Shelf.Strings.OnBuilder
import Derived.Test.YteofkgedfjffcaaGreatDoorJ05
import Derived.Test.YteofkgedfjffcaaGreatDoorJ06
set_option linter.all false
namespace Go.Proofs.YteofkgedfjffcaaGreatDoor
section
open Go.RowKit
abbrev xQ := @List.filter_nil
abbrev jP7 (s : ByteArray) (p b : Int) : Value := .agg #[.string s, .int .i64 p, .int .i64 b]
def jL6 (n : Int) : Bool := decide (1 ≤ n ∧ n ≤ 8)
theorem jS3 (n : Int) (w : World) : Calls Tryz.prog 264 #[.int .i64 n] w fun e w' => e = .returned (.bool (jL6 n)) ∧ w = w' := by
 by_cases h1 : 1 ≤ n
 ·by_cases h2 : n ≤ 8
  ·have h : jL6 n = true := by simp [jL6, h1, h2]
   rw [h]
   go_enter Tryz.func264, Tryz.ntmps264
   go_wp2
   go_ret
   exact ⟨rfl, rfl⟩
  ·have h : jL6 n = false := by simp [jL6, h1, h2]
   rw [h]
   go_enter Tryz.func264, Tryz.ntmps264
   go_wp2
   go_ret
   exact ⟨rfl, rfl⟩
 ·have h : jL6 n = false := by simp [jL6, h1]
  rw [h]
  go_enter Tryz.func264, Tryz.ntmps264
  go_wp2
  go_ret
  exact ⟨rfl, rfl⟩
def stands (s : ByteArray) (p : Int) : Bool := decide (0 ≤ p ∧ p ≤ s.size)
set_option maxHeartbeats 400000 in
theorem jV7 (s : ByteArray) (p e : Int) (w : World) : Calls Tryz.prog 301 #[jP7 s p e] w fun e w' => e = .returned (.bool (stands s p)) ∧ Bel w w' := by
 by_cases h1 : 0 ≤ p
 ·by_cases h2 : p ≤ s.size
  ·have h : stands s p = true := by simp [stands, h1, h2]
   rw [h]
   go_enter Tryz.func301, Tryz.ntmps301
   go_wp2
   go_ret
   exact ⟨rfl, (Bel.refl _).alloc _⟩
  ·have h : stands s p = false := by simp [stands, h1, h2]
   rw [h]
   go_enter Tryz.func301, Tryz.ntmps301
   go_wp2
   go_ret
   exact ⟨rfl, (Bel.refl _).alloc _⟩
 ·have h : stands s p = false := by simp [stands, h1]
  rw [h]
  go_enter Tryz.func301, Tryz.ntmps301
  go_wp2
  go_ret
  exact ⟨rfl, (Bel.refl _).alloc _⟩
set_option maxHeartbeats 400000 in
theorem kY5 (s : ByteArray) (p b c : Int) (w : World) : Calls Tryz.prog 302 #[jP7 s p b, .int .i64 c] w fun e w' => e = .returned (.tuple #[.string ⟨#[]⟩, jP7 s p c]) ∧ Bel w w' := by
 go_enter Tryz.func302, Tryz.ntmps302
 go_wp2
 go_region
 go_wp2
 refine bodyPost_ret (v := .tuple #[.string ⟨#[]⟩, jP7 s p c]) (by simp [results, Tryz.results302, go_sem]) rfl ⟨rfl, ?_⟩
 exact (by repeat (first | exact Bel.refl _ | exact Bel.drew (Bel.refl _) | refine Bel.drew ?_ | refine Bel.drewN ?_ _ | refine Bel.alloc ?_ _ | refine Bel.set ?_ (by simp; try omega) _ | refine Bel.trans ?_ (by assumption)))
def jW6 (s : ByteArray) (p e n : Int) (may : Bool) : Int := if e ≠ 0 then e else if may = false ∨ stands s p = false then 2 else if (s.size : Int) - p < n then 3 else 0
def jX7 (s : ByteArray) (p e n : Int) (may : Bool) : ByteArray := if jW6 s p e n may = 0 then s.extract p.toNat (p + n).toNat else ⟨#[]⟩
def kD2 (s : ByteArray) (p e n : Int) (may : Bool) : Int := if jW6 s p e n may = 0 then p + n else p
set_option maxHeartbeats 400000 in
theorem zA8 (s : ByteArray) (p e n : Int) (may : Bool) (w : World) (he : e ≠ 0) :
  Calls Tryz.prog 291 #[jP7 s p e, .int .i64 n, .bool may] w fun x w' => x = .returned (.tuple #[.string ⟨#[]⟩, jP7 s p e]) ∧ Bel w w' := by
 have h1 : (e != 0) = true := by simp [he]
 go_enter Tryz.func291, Tryz.ntmps291
 go_wp2
 go_region
 go_wp2
 refine bodyPost_ret (v := .tuple #[.string ⟨#[]⟩, jP7 s p e]) (by simp [results, Tryz.results291, go_sem]) rfl ⟨rfl, ?_⟩
 exact (by repeat (first | exact Bel.refl _ | exact Bel.drew (Bel.refl _) | refine Bel.drew ?_ | refine Bel.drewN ?_ _ | refine Bel.alloc ?_ _ | refine Bel.set ?_ (by simp; try omega) _ | refine Bel.trans ?_ (by assumption)))
set_option maxHeartbeats 400000 in
theorem zA9 (s : ByteArray) (p n : Int) (may : Bool) (w : World) (h : may = false ∨ stands s p = false) :
  Calls Tryz.prog 291 #[jP7 s p 0, .int .i64 n, .bool may] w fun x w' => x = .returned (.tuple #[.string ⟨#[]⟩, jP7 s p 2]) ∧ Bel w w' := by
 cases may with
 | false =>
  clear h
  go_enter Tryz.func291, Tryz.ntmps291
  go_wp2_with (first | (go_at_call 301; refine (jV7 _ _ _ _).mono ?_; rintro e w1 ⟨rfl, hb1⟩; obtain ⟨hb1c, hb1f, hb1z⟩ := Bel.took hb1; have hb1z0 : w.heap.size < w1.heap.size := (by (try simp at hb1z); omega); have hb1z1 : w.heap.size + 1 < w1.heap.size := (by (try simp at hb1z); omega); clear hb1z) | (go_at_call 302; refine (kY5 _ _ _ _ _).mono ?_; rintro e w1 ⟨rfl, hb1⟩; obtain ⟨hb1c, hb1f, hb1z⟩ := Bel.took hb1; have hb1z0 : w.heap.size < w1.heap.size := (by (try simp at hb1z); omega); have hb1z1 : w.heap.size + 1 < w1.heap.size := (by (try simp at hb1z); omega); clear hb1z))
  refine bodyPost_ret (v := .tuple #[.string ⟨#[]⟩, jP7 s p 2]) (by simp [results, Tryz.results291, go_sem, *]) rfl ⟨rfl, ?_⟩
  exact (by repeat (first | exact Bel.refl _ | exact Bel.drew (Bel.refl _) | refine Bel.drew ?_ | refine Bel.drewN ?_ _ | refine Bel.alloc ?_ _ | refine Bel.set ?_ (by simp; try omega) _ | refine Bel.trans ?_ (by assumption)))
 | true =>
  have h : stands s p = false := by simpa using h
  go_enter Tryz.func291, Tryz.ntmps291
  go_wp2_with (first | (go_at_call 301; refine (jV7 _ _ _ _).mono ?_; rintro e w1 ⟨rfl, hb1⟩; obtain ⟨hb1c, hb1f, hb1z⟩ := Bel.took hb1; have hb1z0 : w.heap.size < w1.heap.size := (by (try simp at hb1z); omega); have hb1z1 : w.heap.size + 1 < w1.heap.size := (by (try simp at hb1z); omega); clear hb1z) | (go_at_call 302; refine (kY5 _ _ _ _ _).mono ?_; rintro e w2 ⟨rfl, hb2⟩; obtain ⟨hb2c, hb2f, hb2z⟩ := Bel.took hb2; have hb2z0 : w.heap.size < w2.heap.size := (by (try simp at hb2z); omega); have hb2z1 : w.heap.size + 1 < w2.heap.size := (by (try simp at hb2z); omega); clear hb2z))
  refine bodyPost_ret (v := .tuple #[.string ⟨#[]⟩, jP7 s p 2]) (by simp [results, Tryz.results291, go_sem, *]) rfl ⟨rfl, ?_⟩
  exact (by repeat (first | exact Bel.refl _ | exact Bel.drew (Bel.refl _) | refine Bel.drew ?_ | refine Bel.drewN ?_ _ | refine Bel.alloc ?_ _ | refine Bel.set ?_ (by simp; try omega) _ | refine Bel.trans ?_ (by assumption)))
set_option maxHeartbeats 400000 in
theorem wR5 (s : ByteArray) (p n : Int) (w : World) (h : stands s p = true) (hn : (s.size : Int) - p < n) (hs : s.size ≤ maxLen) :
  Calls Tryz.prog 291 #[jP7 s p 0, .int .i64 n, .bool true] w fun x w' => x = .returned (.tuple #[.string ⟨#[]⟩, jP7 s p 3]) ∧ Bel w w' := by
 unfold maxLen at hs
 obtain ⟨k, rfl⟩ : ∃ k : Nat, p = k := ⟨p.toNat, by simp [stands] at h; omega⟩
 have hk : k ≤ s.size := by simp [stands] at h; omega
 go_enter Tryz.func291, Tryz.ntmps291
 go_wp2_with (first | (go_at_call 301; refine (jV7 _ _ _ _).mono ?_; rintro e w1 ⟨rfl, hb1⟩; obtain ⟨hb1c, hb1f, hb1z⟩ := Bel.took hb1; have hb1z0 : w.heap.size < w1.heap.size := (by (try simp at hb1z); omega); have hb1z1 : w.heap.size + 1 < w1.heap.size := (by (try simp at hb1z); omega); clear hb1z) | (go_at_call 302; refine (kY5 _ _ _ _ _).mono ?_; rintro e w2 ⟨rfl, hb2⟩; obtain ⟨hb2c, hb2f, hb2z⟩ := Bel.took hb2; have hb2z0 : w.heap.size < w2.heap.size := (by (try simp at hb2z); omega); have hb2z1 : w.heap.size + 1 < w2.heap.size := (by (try simp at hb2z); omega); clear hb2z))
 refine bodyPost_ret (v := .tuple #[.string ⟨#[]⟩, jP7 s k 3]) (by simp [results, Tryz.results291, go_sem, *]) rfl ⟨rfl, ?_⟩
 exact (by repeat (first | exact Bel.refl _ | exact Bel.drew (Bel.refl _) | refine Bel.drew ?_ | refine Bel.drewN ?_ _ | refine Bel.alloc ?_ _ | refine Bel.set ?_ (by simp; try omega) _ | refine Bel.trans ?_ (by assumption)))
set_option maxHeartbeats 400000 in
theorem zL0 (s : ByteArray) (k n : Nat) (w : World) (hn : k + n ≤ s.size) (hs : s.size ≤ maxLen) :
  Calls Tryz.prog 291 #[jP7 s k 0, .int .i64 n, .bool true] w fun x w' => x = .returned (.tuple #[.string (s.extract k (k + n)), jP7 s (k + n : Nat) 0]) ∧ Bel w w' := by
 unfold maxLen at hs
 have h : stands s k = true := by simp [stands]; omega
 go_enter Tryz.func291, Tryz.ntmps291
 go_wp2_with (first | (go_at_call 301; refine (jV7 _ _ _ _).mono ?_; rintro e w1 ⟨rfl, hb1⟩; obtain ⟨hb1c, hb1f, hb1z⟩ := Bel.took hb1; have hb1z0 : w.heap.size < w1.heap.size := (by (try simp at hb1z); omega); have hb1z1 : w.heap.size + 1 < w1.heap.size := (by (try simp at hb1z); omega); clear hb1z; have hs1 : ∀ u, (w1.setCell ⟨w.heap.size, 1, none⟩ u).cell? ⟨w.heap.size, 1, none⟩ = some u := (fun u => cell_set_here _ _ _ (by simp [go_sem, hb1c]))))
 go_region
 go_wp2
 refine bodyPost_ret (v := .tuple #[.string (s.extract k (k + n)), jP7 s (k + n : Nat) 0]) (by simp [results, Tryz.results291, go_sem, *]) rfl ⟨rfl, ?_⟩
 exact (by repeat (first | exact Bel.refl _ | exact Bel.drew (Bel.refl _) | refine Bel.drew ?_ | refine Bel.drewN ?_ _ | refine Bel.alloc ?_ _ | refine Bel.set ?_ (by simp; try omega) _ | refine Bel.trans ?_ (by assumption)))
theorem zB0 (s : ByteArray) (p e n : Int) (may : Bool) (w : World) (hs : s.size ≤ maxLen) (hm : may = true → 0 ≤ n) :
  Calls Tryz.prog 291 #[jP7 s p e, .int .i64 n, .bool may] w fun x w' => x = .returned (.tuple #[.string (jX7 s p e n may), jP7 s (kD2 s p e n may) (jW6 s p e n may)]) ∧ Bel w w' := by
 by_cases he : e = 0
 ·subst he
  by_cases h : may = false ∨ stands s p = false
  ·have h1 : jW6 s p 0 n may = 2 := by simp [jW6, h]
   have h2 : jX7 s p 0 n may = ⟨#[]⟩ := by simp [jX7, h1]
   have h3 : kD2 s p 0 n may = p := by simp [kD2, h1]
   rw [h1, h2, h3]
   exact zA9 s p n may w h
  ·have h' := h
   simp only [not_or, Bool.not_eq_false] at h'
   obtain ⟨rfl, hst⟩ := h'
   by_cases hn : (s.size : Int) - p < n
   ·have h1 : jW6 s p 0 n true = 3 := by simp [jW6, hst, hn]
    have h2 : jX7 s p 0 n true = ⟨#[]⟩ := by simp [jX7, h1]
    have h3 : kD2 s p 0 n true = p := by simp [kD2, h1]
    rw [h1, h2, h3]
    exact wR5 s p n w hst hn hs
   ·have h1 : jW6 s p 0 n true = 0 := by simp [jW6, hst, hn]
    have h2 : jX7 s p 0 n true = s.extract p.toNat (p + n).toNat := by simp [jX7, h1]
    have h3 : kD2 s p 0 n true = p + n := by simp [kD2, h1]
    rw [h1, h2, h3]
    have hst' := hst
    simp only [stands, decide_eq_true_eq] at hst'
    obtain ⟨k, rfl⟩ : ∃ k : Nat, p = k := ⟨p.toNat, by omega⟩
    obtain ⟨m, rfl⟩ : ∃ m : Nat, n = m := ⟨n.toNat, by have := hm rfl; omega⟩
    have e1 : ((k : Int) + (m : Int)).toNat = k + m := by omega
    have e2 : ((k : Int) + (m : Int)) = ((k + m : Nat) : Int) := by omega
    rw [e1, e2, x4]
    exact zL0 s k m w (by omega) hs
 ·have h1 : jW6 s p e n may = e := by simp [jW6, he]
  have h2 : jX7 s p e n may = ⟨#[]⟩ := by simp [jX7, h1, he]
  have h3 : kD2 s p e n may = p := by simp [kD2, h1, he]
  rw [h1, h2, h3]
  exact zA8 s p e n may w he
end
section
open Go.RowKit
end
section
open Go.RowKit
def sgnE (n : Int) : Int := if 1 ≤ n ∧ n ≤ 8 then 0 else 2
def sgnV (x n : Int) : Int := if 1 ≤ n ∧ n ≤ 8 then (x + 2 ^ (8 * n - 1).toNat) % 2 ^ (8 * n).toNat - 2 ^ (8 * n - 1).toNat else 0
theorem ret2 {a b c d : Value} (h1 : a = c) (h2 : b = d) : Ending.returned (.tuple #[a, b]) = .returned (.tuple #[c, d]) := by rw [h1, h2]
theorem yJ9 {n : Int} (h : 1 ≤ n ∧ n ≤ 8) : n = 1 ∨ n = 2 ∨ n = 3 ∨ n = 4 ∨ n = 5 ∨ n = 6 ∨ n = 7 ∨ n = 8 := by omega
set_option maxHeartbeats 1000000 in
theorem vW9 (x n : Int) (w : World) (hx : 0 ≤ x ∧ x < 18446744073709551616) :
  Calls Tryz.prog 267 #[.int .u64 x, .int .i64 n] w fun e w' => e = .returned (.tuple #[.int .i64 (sgnV x n), .int .i64 (sgnE n)]) ∧ w = w' := by
 by_cases h : 1 ≤ n ∧ n ≤ 8
 ·rcases yJ9 h with rfl | rfl | rfl | rfl | rfl | rfl | rfl | rfl
  all_goals
   go_enter Tryz.func267, Tryz.ntmps267
   go_wp2_with (go_at_call 264; refine (jS3 _ _).mono ?_; rintro e w1 ⟨rfl, rfl⟩; rw [show jL6 _ = true from by decide])
   go_ret2
   refine ⟨ret2 (congrArg (Value.int _) ?_) rfl, rfl⟩
   simp [sgnV, wrap64, IntKind.wrap_u64]
   try omega
 ·have h1 : jL6 n = false := by simp [jL6]; omega
  go_enter Tryz.func267, Tryz.ntmps267
  go_wp2_with (go_at_call 264; refine (jS3 _ _).mono ?_; rintro e w1 ⟨rfl, rfl⟩)
  go_ret2
  exact ⟨by simp [sgnV, sgnE, h], rfl⟩
def unsE (v n : Int) : Int := if 1 ≤ n ∧ n ≤ 8 then (if -2 ^ (8 * n - 1).toNat ≤ v ∧ v < 2 ^ (8 * n - 1).toNat then 0 else 8) else 2
def unsV (v n : Int) : Int := if unsE v n = 0 then v % 2 ^ (8 * n).toNat else 0
set_option maxHeartbeats 1000000 in
theorem vA7 (v n : Int) (w : World) (hx : -9223372036854775808 ≤ v ∧ v < 9223372036854775808) :
  Calls Tryz.prog 229 #[.int .i64 v, .int .i64 n] w fun e w' => e = .returned (.tuple #[.int .u64 (unsV v n), .int .i64 (unsE v n)]) ∧ w = w' := by
 by_cases h : 1 ≤ n ∧ n ≤ 8
 ·rcases yJ9 h with rfl | rfl | rfl | rfl | rfl | rfl | rfl | rfl
  all_goals
   go_enter Tryz.func229, Tryz.ntmps229
   go_wp2_with (go_at_call 264; refine (jS3 _ _).mono ?_; rintro e w1 ⟨rfl, rfl⟩; rw [show jL6 _ = true from by decide])
   all_goals
    go_ret2
    refine ⟨ret2 (congrArg (Value.int _) ?_) (congrArg (Value.int _) ?_), rfl⟩
    all_goals
     simp [unsV, unsE, wrap64, IntKind.wrap_u64] at *
     try (repeat' split) <;> omega
 ·have h1 : jL6 n = false := by simp [jL6]; omega
  go_enter Tryz.func229, Tryz.ntmps229
  go_wp2_with (go_at_call 264; refine (jS3 _ _).mono ?_; rintro e w1 ⟨rfl, rfl⟩)
  go_ret2
  exact ⟨by simp [unsV, unsE, h], rfl⟩
end
section
open Go.RowKit
def numL : List UInt8 → Nat
 | [] => 0
 | c :: l => c.toNat + 256 * numL l
theorem kX4 : ∀ l : List UInt8, numL l < 256 ^ l.length
 | [] => by simp [numL]
 | c :: l => by
  have h1 := kX4 l
  have h2 : c.toNat < 256 := c.toNat_lt
  simp only [numL, lD, qV]
  omega
theorem wJ1 {n : Nat} (h : n ≤ 8) : 256 ^ n ≤ 18446744073709551616 := by
 have : 256 ^ n ≤ 256 ^ 8 := uG (by omega) h
 simpa using this
theorem vV8 (s : ByteArray) (p e n : Int) (m : Bool) (hm : m = true → 0 ≤ n ∧ n ≤ 8) : (jX7 s p e n m).size ≤ 8 := by
 unfold jX7
 split
 ·rename_i h
  have h1 : m = true ∧ stands s p = true := by
   unfold jW6 at h
   split at h
   ·omega
   ·split at h
    ·omega
    ·rename_i h'; simpa using h'
  have h2 := hm h1.1
  have h3 : 0 ≤ p ∧ p ≤ s.size := by have := h1.2; simpa [stands] using this
  simp
  omega
 ·exact lZ _
theorem yB7 (a c k : Nat) (ha : a < 2 ^ k) : a ||| (c * 2 ^ k) = a + c * 2 ^ k := by
 rw [Nat.or_comm, qU, ← Nat.two_pow_add_eq_or_of_lt ha, Nat.add_comm]
theorem vE4 : ∀ (l : List UInt8) (c : UInt8), numL (l ++ [c]) = numL l + c.toNat * 256 ^ l.length
 | [], c => by simp [numL]
 | b :: l, c => by simp only [List.cons_append, numL, vE4 l c, List.length_cons, Nat.pow_succ]; rw [Nat.mul_add, Nat.add_assoc]; congr 2; rw [Nat.mul_comm, Nat.mul_assoc]
theorem yQ2 (s : ByteArray) (k : Nat) (h : k < s.size) : s.data.toList.take (k + 1) = s.data.toList.take k ++ [s[k]] := by
 rw [qC (by simpa using h)]; rfl
theorem yU3 (a c k : Nat) (hk : k < 8) (ha : a < 256 ^ k) (hc : c < 256) : bits .or .u64 (a : Int) (IntKind.u64.wrap ((c : Int) * 2 ^ (8 * k))) = ((a + c * 256 ^ k : Nat) : Int) := by
 have e : (256 : Nat) ^ k = 2 ^ (8 * k) := by rw [Nat.pow_mul]
 have h1 : 256 ^ (k + 1) ≤ 18446744073709551616 := wJ1 (by omega)
 have h2 : c * 256 ^ k + 256 ^ k ≤ 256 ^ (k + 1) := by
  rw [qV, qU (256 ^ k) 256, ← zH]
  exact z7 _ hc
 have h0 : 0 < 256 ^ k := Nat.pow_pos (by omega)
 have e2 : IntKind.u64.wrap ((c : Int) * 2 ^ (8 * k)) = ((c * 256 ^ k : Nat) : Int) := by
  have e3 : ((c : Int) * 2 ^ (8 * k)) = ((c * 256 ^ k : Nat) : Int) := by rw [e]; simp
  rw [IntKind.wrap_u64, e3]
  generalize c * 256 ^ k = y at *
  generalize 256 ^ (k + 1) = z at *
  generalize 256 ^ k = x at *
  omega
 rw [e2, u64_or_nat _ _ (by omega) (by omega)]
 rw [e] at ha ⊢
 rw [yB7 _ _ _ ha]
set_option maxHeartbeats 400000 in
theorem yU8 (s : ByteArray) (p e n : Int) (w : World) (hs : s.size ≤ maxLen) :
  Calls Tryz.prog 266 #[jP7 s p e, .int .i64 n] w fun x w' => x = .returned (.tuple #[.int .u64 (numL (jX7 s p e n (jL6 n)).data.toList), jP7 s (kD2 s p e n (jL6 n)) (jW6 s p e n (jL6 n))]) ∧ Bel w w' := by
 have hm : jL6 n = true → 0 ≤ n ∧ n ≤ 8 := by intro h; simp [jL6] at h; omega
 have ht := vV8 s p e n (jL6 n) hm
 generalize hT : jX7 s p e n (jL6 n) = T at ht
 have HT := hide hT
 clear hT
 have hmf : ∀ (fn : Go.Fn) (first cap : Array Value) (w : World), (Instr.makeFunc fn first cap).run Tryz.prog w = .ok (.func fn first cap) w := fun _ _ _ _ => rfl
 go_enter Tryz.func266, Tryz.ntmps266
 go_wp2_with (first | (go_at_call 264; refine (jS3 _ _).mono ?_; rintro e w1 ⟨rfl, rfl⟩) | (go_at_call 291; refine (zB0 _ _ _ _ _ _ hs (fun h => (hm h).1)).mono ?_; rintro e w1 ⟨rfl, hb1⟩; rw [HT.out]; obtain ⟨hb1c, hb1f, hb1z⟩ := Bel.took hb1; have hb1z0 : w.heap.size < w1.heap.size := (by (try simp at hb1z); omega); have hb1z1 : w.heap.size + 1 < w1.heap.size := (by (try simp at hb1z); omega); clear hb1z))
 go_loop [9, 10, 23] (fun x _ i => ∃ k : Nat, k ≤ T.size ∧ i = .int .i64 k ∧ x = .int .u64 (numL (T.data.toList.take k))) (fun _ _ i => T.size - (intOf i).toNat)
 case atStart => exact ⟨0, lZ _, rfl, rfl⟩
 case round =>
  obtain ⟨k, hk, rfl, rfl⟩ := hrel
  by_cases hlt : k < T.size
  ·have hs1 := yQ2 T k hlt
   have hl : numL (T.data.toList.take k) < 256 ^ k := by
    have := kX4 (T.data.toList.take k)
    rwa [xV, Array.length_toList, z8 (by simpa using hk)] at this
   have hb2 : (T[k]).toNat < 256 := (T[k]).toNat_lt
   have HS := hide hs1
   clear hs1
   go_wp2
   go_round
   case rel =>
    refine ⟨k + 1, by omega, by go_num, congrArg (Value.int _) ?_⟩
    rw [HS.out, vE4]
    refine (yU3 _ _ _ (by omega) hl hb2).trans ?_
    rw [xV, Array.length_toList, z8 (by simpa using hk)]
   case measure => simp [intOf]; omega
  ·have hke : k = T.size := by omega
   subst hke
   go_wp2
   have hT2 : List.take T.size T.data.toList = T.data.toList := zN (by simp)
   rw [hT2]
   go_region
   go_wp2
   refine bodyPost_ret (v := .tuple #[.int .u64 (numL T.data.toList), jP7 s (kD2 s p e n (jL6 n)) (jW6 s p e n (jL6 n))]) (by simp [results, Tryz.results266, go_sem, hb1c, hb1z0, hb1z1]) rfl ⟨rfl, ?_⟩
   exact (by repeat (first | exact Bel.refl _ | exact Bel.drew (Bel.refl _) | refine Bel.drew ?_ | refine Bel.drewN ?_ _ | refine Bel.alloc ?_ _ | refine Bel.set ?_ (by simp; try omega) _ | refine Bel.trans ?_ (by assumption)))
end
section
open Go.RowKit
end
section
open Go.RowKit
@[go_sem] theorem eqnil_bytes (w : World) (A : Option Addr) (n c : Nat) : (binOp .eql 72 (.slice A n c) (.slice none 0 0)).run Tryz.prog w = .ok (.bool A.isNone) w := Lib.run_eql_slice_nil w _ _ A n c 0 0 Tryz.underlying72
theorem kR1 : ElemOk Tryz.prog 72 5 1 1 := ElemOk.mk_ (z := .int .u8 0) Tryz.underlying72 (by kernel_rfl) rfl (by omega)
def leB : Nat → Nat → List UInt8
 | 0, _ => []
 | n + 1, x => UInt8.ofNat (x % 256) :: leB n (x / 256)
theorem jG8 : ∀ n x, (leB n x).length = n
 | 0, _ => rfl
 | n + 1, x => by simp [leB, jG8 n]
theorem vR8 : ∀ n x, leB (n + 1) x = leB n x ++ [UInt8.ofNat (x / 256 ^ n % 256)]
 | 0, x => by simp [leB]
 | n + 1, x => by
  rw [leB, vR8 n (x / 256), leB]
  simp only [lL]
  rw [Nat.div_div_eq_div_mul, qV, qU 256]
def putL (b : List UInt8) (n : Int) (x : Nat) : List UInt8 := if 1 ≤ n ∧ n ≤ 8 then b ++ leB n.toNat x else b
theorem vR0 {w : World} {base : Nat} {e : TypeId} {size : Nat} {v : Value} {n : Nat} {xs : List Value} (h : w.ownsRow base e size v n xs) : ∃ A c, v = .slice A n c ∧ (A = none → n = 0 ∧ c = 0) := by
 rcases h.2 with ⟨rfl, rfl⟩ | ⟨g, cap, cur, rfl, _⟩
 ·exact ⟨_, _, rfl, fun _ => ⟨rfl, rfl⟩⟩
 ·exact ⟨_, _, rfl, fun h => by cases h⟩
def kC7 (W0 : World) (e : TypeId) (size : Nat) (xs : List Value) (len : Nat) (x : Ending) (w' : World) : Prop :=
 ∃ A c, x = .returned (.slice A len c) ∧ w'.ownsRow W0.heap.size e size (.slice A len c) len xs ∧ (A = none → len = 0 ∧ c = 0) ∧ Bel W0 w'
set_option maxHeartbeats 400000 in
theorem vG0 (A : Option Addr) (c : Nat) (l : List UInt8) (w : World) (hr : Rd w 1 A l.length (bv l)) (hc : A = none → c = 0) (hn : l.length ≤ 1099511627776) :
  Calls Tryz.prog 66 #[.slice A l.length c] w (kC7 w 5 1 (bv l) l.length) := by
 rcases A with _ | ad
 ·obtain rfl := hc rfl
  have h0 := hr.2.1 rfl
  obtain rfl : l = [] := zE h0
  go_enter Tryz.func66, Tryz.ntmps66
  go_wp2
  go_ret
  exact ⟨_, _, rfl, by simpa [bv] using World.ownsRow_nil w _ _ 1, fun _ => ⟨rfl, rfl⟩, Bel.refl _⟩
 ·clear hc
  go_enter Tryz.func66, Tryz.ntmps66
  have hown : ∀ W : World, Bel w W → (W.alloc (.cells #[] 5)).ownsRow w.heap.size 5 1 (.slice (some ⟨W.heap.size, 0, none⟩) 0 0) 0 [] := fun W hW => World.ownsRow_lit W #[] 0 hW.size (by unfold maxLen; omega) rfl
  go_wp2_with (at_builtin; refine kP0 w kR1 rfl _ _ rfl ((Bel.refl w).alloc _) (xP _) (by simp) rfl (hown w (Bel.refl w)) rfl (hr.alloc _) (wS7 l) (by unfold maxLen; omega) (by omega) ?_; intro v' w1 hown1 hb1 _ _)
  simp only [Nat.zero_add, List.nil_append] at hown1
  obtain ⟨A', c', rfl, hA⟩ := vR0 hown1
  go_wp2
  go_ret
  exact ⟨_, _, rfl, hown1, hA, hb1⟩
set_option maxHeartbeats 1000000 in
theorem yT5 (A : Option Addr) (c : Nat) (l : List UInt8) (m x : Nat) (w : World) (hr : Rd w 1 A l.length (bv l)) (hc : A = none → c = 0) (hn : l.length ≤ 1099511627776) (hm : 1 ≤ m ∧ m ≤ 8) (hx : x < 18446744073709551616) :
  Calls Tryz.prog 228 #[.slice A l.length c, .int .i64 m, .int .u64 x] w (kC7 w 5 1 (bv (l ++ leB m x)) (l.length + m)) := by
 have hf : jL6 m = true := by simp [jL6]; omega
 go_enter Tryz.func228, Tryz.ntmps228
 go_wp2_with (first | (go_at_call 66; refine (vG0 A c l _ hr hc hn).mono ?_; rintro e w1 ⟨A1, c1, rfl, hown1, hA1, hb1⟩) | (go_at_call 264; refine (jS3 _ _).mono ?_; rintro e w2 ⟨rfl, rfl⟩))
 go_loopw [2, 7, 15] (fun y o i wr => ∃ (k : Nat) (Ao : Option Addr) (co : Nat), k ≤ m ∧ i = .int .i64 k ∧ y = .int .u64 ((x / 256 ^ k : Nat) : Int) ∧ o = .slice Ao (l.length + k) co ∧ wr.ownsRow w.heap.size 5 1 (.slice Ao (l.length + k) co) (l.length + k) (bv (l ++ leB k x)) ∧ (Ao = none → l.length + k = 0 ∧ co = 0) ∧ Bel w wr) (fun _ _ i _ => m - (intOf i).toNat)
 case atStart => exact ⟨0, A1, c1, lZ _, rfl, by simp, rfl, by simpa [leB] using hown1, by simpa using hA1, hb1⟩
 case round =>
  obtain ⟨k, Ao, co, hk, rfl, rfl, rfl, hown, hAo, hbw⟩ := hrel
  by_cases hlt : k < m
  ·have hy : x / 256 ^ k < 18446744073709551616 := Nat.lt_of_le_of_lt (Nat.div_le_self _ _) hx
   go_wp2_with (at_builtin; refine kP0 w kR1 rfl _ _ rfl (hbw.alloc _) (xP _) (by have := hbw.size; simp; omega) rfl (hown.alloc _) rfl (Rd.new wr _ _ 1 rfl) (by intro u hu; simp at hu; subst hu; rfl) (by unfold maxLen; omega) (by omega) ?_; intro v' w3 hown3 hb3 _ _)
   go_roundw
   case rel =>
    obtain ⟨A2, c2, hv2, hA2⟩ := vR0 hown3
    rw [hv2] at hown3
    refine ⟨k + 1, A2, c2, by omega, by go_num, ?_, hv2, ?_, fun h => by have := hA2 h; omega, hb3⟩
    ·rw [qV, ← Nat.div_div_eq_div_mul]; simp
    ·have e : bv (l ++ leB (k + 1) x) = bv (l ++ leB k x) ++ #[Value.int .u8 ((x : Int) / 256 ^ k % 256)].toList := by
      rw [vR8, ← xD, jP4 (l ++ leB k x)]
      simp [bv]
     rw [e]
     exact hown3
   case measure => simp [intOf]; omega
  ·have hke : k = m := by omega
   subst hke
   go_wp2
   go_ret
   exact ⟨_, _, rfl, hown, hAo, hbw⟩
set_option maxHeartbeats 1000000 in
theorem zG7 (A : Option Addr) (c : Nat) (l : List UInt8) (m x : Int) (w : World) (hr : Rd w 1 A l.length (bv l)) (hc : A = none → c = 0) (hn : l.length ≤ 1099511627776) (hm : ¬ (1 ≤ m ∧ m ≤ 8)) :
  Calls Tryz.prog 228 #[.slice A l.length c, .int .i64 m, .int .u64 x] w (kC7 w 5 1 (bv l) l.length) := by
 have hf : jL6 m = false := by simp [jL6]; omega
 go_enter Tryz.func228, Tryz.ntmps228
 go_wp2_with (first | (go_at_call 66; refine (vG0 A c l _ hr hc hn).mono ?_; rintro e w1 ⟨A1, c1, rfl, hown1, hA1, hb1⟩) | (go_at_call 264; refine (jS3 _ _).mono ?_; rintro e w2 ⟨rfl, rfl⟩))
 go_ret
 exact ⟨_, _, rfl, hown1, hA1, hb1⟩
theorem yT6 (A : Option Addr) (c : Nat) (l : List UInt8) (m x : Int) (w : World) (hr : Rd w 1 A l.length (bv l)) (hc : A = none → c = 0) (hn : l.length ≤ 1099511627776) (hx : 0 ≤ x ∧ x < 18446744073709551616) :
  Calls Tryz.prog 228 #[.slice A l.length c, .int .i64 m, .int .u64 x] w (kC7 w 5 1 (bv (putL l m x.toNat)) (putL l m x.toNat).length) := by
 by_cases hm : 1 ≤ m ∧ m ≤ 8
 ·obtain ⟨k, rfl⟩ : ∃ k : Nat, m = k := ⟨m.toNat, by omega⟩
  obtain ⟨y, rfl⟩ : ∃ y : Nat, x = y := ⟨x.toNat, by omega⟩
  have e : putL l k (y : Int).toNat = l ++ leB k y := by simp only [putL, if_pos hm, x4]
  have e2 : (l ++ leB k y).length = l.length + k := by simp [jG8]
  rw [e, e2]
  exact yT5 A c l k y w hr hc hn (by omega) (by omega)
 ·have e : putL l m x.toNat = l := if_neg hm
  rw [e]
  exact zG7 A c l m x w hr hc hn hm
end
section
open Go.RowKit
end
section
open Go.RowKit
end
namespace Y
open Go.RowKit
theorem wQ1 (f l : Nat) : Fn Tryz.prog 179 [.agg #[.int .u64 f, .int .u64 l]] [] fun v _ => v = .int .u64 (IntKind.u64.wrap (f + l)) := by
 refine fE 8 Tryz.func179 rfl (fun w0 => aR (fun Z hZ => jB2 (fun g1 => ?_)))
 refine sAN hZ rfl rfl <| f1K 1 rfl <| aR (fun Z hZ => sFA0 kH5 ?_)
 first | refine sL0 0 tyA61 tyS61 ?_
 refine sFA0 kU7 ?_
 first | refine sL0 0 tyA61 tyS61 ?_
 refine kD6 _ rfl ?_
 refine sAN hZ rfl rfl <| f1K 2 rfl <| aE <| nR10 rfl
def kB7 (f l : Nat) : Bool := decide (f ≤ 1099511627776) && decide (l ≤ 1099511627776) && decide (IntKind.u64.wrap (f + l) ≤ 1099511627776)
theorem yD7 (f l : Nat) : Fn Tryz.prog 226 [.agg #[.int .u64 f, .int .u64 l]] [] fun v _ => v = .bool (kB7 f l) := by
 refine fE 16 Tryz.func226 rfl (fun w0 => aR (fun Z hZ => jB2 (fun g1 => ?_)))
 refine sAN hZ rfl rfl <| f1K 1 rfl <| jA0 [(2, .bool (kB7 f l))] [] (fun Z hZ => ?_) ?_
 ·refine sFA0 kH5 ?_
  first | refine sL0 0 tyA61 tyS61 ?_
  refine jI2 rfl rfl rfl <| sM rfl rfl <| jB3 6 rfl (fun hb3 => ?_) (fun hb3 => ?_)
  ·refine sOn0 ?_
   refine sFA0 kU7 ?_
   refine sOn0 ?_
   first | refine sL0 0 tyA61 tyS61 ?_
   refine sOn0 ?_
   refine jI2 rfl rfl rfl <| sP rfl rfl rfl <| sM rfl rfl <| jB3 11 rfl (fun hb8 => ?_) (fun hb8 => ?_)
   ·refine sOn0 ?_
    first | refine sLA0 0 tyA122 tyS122 ?_
    refine sOn0 ?_
    refine sCP0 (wQ1 _ _) ?_
    refine sOn0 ?_
    refine jI2 rfl rfl rfl <| sP rfl rfl rfl <| sA rfl rfl <| sN (hZ _ _ ?_ ?_)
    ·exact kE (congrArg some (congrArg Value.bool (by simp [kB7] at *; omega))) kF
    ·exact pH [] rfl
   ·refine sO0 ?_
    refine sO0 ?_
    refine sO0 ?_
    refine sP rfl rfl rfl <| sA rfl rfl <| sN (hZ _ _ ?_ ?_)
    ·exact kE (congrArg some (congrArg Value.bool (by simp [kB7] at *; omega))) kF
    ·exact pH [] rfl
  ·refine sO0 ?_
   refine sO0 ?_
   refine sO0 ?_
   refine sP rfl rfl rfl <| sM rfl rfl <| sO0 ?_
   refine sO0 ?_
   refine sO0 ?_
   refine sP rfl rfl rfl <| sA rfl rfl <| sN (hZ _ _ ?_ ?_)
   ·exact kE (congrArg some (congrArg Value.bool (by simp [kB7] at *; omega))) kF
   ·exact pH [] rfl
 refine aE <| nR10 rfl
def ints (l : List Int) : List Value := l.map (Value.int .i64)
theorem wL8 {l : List Int} {k : Nat} (h : k < l.length) : (ints l)[k]? = some (.int .i64 l[k]) := by simp [ints, h]
theorem kE2 (lo hi : Int) (g : Nat) (l : List Int) (hl : l.length ≤ 1000) : Fn Tryz.prog 227 [.int .i64 lo, .int .i64 hi, .slice (some ⟨g, 0, none⟩) l.length l.length] [.own g 3 (ints l)]
  fun v H' => v = .bool (l.all fun n => decide (lo ≤ n) && decide (n ≤ hi)) ∧ H' = [.own g 3 (ints l)] := by
 refine fE 24 Tryz.func227 rfl (fun w0 => aA rfl rfl <| f3K 0 1 2 rfl <| aS <| aR fun Z hZ => sM rfl rfl <| jE5 Tryz.underlying257 rfl rfl <| sMN hZ rfl rfl <| f5K 0 1 9 10 11 rfl <| aB ?_)
 refine jC3 (fun k : Nat => [(0, .int .i64 lo), (1, .int .i64 hi), (9, .slice (some ⟨g, 0, none⟩) l.length l.length), (10, .int .i64 l.length), (11, .int .i64 (k : Int))]) (fun _ => [.own g 3 (ints l)])
  (fun k => k ≤ l.length ∧ (l.take k).all (fun n => decide (lo ≤ n) && decide (n ≤ hi)) = true) (fun k => l.length - k) 0 ⟨by omega, by simp⟩ (kR rfl) (hV _) ?_
 rintro k ⟨hk, hall⟩
 refine aR (fun Z hZ => jB0 ?_)
 refine sN (hZ _ _ <| f6K 0 1 9 10 11 12 rfl <| aS (aC0 (fun h => ?_) (fun h => ?_)))
 ·have hlt : k < l.length := by simpa using h
  refine aK <| nN <| aS (aB <| aR (fun Z hZ => jA8 (k * 1) Tryz.underlying257 tyS3 rfl rfl (by omega) (by simp) rfl ?_))
  refine sL 0 rfl rfl tyA3 tyS3 (by rw [qN]; exact wL8 hlt) rfl ?_
  refine sAN hZ rfl rfl <| f6K 0 1 8 9 10 11 rfl <| jA0 [(0, .int .i64 lo), (1, .int .i64 hi), (9, .slice (some ⟨g, 0, none⟩) l.length l.length), (10, .int .i64 l.length), (11, .int .i64 (k : Int)), (22, .bool (!(decide (lo ≤ l[k]) && decide (l[k] ≤ hi))))] [.own g 3 (ints l)] (fun Z hZ => ?_) ?_
  ·refine sM rfl rfl <| sM rfl rfl <| jB0 ?_
   refine sM rfl rfl <| jB3 18 rfl (fun hb3 => ?_) (fun hb3 => ?_)
   ·refine sO0 ?_
    refine sO0 ?_
    refine sO0 ?_
    refine sP0 ?_
    refine sN (hZ _ _ ?_ ?_)
    ·exact kE rfl (kE rfl (kE rfl (kE rfl (kE rfl (kE (congrArg some (congrArg Value.bool (by simp at hb3; rw [lS]; simp; omega))) kF)))))
    ·exact hV _
   ·refine sOn0 ?_
    refine sM rfl rfl <| sOn0 ?_
    refine sM rfl rfl <| sOn0 ?_
    refine jC4 ?_
    refine sP0 ?_
    refine sN (hZ _ _ ?_ ?_)
    ·exact kE rfl (kE rfl (kE rfl (kE rfl (kE rfl (kE (congrArg some (congrArg Value.bool (by simp at hb3; rw [lS]; simp; omega))) kF)))))
    ·exact hV _
  refine aC0 (fun h22 => ?_) (fun h22 => ?_)
  ·refine aR (fun Z hZ => ?_)
   refine sAN hZ rfl rfl ?_
   refine f1K 6 rfl ?_
   refine aE ?_
   repeat (with_reducible (first | refine nTR ?_ | refine nBR ?_))
   refine nR1 rfl rfl ⟨congrArg Value.bool ?_, rfl⟩
   symm
   rw [List.all_eq_false]
   exact ⟨l[k], zQ _, by simp at h22 ⊢; omega⟩
  ·refine aK ?_
   repeat (with_reducible refine nBN ?_)
   refine nN ?_
   refine aG (fun Z hZ => ?_)
   refine jB7 rfl rfl ((k + 1 : Nat) : Int) (by rw [lT _ (by omega)]; omega) rfl ?_
   refine sMN hZ rfl rfl <| nF [(0, _), (1, _), (9, _), (10, _), (11, _)] (kR rfl) <| jC2 (k + 1) ⟨by omega, ?_⟩ (by omega) (kR rfl) (hV _)
   rw [qC hlt, List.all_append, hall]
   simp at h22 ⊢
   omega
 ·refine jB5 ?_
  repeat (with_reducible refine nTE ?_)
  refine nBE ?_
  refine nN ?_
  have hke : k = l.length := by simp at h; omega
  subst hke
  refine aA rfl rfl <| f1K 6 rfl <| aE <| nR10 ⟨congrArg Value.bool ?_, rfl⟩
  rw [xY] at hall
  exact hall.symm
structure Hdr where
 (r0 r1 m0 m1 l0 l1 d0 d1 ad en co : Nat)
 cl : Bool
 (ic oc ki : Nat)
 (z0 z1 lo0 la0 lo1 la1 zo lon lat : Int)
abbrev Hdr.cells (h : Hdr) : List Value :=
 [uq h.r0, uq h.r1, uq h.m0, uq h.m1, uq h.l0, uq h.l1, uq h.d0, uq h.d1, uq h.ad, uq h.en, uq h.co, .bool h.cl, ub h.ic, ub h.oc, ub h.ki, iq h.z0, iq h.z1, iq h.lo0, iq h.la0, iq h.lo1, iq h.la1, iq h.zo, iq h.lon, iq h.lat]
abbrev Hdr.val (h : Hdr) : Value := .agg h.cells.toArray
abbrev Hdr.secs (h : Hdr) : List Value := [uq h.r0, uq h.r1, uq h.m0, uq h.m1, uq h.l0, uq h.l1, uq h.d0, uq h.d1]
theorem kF8 (h : Hdr) : Fn Tryz.prog 172 [h.val] [] fun v _ => v = .agg h.secs.toArray := by
 refine fE 12 Tryz.func172 rfl (fun w0 => aR (fun Z hZ => jB2 (fun g1 => ?_)))
 refine sAl tyZ207 rfl (fun g2 => sN (hZ _ _ <| f2K 1 2 rfl <| aR (fun Z hZ => sFA0 kH4 ?_)))
 refine sLA0 1 tyA122 tyS122 ?_
 refine sFA0 kH3 ?_
 refine sLA0 1 tyA122 tyS122 ?_
 refine sFA0 kH2 ?_
 refine sLA0 1 tyA122 tyS122 ?_
 refine sFA0 kH1 ?_
 refine sLA0 1 tyA122 tyS122 ?_
 refine jU2 tyZ207 Tryz.underlying207 tyS122 rfl rfl (by simp only [qS, Nat.reduceAdd, Value.cells, wrV, Nat.reduceMul, xH]; rfl) rfl ?_
 refine sS0 0 tyS207 ?_
 refine sN (hZ _ _ <| aE <| nR1 rfl (kH 0 rfl rfl tyA207 tyS207 rfl) rfl)
def wi (lo hi : Int) (l : List Int) : Bool := l.all fun n => decide (lo ≤ n) && decide (n ≤ hi)
def vK8 (h : Hdr) : Bool := decide (4 < h.ic) || decide (4 < h.oc) || decide (5 < h.ki)
def jS9 (lo hi a b c : Int) : Bool := !(wi lo hi [a, b, c]) || decide (b < a)
def kG4 (h : Hdr) : Bool := kB7 h.r0 h.r1 && kB7 h.m0 h.m1 && kB7 h.l0 h.l1 && kB7 h.d0 h.d1
def jG4 (h : Hdr) : Int :=
 if kG4 h = false then 8 else if vK8 h = true then 14 else if jS9 0 26 h.z0 h.z1 h.zo = true then 8
 else if jS9 (-1800000000) 1800000000 h.lo0 h.lo1 h.lon = true then 8 else if jS9 (-900000000) 900000000 h.la0 h.la1 h.lat = true then 8 else 0
def secL (h : Hdr) : List (Nat × Nat) := [(h.r0, h.r1), (h.m0, h.m1), (h.l0, h.l1), (h.d0, h.d1)]
theorem vE9 (h : Hdr) : Fn Tryz.prog 171 [h.val] [] fun v _ => v = .int .i64 (jG4 h) := by
 refine fE 79 Tryz.func171 rfl (fun w0 => aR (fun Z hZ => jB2 (fun g1 => ?_)))
 refine sAN hZ rfl rfl <| f1K 1 rfl <| aS <| aR (fun Z hZ => ?_)
 first | refine sLA0 0 tyA124 tyS124 ?_
 refine sCP0 (kF8 h) ?_
 refine sMN hZ rfl rfl <| f3K 1 6 7 rfl <| aB ?_
 refine jC3 (fun k : Nat => [(1, ptr g1 0), (6, .agg h.secs.toArray), (7, .int .i64 (k : Int))]) (fun _ => [.own g1 124 h.cells])
  (fun k => k ≤ 4 ∧ ((secL h).take k).all (fun p => kB7 p.1 p.2) = true) (fun k => 4 - k) 0 ⟨by omega, by simp⟩ (kR rfl) (pH [0] rfl) ?_
 rintro k ⟨hk, hall⟩
 refine aR (fun Z hZ => jB0 ?_)
 refine sN (hZ _ _ <| f4K 1 6 7 8 rfl <| aS (aC0 (fun h4 => ?_) (fun h4 => ?_)))
 ·have hlt : k < 4 := by simp at h4; omega
  refine aK <| nN ?_
  obtain ⟨p, hp, hrd⟩ : ∃ p : Nat × Nat, (secL h)[k]? = some p ∧ rdV true 2 h.secs (k * 2) = some (.agg #[uq p.1, uq p.2]) := by
   obtain rfl | rfl | rfl | rfl : k = 0 ∨ k = 1 ∨ k = 2 ∨ k = 3 := by omega
   all_goals exact ⟨_, rfl, rfl⟩
  refine aS (aB <| aR (fun Z hZ => jU1 Tryz.underlying207 tyA122 tyS122 rfl rfl (by omega) hrd rfl ?_))
  refine sAl tyZ122 rfl (fun g2 => sS0 0 tyS122 ?_)
  refine sN (hZ _ _ <| f4K 1 4 6 7 rfl <| aR (fun Z hZ => sLA0 0 tyA122 tyS122 ?_))
  refine sCP0 (yD7 _ _) ?_
  refine jE8 rfl rfl <| sN (hZ _ _ <| f4K 1 6 7 12 rfl <| aC0 (fun h12 => ?_) (fun h12 => ?_))
  ·refine aR (fun Z hZ => ?_)
   refine sAN hZ rfl rfl ?_
   refine f1K 2 rfl ?_
   refine aE ?_
   repeat (with_reducible (first | refine nTR ?_ | refine nBR ?_))
   refine nR1 rfl rfl (congrArg (Value.int .i64) ?_)
   have : kG4 h = false := by
    have hm : p ∈ secL h := xN hp
    have h13 : kB7 p.1 p.2 = false := by simpa using h12
    simp only [secL, lW, List.not_mem_nil, or_false] at hm
    unfold kG4
    rcases hm with rfl | rfl | rfl | rfl <;> simp_all
   simp [jG4, this]
  ·refine aK ?_
   repeat (with_reducible refine nBN ?_)
   refine nN ?_
   refine aG (fun Z hZ => ?_)
   refine jB7 rfl rfl ((k + 1 : Nat) : Int) (by rw [lT _ (by omega)]; omega) rfl ?_
   refine sMN hZ rfl rfl <| nF [(1, _), (6, _), (7, _)] (kR rfl) <| jC2 (k + 1) ⟨by omega, ?_⟩ (by omega) (kR rfl) (pH [1] rfl)
   obtain ⟨hk', hp'⟩ := List.getElem?_eq_some_iff.1 hp
   rw [qC hk', List.all_append, hall, hp']
   simpa using h12
 ·refine jB5 ?_
  repeat (with_reducible refine nTE ?_)
  refine nBE ?_
  refine nN ?_
  have hke : k = 4 := by simp at h4; omega
  subst hke
  have hs : kG4 h = true := by simpa [secL, kG4, Bool.and_assoc] using hall
  refine aS (aB <| jA0 [(1, ptr g1 0), (14, .bool (vK8 h))] [.own g1 124 h.cells] (fun Z hZ => ?_) ?_)
  ·refine sFA0 kU6 ?_
   first | refine sL0 0 tyA5 tyS5 ?_
   refine jC4 ?_
   refine sM rfl rfl <| jB3 18 rfl (fun hb3 => ?_) (fun hb3 => ?_)
   ·refine sO0 ?_
    refine sO0 ?_
    refine sO0 ?_
    refine sP rfl rfl rfl <| sM rfl rfl <| sO0 ?_
    refine sO0 ?_
    refine sO0 ?_
    refine sP rfl rfl rfl <| sA rfl rfl <| sN (hZ _ _ ?_ ?_)
    ·exact kE rfl (kE (congrArg some (congrArg Value.bool (by rw [lS]; simp [vK8] at *; omega))) kF)
    ·exact hV _
   ·refine sOn0 ?_
    refine sFA0 kU5 ?_
    refine sOn0 ?_
    first | refine sL0 0 tyA5 tyS5 ?_
    refine sOn0 ?_
    refine jC4 ?_
    refine sP rfl rfl rfl <| sM rfl rfl <| jB3 23 rfl (fun hb8 => ?_) (fun hb8 => ?_)
    ·refine sO0 ?_
     refine sO0 ?_
     refine sO0 ?_
     refine sP rfl rfl rfl <| sA rfl rfl <| sN (hZ _ _ ?_ ?_)
     ·exact kE rfl (kE (congrArg some (congrArg Value.bool (by rw [lS]; simp [vK8] at *; omega))) kF)
     ·exact hV _
    ·refine sOn0 ?_
     refine sFA0 kK0 ?_
     refine sOn0 ?_
     first | refine sL0 0 tyA5 tyS5 ?_
     refine sOn0 ?_
     refine jC4 ?_
     refine sP rfl rfl rfl <| sA rfl rfl <| sN (hZ _ _ ?_ ?_)
     ·exact kE rfl (kE (congrArg some (congrArg Value.bool (by rw [lS]; simp [vK8] at *; omega))) kF)
     ·exact hV _
  refine aC0 (fun h14 => ?_) (fun h14 => ?_)
  ·refine aR (fun Z hZ => ?_)
   refine sAN hZ rfl rfl ?_
   refine f1K 2 rfl ?_
   refine aE ?_
   repeat (with_reducible (first | refine nTR ?_ | refine nBR ?_))
   exact nR1 rfl rfl (by simp [jG4, hs, h14])
  refine jA0 [(1, ptr g1 0), (28, .bool (jS9 0 26 h.z0 h.z1 h.zo))] [.own g1 124 h.cells] (fun Z hZ => ?_) ?_
  ·refine sFA0 jQ6 ?_
   first | refine sL0 0 tyA3 tyS3 ?_
   refine sFA0 jT8 ?_
   first | refine sL0 0 tyA3 tyS3 ?_
   refine sFA0 jZ1 ?_
   first | refine sL0 0 tyA3 tyS3 ?_
   refine sBS0 Tryz.underlying257 tyS3 tyZ3 (fun g3 => ?_)
   refine jD2 [0] [1] (kE2 0 26 _ [h.z0, h.z1, h.zo] (by simp)) rfl rfl (by simp) rfl ?_
   rintro v H' ⟨rfl, rfl⟩
   refine jD1 ?_
   refine jE8 rfl rfl <| sM rfl rfl <| jB3 38 rfl (fun hb9 => ?_) (fun hb9 => ?_)
   ·refine sO0 ?_
    refine sO0 ?_
    refine sO0 ?_
    refine sO0 ?_
    refine sO0 ?_
    refine sP rfl rfl rfl <| sA rfl rfl <| sN (hZ _ _ ?_ ?_)
    ·exact kE rfl (kE (congrArg some (congrArg Value.bool (by rw [lS]; simp [jS9, wi] at *; omega))) kF)
    ·exact pH [1] rfl
   ·refine sOn0 ?_
    refine sFA0 jQ6 ?_
    refine sOn0 ?_
    refine sL0 1 tyA3 tyS3 ?_
    refine sOn0 ?_
    refine sFA0 jT8 ?_
    refine sOn0 ?_
    refine sL0 1 tyA3 tyS3 ?_
    refine sOn0 ?_
    refine jC4 ?_
    refine sP rfl rfl rfl <| sA rfl rfl <| sN (hZ _ _ ?_ ?_)
    ·exact kE rfl (kE (congrArg some (congrArg Value.bool (by rw [lS]; simp [jS9, wi] at *; omega))) kF)
    ·exact pH [1] rfl
  refine aC0 (fun h28 => ?_) (fun h28 => ?_)
  ·refine aR (fun Z hZ => ?_)
   refine sAN hZ rfl rfl ?_
   refine f1K 2 rfl ?_
   refine aE ?_
   repeat (with_reducible (first | refine nTR ?_ | refine nBR ?_))
   exact nR1 rfl rfl (by simp [jG4, hs, h14, h28])
  refine jA0 [(1, ptr g1 0), (45, .bool (jS9 (-1800000000) 1800000000 h.lo0 h.lo1 h.lon))] [.own g1 124 h.cells] (fun Z hZ => ?_) ?_
  ·refine sFA0 jT7 ?_
   first | refine sL0 0 tyA3 tyS3 ?_
   refine sFA0 jT5 ?_
   first | refine sL0 0 tyA3 tyS3 ?_
   refine sFA0 kJ9 ?_
   first | refine sL0 0 tyA3 tyS3 ?_
   refine sBS0 Tryz.underlying257 tyS3 tyZ3 (fun g4 => ?_)
   refine jD2 [0] [1] (kE2 (-1800000000) 1800000000 _ [h.lo0, h.lo1, h.lon] (by simp)) rfl rfl (by simp) rfl ?_
   rintro v H' ⟨rfl, rfl⟩
   refine jD1 ?_
   refine jE8 rfl rfl <| sM rfl rfl <| jB3 55 rfl (fun hb9 => ?_) (fun hb9 => ?_)
   ·refine sO0 ?_
    refine sO0 ?_
    refine sO0 ?_
    refine sO0 ?_
    refine sO0 ?_
    refine sP rfl rfl rfl <| sA rfl rfl <| sN (hZ _ _ ?_ ?_)
    ·exact kE rfl (kE (congrArg some (congrArg Value.bool (by rw [lS]; simp [jS9, wi] at *; omega))) kF)
    ·exact pH [1] rfl
   ·refine sOn0 ?_
    refine sFA0 jT7 ?_
    refine sOn0 ?_
    refine sL0 1 tyA3 tyS3 ?_
    refine sOn0 ?_
    refine sFA0 jT5 ?_
    refine sOn0 ?_
    refine sL0 1 tyA3 tyS3 ?_
    refine sOn0 ?_
    refine jC4 ?_
    refine sP rfl rfl rfl <| sA rfl rfl <| sN (hZ _ _ ?_ ?_)
    ·exact kE rfl (kE (congrArg some (congrArg Value.bool (by rw [lS]; simp [jS9, wi] at *; omega))) kF)
    ·exact pH [1] rfl
  refine aC0 (fun h45 => ?_) (fun h45 => ?_)
  ·refine aR (fun Z hZ => ?_)
   refine sAN hZ rfl rfl ?_
   refine f1K 2 rfl ?_
   refine aE ?_
   repeat (with_reducible (first | refine nTR ?_ | refine nBR ?_))
   exact nR1 rfl rfl (by simp [jG4, hs, h14, h28, h45])
  refine jA0 [(1, ptr g1 0), (62, .bool (jS9 (-900000000) 900000000 h.la0 h.la1 h.lat))] [.own g1 124 h.cells] (fun Z hZ => ?_) ?_
  ·refine sFA0 jT6 ?_
   first | refine sL0 0 tyA3 tyS3 ?_
   refine sFA0 jT4 ?_
   first | refine sL0 0 tyA3 tyS3 ?_
   refine sFA0 kJ8 ?_
   first | refine sL0 0 tyA3 tyS3 ?_
   refine sBS0 Tryz.underlying257 tyS3 tyZ3 (fun g5 => ?_)
   refine jD2 [0] [1] (kE2 (-900000000) 900000000 _ [h.la0, h.la1, h.lat] (by simp)) rfl rfl (by simp) rfl ?_
   rintro v H' ⟨rfl, rfl⟩
   refine jD1 ?_
   refine jE8 rfl rfl <| sM rfl rfl <| jB3 72 rfl (fun hb9 => ?_) (fun hb9 => ?_)
   ·refine sO0 ?_
    refine sO0 ?_
    refine sO0 ?_
    refine sO0 ?_
    refine sO0 ?_
    refine sP rfl rfl rfl <| sA rfl rfl <| sN (hZ _ _ ?_ ?_)
    ·exact kE rfl (kE (congrArg some (congrArg Value.bool (by rw [lS]; simp [jS9, wi] at *; omega))) kF)
    ·exact pH [1] rfl
   ·refine sOn0 ?_
    refine sFA0 jT6 ?_
    refine sOn0 ?_
    refine sL0 1 tyA3 tyS3 ?_
    refine sOn0 ?_
    refine sFA0 jT4 ?_
    refine sOn0 ?_
    refine sL0 1 tyA3 tyS3 ?_
    refine sOn0 ?_
    refine jC4 ?_
    refine sP rfl rfl rfl <| sA rfl rfl <| sN (hZ _ _ ?_ ?_)
    ·exact kE rfl (kE (congrArg some (congrArg Value.bool (by rw [lS]; simp [jS9, wi] at *; omega))) kF)
    ·exact pH [1] rfl
  refine aC0 (fun h62 => ?_) (fun h62 => ?_)
  ·refine aR (fun Z hZ => ?_)
   refine sAN hZ rfl rfl ?_
   refine f1K 2 rfl ?_
   refine aE ?_
   repeat (with_reducible (first | refine nTR ?_ | refine nBR ?_))
   exact nR1 rfl rfl (by simp [jG4, hs, h14, h28, h45, h62])
  refine aK ?_
  repeat (with_reducible refine nBN ?_)
  refine nN ?_
  refine aA rfl rfl ?_
  refine f1K 2 rfl ?_
  refine aE ?_
  exact nR1 rfl rfl (by simp [jG4, hs, h14, h28, h45, h62])
end Y
namespace Y
open Go.RowKit
end Y
namespace Y
open Go.RowKit
def sgB (v : Int) : List UInt8 := leB 4 (unsV v 4).toNat
theorem yP1 (v : Int) : 0 ≤ unsV v 4 ∧ unsV v 4 < 4294967296 := by
 unfold unsV
 split
 ·have e : ((2 : Int) ^ (8 * (4 : Int)).toNat) = 4294967296 := by decide
  rw [e]
  omega
 ·omega
end Y
namespace Y
open Go.RowKit
structure Hdr.Ok (h : Hdr) : Prop where
 r0 : h.r0 < 18446744073709551616
 r1 : h.r1 < 18446744073709551616
 m0 : h.m0 < 18446744073709551616
 m1 : h.m1 < 18446744073709551616
 l0 : h.l0 < 18446744073709551616
 l1 : h.l1 < 18446744073709551616
 d0 : h.d0 < 18446744073709551616
 d1 : h.d1 < 18446744073709551616
 ad : h.ad < 18446744073709551616
 en : h.en < 18446744073709551616
 co : h.co < 18446744073709551616
 ic : h.ic < 256
 oc : h.oc < 256
 ki : h.ki < 256
theorem vU0 {h : Hdr} (hc : jG4 h = 0) : kG4 h = true ∧ (h.ic ≤ 4 ∧ h.oc ≤ 4 ∧ h.ki ≤ 5) ∧ ((0 ≤ h.z0 ∧ h.z0 ≤ 26) ∧ (0 ≤ h.z1 ∧ h.z1 ≤ 26) ∧ (0 ≤ h.zo ∧ h.zo ≤ 26) ∧ h.z0 ≤ h.z1) ∧
  ((-1800000000 ≤ h.lo0 ∧ h.lo0 ≤ 1800000000) ∧ (-1800000000 ≤ h.lo1 ∧ h.lo1 ≤ 1800000000) ∧ (-1800000000 ≤ h.lon ∧ h.lon ≤ 1800000000) ∧ h.lo0 ≤ h.lo1) ∧
  ((-900000000 ≤ h.la0 ∧ h.la0 ≤ 900000000) ∧ (-900000000 ≤ h.la1 ∧ h.la1 ≤ 900000000) ∧ (-900000000 ≤ h.lat ∧ h.lat ≤ 900000000) ∧ h.la0 ≤ h.la1) := by
 unfold jG4 at hc
 by_cases h1 : kG4 h = false
 ·simp [h1] at hc
 by_cases h2 : vK8 h = true
 ·simp [h1, h2] at hc
 by_cases h3 : jS9 0 26 h.z0 h.z1 h.zo = true
 ·simp [h1, h2, h3] at hc
 by_cases h4 : jS9 (-1800000000) 1800000000 h.lo0 h.lo1 h.lon = true
 ·simp [h1, h2, h3, h4] at hc
 by_cases h5 : jS9 (-900000000) 900000000 h.la0 h.la1 h.lat = true
 ·simp [h1, h2, h3, h4, h5] at hc
 simp [vK8] at h2
 simp [jS9, wi] at h3 h4 h5
 refine ⟨by simpa using h1, by omega, by omega, by omega, by omega⟩
def secB (f l : Nat) : List UInt8 := leB 8 f ++ leB 8 l
def clN (h : Hdr) : Nat := if h.cl = true then 1 else 0
def enc1 (h : Hdr) : List UInt8 := [80, 77, 84, 105, 108, 101, 115, 3] ++ secB h.r0 h.r1 ++ secB h.m0 h.m1 ++ secB h.l0 h.l1 ++ secB h.d0 h.d1
def enc2 (h : Hdr) : List UInt8 := enc1 h ++ leB 8 h.ad ++ leB 8 h.en ++ leB 8 h.co ++ leB 1 (clN h)
def enc3 (h : Hdr) : List UInt8 := enc2 h ++ leB 1 h.ic ++ leB 1 h.oc ++ leB 1 h.ki ++ leB 1 h.z0.toNat ++ leB 1 h.z1.toNat
def enc4 (h : Hdr) : List UInt8 := enc3 h ++ sgB h.lo0 ++ sgB h.la0 ++ sgB h.lo1 ++ sgB h.la1
def enc5 (h : Hdr) : List UInt8 := enc4 h ++ leB 1 h.zo.toNat ++ sgB h.lon ++ sgB h.lat
theorem kL3 (f l : Nat) : (secB f l).length = 16 := by simp [secB, jG8]
theorem kD7 (v : Int) : (sgB v).length = 4 := by simp [sgB, jG8]
theorem jY5 (h : Hdr) : (enc1 h).length = 72 := by simp [enc1, kL3]
theorem vM2 (h : Hdr) : (enc2 h).length = 97 := by simp [enc2, jY5, jG8]
theorem kN2 (h : Hdr) : (enc3 h).length = 102 := by simp [enc3, vM2, jG8]
theorem kN1 (h : Hdr) : (enc4 h).length = 118 := by simp [enc4, kN2, kD7]
theorem jY4 (h : Hdr) : (enc5 h).length = 127 := by simp [enc5, kN1, jG8, kD7]
def encV (h : Hdr) : List UInt8 := if jG4 h = 0 then enc5 h else []
theorem kS7 {n : Nat} (h : n < 18446744073709551616) : IntKind.u64.wrap (n : Int) = (n : Int) := xK _ (by omega)
theorem kC8 {n : Int} (h : 0 ≤ n ∧ n ≤ 26) : IntKind.u64.wrap n = ((n.toNat : Nat) : Int) := by rw [xK _ (by omega)]; omega
end Y
namespace Y
open Go.RowKit
abbrev rowV (g n c : Nat) : Value := .slice (some ⟨g, 0, none⟩) n c
abbrev rowH (g c : Nat) (b : List UInt8) : Ent := .ob g (RowP 5 1 b.length c (bv b))
theorem vF4 : Enters Tryz.prog 228 := Enters.mk Tryz.func228 (by kernel_rfl) (by kernel_rfl)
theorem jY1 (b : List UInt8) (m : Int) (x : Nat) : (putL b m x).length ≤ b.length + 8 ∧ b.length ≤ (putL b m x).length := by
 unfold putL
 split <;> simp [jG8] <;> omega
def jU6 (b : List UInt8) (m : Int) (xs : List Nat) : List UInt8 := xs.foldl (fun b x => putL b m x) b
theorem kF6 (m : Int) : ∀ (xs : List Nat) (b : List UInt8), (jU6 b m xs).length ≤ b.length + 8 * xs.length ∧ b.length ≤ (jU6 b m xs).length
 | [], b => by simp [jU6]
 | x :: xs, b => by
  have h1 := jY1 b m x
  have h2 := kF6 m xs (putL b m x)
  simp only [jU6, zU, lD] at h2 ⊢
  omega
def uqs (l : List Nat) : List Value := l.map uq
theorem zD5 {l : List Nat} {k : Nat} (h : k < l.length) : (uqs l)[k]? = some (uq l[k]) := by simp [uqs, h]
theorem wI6 (A : Option Addr) (c : Nat) (b : List UInt8) (m : Int) (x : Nat) (w : World) (hr : Rd w 1 A b.length (bv b)) (hc : A = none → c = 0) (hb : b.length ≤ 1000000) (hx : x < 18446744073709551616) :
  Calls Tryz.prog 228 #[.slice A b.length c, .int .i64 m, .int .u64 x] w (kC7 w 5 1 (bv (putL b m x)) (putL b m x).length) := by
 have := yT6 A c b m (x : Int) w hr hc (by omega) (by omega)
 simpa using this
theorem kY2 (g0 c0 g : Nat) (b : List UInt8) (m : Int) (xs : List Nat) (hb : 0 < b.length ∧ b.length ≤ 10000) (hl : xs.length ≤ 100) (hx : ∀ x ∈ xs, x < 18446744073709551616) :
  Fn Tryz.prog 173 [rowV g0 b.length c0, .int .i64 m, rowV g xs.length xs.length] [.own g 61 (uqs xs), rowH g0 c0 b]
  fun v H' => ∃ g' c', v = rowV g' (jU6 b m xs).length c' ∧ H' = [.own g 61 (uqs xs), rowH g' c' (jU6 b m xs)] := by
 refine fE 21 Tryz.func173 rfl (fun w0 => aA rfl rfl <| f3K 0 1 2 rfl <| aS <| aR fun Z hZ => sM rfl rfl <| jE5 Tryz.underlying201 rfl rfl <| sMN hZ rfl rfl <| f5K 0 1 9 10 11 rfl <| aB ?_)
 refine jC3 (ι := Nat × Nat × Nat × List UInt8) (fun i => [(0, rowV i.2.1 i.2.2.2.length i.2.2.1), (1, .int .i64 m), (9, rowV g xs.length xs.length), (10, .int .i64 xs.length), (11, .int .i64 (i.1 : Int))])
  (fun i => [.own g 61 (uqs xs), rowH i.2.1 i.2.2.1 i.2.2.2])
  (fun i => i.1 ≤ xs.length ∧ i.2.2.2 = jU6 b m (xs.take i.1)) (fun i => xs.length - i.1) (0, g0, c0, b) ⟨by simp, by simp [jU6]⟩ (kR rfl) (hV _) ?_
 rintro ⟨k, g1, c1, bs⟩ ⟨hk, hbs⟩
 simp only at hk hbs
 have hlen := kF6 m (xs.take k) b
 rw [← hbs, xV] at hlen
 refine aR (fun Z hZ => jB0 ?_)
 refine sN (hZ _ _ <| f6K 0 1 9 10 11 12 rfl <| aS (aC0 (fun h12 => ?_) (fun h12 => ?_)))
 ·have hlt : k < xs.length := by simpa using h12
  obtain ⟨x, hxe, hx64⟩ : ∃ x, xs[k] = x ∧ x < 18446744073709551616 := ⟨_, rfl, hx _ (zQ _)⟩
  have hld : rdV false 1 (uqs xs) (k * 1) = some (uq x) := by rw [qN, ← hxe]; exact zD5 hlt
  refine aK <| nN <| aS (aB <| aR (fun Z hZ => jA8 (k * 1) Tryz.underlying201 tyS61 rfl rfl (by omega) (by simp) rfl ?_))
  refine sL 0 rfl rfl tyA61 tyS61 hld rfl <| sAN hZ rfl rfl <| f6K 0 1 8 9 10 11 rfl <| aG (fun Z hZ => sM rfl rfl <| sM rfl rfl <| sM rfl rfl <| vP3 vF4 rfl rfl (fun w hw => wI6 (some ⟨g1, 0, none⟩) c1 bs m x w (jS6 (i := 1) rfl hw) (fun h => by cases h) (by omega) hx64) (fun v2 hv2 => ?_))
  obtain ⟨g2, c2, rfl⟩ := hv2.some (by have := jY1 bs m x; omega)
  refine sAN hZ rfl rfl ?_
  refine nF [(0, _), (1, _), (9, _), (10, _), (11, _)] (kR rfl) ?_
  repeat (with_reducible refine nBN ?_)
  refine nN ?_
  refine aG (fun Z hZ => ?_)
  refine jB7 rfl rfl ((k + 1 : Nat) : Int) (by rw [lT _ (by omega)]; omega) rfl ?_
  refine sMN hZ rfl rfl <| nF [(0, _), (1, _), (9, _), (10, _), (11, _)] (kR rfl) <| jC2 (k + 1, g2, c2, putL bs m x) ⟨by omega, ?_⟩ (by simp; omega) (kR rfl) (pH [1, 0] rfl)
  simp only
  rw [qC hlt, hbs, hxe]
  simp [jU6]
 ·refine jB5 ?_
  repeat (with_reducible refine nTE ?_)
  refine nBE ?_
  refine nN ?_
  have hke : k = xs.length := by simp at h12; omega
  subst hke
  rw [xY] at hbs
  refine aR fun Z hZ => sM rfl rfl <| sAN hZ rfl rfl ?_
  refine f1K 6 rfl ?_
  refine aE ?_
  exact nR1 rfl rfl ⟨g1, c1, by rw [hbs], by rw [hbs]⟩
theorem wO5 : Enters Tryz.prog 229 := Enters.mk Tryz.func229 (by kernel_rfl) (by kernel_rfl)
theorem zD6 (v n : Int) (hx : -9223372036854775808 ≤ v ∧ v < 9223372036854775808) : Fn Tryz.prog 229 [.int .i64 v, .int .i64 n] [] fun u _ => u = .tuple #[.int .u64 (unsV v n), .int .i64 (unsE v n)] :=
 Fn.of_same wO5 fun w => vA7 v n w hx
def kG6 (b : List UInt8) (xs : List Int) : List UInt8 := xs.foldl (fun b v => b ++ sgB v) b
theorem kF9 : ∀ (xs : List Int) (b : List UInt8), (kG6 b xs).length = b.length + 4 * xs.length
 | [], b => by simp [kG6]
 | x :: xs, b => by
  have h2 := kF9 xs (b ++ sgB x)
  simp only [kG6, zU, lD, lN, kD7] at h2 ⊢
  omega
theorem kM5 (g0 c0 g : Nat) (b : List UInt8) (xs : List Int) (hb : 0 < b.length ∧ b.length ≤ 10000) (hl : xs.length ≤ 100) (hx : ∀ x ∈ xs, -9223372036854775808 ≤ x ∧ x < 9223372036854775808) :
  Fn Tryz.prog 174 [rowV g0 b.length c0, rowV g xs.length xs.length] [.own g 3 (ints xs), rowH g0 c0 b]
  fun v H' => ∃ g' c', v = rowV g' (kG6 b xs).length c' ∧ H' = [.own g 3 (ints xs), rowH g' c' (kG6 b xs)] := by
 refine fE 25 Tryz.func174 rfl (fun w0 => aA rfl rfl <| f2K 0 1 rfl <| aS <| aR fun Z hZ => sM rfl rfl <| jE5 Tryz.underlying257 rfl rfl <| sMN hZ rfl rfl <| f4K 0 9 10 11 rfl <| aB ?_)
 refine jC3 (ι := Nat × Nat × Nat × List UInt8) (fun i => [(0, rowV i.2.1 i.2.2.2.length i.2.2.1), (9, rowV g xs.length xs.length), (10, .int .i64 xs.length), (11, .int .i64 (i.1 : Int))])
  (fun i => [.own g 3 (ints xs), rowH i.2.1 i.2.2.1 i.2.2.2])
  (fun i => i.1 ≤ xs.length ∧ i.2.2.2 = kG6 b (xs.take i.1)) (fun i => xs.length - i.1) (0, g0, c0, b) ⟨by simp, by simp [kG6]⟩ (kR rfl) (hV _) ?_
 rintro ⟨k, g1, c1, bs⟩ ⟨hk, hbs⟩
 simp only at hk hbs
 have hlen := kF9 (xs.take k) b
 rw [← hbs, xV] at hlen
 refine aR (fun Z hZ => jB0 ?_)
 refine sN (hZ _ _ <| f5K 0 9 10 11 12 rfl <| aS (aC0 (fun h12 => ?_) (fun h12 => ?_)))
 ·have hlt : k < xs.length := by simpa using h12
  obtain ⟨x, hxe, hx64⟩ : ∃ x, xs[k] = x ∧ (-9223372036854775808 ≤ x ∧ x < 9223372036854775808) := ⟨_, rfl, hx _ (zQ _)⟩
  have hld : rdV false 1 (ints xs) (k * 1) = some (.int .i64 x) := by rw [qN, ← hxe]; exact wL8 hlt
  obtain ⟨u, hu⟩ : ∃ u : Nat, unsV x 4 = u := ⟨(unsV x 4).toNat, by have := yP1 x; omega⟩
  have hu2 : u < 4294967296 := by have := yP1 x; omega
  have hput : putL bs 4 u = bs ++ sgB x := by unfold putL; rw [if_pos (by omega)]; simp [sgB, hu]
  refine aK <| nN <| aS (aB <| aR (fun Z hZ => jA8 (k * 1) Tryz.underlying257 tyS3 rfl rfl (by omega) (by simp) rfl ?_))
  refine sL 0 rfl rfl tyA3 tyS3 hld rfl <| sAN hZ rfl rfl <| f5K 0 6 9 10 11 rfl <| aR fun Z hZ => sM rfl rfl <| sCP0 (zD6 x 4 hx64) ?_
  rw [hu]
  refine sM rfl rfl <| sX rfl rfl rfl <| sX rfl rfl rfl <| sA rfl rfl <| sAN hZ rfl rfl <| f5K 0 7 9 10 11 rfl <| aG (fun Z hZ => sM rfl rfl <| sM rfl rfl <| vP3 vF4 rfl rfl (fun w hw => wI6 (some ⟨g1, 0, none⟩) c1 bs 4 u w (jS6 (i := 1) rfl hw) (fun h => by cases h) (by omega) (by omega)) (fun v2 hv2 => ?_))
  obtain ⟨g2, c2, rfl⟩ := hv2.some (by have := jY1 bs 4 u; omega)
  refine sAN hZ rfl rfl ?_
  refine nF [(0, _), (9, _), (10, _), (11, _)] (kR rfl) ?_
  repeat (with_reducible refine nBN ?_)
  refine nN ?_
  refine aG (fun Z hZ => ?_)
  refine jB7 rfl rfl ((k + 1 : Nat) : Int) (by rw [lT _ (by omega)]; omega) rfl ?_
  refine sMN hZ rfl rfl <| nF [(0, _), (9, _), (10, _), (11, _)] (kR rfl) <| jC2 (k + 1, g2, c2, putL bs 4 u) ⟨by omega, ?_⟩ (by simp; omega) (kR rfl) (pH [1, 0] rfl)
  simp only
  rw [qC hlt, hbs, hxe, ← hbs, hput]
  simp [kG6, hbs]
 ·refine jB5 ?_
  repeat (with_reducible refine nTE ?_)
  refine nBE ?_
  refine nN ?_
  have hke : k = xs.length := by simp at h12; omega
  subst hke
  rw [xY] at hbs
  refine aR fun Z hZ => sM rfl rfl <| sAN hZ rfl rfl ?_
  refine f1K 4 rfl ?_
  refine aE ?_
  exact nR1 rfl rfl ⟨g1, c1, by rw [hbs], by rw [hbs]⟩
theorem wI8 (b : List UInt8) (n x : Nat) (hn : 1 ≤ n ∧ n ≤ 8) : putL b n x = b ++ leB n x := by unfold putL; rw [if_pos (by omega)]; simp
theorem put8 (b : List UInt8) (x : Nat) : putL b 8 x = b ++ leB 8 x := wI8 b 8 x (by omega)
theorem put1 (b : List UInt8) (x : Nat) : putL b 1 x = b ++ leB 1 x := wI8 b 1 x (by omega)
def encS (h : Hdr) (k : Nat) : List UInt8 := ((secL h).take k).foldl (fun b p => b ++ secB p.1 p.2) [80, 77, 84, 105, 108, 101, 115, 3]
theorem vM1 (h : Hdr) : ∀ k, k ≤ 4 → (encS h k).length = 8 + 16 * k := by
 intro k hk
 obtain rfl | rfl | rfl | rfl | rfl : k = 0 ∨ k = 1 ∨ k = 2 ∨ k = 3 ∨ k = 4 := by omega
 all_goals simp [encS, secL, kL3]
theorem vF5 (h : Hdr) : encS h 4 = enc1 h := rfl
def kO6 (h : Hdr) : List UInt8 := enc1 h ++ leB 8 h.ad ++ leB 8 h.en ++ leB 8 h.co
theorem vF6 (h : Hdr) : (kO6 h).length = 96 := by simp [kO6, jY5, jG8]
set_option maxHeartbeats 4000000 in
theorem vY2 (h : Hdr) (hk : h.Ok) : Fn Tryz.prog 103 [h.val] [] fun v _ => v = .tuple #[.string (str (encV h)), .int .i64 (jG4 h)] := by
 refine fE 86 Tryz.func103 rfl (fun w0 => aR (fun Z hZ => jB2 (fun g1 => ?_)))
 refine sA rfl rfl <| sAN hZ rfl rfl <| f1K 1 rfl <| aS <| aR (fun Z hZ => ?_)
 first | refine sLA0 0 tyA124 tyS124 ?_
 refine sCP0 (vE9 h) ?_
 refine sAN hZ rfl rfl <| f2K 1 4 rfl <| aR fun Z hZ => sM rfl rfl <| jA6 ?_
 refine sN (hZ _ _ <| f3K 1 4 12 rfl <| aC0 (fun h10 => ?_) (fun h10 => ?_))
 ·refine aR (fun Z hZ => ?_)
  refine sM rfl rfl <| sA rfl rfl <| sAN hZ rfl rfl ?_
  refine f2K 2 3 rfl ?_
  refine aE ?_
  repeat (with_reducible refine nTR ?_)
  have : ¬ jG4 h = 0 := by simpa using h10
  exact jF3 rfl rfl rfl (by simp [encV, this]; rfl)
 refine aK <| nN ?_
 have hc0 : jG4 h = 0 := by simpa using h10
 obtain ⟨_, hkd, hz, hlo, hla⟩ := vU0 hc0
 refine aR (fun Z hZ => sBS0 Tryz.underlying72 tyS5 tyZ5 (fun g2 => ?_))
 refine wY4 0 Tryz.underlying72 Tryz.underlying5 rfl rfl rfl <| sBS0 Tryz.underlying72 tyS5 tyZ5 (fun g3 => ?_)
 refine kV3 kR1 rfl rfl (fun w hw => yA3 (i := 1) rfl rfl hw) (fun w hw => jI0 (i := 0) rfl rfl hw) (by omega) (by omega) (by omega) (by decide) (by omega) rfl (fun v hv => ?_)
 obtain ⟨g5, c5, rfl⟩ := hv.some (by omega)
 refine sAN hZ rfl rfl <| f2K 1 5 rfl <| jA7 [.own g1 124 h.cells, rowH g5 c5 (encS h 0)] (pH [3, 0] rfl) <| aS <| aR (fun Z hZ => ?_)
 first | refine sLA0 0 tyA124 tyS124 ?_
 refine sCP0 (kF8 h) ?_
 refine sMN hZ rfl rfl <| f4K 1 5 19 20 rfl <| aB ?_
 refine jC3 (ι := Nat × Nat × Nat) (fun i => [(1, ptr g1 0), (5, rowV i.2.1 (encS h i.1).length i.2.2), (19, .agg h.secs.toArray), (20, .int .i64 (i.1 : Int))])
  (fun i => [.own g1 124 h.cells, rowH i.2.1 i.2.2 (encS h i.1)])
  (fun i => i.1 ≤ 4) (fun i => 4 - i.1) (0, g5, c5) (by simp) (kR rfl) (hV _) ?_
 rintro ⟨k, g2, c2⟩ hk4
 simp only at hk4
 have hlen := vM1 h k hk4
 refine aR (fun Z hZ => jB0 ?_)
 refine sN (hZ _ _ <| f5K 1 5 19 20 21 rfl <| aS (aC0 (fun h4 => ?_) (fun h4 => ?_)))
 ·have hlt : k < 4 := by simp at h4; omega
  refine aK <| nN ?_
  obtain ⟨p, hp, hrd, hpb⟩ : ∃ p : Nat × Nat, encS h (k + 1) = encS h k ++ secB p.1 p.2 ∧ rdV true 2 h.secs (k * 2) = some (.agg #[uq p.1, uq p.2]) ∧ ∀ x ∈ [p.1, p.2], x < 18446744073709551616 := by
   obtain rfl | rfl | rfl | rfl : k = 0 ∨ k = 1 ∨ k = 2 ∨ k = 3 := by omega
   ·exact ⟨(h.r0, h.r1), rfl, rfl, by simp [hk.r0, hk.r1]⟩
   ·exact ⟨(h.m0, h.m1), rfl, rfl, by simp [hk.m0, hk.m1]⟩
   ·exact ⟨(h.l0, h.l1), rfl, rfl, by simp [hk.l0, hk.l1]⟩
   ·exact ⟨(h.d0, h.d1), rfl, rfl, by simp [hk.d0, hk.d1]⟩
  have he : jU6 (encS h k) 8 [p.1, p.2] = encS h (k + 1) := by rw [hp]; simp [jU6, put8, secB]
  refine aS (aB <| aR (fun Z hZ => jU1 Tryz.underlying207 tyA122 tyS122 rfl rfl (by omega) hrd rfl ?_))
  refine sAl tyZ122 rfl (fun g4 => sS0 0 tyS122 ?_)
  refine sN (hZ _ _ <| f5K 1 5 7 19 20 rfl <| aG (fun Z hZ => sM rfl rfl <| sFA0 kH5 ?_))
  refine sL0 0 tyA61 tyS61 ?_
  refine sFA0 kU7 ?_
  refine sL0 0 tyA61 tyS61 ?_
  refine sBS0 Tryz.underlying201 tyS61 tyZ61 (fun g5 => ?_)
  refine jD2 [0, 3] [1, 2] (kY2 g2 c2 _ (encS h k) 8 [p.1, p.2] (by omega) (by simp) hpb) rfl rfl (by simp) rfl ?_
  rintro v H' ⟨g9, c9, rfl, rfl⟩
  refine jD1 ?_
  rw [he]
  refine sAN hZ rfl rfl ?_
  refine nF [(1, _), (5, _), (19, _), (20, _)] (kR rfl) ?_
  repeat (with_reducible refine nBN ?_)
  refine nN ?_
  refine aG (fun Z hZ => ?_)
  refine jB7 rfl rfl ((k + 1 : Nat) : Int) (by rw [lT _ (by omega)]; omega) rfl ?_
  refine sMN hZ rfl rfl <| nF [(1, _), (5, _), (19, _), (20, _)] (kR rfl) <| jC2 (k + 1, g9, c9) (by simp; omega) (by simp; omega) (kR rfl) (pH [3, 1] rfl)
 refine jB5 ?_
 repeat (with_reducible refine nTE ?_)
 refine nBE ?_
 refine nN ?_
 obtain rfl : k = 4 := by simp at h4; omega
 have l1 := jY5 h
 have he10 : jU6 (encS h 4) 8 [h.ad, h.en, h.co] = kO6 h := by rw [vF5]; simp [jU6, put8, kO6]
 refine aR fun Z hZ => sM rfl rfl <| sFA0 vO7 ?_
 first | refine sL0 0 tyA61 tyS61 ?_
 refine sFA0 vO6 ?_
 first | refine sL0 0 tyA61 tyS61 ?_
 refine sFA0 vO5 ?_
 first | refine sL0 0 tyA61 tyS61 ?_
 refine sBS0 Tryz.underlying201 tyS61 tyZ61 (fun g6 => ?_)
 refine jD2 [0, 2] [1] (kY2 g2 c2 _ (encS h 4) 8 [h.ad, h.en, h.co] (by rw [vF5]; omega) (by simp) (by simp [hk.ad, hk.en, hk.co])) rfl rfl (by simp) rfl ?_
 rintro v H' ⟨g3, c3, rfl, rfl⟩
 refine jD1 ?_
 rw [he10]
 refine sAN hZ rfl rfl <| f2K 1 5 rfl <| jA7 [.own g1 124 h.cells, rowH g3 c3 (kO6 h)] (pH [2, 1] rfl) ?_
 have l2 := vF6 h
 refine aA rfl rfl <| f3K 1 5 8 rfl <| kN5 (fun _ : Unit => [(1, ptr g1 0), (5, rowV g3 (kO6 h).length c3), (8, .int .u64 (clN h : Int))]) (fun _ => [.own g1 124 h.cells, rowH g3 c3 (kO6 h)]) (fun _ => True) ?_ (fun _ _ => ?_)
 ·refine aR (fun Z hZ => sFA0 vO4 ?_)
  first | refine sL0 0 tyA4 tyS4 ?_
  refine sN (hZ _ _ <| f4K 1 5 8 41 rfl <| aC0 (fun h13 => ?_) (fun h13 => ?_))
  ·refine aG (fun Z hZ => sAN hZ rfl rfl <| nF [(1, _), (5, _), (8, _)] (kR rfl) <| jJ9 () trivial (kE rfl (kE rfl (kE (congrArg some (congrArg (Value.int .u64) (by simp [clN, h13]))) kF))) (hV _))
  ·refine aK <| jJ9 () trivial (kE rfl (kE rfl (kE (congrArg some (congrArg (Value.int .u64) (by simp [clN, h13]))) kF))) (hV _)
 have hcl : clN h < 18446744073709551616 := by unfold clN; split <;> omega
 have he14 : jU6 (kO6 h) 1 [clN h, h.ic, h.oc, h.ki, h.z0.toNat, h.z1.toNat] = enc3 h := by simp [jU6, put1, enc3, enc2, kO6]
 refine aR fun Z hZ => sM rfl rfl <| sM rfl rfl <| sFA0 kU6 ?_
 first | refine sL0 0 tyA5 tyS5 ?_
 refine jD0 Tryz.underlying5 Tryz.underlying61 rfl (h.ic : Int) (kS7 (by have := hk.ic; omega)) rfl ?_
 refine sFA0 kU5 ?_
 first | refine sL0 0 tyA5 tyS5 ?_
 refine jD0 Tryz.underlying5 Tryz.underlying61 rfl (h.oc : Int) (kS7 (by have := hk.oc; omega)) rfl ?_
 refine sFA0 kK0 ?_
 first | refine sL0 0 tyA5 tyS5 ?_
 refine jD0 Tryz.underlying5 Tryz.underlying61 rfl (h.ki : Int) (kS7 (by have := hk.ki; omega)) rfl ?_
 refine sFA0 jQ6 ?_
 first | refine sL0 0 tyA3 tyS3 ?_
 refine jD0 Tryz.underlying3 Tryz.underlying61 rfl (h.z0.toNat : Int) (kC8 (by omega)) rfl ?_
 refine sFA0 jT8 ?_
 first | refine sL0 0 tyA3 tyS3 ?_
 refine jD0 Tryz.underlying3 Tryz.underlying61 rfl (h.z1.toNat : Int) (kC8 (by omega)) rfl ?_
 refine sBS0 Tryz.underlying201 tyS61 tyZ61 (fun g7 => ?_)
 refine jD2 [0, 2] [1] (kY2 g3 c3 _ (kO6 h) 1 [clN h, h.ic, h.oc, h.ki, h.z0.toNat, h.z1.toNat] (by omega) (by simp) (by simp; omega)) rfl rfl (by simp) rfl ?_
 rintro v H' ⟨g4, c4, rfl, rfl⟩
 refine jD1 ?_
 rw [he14]
 refine sAN hZ rfl rfl <| f2K 1 5 rfl <| jA7 [.own g1 124 h.cells, rowH g4 c4 (enc3 h)] (pH [2, 1] rfl) ?_
 have l3 := kN2 h
 have he15 : kG6 (enc3 h) [h.lo0, h.la0, h.lo1, h.la1] = enc4 h := by simp [kG6, enc4]
 refine aR fun Z hZ => sM rfl rfl <| sFA0 jT7 ?_
 first | refine sL0 0 tyA3 tyS3 ?_
 refine sFA0 jT6 ?_
 first | refine sL0 0 tyA3 tyS3 ?_
 refine sFA0 jT5 ?_
 first | refine sL0 0 tyA3 tyS3 ?_
 refine sFA0 jT4 ?_
 first | refine sL0 0 tyA3 tyS3 ?_
 refine sBS0 Tryz.underlying257 tyS3 tyZ3 (fun g8 => ?_)
 refine jD2 [0, 2] [1] (kM5 g4 c4 _ (enc3 h) [h.lo0, h.la0, h.lo1, h.la1] (by omega) (by simp) (by simp; omega)) rfl rfl (by simp) rfl ?_
 rintro v H' ⟨g6, c6, rfl, rfl⟩
 refine jD1 ?_
 rw [he15]
 refine sAN hZ rfl rfl <| f2K 1 5 rfl <| jA7 [.own g1 124 h.cells, rowH g6 c6 (enc4 h)] (pH [2, 1] rfl) ?_
 have l4 := kN1 h
 have he16 : jU6 (enc4 h) 1 [h.zo.toNat] = enc4 h ++ leB 1 h.zo.toNat := by simp [jU6, put1]
 refine aR fun Z hZ => sM rfl rfl <| sFA0 jZ1 ?_
 first | refine sL0 0 tyA3 tyS3 ?_
 refine jD0 Tryz.underlying3 Tryz.underlying61 rfl (h.zo.toNat : Int) (kC8 (by omega)) rfl ?_
 refine sBS0 Tryz.underlying201 tyS61 tyZ61 (fun g9 => ?_)
 refine jD2 [0, 2] [1] (kY2 g6 c6 _ (enc4 h) 1 [h.zo.toNat] (by omega) (by simp) (by simp; omega)) rfl rfl (by simp) rfl ?_
 rintro v H' ⟨g7, c7, rfl, rfl⟩
 refine jD1 ?_
 rw [he16]
 refine sAN hZ rfl rfl <| f2K 1 5 rfl <| jA7 [.own g1 124 h.cells, rowH g7 c7 (enc4 h ++ leB 1 h.zo.toNat)] (pH [2, 1] rfl) ?_
 have l5 : (enc4 h ++ leB 1 h.zo.toNat).length = 119 := by simp [l4, jG8]
 have he17 : kG6 (enc4 h ++ leB 1 h.zo.toNat) [h.lon, h.lat] = enc5 h := by simp [kG6, enc5]
 refine aR fun Z hZ => sM rfl rfl <| sFA0 kJ9 ?_
 first | refine sL0 0 tyA3 tyS3 ?_
 refine sFA0 kJ8 ?_
 first | refine sL0 0 tyA3 tyS3 ?_
 refine sBS0 Tryz.underlying257 tyS3 tyZ3 (fun g10 => ?_)
 refine jD2 [0, 2] [1] (kM5 g7 c7 _ (enc4 h ++ leB 1 h.zo.toNat) [h.lon, h.lat] (by omega) (by simp) (by simp; omega)) rfl rfl (by simp) rfl ?_
 rintro v H' ⟨g8, c8, rfl, rfl⟩
 refine jD1 ?_
 rw [he17]
 refine jO9 Tryz.underlying72 Tryz.underlying5 Tryz.underlying9 rfl (fun w hw => jS6 (i := 1) rfl hw) rfl <| sA rfl rfl <| sAN hZ rfl rfl <| f2K 2 3 rfl <| aE <| jF3 rfl rfl rfl (by simp [encV, hc0])
end Y
namespace Y
open Go.RowKit
def atL (l : List UInt8) (i n : Nat) : Nat := numL ((l.drop i).take n)
theorem zM0 (l : List UInt8) (i n : Nat) (hn : n ≤ 8) : atL l i n < 18446744073709551616 := by
 have h1 := kX4 ((l.drop i).take n)
 have h2 := wJ1 (n := ((l.drop i).take n).length) (by simp; omega)
 unfold atL
 omega
theorem kY3 (l p : List UInt8) : Fn Tryz.prog 235 [.string (str l), .string (str p)] [] fun v _ => v = .bool (decide (p.length ≤ l.length) && (l.take p.length == p)) := by
 refine fE 18 Tryz.func235 rfl (fun w0 => aA rfl rfl <| f2K 0 1 rfl <| jA0 [(4, .bool (decide (p.length ≤ l.length) && (l.take p.length == p)))] [] (fun Z hZ => ?_) ?_)
 ·refine sM rfl rfl <| jC8 Tryz.underlying9 rfl rfl <| sM rfl rfl <| jC8 Tryz.underlying9 rfl rfl <| jH7 rfl rfl rfl <| sM rfl rfl <| jB3 10 rfl (fun hb5 => ?_) (fun hb5 => ?_)
  ·refine sOn0 ?_
   refine sM rfl rfl <| sOn0 ?_
   refine sM rfl rfl <| sOn0 ?_
   refine jC8 Tryz.underlying9 rfl rfl <| sOn0 ?_
   refine jF7 (l.take p.length) Tryz.underlying9 rfl rfl rfl (by omega) (by omega) (by simp at hb5; omega) (by simp) rfl ?_
   refine sOn0 ?_
   refine sM rfl rfl <| sOn0 ?_
   refine jQ1 rfl rfl rfl <| sP rfl rfl rfl <| sA rfl rfl <| sN (hZ _ _ ?_ ?_)
   ·exact kE (congrArg some (congrArg Value.bool (by simp at hb5; first | (simp [hb5]; done) | (simp; intro; omega)))) kF
   ·exact hV _
  ·refine sO0 ?_
   refine sO0 ?_
   refine sO0 ?_
   refine sO0 ?_
   refine sO0 ?_
   refine sO0 ?_
   refine sP rfl rfl rfl <| sA rfl rfl <| sN (hZ _ _ ?_ ?_)
   ·exact kE (congrArg some (congrArg Value.bool (by simp at hb5; first | (simp []; done) | (simp; intro; omega)))) kF
   ·exact hV _
 refine aE <| nR10 rfl
theorem vF0 (l p : List UInt8) : Fn Tryz.prog 184 [.string (str l), .string (str p)] [] fun v _ => v = .bool (decide (p.length ≤ l.length) && (l.take p.length == p)) := by
 refine fE 8 Tryz.func184 rfl (fun w0 => aA rfl rfl <| f2K 0 1 rfl <| aR fun Z hZ => sM rfl rfl <| sM rfl rfl <| sCP0 (kY3 l p) ?_)
 refine sAN hZ rfl rfl <| f1K 4 rfl <| aE <| nR10 rfl
theorem wP1 : Enters Tryz.prog 266 := Enters.mk Tryz.func266 (by kernel_rfl) (by kernel_rfl)
abbrev yS3 (l : List UInt8) (p : Nat) : List Value := [.string (str l), .int .i64 (p : Int), .int .i64 0]
theorem yR6 (l : List UInt8) (p n : Nat) (hn : 1 ≤ n ∧ n ≤ 8) (hp : p + n ≤ l.length) (hl : l.length ≤ 9223372036854775807) :
  Fn Tryz.prog 266 [.agg (yS3 l p).toArray, .int .i64 (n : Int)] [] fun v _ => v = .tuple #[uq (atL l p n), .agg (yS3 l (p + n)).toArray] := by
 refine Fn.of_bel wP1 fun w => ?_
 have h := yU8 (str l) (p : Int) 0 (n : Int) w (by rw [str_size]; unfold maxLen; omega)
 have hf : jL6 (n : Int) = true := by simp [jL6]; omega
 have hst : stands (str l) (p : Int) = true := by simp [stands, str_size]; omega
 have hE : jW6 (str l) (p : Int) 0 (n : Int) true = 0 := by
  unfold jW6
  rw [if_neg (by simp), if_neg (by simp [hst]), if_neg (by rw [str_size]; omega)]
 rw [hf] at h
 have hT : jX7 (str l) (p : Int) 0 (n : Int) true = str ((l.drop p).take n) := by
  unfold jX7
  rw [if_pos hE, show ((p : Int)).toNat = p by omega, show ((p : Int) + (n : Int)).toNat = p + n by omega, wE7]
  congr 2
  omega
 have hP : kD2 (str l) (p : Int) 0 (n : Int) true = ((p + n : Nat) : Int) := by unfold kD2; rw [if_pos hE]; omega
 rw [hT, hP, hE, jZ8] at h
 exact h
abbrev vA9 (g : Nat) (l : List UInt8) (p : Nat) : Ent := .own g 359 (yS3 l p)
theorem jL8 (g : Nat) (l : List UInt8) (p n : Nat) (hn : 1 ≤ n ∧ n ≤ 8) (hp : p + n ≤ l.length) (hl : l.length ≤ 9223372036854775807) :
  Fn Tryz.prog 232 [ptr g 0, .int .i64 (n : Int)] [vA9 g l p] fun v H' => v = uq (atL l p n) ∧ H' = [vA9 g l (p + n)] := by
 refine fE 19 Tryz.func232 rfl (fun w0 => aA rfl rfl <| f2K 0 1 rfl <| aA rfl rfl <| f2K 0 1 rfl <| aR fun Z hZ => sM rfl rfl <| sM rfl rfl <| jA1 ?_)
 refine sFA0 vN9 ?_
 first | refine sLA0 0 tyA317 tyS317 ?_
 refine sM rfl rfl <| sCP0 (yR6 l p n hn hp hl) ?_
 refine sM rfl rfl <| sX rfl rfl rfl <| sX rfl rfl rfl <| sA rfl rfl <| jA1 ?_
 refine sFA0 vN9 ?_
 first | refine sS0 0 tyS317 ?_
 refine sN (hZ _ _ <| f1K 5 rfl <| aR fun Z hZ => sM rfl rfl <| sAN hZ rfl rfl <| f1K 4 rfl <| aE <| nR10 ⟨rfl, rfl⟩)
theorem jR4 (g : Nat) (l : List UInt8) (p : Nat) (hp : p + 16 ≤ l.length) (hl : l.length ≤ 9223372036854775807) :
  Fn Tryz.prog 231 [ptr g 0] [vA9 g l p] fun v H' => v = .agg #[uq (atL l p 8), uq (atL l (p + 8) 8)] ∧ H' = [vA9 g l (p + 16)] := by
 refine fE 10 Tryz.func231 rfl (fun w0 => aR (fun Z hZ => sAl tyZ122 rfl (fun g1 => sN (hZ _ _ <| f2K 0 2 rfl <| aR fun Z hZ => sM rfl rfl <| jD2 [1] [0] (jL8 g l p 8 (by omega) (by omega) hl) rfl rfl (by simp) rfl ?_))))
 rintro v H' ⟨rfl, rfl⟩
 refine jD1 ?_
 refine sAN hZ rfl rfl <| f3K 0 2 3 rfl <| aR fun Z hZ => sM rfl rfl <| sM rfl rfl <| jD2 [0] [1] (jL8 g l (p + 8) 8 (by omega) (by omega) hl) rfl rfl (by simp) rfl ?_
 rintro v H' ⟨rfl, rfl⟩
 refine jD1 ?_
 refine jB6 tyZ122 tyP122 ?_
 refine sS0 1 tyS122 ?_
 refine sN (hZ _ _ <| aE <| jD9 [vA9 g l (p + 16)] rfl (kH 1 rfl rfl tyA122 tyS122 rfl) (pH [0] rfl) ⟨rfl, rfl⟩)
theorem wO9 : Enters Tryz.prog 267 := Enters.mk Tryz.func267 (by kernel_rfl) (by kernel_rfl)
theorem zG0 (x n : Int) (hx : 0 ≤ x ∧ x < 18446744073709551616) : Fn Tryz.prog 267 [.int .u64 x, .int .i64 n] [] fun u _ => u = .tuple #[.int .i64 (sgnV x n), .int .i64 (sgnE n)] :=
 Fn.of_same wO9 fun w => vW9 x n w hx
def dgL (l : List UInt8) (i : Nat) : Int := sgnV (atL l i 4) 4
theorem jO5 (g : Nat) (l : List UInt8) (p : Nat) (hp : p + 4 ≤ l.length) (hl : l.length ≤ 9223372036854775807) :
  Fn Tryz.prog 233 [ptr g 0] [vA9 g l p] fun v H' => v = iq (dgL l p) ∧ H' = [vA9 g l (p + 4)] := by
 have hb := zM0 l p 4 (by omega)
 refine fE 12 Tryz.func233 rfl (fun w0 => aA rfl rfl <| f1K 0 rfl <| aR fun Z hZ => sM rfl rfl <| jD2 [0] [] (jL8 g l p 4 (by omega) (by omega) hl) rfl rfl (by simp) rfl ?_)
 rintro v H' ⟨rfl, rfl⟩
 refine jD1 ?_
 refine sCP0 (zG0 (atL l p 4) 4 (by omega)) ?_
 refine sM rfl rfl <| sX rfl rfl rfl <| sX rfl rfl rfl <| sA rfl rfl <| sAN hZ rfl rfl <| f1K 3 rfl <| aR fun Z hZ => sM rfl rfl <| sAN hZ rfl rfl <| f1K 2 rfl <| aE <| nR10 ⟨rfl, rfl⟩
end Y
namespace Y
open Go.RowKit
def zeroH : Hdr := ⟨0, 0, 0, 0, 0, 0, 0, 0, 0, 0, 0, false, 0, 0, 0, 0, 0, 0, 0, 0, 0, 0, 0, 0⟩
def kB1 : List UInt8 := [80, 77, 84, 105, 108, 101, 115]
def decH (l : List UInt8) : Hdr :=
  ⟨atL l 8 8, atL l 16 8, atL l 24 8, atL l 32 8, atL l 40 8, atL l 48 8, atL l 56 8, atL l 64 8, atL l 72 8, atL l 80 8, atL l 88 8, decide (atL l 96 1 = 1),
   atL l 97 1, atL l 98 1, atL l 99 1, atL l 100 1, atL l 101 1, dgL l 102, dgL l 106, dgL l 110, dgL l 114, atL l 118 1, dgL l 119, dgL l 123⟩
def decE (l : List UInt8) : Int :=
 if l.length < 127 then 3 else if l.take 7 ≠ kB1 then 12 else if l[7]? ≠ some 3 then 13 else if 1 < atL l 96 1 then 4 else jG4 (decH l)
def decV (l : List UInt8) : Hdr := if decE l = 0 then decH l else zeroH
theorem vU8 (l : List UInt8) (i : Nat) : atL l i 1 < 256 := by
 have h1 := kX4 ((l.drop i).take 1)
 unfold atL
 have h2 : ((l.drop i).take 1).length ≤ 1 := by simp; omega
 have : 256 ^ ((l.drop i).take 1).length ≤ 256 ^ 1 := uG (by omega) h2
 omega
set_option maxHeartbeats 4000000 in
theorem vY3 (l : List UInt8) (hl : l.length ≤ 9223372036854775807) : Fn Tryz.prog 178 [.string (str l)] [] fun v _ => v = .tuple #[(decV l).val, .int .i64 (decE l)] := by
 have hz : ∀ e : Int, decE l = e → e ≠ 0 → (Value.tuple #[zeroH.val, .int .i64 e] : Value) = .tuple #[(decV l).val, .int .i64 (decE l)] := fun e he h0 => by
  have : decV l = zeroH := by unfold decV; rw [if_neg (by omega)]
  rw [this, he]
 refine fE 105 Tryz.func178 rfl (fun w0 => aR (fun Z hZ => sAl tyZ124 rfl (fun g1 => sAN hZ rfl rfl <| f2K 0 2 rfl <| aS (aB <| aR fun Z hZ => sM rfl rfl <| jC8 Tryz.underlying9 rfl rfl <| jB0 ?_))))
 refine sAN hZ rfl rfl <| f3K 0 2 8 rfl <| aC0 (fun h11 => ?_) (fun h11 => ?_)
 ·refine aR (fun Z hZ => jB6 tyZ124 tyP124 ?_)
  first | refine sS0 0 tyS124 ?_
  refine sAN hZ rfl rfl ?_
  refine aE ?_
  repeat (with_reducible (first | refine nTR ?_ | refine nBR ?_))
  exact jF3 rfl (kH 0 rfl rfl tyA124 tyS124 rfl) rfl (hz 3 (by simp at h11; unfold decE; rw [if_pos (by omega)]) (by omega))
 have h127 : 127 ≤ l.length := by simp at h11; omega
 refine aR fun Z hZ => sM rfl rfl <| sCP0 (vF0 l kB1) ?_
 refine jE8 rfl rfl <| sAN hZ rfl rfl <| f3K 0 2 13 rfl <| aC0 (fun h16 => ?_) (fun h16 => ?_)
 ·refine aR (fun Z hZ => jB6 tyZ124 tyP124 ?_)
  first | refine sS0 0 tyS124 ?_
  refine sAN hZ rfl rfl ?_
  refine aE ?_
  repeat (with_reducible (first | refine nTR ?_ | refine nBR ?_))
  exact jF3 rfl (kH 0 rfl rfl tyA124 tyS124 rfl) rfl (hz 12 (by
   have h7 : l.take 7 ≠ kB1 := by intro e; simp [kB1] at h16 e; rcases h16 with h16 | h16; omega; exact h16 e
   unfold decE; rw [if_neg (by omega), if_pos h7]) (by omega))
 have h7 : l.take 7 = kB1 := by simp [kB1] at h16 ⊢; exact h16.2
 obtain ⟨c7, hc7⟩ : ∃ c, l[7]? = some c := ⟨l[7]'(by omega), by simp [show 7 < l.length by omega]⟩
 refine aR fun Z hZ => sM rfl rfl <| jE6 Tryz.underlying9 rfl rfl (by omega) hc7 rfl ?_
 refine jA6 ?_
 refine sAN hZ rfl rfl <| f3K 0 2 18 rfl <| aC0 (fun h20 => ?_) (fun h20 => ?_)
 ·refine aR (fun Z hZ => jB6 tyZ124 tyP124 ?_)
  first | refine sS0 0 tyS124 ?_
  refine sAN hZ rfl rfl ?_
  refine aE ?_
  repeat (with_reducible (first | refine nTR ?_ | refine nBR ?_))
  exact jF3 rfl (kH 0 rfl rfl tyA124 tyS124 rfl) rfl (hz 13 (by
   have h3 : l[7]? ≠ some 3 := by rw [hc7]; intro e; obtain rfl := lV e; simp at h20
   unfold decE; rw [if_neg (by omega), if_neg (by simp [h7]), if_pos h3]) (by omega))
 have h3 : l[7]? = some 3 := by
  rw [hc7]
  have : (c7.toNat : Int) = 3 := by simpa using h20
  exact congrArg some (UInt8.toNat_inj.1 (by simp; omega))
 refine aK ?_
 repeat (with_reducible refine nBN ?_)
 refine nN ?_
 refine aR fun Z hZ => sM rfl rfl ?_
 refine jB6 tyZ317 tyP317 ?_
 refine jB6 tyZ359 tyP359 ?_
 refine jB2 (fun g2 => ?_)
 refine sAN hZ rfl rfl <| f2K 2 4 rfl <| aR (fun Z hZ => sAl tyZ124 rfl (fun g3 => sN (hZ _ _ <| f3K 2 4 5 rfl <| jA7 [vA9 _ l 8, .own _ 124 zeroH.cells, .own _ 124 zeroH.cells] (pH [1, 0, 2] rfl) <| aR fun Z hZ => sM rfl rfl <| jD2 [0] [1, 2] (jR4 _ l 8 (by omega) hl) rfl rfl (by simp) rfl ?_)))
 rintro v H' ⟨rfl, rfl⟩
 refine jD1 ?_
 refine sM rfl rfl <| jD2 [0] [1, 2] (jR4 _ l 24 (by omega) hl) rfl rfl (by simp) rfl ?_
 rintro v H' ⟨rfl, rfl⟩
 refine jD1 ?_
 refine sM rfl rfl <| jD2 [0] [1, 2] (jR4 _ l 40 (by omega) hl) rfl rfl (by simp) rfl ?_
 rintro v H' ⟨rfl, rfl⟩
 refine jD1 ?_
 refine sM rfl rfl <| jD2 [0] [1, 2] (jR4 _ l 56 (by omega) hl) rfl rfl (by simp) rfl ?_
 rintro v H' ⟨rfl, rfl⟩
 refine jD1 ?_
 refine sFA0 kH4 ?_
 refine sS0 1 tyS122 ?_
 refine sFA0 kH3 ?_
 refine sS0 1 tyS122 ?_
 refine sFA0 kH2 ?_
 refine sS0 1 tyS122 ?_
 refine sFA0 kH1 ?_
 refine sS0 1 tyS122 ?_
 refine sN (hZ _ _ <| f3K 2 4 5 rfl <| aR fun Z hZ => sM rfl rfl <| jD2 [0] [1, 2] (jL8 _ l 72 8 (by omega) (by omega) hl) rfl rfl (by simp) rfl ?_)
 rintro v H' ⟨rfl, rfl⟩
 refine jD1 ?_
 refine sM rfl rfl <| jD2 [0] [1, 2] (jL8 _ l 80 8 (by omega) (by omega) hl) rfl rfl (by simp) rfl ?_
 rintro v H' ⟨rfl, rfl⟩
 refine jD1 ?_
 refine sM rfl rfl <| jD2 [0] [1, 2] (jL8 _ l 88 8 (by omega) (by omega) hl) rfl rfl (by simp) rfl ?_
 rintro v H' ⟨rfl, rfl⟩
 refine jD1 ?_
 refine sFA0 vO7 ?_
 refine sS10 1 tyS61 ?_
 refine sFA0 vO6 ?_
 refine sS10 1 tyS61 ?_
 refine sFA0 vO5 ?_
 refine sS10 1 tyS61 ?_
 refine sN (hZ _ _ <| f3K 2 4 5 rfl <| aR fun Z hZ => sM rfl rfl <| jD2 [0] [1, 2] (jL8 _ l 96 1 (by omega) (by omega) hl) rfl rfl (by simp) rfl ?_)
 rintro v H' ⟨rfl, rfl⟩
 refine jD1 ?_
 refine sAN hZ rfl rfl <| f4K 2 4 5 6 rfl <| aS <| aR fun Z hZ => sM rfl rfl <| jC4 ?_
 refine sN (hZ _ _ <| f5K 2 4 5 6 51 rfl <| aC0 (fun h51 => ?_) (fun h51 => ?_))
 ·refine aR (fun Z hZ => jB6 tyZ124 tyP124 ?_)
  refine sS0 2 tyS124 ?_
  refine sAN hZ rfl rfl ?_
  refine aE ?_
  repeat (with_reducible refine nTR ?_)
  exact jF3 rfl (kH 2 rfl rfl tyA124 tyS124 rfl) rfl (hz 4 (by
   have : 1 < atL l 96 1 := by simp at h51; omega
   unfold decE; rw [if_neg (by omega), if_neg (by simp [h7]), if_neg (by simp [h3]), if_pos this]) (by omega))
 refine aK <| nN ?_
 have h96 : ¬ 1 < atL l 96 1 := by simp at h51; omega
 have hcl : ((atL l 96 1 : Int) == 1) = (decH l).cl := by rw [lS]; simp [decH]; omega
 have hu : ∀ i, IntKind.u8.wrap ((atL l i 1 : Nat) : Int) = ((atL l i 1 : Nat) : Int) := fun i => IntWalk.u8_in _ (by have := vU8 l i; omega)
 have hi : ∀ i, IntKind.i64.wrap ((atL l i 1 : Nat) : Int) = ((atL l i 1 : Nat) : Int) := fun i => lT _ (by have := vU8 l i; omega)
 refine aR fun Z hZ => sM rfl rfl <| jB1 ?_
 rw [hcl]
 refine sFA0 vO4 ?_
 refine sS10 1 tyS4 ?_
 refine sN (hZ _ _ <| f3K 2 4 5 rfl <| aR fun Z hZ => sM rfl rfl <| jD2 [0] [1, 2] (jL8 _ l 97 1 (by omega) (by omega) hl) rfl rfl (by simp) rfl ?_)
 rintro v H' ⟨rfl, rfl⟩
 refine jD1 ?_
 refine jD0 Tryz.underlying61 Tryz.underlying5 rfl _ (hu 97) rfl <| sM rfl rfl <| jD2 [0] [1, 2] (jL8 _ l 98 1 (by omega) (by omega) hl) rfl rfl (by simp) rfl ?_
 rintro v H' ⟨rfl, rfl⟩
 refine jD1 ?_
 refine jD0 Tryz.underlying61 Tryz.underlying5 rfl _ (hu 98) rfl <| sM rfl rfl <| jD2 [0] [1, 2] (jL8 _ l 99 1 (by omega) (by omega) hl) rfl rfl (by simp) rfl ?_
 rintro v H' ⟨rfl, rfl⟩
 refine jD1 ?_
 refine jD0 Tryz.underlying61 Tryz.underlying5 rfl _ (hu 99) rfl <| sFA0 kU6 ?_
 refine sS10 1 tyS5 ?_
 refine sFA0 kU5 ?_
 refine sS10 1 tyS5 ?_
 refine sFA0 kK0 ?_
 refine sS10 1 tyS5 ?_
 refine sN (hZ _ _ <| f3K 2 4 5 rfl <| aR fun Z hZ => sM rfl rfl <| jD2 [0] [1, 2] (jL8 _ l 100 1 (by omega) (by omega) hl) rfl rfl (by simp) rfl ?_)
 rintro v H' ⟨rfl, rfl⟩
 refine jD1 ?_
 refine jD0 Tryz.underlying61 Tryz.underlying3 rfl _ (hi 100) rfl <| sM rfl rfl <| jD2 [0] [1, 2] (jL8 _ l 101 1 (by omega) (by omega) hl) rfl rfl (by simp) rfl ?_
 rintro v H' ⟨rfl, rfl⟩
 refine jD1 ?_
 refine jD0 Tryz.underlying61 Tryz.underlying3 rfl _ (hi 101) rfl <| sFA0 jQ6 ?_
 refine sS10 1 tyS3 ?_
 refine sFA0 jT8 ?_
 refine sS10 1 tyS3 ?_
 refine sN (hZ _ _ <| f3K 2 4 5 rfl <| aR fun Z hZ => sM rfl rfl <| jD2 [0] [1, 2] (jO5 _ l 102 (by omega) hl) rfl rfl (by simp) rfl ?_)
 rintro v H' ⟨rfl, rfl⟩
 refine jD1 ?_
 refine sM rfl rfl <| jD2 [0] [1, 2] (jO5 _ l 106 (by omega) hl) rfl rfl (by simp) rfl ?_
 rintro v H' ⟨rfl, rfl⟩
 refine jD1 ?_
 refine sM rfl rfl <| jD2 [0] [1, 2] (jO5 _ l 110 (by omega) hl) rfl rfl (by simp) rfl ?_
 rintro v H' ⟨rfl, rfl⟩
 refine jD1 ?_
 refine sM rfl rfl <| jD2 [0] [1, 2] (jO5 _ l 114 (by omega) hl) rfl rfl (by simp) rfl ?_
 rintro v H' ⟨rfl, rfl⟩
 refine jD1 ?_
 refine sFA0 jT7 ?_
 refine sS10 1 tyS3 ?_
 refine sFA0 jT6 ?_
 refine sS10 1 tyS3 ?_
 refine sFA0 jT5 ?_
 refine sS10 1 tyS3 ?_
 refine sFA0 jT4 ?_
 refine sS10 1 tyS3 ?_
 refine sN (hZ _ _ <| f3K 2 4 5 rfl <| aR fun Z hZ => sM rfl rfl <| jD2 [0] [1, 2] (jL8 _ l 118 1 (by omega) (by omega) hl) rfl rfl (by simp) rfl ?_)
 rintro v H' ⟨rfl, rfl⟩
 refine jD1 ?_
 refine jD0 Tryz.underlying61 Tryz.underlying3 rfl _ (hi 118) rfl <| sM rfl rfl <| jD2 [0] [1, 2] (jO5 _ l 119 (by omega) hl) rfl rfl (by simp) rfl ?_
 rintro v H' ⟨rfl, rfl⟩
 refine jD1 ?_
 refine sM rfl rfl <| jD2 [0] [1, 2] (jO5 _ l 123 (by omega) hl) rfl rfl (by simp) rfl ?_
 rintro v H' ⟨rfl, rfl⟩
 refine jD1 ?_
 refine sFA0 jZ1 ?_
 refine sS10 1 tyS3 ?_
 refine sFA0 kJ9 ?_
 refine sS10 1 tyS3 ?_
 refine sFA0 kJ8 ?_
 refine sS10 1 tyS3 ?_
 refine sN (hZ _ _ <| f2K 2 5 rfl <| jA7 [.own g3 124 (decH l).cells, .own g1 124 zeroH.cells] (pH [1, 2] rfl) <| aS <| aR (fun Z hZ => sLA0 0 tyA124 tyS124 ?_))
 refine sCP0 (vE9 (decH l)) ?_
 refine sAN hZ rfl rfl <| f3K 2 5 7 rfl <| aR fun Z hZ => sM rfl rfl <| jA6 ?_
 refine sN (hZ _ _ <| f4K 2 5 7 101 rfl ?_)
 have hE : decE l = jG4 (decH l) := by unfold decE; rw [if_neg (by omega), if_neg (by simp [h7]), if_neg (by simp [h3]), if_neg h96]
 refine aC0 (fun h101 => ?_) (fun h101 => ?_)
 ·refine aR (fun Z hZ => jB6 tyZ124 tyP124 ?_)
  refine sM rfl rfl <| sS0 1 tyS124 ?_
  refine sAN hZ rfl rfl ?_
  refine aE ?_
  repeat (with_reducible refine nTR ?_)
  have hne : ¬ jG4 (decH l) = 0 := by simpa using h101
  exact jF3 rfl (kH 1 rfl rfl tyA124 tyS124 rfl) rfl (hz _ hE hne)
 refine aK <| nN ?_
 have hc0 : jG4 (decH l) = 0 := by simpa using h101
 refine aR (fun Z hZ => sLA0 0 tyA124 tyS124 ?_)
 refine sS0 1 tyS124 ?_
 refine sAN hZ rfl rfl <| aE <| jF3 rfl (kH 1 rfl rfl tyA124 tyS124 rfl) rfl ?_
 have : decV l = decH l := by unfold decV; rw [hE, if_pos hc0]
 rw [this, hE, hc0]
 rfl
end Y
namespace Y
open Go.RowKit
end Y
namespace Y
open Go.RowKit
end Y
namespace Y
open Go.RowKit
end Y
namespace Y
open Go.RowKit
theorem vR4 : ∀ n x, numL (leB n x) = x % 256 ^ n
 | 0, x => by simp [leB, numL, Nat.mod_one]
 | n + 1, x => by
  have h : (UInt8.ofNat (x % 256)).toNat = x % 256 := by simp
  rw [leB, numL, h, vR4 n, qV, qU (256 ^ n) 256, Nat.mod_mul]
def flat : List (Nat × Nat) → List UInt8
 | [] => []
 | (n, x) :: r => leB n x ++ flat r
theorem yH0 (p t : List UInt8) (n x : Nat) : atL (p ++ (leB n x ++ t)) p.length n = x % 256 ^ n := by
 unfold atL
 rw [uC, List.take_append_of_le_length (by rw [jG8]; omega), zN (by rw [jG8]; omega), vR4]
theorem vU7 (t : List UInt8) : ∀ (fs : List (Nat × Nat)) (p : List UInt8) (k n x : Nat), fs[k]? = some (n, x) → atL (p ++ (flat fs ++ t)) (p.length + ((fs.take k).map Prod.fst).sum) n = x % 256 ^ n
 | [], _, _, _, _, h => by simp at h
 | (m, y) :: r, p, 0, n, x, h => by
  simp at h
  obtain ⟨rfl, rfl⟩ := h
  simp only [qS, qT, List.sum_nil, flat, xD]
  exact yH0 _ _ _ _
 | (m, y) :: r, p, k + 1, n, x, h => by
  have := vU7 t r (p ++ leB m y) k n x (by simpa using h)
  rw [lN, jG8] at this
  rw [lK, xR, List.sum_cons, ← qP]
  simpa [flat, xD] using this
def uv4 (v : Int) : Nat := (unsV v 4).toNat
def fld (h : Hdr) : List (Nat × Nat) :=
 [(8, h.r0), (8, h.r1), (8, h.m0), (8, h.m1), (8, h.l0), (8, h.l1), (8, h.d0), (8, h.d1), (8, h.ad), (8, h.en), (8, h.co), (1, clN h), (1, h.ic), (1, h.oc), (1, h.ki), (1, h.z0.toNat), (1, h.z1.toNat),
  (4, uv4 h.lo0), (4, uv4 h.la0), (4, uv4 h.lo1), (4, uv4 h.la1), (1, h.zo.toNat), (4, uv4 h.lon), (4, uv4 h.lat)]
def mag8 : List UInt8 := [80, 77, 84, 105, 108, 101, 115, 3]
theorem kY8 (h : Hdr) : enc5 h = mag8 ++ flat (fld h) := by
 simp only [enc5, enc4, enc3, enc2, enc1, secB, sgB, flat, fld, mag8, uv4, xD, lH]
theorem jG7 (h : Hdr) (t : List UInt8) (k : Nat) {n x i : Nat} (hk : (fld h)[k]? = some (n, x)) (hi : 8 + (((fld h).take k).map Prod.fst).sum = i) (hx : x < 256 ^ n) : atL (enc5 h ++ t) i n = x := by
 rw [kY8, xD, ← hi]
 exact (vU7 t (fld h) mag8 k n x hk).trans (zX hx)
theorem wA8 {v : Int} (hv : -1800000000 ≤ v ∧ v ≤ 1800000000) : unsV v 4 = v % 4294967296 := by
 have h1 : unsE v 4 = 0 := by
  unfold unsE
  rw [if_pos (by omega), if_pos (by simp only [show (8 * (4 : Int) - 1).toNat = 31 from rfl]; omega)]
 unfold unsV
 rw [if_pos h1]
 rfl
theorem vV6 (v : Int) : uv4 v < 256 ^ 4 := by have := yP1 v; unfold uv4; omega
theorem kP7 {v : Int} (hv : -1800000000 ≤ v ∧ v ≤ 1800000000) : sgnV (uv4 v : Int) 4 = v := by
 unfold uv4 sgnV
 rw [wA8 hv, if_pos (by omega)]
 simp only [show (8 * (4 : Int) - 1).toNat = 31 from rfl, show (8 * (4 : Int)).toNat = 32 from rfl]
 omega
theorem wQ9 {h : Hdr} (hk : h.Ok) (hc : jG4 h = 0) (t : List UInt8) : decH (enc5 h ++ t) = h ∧ decE (enc5 h ++ t) = 0 := by
 obtain ⟨_, ⟨c1, c2, c3⟩, ⟨⟨z0a, z0b⟩, ⟨z1a, z1b⟩, ⟨zoa, zob⟩, _⟩, ⟨lo0, lo1, lon, _⟩, ⟨la0, la1, lat, _⟩⟩ := vU0 hc
 have hcl : clN h ≤ 1 := by unfold clN; split <;> omega
 have e96 : atL (enc5 h ++ t) 96 1 = clN h := jG7 h t 11 (by kernel_rfl) (by kernel_rfl) (by omega)
 have hH : decH (enc5 h ++ t) = h := by
  have q1 := hk.r0
  have q2 := hk.r1
  have q3 := hk.m0
  have q4 := hk.m1
  have q5 := hk.l0
  have q6 := hk.l1
  have q7 := hk.d0
  have q8 := hk.d1
  have q9 := hk.ad
  have q10 := hk.en
  have q11 := hk.co
  have e8 : atL (enc5 h ++ t) 8 8 = h.r0 := jG7 h t 0 (by kernel_rfl) (by kernel_rfl) (by omega)
  have e16 : atL (enc5 h ++ t) 16 8 = h.r1 := jG7 h t 1 (by kernel_rfl) (by kernel_rfl) (by omega)
  have e24 : atL (enc5 h ++ t) 24 8 = h.m0 := jG7 h t 2 (by kernel_rfl) (by kernel_rfl) (by omega)
  have e32 : atL (enc5 h ++ t) 32 8 = h.m1 := jG7 h t 3 (by kernel_rfl) (by kernel_rfl) (by omega)
  have e40 : atL (enc5 h ++ t) 40 8 = h.l0 := jG7 h t 4 (by kernel_rfl) (by kernel_rfl) (by omega)
  have e48 : atL (enc5 h ++ t) 48 8 = h.l1 := jG7 h t 5 (by kernel_rfl) (by kernel_rfl) (by omega)
  have e56 : atL (enc5 h ++ t) 56 8 = h.d0 := jG7 h t 6 (by kernel_rfl) (by kernel_rfl) (by omega)
  have e64 : atL (enc5 h ++ t) 64 8 = h.d1 := jG7 h t 7 (by kernel_rfl) (by kernel_rfl) (by omega)
  have e72 : atL (enc5 h ++ t) 72 8 = h.ad := jG7 h t 8 (by kernel_rfl) (by kernel_rfl) (by omega)
  have e80 : atL (enc5 h ++ t) 80 8 = h.en := jG7 h t 9 (by kernel_rfl) (by kernel_rfl) (by omega)
  have e88 : atL (enc5 h ++ t) 88 8 = h.co := jG7 h t 10 (by kernel_rfl) (by kernel_rfl) (by omega)
  have e97 : atL (enc5 h ++ t) 97 1 = h.ic := jG7 h t 12 (by kernel_rfl) (by kernel_rfl) (by omega)
  have e98 : atL (enc5 h ++ t) 98 1 = h.oc := jG7 h t 13 (by kernel_rfl) (by kernel_rfl) (by omega)
  have e99 : atL (enc5 h ++ t) 99 1 = h.ki := jG7 h t 14 (by kernel_rfl) (by kernel_rfl) (by omega)
  have e100 : atL (enc5 h ++ t) 100 1 = h.z0.toNat := jG7 h t 15 (by kernel_rfl) (by kernel_rfl) (by omega)
  have e101 : atL (enc5 h ++ t) 101 1 = h.z1.toNat := jG7 h t 16 (by kernel_rfl) (by kernel_rfl) (by omega)
  have e102 : atL (enc5 h ++ t) 102 4 = uv4 h.lo0 := jG7 h t 17 (by kernel_rfl) (by kernel_rfl) (vV6 _)
  have e106 : atL (enc5 h ++ t) 106 4 = uv4 h.la0 := jG7 h t 18 (by kernel_rfl) (by kernel_rfl) (vV6 _)
  have e110 : atL (enc5 h ++ t) 110 4 = uv4 h.lo1 := jG7 h t 19 (by kernel_rfl) (by kernel_rfl) (vV6 _)
  have e114 : atL (enc5 h ++ t) 114 4 = uv4 h.la1 := jG7 h t 20 (by kernel_rfl) (by kernel_rfl) (vV6 _)
  have e118 : atL (enc5 h ++ t) 118 1 = h.zo.toNat := jG7 h t 21 (by kernel_rfl) (by kernel_rfl) (by omega)
  have e119 : atL (enc5 h ++ t) 119 4 = uv4 h.lon := jG7 h t 22 (by kernel_rfl) (by kernel_rfl) (vV6 _)
  have e123 : atL (enc5 h ++ t) 123 4 = uv4 h.lat := jG7 h t 23 (by kernel_rfl) (by kernel_rfl) (vV6 _)
  unfold decH dgL
  rw [e8, e16, e24, e32, e40, e48, e56, e64, e72, e80, e88, e96, e97, e98, e99, e100, e101, e102, e106, e110, e114, e118, e119, e123, kP7 (by omega), kP7 (by omega), kP7 (by omega), kP7 (by omega), kP7 (by omega), kP7 (by omega), Int.toNat_of_nonneg z0a, Int.toNat_of_nonneg z1a, Int.toNat_of_nonneg zoa]
  have : decide (clN h = 1) = h.cl := by unfold clN; cases h.cl <;> simp
  rw [this]
 refine ⟨hH, ?_⟩
 have hl := jY4 h
 unfold decE
 rw [hH, e96, if_neg (by rw [lN]; omega), if_neg, if_neg, if_neg (by omega), hc]
 ·rw [kY8]; simp [mag8]
 ·rw [kY8]; simp [mag8, kB1]
theorem yF5 {h : Hdr} (hk : h.Ok) (hc : jG4 h = 0) (t : List UInt8) : decV (encV h ++ t) = h ∧ decE (encV h ++ t) = 0 := by
 unfold encV decV
 rw [if_pos hc, (wQ9 hk hc t).2, if_pos rfl, (wQ9 hk hc t).1]
 exact ⟨rfl, rfl⟩
theorem zA4 {l : List UInt8} (h : decE l = 0) : 127 ≤ l.length ∧ l.take 7 = kB1 ∧ l[7]? = some 3 ∧ atL l 96 1 ≤ 1 ∧ jG4 (decH l) = 0 := by
 unfold decE at h
 by_cases h1 : l.length < 127
 ·simp [h1] at h
 by_cases h2 : l.take 7 ≠ kB1
 ·simp [h1, h2] at h
 by_cases h3 : l[7]? ≠ some 3
 ·simp [h1, h2, h3] at h
 by_cases h4 : 1 < atL l 96 1
 ·simp [h1, h2, h3, h4] at h
 rw [if_neg h1, if_neg h2, if_neg h3, if_neg h4] at h
 exact ⟨by omega, Classical.byContradiction h2, Classical.byContradiction h3, by omega, h⟩
end Y
section
open Go.RowKit
theorem zO5 : Lays.n156 Tryz.prog jI8 := by repeat' first | kernel_rfl | (intro w; kernel_rfl) | constructor
theorem zO4 : Builder.Extra Tryz.prog jI8 := by
 constructor
 case neB5 => exact by decide
 all_goals repeat' first | kernel_rfl | (intro w; kernel_rfl) | constructor
theorem vY7 : Enters Tryz.prog 105 := Enters.mk Tryz.func105 (by kernel_rfl) (by kernel_rfl)
theorem yD3 (bk o c : Nat) (xs : List (List UInt8)) (sep : List UInt8) (w : World)
  (hcells : ∀ (j : Nat) x, xs[j]? = some x → w.cell? ⟨bk, o + j, none⟩ = some (.string (str x)))
  (hbk : bk < w.heap.size) (hN : xs.length ≤ 140737488355328) (hcap : xs.length ≤ c) (hlen : (Lib.join xs sep).length ≤ 140737488355328) :
  Calls Tryz.prog 105 #[.slice (some ⟨bk, o, none⟩) xs.length c, .string (str sep)] w fun e w' => e = .returned (.string (str (Lib.join xs sep))) ∧ Bel w w' := by
 have e : (xs.map str).map (fun (x : ByteArray) => x.data.toList) = xs := by
  rw [List.map_map]
  conv => rhs; rw [← List.map_id xs]
  exact List.map_congr_left fun l _ => by simp [str]
 have h := Any.strings_Join zO5 zO4 bk o c (xs.map str) (str sep) w (fun j x hx => by
  rw [xZ] at hx
  cases hj : xs[j]? with
  | none => rw [hj] at hx; cases hx
  | some y => rw [hj] at hx; rw [← lV hx]; exact hcells j y hj) hbk (by simpa using hN) (by simpa using hcap) (by rw [e]; simpa [str] using hlen)
 rw [e, qY] at h
 exact h
end
namespace Y
open Go.RowKit
def vJ2 (a b c d : Nat) : Bool := decide (127 + a + b + c + d ≤ 1099511627776)
def wV7 : List Value := [uq 0, uq 0, uq 0, uq 0, uq 0, uq 0, uq 0, uq 0]
def secC (a b c d : Nat) : List Value := if vJ2 a b c d = true then [uq 127, uq a, uq (127 + a), uq b, uq (127 + a + b), uq c, uq (127 + a + b + c), uq d] else wV7
def secN (a b c d : Nat) : Nat := if vJ2 a b c d = true then 127 + a + b + c + d else 0
def secE (a b c d : Nat) : Int := if vJ2 a b c d = true then 0 else 8
def atK (a b c d : Nat) : Nat → Nat
 | 0 => 127 | 1 => 127 + a | 2 => 127 + a + b | 3 => 127 + a + b + c | _ => 127 + a + b + c + d
def lnK (a b c d : Nat) : Nat → Nat
 | 0 => a | 1 => b | 2 => c | _ => d
def outK (a b c d : Nat) : Nat → List Value
 | 0 => wV7
 | 1 => [uq 127, uq a, uq 0, uq 0, uq 0, uq 0, uq 0, uq 0]
 | 2 => [uq 127, uq a, uq (127 + a), uq b, uq 0, uq 0, uq 0, uq 0]
 | 3 => [uq 127, uq a, uq (127 + a), uq b, uq (127 + a + b), uq c, uq 0, uq 0]
 | _ => [uq 127, uq a, uq (127 + a), uq b, uq (127 + a + b), uq c, uq (127 + a + b + c), uq d]
theorem four {k : Nat} (h : k < 4) : k = 0 ∨ k = 1 ∨ k = 2 ∨ k = 3 := by omega
section
variable (a b c d : Nat) {k : Nat}
theorem zO2 (h : k < 4) : rdV false 1 [uq a, uq b, uq c, uq d] k = some (uq (lnK a b c d k)) := by obtain rfl | rfl | rfl | rfl := four h <;> rfl
theorem out_wr (h : k < 4) : wrV (outK a b c d k) (k * 2) [uq (atK a b c d k), uq (lnK a b c d k)] = outK a b c d (k + 1) := by obtain rfl | rfl | rfl | rfl := four h <;> rfl
theorem out_len : (outK a b c d k).length = 8 := by unfold outK; split <;> rfl
theorem zC1 (h : k < 4) : atK a b c d (k + 1) = atK a b c d k + lnK a b c d k := by obtain rfl | rfl | rfl | rfl := four h <;> rfl
theorem zQ7 (h : k ≤ 4) : atK a b c d k ≤ 127 + a + b + c + d := by
 obtain rfl | rfl | rfl | rfl | rfl : k = 0 ∨ k = 1 ∨ k = 2 ∨ k = 3 ∨ k = 4 := by omega
 all_goals simp [atK]
 all_goals omega
theorem zO3 (h : k < 4) : lnK a b c d k ≤ a + b + c + d := by obtain rfl | rfl | rfl | rfl := four h <;> simp [lnK] <;> omega
end
theorem vJ1 (a b c d : Nat) (h4 : a < 18446744073709551616 ∧ b < 18446744073709551616 ∧ c < 18446744073709551616 ∧ d < 18446744073709551616) :
  Fn Tryz.prog 102 [.agg #[uq a, uq b, uq c, uq d]] [] fun v _ => v = .tuple #[.agg (secC a b c d).toArray, uq (secN a b c d), iq (secE a b c d)] := by
 refine fE 30 Tryz.func102 rfl (fun w0 => aR (fun Z hZ => jB2 (fun g1 => ?_)))
 refine sAl tyZ207 rfl (fun g2 => sA rfl rfl <| sAN hZ rfl rfl <| f2K 1 2 rfl <| aR (fun Z hZ => sAl tyZ207 rfl (fun g3 => sN (hZ _ _ <| f3K 1 2 5 rfl <| aA rfl rfl <| f4K 1 2 5 6 rfl <| aS ?_))))
 refine aR (fun Z hZ => sLA0 2 tyA206 tyS206 ?_)
 refine sMN hZ rfl rfl <| f5K 2 5 6 9 10 rfl <| aB ?_
 refine jC3 (ι := Nat) (fun k => [(2, ptr g2 0), (5, ptr g3 0), (6, uq (atK a b c d k)), (9, .agg #[uq a, uq b, uq c, uq d]), (10, iq (k : Nat))]) (fun k => [.own g3 207 (outK a b c d k), .own g2 207 wV7])
  (fun k => k ≤ 4 ∧ atK a b c d k ≤ 1099511627776) (fun k => 4 - k) 0 ⟨by omega, by simp [atK]⟩ (kR rfl) (pH [0, 1] rfl) ?_
 rintro k ⟨hk, hat⟩
 refine aR (fun Z hZ => jB0 ?_)
 refine sN (hZ _ _ <| f6K 2 5 6 9 10 11 rfl <| aS (aC0 (fun h => ?_) (fun h => ?_)))
 ·have hlt : k < 4 := by simp at h; omega
  have hnx := zC1 a b c d hlt
  have hle := zQ7 a b c d (k := k + 1) (by omega)
  have hll := zO3 a b c d hlt
  refine aK <| nN <| aS (aB <| aR fun Z hZ => sM rfl rfl <| jU1 Tryz.underlying206 tyA61 tyS61 rfl rfl (by omega) (by simpa using zO2 a b c d hlt) rfl ?_)
  refine sA rfl rfl <| sAN hZ rfl rfl <| f7K 2 5 6 7 8 9 10 rfl <| aS <| aR fun Z hZ => sM rfl rfl <| sM rfl rfl <| jN0 rfl rfl ((1099511627776 - atK a b c d k : Nat) : Int) (by rw [xK _ (by omega)]; omega) rfl ?_
  refine jC4 ?_
  refine sN (hZ _ _ <| f8K 2 5 6 7 8 9 10 17 rfl <| aC0 (fun hf => ?_) (fun hf => ?_))
  ·refine aR (fun Z hZ => ?_)
   refine jU2 tyZ207 Tryz.underlying207 tyS122 rfl rfl rfl rfl ?_
   refine sS 1 rfl rfl rfl tyS207 rfl rfl rfl rfl (cs' := wV7) rfl rfl ?_
   refine sA rfl rfl <| sAN hZ rfl rfl ?_
   refine f3K 2 3 4 rfl ?_
   refine aE ?_
   repeat (with_reducible (first | refine nTR ?_ | refine nBR ?_))
   have hno : vJ2 a b c d = false := decide_eq_false (by simp at hf; omega)
   refine jN6 rfl (kH 1 rfl rfl tyA207 tyS207 rfl) rfl rfl ?_
   simp only [secC, secN, secE, hno]
   rfl
  have hfit : lnK a b c d k + atK a b c d k ≤ 1099511627776 := by simp at hf; omega
  refine aK <| nN <| aR fun Z hZ => sM rfl rfl <| sM rfl rfl <| sM rfl rfl <| jB6 tyZ122 tyP122 ?_
  refine jH3 (k * 2) Tryz.underlying207 tyS122 rfl rfl (by omega) (by simp) rfl ?_
  refine sS 0 rfl rfl rfl tyS122 rfl rfl rfl (by rw [out_len]; exact Nat.ble_eq_true_of_le (by omega)) (out_wr a b c d hlt) rfl ?_
  refine sN (hZ _ _ ?_)
  refine f6K 2 5 6 8 9 10 rfl ?_
  refine aG (fun Z hZ => ?_)
  refine sM rfl rfl <| sM rfl rfl ?_
  refine jB7 rfl rfl ((atK a b c d (k + 1) : Nat) : Int) (by rw [xK _ (by omega)]; omega) rfl ?_
  refine sAN hZ rfl rfl ?_
  refine nF [(2, _), (5, _), (6, _), (9, _), (10, _)] (kR rfl) ?_
  repeat (with_reducible refine nBN ?_)
  refine nN ?_
  refine aG (fun Z hZ => ?_)
  refine jB7 rfl rfl ((k + 1 : Nat) : Int) (by rw [lT _ (by omega)]; omega) rfl ?_
  refine sMN hZ rfl rfl <| nF [(2, _), (5, _), (6, _), (9, _), (10, _)] (kR rfl) <| jC2 (k + 1) ⟨by omega, by omega⟩ (by omega) (kR rfl) (hV _)
 ·refine jB5 ?_
  repeat (with_reducible refine nTE ?_)
  refine nBE ?_
  refine nN ?_
  have hke : k = 4 := by simp at h; omega
  subst hke
  have hyes : vJ2 a b c d = true := decide_eq_true hat
  refine aR (fun Z hZ => sLA0 0 tyA207 tyS207 ?_)
  refine sM rfl rfl <| sS0 1 tyS207 ?_
  refine sA rfl rfl <| sAN hZ rfl rfl <| f3K 2 3 4 rfl <| aE <| jN6 rfl (kH 1 rfl rfl tyA207 tyS207 rfl) rfl rfl ?_
  simp only [secC, secN, secE, hyes]
  rfl
end Y
namespace Y
open Go.RowKit
def wA5 (h : Hdr) (p0 q0 p1 q1 p2 q2 p3 q3 : Nat) : Hdr := { h with r0 := p0, r1 := q0, m0 := p1, m1 := q1, l0 := p2, l1 := q2, d0 := p3, d1 := q3 }
abbrev sec8 (p0 q0 p1 q1 p2 q2 p3 q3 : Nat) : List Value := [uq p0, uq q0, uq p1, uq q1, uq p2, uq q2, uq p3, uq q3]
theorem yO4 (h : Hdr) (p0 q0 p1 q1 p2 q2 p3 q3 : Nat) : Fn Tryz.prog 104 [h.val, .agg (sec8 p0 q0 p1 q1 p2 q2 p3 q3).toArray] [] fun v _ => v = (wA5 h p0 q0 p1 q1 p2 q2 p3 q3).val := by
 refine fE 18 Tryz.func104 rfl (fun w0 => aR (fun Z hZ => jB2 (fun g1 => ?_)))
 refine jB2 (fun g2 => ?_)
 refine sAl tyZ124 rfl (fun g3 => sN (hZ _ _ <| f3K 2 3 4 rfl <| kO7 1 [(0, true), (1, true), (2, true), (3, true), (4, true), (5, true), (6, true), (7, true), (8, true), (9, false), (10, true), (11, false), (12, true), (13, false), (14, true), (15, false)] jF1 (by kernel_rfl) rfl (fun Z hZ => ?_)))
 refine tv_p rfl <| jO2 0 Tryz.underlying207 tyS122 rfl rfl (by omega) rfl rfl ?_
 refine kF3 <| kU8 rfl rfl tyA122 tyS122 rfl rfl <| tv_p rfl <| jO2 2 Tryz.underlying207 tyS122 rfl rfl (by omega) rfl rfl ?_
 refine kF3 <| kU8 rfl rfl tyA122 tyS122 rfl rfl <| tv_p rfl <| jO2 4 Tryz.underlying207 tyS122 rfl rfl (by omega) rfl rfl ?_
 refine kF3 <| kU8 rfl rfl tyA122 tyS122 rfl rfl <| tv_p rfl <| jO2 6 Tryz.underlying207 tyS122 rfl rfl (by omega) rfl rfl ?_
 refine kF3 <| kU8 rfl rfl tyA122 tyS122 rfl rfl <| tv_p rfl <| jP9 rfl kH4 (by simp only [lM]; rfl) rfl ?_
 refine kF3 <| tv_g 1 rfl <| sS0 2 tyS122 ?_
 refine sN ⟨rfl, ?_⟩
 refine tv_p rfl <| jP9 rfl kH3 (by simp only [lA]; rfl) rfl ?_
 refine kF3 <| tv_g 1 rfl <| sS0 2 tyS122 ?_
 refine sN ⟨rfl, ?_⟩
 refine tv_p rfl <| jP9 rfl kH2 (by simp only [lA]; rfl) rfl ?_
 refine kF3 <| tv_g 1 rfl <| sS0 2 tyS122 ?_
 refine sN ⟨rfl, ?_⟩
 refine tv_p rfl <| jP9 rfl kH1 (by simp only [lA]; rfl) rfl ?_
 refine kF3 <| tv_g 1 rfl <| sS0 2 tyS122 ?_
 refine sN ⟨rfl, ?_⟩
 refine zD8 (hZ _ _ <| f2K 2 4 rfl <| aR (fun Z hZ => sLA0 2 tyA124 tyS124 ?_))
 refine sS0 0 tyS124 ?_
 refine sN (hZ _ _ <| f1K 4 rfl <| aE <| nR1 rfl (kH 0 rfl rfl tyA124 tyS124 rfl) rfl)
end Y
namespace Y
open Go.RowKit
structure P4 where
 (a b c d : List UInt8)
structure P4.Ok (p : P4) : Prop where
 a : p.a.length ≤ 20000
 b : p.b.length ≤ 20000
 c : p.c.length ≤ 20000
 d : p.d.length ≤ 20000
abbrev P4.cells (p : P4) : List Value := [.string (str p.a), .string (str p.b), .string (str p.c), .string (str p.d)]
def P4.at_ (p : P4) : Nat → List UInt8
 | 0 => p.a | 1 => p.b | 2 => p.c | _ => p.d
def P4.lens (p : P4) : Nat → List Value
 | 0 => [uq 0, uq 0, uq 0, uq 0]
 | 1 => [uq p.a.length, uq 0, uq 0, uq 0]
 | 2 => [uq p.a.length, uq p.b.length, uq 0, uq 0]
 | 3 => [uq p.a.length, uq p.b.length, uq p.c.length, uq 0]
 | _ => [uq p.a.length, uq p.b.length, uq p.c.length, uq p.d.length]
def P4.all (p : P4) : List UInt8 := p.a ++ p.b ++ p.c ++ p.d
theorem P4.rd (p : P4) {k : Nat} (h : k < 4) : rdV false 1 p.cells k = some (.string (str (p.at_ k))) := by obtain rfl | rfl | rfl | rfl := four h <;> rfl
theorem P4.at_ok (p : P4) (hp : p.Ok) (k : Nat) : (p.at_ k).length ≤ 20000 := by
 unfold P4.at_
 split
 ·exact hp.a
 ·exact hp.b
 ·exact hp.c
 ·exact hp.d
theorem P4.wr (p : P4) {k : Nat} (h : k < 4) : (p.lens k).set k (uq (p.at_ k).length) = p.lens (k + 1) := by obtain rfl | rfl | rfl | rfl := four h <;> rfl
theorem P4.len (p : P4) (k : Nat) : (p.lens k).length = 4 := by unfold P4.lens; split <;> rfl
def layH (h : Hdr) (a b c d : Nat) : Hdr := wA5 h 127 a (127 + a) b (127 + a + b) c (127 + a + b + c) d
def jJ8 (h : Hdr) (p : P4) : Hdr := layH h p.a.length p.b.length p.c.length p.d.length
def vF1 (h : Hdr) (p : P4) : List UInt8 := if jG4 (jJ8 h p) = 0 then encV (jJ8 h p) ++ p.all else []
theorem P4.fits (p : P4) (hp : p.Ok) : vJ2 p.a.length p.b.length p.c.length p.d.length = true := decide_eq_true (by have := hp.a; have := hp.b; have := hp.c; have := hp.d; omega)
theorem vS8 (h : Hdr) (hk : h.Ok) (p : P4) (hp : p.Ok) : (jJ8 h p).Ok := by
 have := hp.a; have := hp.b; have := hp.c; have := hp.d
 obtain ⟨_, _, _, _, _, _, _, _, q8, q9, q10, q11, q12, q13⟩ := hk
 exact ⟨by show 127 < _; omega, by show p.a.length < _; omega, by show 127 + p.a.length < _; omega, by show p.b.length < _; omega, by show 127 + p.a.length + p.b.length < _; omega, by show p.c.length < _; omega, by show 127 + p.a.length + p.b.length + p.c.length < _; omega, by show p.d.length < _; omega, q8, q9, q10, q11, q12, q13⟩
theorem yS1 {a b c d : Nat} (h : vJ2 a b c d = true) : secC a b c d = sec8 127 a (127 + a) b (127 + a + b) c (127 + a + b + c) d ∧ secE a b c d = 0 ∧ secN a b c d = 127 + a + b + c + d := ⟨if_pos h, if_pos h, if_pos h⟩
section
variable {P : Program} {N : Frm} {w0 : World} {Wr : List Nat} {ops : Array Oper} {rest : List Oper} {fr : Fr} {H : Heap} {Z : Fr → Heap → Prop}
variable {d ty : Nat} {pos : String} {after : Array Edge}
theorem vI5 {t e n size : Nat} {x : Operand} {g o : Nat} (ht : P.underlying t = some (.array n e)) (hs : tySize P e = some size) (hn : 0 < n) (hx : ev fr x = some (ptr g o)) (hN : bN d N)
  (h : sx P N w0 Wr ops rest ((d, .slice (some ⟨g, o, none⟩) n n) :: fr) H Z) : sx P N w0 Wr ops (⟨some d, .slice t x none none none, ty, pos, after, none⟩ :: rest) fr H Z :=
 jE4 _ hN (fun a w ha _ => by
  have hn' : ¬ n = 0 := by omega
  simp only [execOp, Instr.sliceAt, ha.eval hx, lJ, run_underlying ht, lR, ptr, Instr.sureAddr, l7, zK, Instr.sliceBounds, jC5 hs, jG5, xH, lM, Nat.sub_zero]
  simp [hn']) h
end
theorem yX8 (h : Hdr) (hk : h.Ok) (p : P4) (hp : p.Ok) : Fn Tryz.prog 47 [h.val, .agg p.cells.toArray] [] fun v _ => v = .tuple #[.string (str (vF1 h p)), iq (jG4 (jJ8 h p))] := by
 obtain ⟨hC, hE, hN⟩ := yS1 (p.fits hp)
 have := hp.a; have := hp.b; have := hp.c; have := hp.d
 obtain ⟨G, hG⟩ := xZ9 (jJ8 h p)
 have hGk := vS8 h hk p hp
 unfold vF1
 rw [hG] at hGk ⊢
 have henc : (encV G).length ≤ 127 := by
  unfold encV
  split
  ·rw [jY4]; omega
  ·simp
 refine fE 47 Tryz.func47 rfl (fun w0 => aR (fun Z hZ => jB2 (fun g1 => ?_)))
 refine jB2 (fun g2 => ?_)
 refine sA rfl rfl <| sAN hZ rfl rfl <| f2K 2 3 rfl <| aR (fun Z hZ => sAl tyZ206 rfl (fun g3 => sN (hZ _ _ <| f3K 2 3 6 rfl <| aS <| aR (fun Z hZ => sLA0 1 tyA126 tyS126 ?_))))
 refine sMN hZ rfl rfl <| f5K 2 3 6 13 14 rfl <| aB ?_
 refine jC3 (ι := Nat) (fun k => [(2, ptr g1 0), (3, ptr g2 0), (6, ptr g3 0), (13, .agg p.cells.toArray), (14, iq (k : Nat))]) (fun k => [.own g3 206 (p.lens k), .own g2 126 p.cells, .own g1 124 h.cells])
  (fun k => k ≤ 4) (fun k => 4 - k) 0 (by omega) (kR rfl) (hV _) ?_
 intro k hk4
 refine aR (fun Z hZ => jB0 ?_)
 refine sN (hZ _ _ <| f6K 2 3 6 13 14 15 rfl <| aS (aC0 (fun hh => ?_) (fun hh => ?_)))
 ·have hlt : k < 4 := by simp at hh; omega
  have hal := p.at_ok hp k
  refine aK <| nN <| aS (aB <| aR fun Z hZ => sM rfl rfl <| jU1 Tryz.underlying126 tyA9 tyS9 rfl rfl (by omega) (by simpa using p.rd hlt) rfl ?_)
  refine sA rfl rfl <| sAN hZ rfl rfl <| f7K 2 3 6 7 8 13 14 rfl <| aG (fun Z hZ => sM rfl rfl <| sM rfl rfl <| jC8 Tryz.underlying9 rfl rfl <| jD0 Tryz.underlying3 Tryz.underlying61 rfl (((p.at_ k).length : Nat) : Int) (by rw [xK _ (by omega)]) rfl ?_)
  refine jH3 k Tryz.underlying206 tyS61 rfl rfl (by omega) (by simp) rfl ?_
  refine sS1 0 rfl rfl rfl tyS61 rfl (by rw [P4.len]; exact Nat.ble_eq_true_of_le (by omega)) (p.wr hlt) rfl ?_
  refine sN (hZ _ _ ?_)
  refine nF [(2, _), (3, _), (6, _), (13, _), (14, _)] (kR rfl) ?_
  repeat (with_reducible refine nBN ?_)
  refine nN ?_
  refine aG (fun Z hZ => ?_)
  refine jB7 rfl rfl ((k + 1 : Nat) : Int) (by rw [lT _ (by omega)]; omega) rfl ?_
  refine sMN hZ rfl rfl <| nF [(2, _), (3, _), (6, _), (13, _), (14, _)] (kR rfl) <| jC2 (k + 1) (by omega) (by omega) (kR rfl) (hV _)
 ·refine jB5 ?_
  repeat (with_reducible refine nTE ?_)
  refine nBE ?_
  refine nN ?_
  have hke : k = 4 := by simp at hh; omega
  subst hke
  refine aR (fun Z hZ => sLA0 0 tyA206 tyS206 ?_)
  refine sCP0 (vJ1 p.a.length p.b.length p.c.length p.d.length (by omega)) ?_
  rw [hC, hE, hN]
  refine sM rfl rfl <| sX rfl rfl rfl <| sX rfl rfl rfl <| sX rfl rfl rfl <| sAl tyZ207 rfl (fun g4 => sS0 0 tyS207 ?_)
  refine sA rfl rfl <| sAN hZ rfl rfl <| f4K 2 3 9 11 rfl <| aS <| aR fun Z hZ => sM rfl rfl <| jA6 ?_
  refine sN (hZ _ _ <| f5K 2 3 9 11 31 rfl <| aC0 (fun he => ?_) (fun he => ?_))
  ·simp at he
  refine aK <| nN <| aR (fun Z hZ => sLA0 3 tyA124 tyS124 ?_)
  refine sLA0 0 tyA207 tyS207 ?_
  refine sCP0 (yO4 h 127 p.a.length (127 + p.a.length) p.b.length (127 + p.a.length + p.b.length) p.c.length (127 + p.a.length + p.b.length + p.c.length) p.d.length) ?_
  rw [show wA5 h 127 p.a.length (127 + p.a.length) p.b.length (127 + p.a.length + p.b.length) p.c.length (127 + p.a.length + p.b.length + p.c.length) p.d.length = G from hG]
  refine sCP0 (vY2 G hGk) ?_
  refine sM rfl rfl <| sX rfl rfl rfl <| sX rfl rfl rfl <| sA rfl rfl <| sAN hZ rfl rfl <| f3K 3 11 12 rfl <| aS <| aR fun Z hZ => sM rfl rfl <| jA6 ?_
  refine sN (hZ _ _ <| f4K 3 11 12 41 rfl <| aC0 (fun he2 => ?_) (fun he2 => ?_))
  ·refine aR (fun Z hZ => ?_)
   refine sM rfl rfl <| sA rfl rfl <| sAN hZ rfl rfl ?_
   refine f2K 4 5 rfl ?_
   refine aE ?_
   repeat (with_reducible refine nTR ?_)
   exact jF3 rfl rfl rfl (by rw [if_neg (by simpa using he2)]; rfl)
  refine aK <| nN ?_
  have hc0 : jG4 G = 0 := by simpa using he2
  have hj : Lib.join [p.a, p.b, p.c, p.d] [] = p.all := by simp [Lib.join_cons, Lib.joinTail, P4.all]
  refine aR fun Z hZ => sM rfl rfl <| vI5 Tryz.underlying126 tyS9 (by omega) rfl rfl ?_
  refine wY6 (v := .string (str p.all)) vY7 rfl rfl (fun w hw => ?_) ?_
  rotate_left
  refine jN3 rfl rfl (by (simp only [P4.all, lN]; omega)) rfl ?_
  refine sA rfl rfl <| sAN hZ rfl rfl <| f2K 4 5 rfl ?_
  ·refine aE <| jF3 rfl rfl rfl (by rw [hc0, if_pos rfl])
  ·have hm := Ent.cell (hw.mem (i := 2) rfl)
   have hl := Ent.lt (hw.mem (i := 2) rfl)
   have := yD3 g2 0 4 [p.a, p.b, p.c, p.d] [] w (fun j x hx => by
    rw [lA, hm]
    have hj4 : j < 4 := by have := (List.getElem?_eq_some_iff.1 hx).1; simpa using this
    obtain rfl | rfl | rfl | rfl := four hj4 <;> (simp at hx; subst hx; rfl)) hl (by simp) (by simp) (by rw [hj]; simp only [P4.all, lN]; omega)
   rw [hj] at this
   exact this
end Y
namespace Y
open Go.RowKit
def hf (h : Hdr) : Nat → Nat
 | 0 => h.r0 | 1 => h.m0 | 2 => h.l0 | _ => h.d0
def hl (h : Hdr) : Nat → Nat
 | 0 => h.r1 | 1 => h.m1 | 2 => h.l1 | _ => h.d1
theorem h_rd (h : Hdr) {k : Nat} (hk : k < 4) : rdV true 2 h.secs (k * 2) = some (.agg #[uq (hf h k), uq (hl h k)]) := by obtain rfl | rfl | rfl | rfl := four hk <;> rfl
theorem zJ1 {h : Hdr} (hs : kG4 h = true) (k : Nat) : hf h k ≤ 1099511627776 ∧ hl h k ≤ 1099511627776 := by
 simp only [kG4, kB7, xM, decide_eq_true_eq] at hs
 unfold hf hl
 constructor <;> split <;> omega
theorem vC8 {h : Hdr} (hc : jG4 h = 0) : kG4 h = true := by
 unfold jG4 at hc
 cases hs : kG4 h with
 | true => rfl
 | false => rw [if_pos hs] at hc; cases hc
def inL (l : List UInt8) (k : Nat) : Bool := decide (hf (decV l) k + hl (decV l) k ≤ l.length)
def wR6 (l : List UInt8) : Bool := inL l 0 && inL l 1 && inL l 2 && inL l 3
def cutE (l : List UInt8) : Int := if decE l = 0 then (if wR6 l = true then 0 else 8) else decE l
def piece (l : List UInt8) (k : Nat) : List UInt8 := (l.drop (hf (decV l) k)).take (hl (decV l) k)
def cutH (l : List UInt8) : Hdr := if cutE l = 0 then decV l else zeroH
def cutP (l : List UInt8) : P4 := if cutE l = 0 then ⟨piece l 0, piece l 1, piece l 2, piece l 3⟩ else ⟨[], [], [], []⟩
def P4.out (p : P4) : Nat → List Value
 | 0 => [.string (str []), .string (str []), .string (str []), .string (str [])]
 | 1 => [.string (str p.a), .string (str []), .string (str []), .string (str [])]
 | 2 => [.string (str p.a), .string (str p.b), .string (str []), .string (str [])]
 | 3 => [.string (str p.a), .string (str p.b), .string (str p.c), .string (str [])]
 | _ => [.string (str p.a), .string (str p.b), .string (str p.c), .string (str p.d)]
theorem P4.out_wr (p : P4) {k : Nat} (h : k < 4) : (p.out k).set k (.string (str (p.at_ k))) = p.out (k + 1) := by obtain rfl | rfl | rfl | rfl := four h <;> rfl
theorem P4.out_len (p : P4) (k : Nat) : (p.out k).length = 4 := by unfold P4.out; split <;> rfl
def cutQ (l : List UInt8) : P4 := ⟨piece l 0, piece l 1, piece l 2, piece l 3⟩
theorem zB1 (l : List UInt8) {k : Nat} (h : k < 4) : (cutQ l).at_ k = piece l k := by obtain rfl | rfl | rfl | rfl := four h <;> rfl
theorem zL1 {l : List UInt8} {k : Nat} (hd : decE l = 0) (hk : k < 4) (h : inL l k = false) : cutE l = 8 := by
 have : wR6 l = false := by
  unfold wR6
  obtain rfl | rfl | rfl | rfl := four hk <;> simp [h]
 unfold cutE
 rw [if_pos hd, this]
 rfl
theorem wR4 {l : List UInt8} (hd : decE l = 0) (h : ∀ k, k < 4 → inL l k = true) : cutE l = 0 := by
 have : wR6 l = true := by unfold wR6; rw [h 0 (by omega), h 1 (by omega), h 2 (by omega), h 3 (by omega)]; rfl
 unfold cutE
 rw [if_pos hd, this]
 rfl
theorem vM4 {l : List UInt8} (h : decE l = 0) : jG4 (decV l) = 0 := by
 unfold decV
 rw [if_pos h]
 exact (zA4 h).2.2.2.2
theorem cut_fn (l : List UInt8) (hl0 : l.length ≤ 100000) : Fn Tryz.prog 109 [.string (str l)] [] fun v _ => v = .tuple #[(cutH l).val, .agg (cutP l).cells.toArray, iq (cutE l)] := by
 refine fE 52 Tryz.func109 rfl (fun w0 => aR (fun Z hZ => sAl tyZ124 rfl (fun g1 => sAl tyZ126 rfl (fun g2 => sAN hZ rfl rfl <| f3K 0 2 3 rfl <| aR fun Z hZ => sM rfl rfl <| sCP0 (vY3 l (by omega)) ?_))))
 refine sM rfl rfl <| sX rfl rfl rfl <| sX rfl rfl rfl <| sAl tyZ124 rfl (fun g3 => sS0 0 tyS124 ?_)
 refine sAN hZ rfl rfl <| f5K 0 2 3 5 6 rfl <| aS <| aR fun Z hZ => sM rfl rfl <| jA6 ?_
 refine sN (hZ _ _ <| f6K 0 2 3 5 6 16 rfl <| aC0 (fun h => ?_) (fun h => ?_))
 ·skip
  refine aR (fun Z hZ => jB6 tyZ124 tyP124 ?_)
  refine jU2 tyZ126 Tryz.underlying126 tyS9 rfl rfl rfl rfl <| sM rfl rfl <| sS0 2 tyS124 ?_
  refine sS0 1 tyS126 ?_
  refine sAN hZ rfl rfl ?_
  refine f3K 2 3 4 rfl ?_
  refine aE ?_
  repeat (with_reducible refine nTR ?_)
  have hd : ¬ decE l = 0 := by simpa using h
  have e : cutE l = decE l := if_neg hd
  exact jN6 rfl (kH 2 rfl rfl tyA124 tyS124 rfl) (kH 1 rfl rfl tyA126 tyS126 rfl) rfl (by rw [cutH, cutP, e, if_neg hd, if_neg hd]; rfl)
 refine aK <| nN ?_
 have hd : decE l = 0 := by simpa using h
 have hs := vC8 (vM4 hd)
 refine aR (fun Z hZ => sAl tyZ126 rfl (fun g4 => sN (hZ _ _ <| f5K 0 2 3 5 7 rfl <| aS <| aR (fun Z hZ => sFA0 kH4 ?_))))
 refine sLA0 1 tyA122 tyS122 ?_
 refine sFA0 kH3 ?_
 refine sLA0 1 tyA122 tyS122 ?_
 refine sFA0 kH2 ?_
 refine sLA0 1 tyA122 tyS122 ?_
 refine sFA0 kH1 ?_
 refine sLA0 1 tyA122 tyS122 ?_
 refine jU2 tyZ207 Tryz.underlying207 tyS122 rfl rfl (by simp only [qS, Nat.reduceAdd, Value.cells, wrV, Nat.reduceMul, xH]; rfl) rfl ?_
 refine sMN hZ rfl rfl <| f7K 0 2 3 5 7 28 29 rfl <| aB ?_
 refine jC3 (ι := Nat) (fun k => [(0, .string (str l)), (2, ptr g1 0), (3, ptr g2 0), (5, ptr g3 0), (7, ptr g4 0), (28, .agg (decV l).secs.toArray), (29, iq (k : Nat))]) (fun k => [.own g4 126 ((cutQ l).out k), .own g3 124 (decV l).cells, .own g2 126 [.string (str []), .string (str []), .string (str []), .string (str [])], .own g1 124 zeroH.cells])
  (fun k => k ≤ 4 ∧ ∀ j, j < k → inL l j = true) (fun k => 4 - k) 0 ⟨by omega, fun j h => by omega⟩ (kR rfl) (hV _) ?_
 rintro k ⟨hk, hall⟩
 refine aR (fun Z hZ => jB0 ?_)
 refine sN (hZ _ _ <| f8K 0 2 3 5 7 28 29 30 rfl <| aS (aC0 (fun hh => ?_) (fun hh => ?_)))
 ·have hlt : k < 4 := by simp at hh; omega
  have hft := zJ1 hs k
  have hat := zB1 l hlt
  have hrd := h_rd (decV l) hlt
  have hpc : piece l k = (l.drop (hf (decV l) k)).take (hl (decV l) k) := rfl
  have hin : inL l k = decide (hf (decV l) k + hl (decV l) k ≤ l.length) := rfl
  generalize hf (decV l) k = F at hft hrd hpc hin
  generalize hl (decV l) k = L at hft hrd hpc hin
  have hend : IntKind.u64.wrap ((F : Int) + L) = ((F + L : Nat) : Int) := by rw [xK _ (by omega)]; omega
  refine aK <| nN <| aS (aB <| aR fun Z hZ => sM rfl rfl <| jU1 Tryz.underlying207 tyA122 tyS122 rfl rfl (by omega) (by simpa using hrd) rfl ?_)
  refine sAl tyZ122 rfl (fun g5 => sA rfl rfl <| sS0 0 tyS122 ?_)
  refine sN (hZ _ _ <| f9K 0 2 3 5 7 8 9 28 29 rfl <| aS <| aR (fun Z hZ => sLA0 0 tyA122 tyS122 ?_))
  refine sCP0 (wQ1 F L) ?_
  rw [hend]
  refine sM rfl rfl <| jC8 Tryz.underlying9 rfl rfl <| jD0 Tryz.underlying3 Tryz.underlying61 rfl (((l.length : Nat)) : Int) (by rw [xK _ (by omega)]) rfl ?_
  refine jC4 ?_
  refine sN (hZ _ _ <| f10K 0 2 3 5 7 8 9 28 29 38 rfl <| aC0 (fun hf => ?_) (fun hf => ?_))
  ·have hno : inL l k = false := by rw [hin]; simp at hf ⊢; omega
   refine aR (fun Z hZ => jB6 tyZ124 tyP124 ?_)
   refine jU2 tyZ126 Tryz.underlying126 tyS9 rfl rfl rfl rfl <| sS0 4 tyS124 ?_
   refine sS0 3 tyS126 ?_
   refine sAN hZ rfl rfl ?_
   refine f3K 2 3 4 rfl ?_
   refine aE ?_
   repeat (with_reducible (first | refine nTR ?_ | refine nBR ?_))
   have e := zL1 hd hlt hno
   exact jN6 rfl (kH 4 rfl rfl tyA124 tyS124 rfl) (kH 3 rfl rfl tyA126 tyS126 rfl) rfl (by rw [cutH, cutP, e]; rfl)
  refine aK <| nN ?_
  have hfit : F + L ≤ l.length := by simp at hf; omega
  refine kE6 _ [(0, true), (1, true), (2, true), (3, true), (4, true), (5, false), (6, true), (7, true), (8, false)] jF1 (by kernel_rfl) (HLe.pick [0] (by simp) (by simp only [pick, l8, qS]; rfl)) (fun Z hZ => ?_)
  refine tw_p rfl <| jA5 ?_
  refine vN <| tw_p rfl <| jA5 ?_
  refine vN <| tw_p rfl <| jA3 kH5 ?_
  refine vN <| tw_p rfl ?_
  first | refine jD6 0 rfl rfl tyA61 tyS61 rfl rfl ?_
  refine vN <| tw_p rfl ?_
  first | refine jL1 0 rfl rfl tyA122 tyS122 rfl (by simp only [qS]; rfl) rfl ?_
  refine vN <| tw_g rfl <| sCP0 (wQ1 F L) ?_
  rw [hend]
  refine sN ⟨pH [0] rfl, ?_⟩
  refine tw_p rfl <| vB9 (piece l k) Tryz.underlying9 rfl rfl rfl (by omega) (by omega) (by omega) (by rw [hpc]; show (l.drop F).take (F + L - F) = _; rw [uF]) rfl ?_
  refine vN <| tw_p rfl <| kV4 k Tryz.underlying126 tyS9 rfl rfl (by omega) (by simp) rfl ?_
  refine vN <| tw_g rfl <| sS1 1 (cs' := (cutQ l).out (k + 1)) rfl rfl rfl tyS9 rfl (by rw [P4.out_len]; exact Nat.ble_eq_true_of_le (by omega)) (by rw [← hat]; exact P4.out_wr _ hlt) (by simp only [qS]; rfl) ?_
  refine sN ⟨pH [0] rfl, ?_⟩
  refine jH1 (hZ _ _ ?_)
  refine nF [(0, _), (2, _), (3, _), (5, _), (7, _), (28, _), (29, _)] (kR rfl) ?_
  repeat (with_reducible refine nBN ?_)
  refine nN ?_
  refine aG (fun Z hZ => ?_)
  refine jB7 rfl rfl ((k + 1 : Nat) : Int) (by rw [lT _ (by omega)]; omega) rfl ?_
  refine sMN hZ rfl rfl <| nF [(0, _), (2, _), (3, _), (5, _), (7, _), (28, _), (29, _)] (kR rfl) <| jC2 (k + 1) ⟨by omega, fun j hj => ?_⟩ (by omega) (kR rfl) (pH [1, 2, 3, 4] rfl)
  rcases xX j k with hj' | hj'
  ·exact hall j hj'
  ·obtain rfl : j = k := by omega
   rw [hin]; simpa using hfit
 ·refine jB5 ?_
  repeat (with_reducible refine nTE ?_)
  refine nBE ?_
  refine nN ?_
  have hke : k = 4 := by simp at hh; omega
  subst hke
  have e := wR4 hd hall
  refine jD5 _ [(0, true), (1, true), (2, false), (3, false), (4, true)] jF1 (by kernel_rfl) (HLe.pick [0, 1] (by simp) (by simp only [pick, l8, qS]; rfl)) (fun Z hZ => ?_)
  refine tw_p rfl <| jL1 1 rfl rfl tyA124 tyS124 rfl (by simp only [qS]; rfl) rfl ?_
  refine vN <| tw_p rfl <| jL1 0 rfl rfl tyA126 tyS126 rfl rfl rfl <| vN <| tw_g rfl <| sS0 3 tyS124 ?_
  refine sN ⟨pH [0, 1] rfl, ?_⟩
  refine tw_g rfl <| sS 2 rfl rfl rfl tyS126 rfl rfl rfl rfl (cs' := (cutQ l).out 4) rfl rfl <| sN ⟨pH [0, 1] rfl, ?_⟩
  refine tw_p rfl <| jE3 rfl rfl <| vN <| jH1 (hZ _ _ <| f3K 2 3 4 rfl <| aE <| jN6 rfl (kH 3 rfl rfl tyA124 tyS124 rfl) (kH 2 rfl rfl tyA126 tyS126 rfl) rfl (by rw [cutH, cutP, e]; rfl))
end Y
namespace Y
open Go.RowKit
end Y
section
open Go.RowKit V Y
set_option maxRecDepth 100000
section
variable {P : Program} {N : Frm} {w0 : World} {Wr : List Nat} {ops : Array Oper} {rest : List Oper} {fr : Fr} {H : Heap} {Z : Fr → Heap → Prop}
variable {d ty : Nat} {pos : String} {after : Array Edge}
theorem vB8 {t xT e : TypeId} {x : Operand} {v : Value} (ht : P.underlying t = some (.slice e)) (hx : ev fr x = some (.iface t v)) (hN : bN d N)
  (h : sx P N w0 Wr ops rest ((d, .tuple #[v, .bool true]) :: fr) H Z) : sx P N w0 Wr ops (⟨some d, .typeAssert x xT t true, ty, pos, after, none⟩ :: rest) fr H Z :=
 jE4 _ hN (fun a w ha _ => by
  simp [execOp, Instr.typeAssert, ha.eval hx, lJ, run_underlying ht]) h
end
structure Pn where
 b : Nat
 k : Nat
 note : List UInt8
abbrev Pn.cells (p : Pn) : List Value := [iq (p.b : Nat), .int .u8 (p.k : Nat), .string (str p.note)]
def vV4 (note : List UInt8) : Prop := Fn Tryz.prog 88 [.string (str note)] [] fun u _ => ∃ x n, u = .tuple #[.iface 176 x, iq (n : Nat), iq 0]
theorem zO0 : vV4 [123, 125] := by
 obtain ⟨h1, h2⟩ := wX8 [123, 125] (by decide) (by decide) (by decide) (by decide)
 exact ⟨h1, fun w hw => (h2 w hw).mono fun e w' he => by
  obtain ⟨v, H', e1, ⟨A, c, e2⟩, e3⟩ := he
  exact ⟨v, H', e1, ⟨_, _, e2⟩, e3⟩⟩
theorem wJ3 (p : Pn) (hb : 512 ≤ p.b ∧ p.b ≤ 16257) (hk : p.k ≤ 5) (hn : vV4 p.note) : Fn Tryz.prog 43 [.agg p.cells.toArray] [] fun v _ => v = iq 0 := by
 refine fE 38 Tryz.func43 rfl (fun w0 => aR (fun Z hZ => jB2 (fun g1 => ?_)))
 refine sAN hZ rfl rfl <| f1K 1 rfl <| aS (aB <| jA0 [(1, ptr g1 0), (8, .bool false)] [.own g1 66 p.cells] (fun Z hZ => ?_) ?_)
 ·refine sFA0 vH6 ?_
  first | refine sL0 0 tyA3 tyS3 ?_
  refine jB0 ?_
  refine sM rfl rfl <| jB9 12 rfl false (by simp; omega) ?_
  refine sOn0 ?_
  refine sFA0 vH6 ?_
  refine sOn0 ?_
  first | refine sL0 0 tyA3 tyS3 ?_
  refine sOn0 ?_
  refine jC4 ?_
  refine sP rfl rfl rfl <| sA rfl rfl <| sN (hZ _ _ ?_ ?_)
  ·exact kE rfl (kE (congrArg some (congrArg Value.bool (by simp; omega))) kF)
  ·exact hV _
 refine aC0 (fun h => ?_) (fun h => ?_)
 ·cases h
 refine aR (fun Z hZ => sFA0 wB4 ?_)
 first | refine sL0 0 tyA5 tyS5 ?_
 refine jC4 ?_
 refine sAN hZ rfl rfl <| f2K 1 17 rfl <| aC0 (fun h => ?_) (fun h => ?_)
 ·simp at h; omega
 refine aK ?_
 repeat (with_reducible refine nBN ?_)
 refine nN ?_
 refine aR (fun Z hZ => ?_)
 refine sFA0 wB3 ?_
 first | refine sL0 0 tyA9 tyS9 ?_
 refine jO1 [] [] [.own g1 66 p.cells] hn rfl (hV _) (lO _) Ro.nil rfl ?_
 rintro v H' ⟨x, m, rfl⟩
 refine jC6 [.own g1 66 p.cells] (kA (lX _ _)) <| sM rfl rfl <| sX rfl rfl rfl <| sX rfl rfl rfl <| sX rfl rfl rfl <| sA rfl rfl <| sA rfl rfl <| sAN hZ rfl rfl <| f2K 3 5 rfl <| aS <| aR fun Z hZ => sM rfl rfl <| jA6 ?_
 refine sN (hZ _ _ <| f3K 3 5 29 rfl <| aC0 (fun h => ?_) (fun h => ?_))
 ·cases h
 refine aK <| nN <| aS <| aR fun Z hZ => sM rfl rfl <| vB8 Tryz.underlying176 rfl rfl <| sM rfl rfl <| sX rfl rfl rfl <| sX rfl rfl rfl <| sA rfl rfl <| sAN hZ rfl rfl <| f1K 7 rfl <| aR fun Z hZ => sM rfl rfl <| jE8 rfl rfl <| sN (hZ _ _ ?_)
 refine f1K 37 rfl <| aC0 (fun h => ?_) (fun h => ?_)
 ·cases h
 refine aK <| nN <| aA rfl rfl <| f1K 2 rfl <| aE <| nR10 rfl
theorem wR8 (L : List En) : (cstM L).length ≤ L.length := by
 obtain ⟨h1, h2⟩ := kZ4 L [] List.nodup_nil
 rw [← zB2]
 have := kQ5 (jF2 (cstM L)) (L.map fun e => (e.off, e.len)) h1 (fun k hk => by
  rcases (h2 k).1 hk with h3 | ⟨e, he, _, h3⟩
  ·simp [jF2] at h3
  ·exact List.mem_map.2 ⟨e, he, h3⟩)
 rwa [qY] at this
def kG5 (L : List It) (R : List En) (k : Nat) : Hdr :=
 ⟨0, 0, 0, 0, 0, 0, 0, 0, L.length, R.length, (cstM R).length, true, 1, 1, k, zLo L, zHi L, -1800000000, -850511287, 1800000000, 850511287, zLo L, 0, 0⟩
theorem yB4 (A : Option Addr) (c : Nat) (L : List It) (T : Heap) (hA : jK9 A L.length) (hT : 0 < L.length → T = roE A (jC9 L)) (hro : Ro T) (hL : L.length ≤ 100000) (hk : zC7 L)
  (B : Option Addr) (d : Nat) (R : List En) (U : Heap) (hB : jK9 B R.length) (hU : 0 < R.length → U = roE B (jA2 R)) (hroU : Ro U) (hR : R.length ≤ 100000) (hE : jF5 R) (k : Nat) :
  Fn Tryz.prog 48 [chV A L.length c, .slice B R.length d, .int .u8 (k : Nat)] (T ++ U) fun v _ => v = (kG5 L R k).val := by
 refine fE 35 Tryz.func48 rfl (fun w0 => aR (fun Z hZ => jB2 (fun g1 => ?_)))
 refine sAl tyZ124 rfl (fun g2 => sN (hZ _ _ <| f4K 1 2 3 6 rfl ?_))
 have hlen : ∀ n : Nat, n ≤ 100000 → IntKind.u64.wrap ((n : Nat) : Int) = ((n : Nat) : Int) := fun n hn => xK _ ⟨by omega, by omega⟩
 have hcs := wR8 R
 refine aR (fun Z hZ => sLA0 1 tyA58 tyS58 ?_)
 refine sCP0 (zH9 A L.length c) ?_
 refine jD0 Tryz.underlying3 Tryz.underlying61 rfl _ (hlen _ hL) rfl <| sM rfl rfl <| jE5 Tryz.underlying114 rfl rfl <| jD0 Tryz.underlying3 Tryz.underlying61 rfl _ (hlen _ hR) rfl <| sM rfl rfl <| jD7 U (vM8 B d R U hB hU hR hE) rfl ((lX T U).trans (lX [_, _] _)) hroU rfl <| jD0 Tryz.underlying3 Tryz.underlying61 rfl _ (hlen _ (by omega)) rfl ?_
 refine sM rfl rfl <| vP4 (cs := [uq 0, uq 0, uq 0, uq 0, uq 0, uq 0, uq 0, uq 0, uq L.length, uq R.length, uq (cstM R).length, .bool true, ub 1, ub 1, ub k, iq 0, iq 0, iq 0, iq 0, iq 0, iq 0, iq 0, iq 0, iq 0]) tyZ124 tyP124 rfl (by kernel_rfl) rfl rfl ?_
 refine sAl tyZ124 rfl (fun g3 => sS0 0 tyS124 ?_)
 refine sN (hZ _ _ <| f3K 3 6 7 rfl <| aR (fun Z hZ => sLA0 2 tyA58 tyS58 ?_))
 refine jD7 T (wV5 A c L T hA hT hro (by omega) hk) rfl ((xE T U).trans (lX [_, _, _] _)) hro rfl ?_
 refine sM rfl rfl <| sX rfl rfl rfl <| sX rfl rfl rfl <| sX rfl rfl rfl <| sFA0 jQ6 ?_
 refine sS10 0 tyS3 ?_
 refine sFA0 jT8 ?_
 refine sS10 0 tyS3 ?_
 refine sN (hZ _ _ <| f2K 6 7 rfl <| aR (fun Z hZ => sFA0 jQ6 ?_))
 refine sL0 0 tyA3 tyS3 ?_
 refine sFA0 jZ1 ?_
 refine sS10 0 tyS3 ?_
 refine sN (hZ _ _ <| f2K 6 7 rfl <| aR (fun Z hZ => sFA0 jT7 ?_))
 refine sS10 0 tyS3 ?_
 refine sFA0 jT5 ?_
 refine sS10 0 tyS3 ?_
 refine sFA0 jT6 ?_
 refine sS10 0 tyS3 ?_
 refine sFA0 jT4 ?_
 refine sS10 0 tyS3 ?_
 refine sN (hZ _ _ <| f2K 6 7 rfl <| aR (fun Z hZ => sLA0 0 tyA124 tyS124 ?_))
 refine sS0 1 tyS124 ?_
 refine sN (hZ _ _ <| f1K 6 rfl <| aE <| jD9 [] rfl (kH 1 rfl rfl tyA124 tyS124 rfl) (kA (lO _)) rfl)
abbrev errE (g : Nat) (e : Int) : Ent := .own g 30 [iq e]
abbrev strE (g : Nat) (s : List UInt8) : Ent := .own g 9 [.string (str s)]
theorem vJ9 (ge gs : Nat) (e : Int) (s : List UInt8) : FnD Tryz.prog 42 [ptr ge 0, ptr gs 0] [errE ge e, strE gs s] fun v H' => v = .tuple #[] ∧ H' = [errE ge e, strE gs (if e = 0 then s else [])] := by
 refine FnD.enter (N := 4) Tryz.func42 rfl (by kernel_rfl) rfl (fun w0 => ?_)
 refine aR (fun Z hZ => sL0 0 tyA30 tyS30 ?_)
 refine jA6 ?_
 refine sN (hZ _ _ <| f2K 1 3 rfl <| aC0 (fun h => ?_) (fun h => ?_))
 ·have h' : e ≠ 0 := by simpa using h
  rw [if_neg h']
  refine aG (fun Z hZ => sS10 1 tyS9 ?_)
  refine sN (hZ _ _ <| nF [] (kF) <| jM8 _ rfl (hV _) ⟨rfl, rfl⟩)
 ·have h' : e = 0 := by simpa using h
  subst h'
  refine aK <| jM8 _ rfl (hV _) ⟨rfl, rfl⟩
def prR (L : List It) : List En := (jJ4 L).1
def prD (L : List It) : List UInt8 := (jJ4 L).2.flatten
def prS (L : List It) (b : Nat) : List En × List UInt8 × Nat × Nat := jI3 (prR L) (b : Nat)
def prP (L : List It) (p : Pn) : P4 := ⟨(encQ (prS L p.b).1).1, p.note, (prS L p.b).2.1, prD L⟩
def prH (L : List It) (p : Pn) : Hdr := kG5 L (prR L) p.k
def prE (L : List It) (p : Pn) : Int := if (prS L p.b).2.2.2 ≠ 0 then ((prS L p.b).2.2.2 : Nat) else if (encQ (prS L p.b).1).2 ≠ 0 then ((encQ (prS L p.b).1).2 : Nat) else jG4 (jJ8 (prH L p) (prP L p))
def prT (L : List It) (p : Pn) : List UInt8 := if prE L p = 0 then vF1 (prH L p) (prP L p) else []
structure PrOk (L : List It) (p : Pn) : Prop where
 ok : ChOk L
 b : 512 ≤ p.b ∧ p.b ≤ 16257
 k : p.k ≤ 5
 note : vV4 p.note
 parts : (prP L p).Ok
 root : (prS L p.b).1.length ≤ 10000 ∧ jF5 (prS L p.b).1
 rows : (prR L).length ≤ 10000 ∧ jF5 (prR L)
theorem vS4 {L : List It} {R : List En} {k : Nat} (hL : L.length ≤ 100000) (hR : R.length ≤ 100000) (hk : k ≤ 5) : (kG5 L R k).Ok := by
 have := wR8 R
 refine ⟨?_, ?_, ?_, ?_, ?_, ?_, ?_, ?_, ?_, ?_, ?_, ?_, ?_, ?_⟩ <;> simp only [kG5] <;> omega
theorem zI2 (S G R T : Heap) : HLe (S ++ (G ++ (R ++ T))) (R ++ (S ++ (G ++ T))) := fun _ _ _ hw => hw.perm (by
 have h1 := List.perm_append_comm_assoc R (S ++ G) T
 simp only [xD] at h1 ⊢
 exact h1)
theorem SlOk.nil' {A : Option Addr} {n : Nat} (h : SlOk A n) : A = none → n = 0 := by
 rcases h with ⟨rfl, rfl⟩ | ⟨g, o, rfl⟩
 ·exact fun _ => rfl
 ·exact fun h => by cases h
theorem yB0 (A : Option Addr) (c : Nat) (L : List It) (T : Heap) (hA : jK9 A L.length) (hT : 0 < L.length → T = roE A (jC9 L)) (hro : Ro T) (p : Pn) (h : PrOk L p) :
  Fn Tryz.prog 15 [chV A L.length c, .agg p.cells.toArray] T fun v _ => v = .tuple #[.string (str (prT L p)), iq (prE L p)] := by
 have hlen := h.ok.len
 have hrows := yC3 A c L T hA hT hro h.ok
 obtain ⟨R, hR⟩ := xZ9 ((jJ4 L).1)
 obtain ⟨D, hD⟩ := xZ9 ((jJ4 L).2.flatten)
 have hRl := h.rows.1
 have hRo := h.rows.2
 rw [show prR L = R from hR] at hRl hRo
 rw [hR, hD] at hrows
 refine Fn.enterM (n := 56) Tryz.func15 rfl (by kernel_rfl) rfl (fun w0 => ?_)
 refine aR (fun Z hZ => jB2 (fun g1 => ?_))
 refine jB2 (fun g2 => ?_)
 refine sAl tyZ9 rfl (fun g3 => sAl tyZ30 rfl (fun g4 => sN (hZ _ _ <| f4K 2 3 4 5 rfl <| wT9 (vs := [ptr g4 0, ptr g3 0]) rfl rfl <| aS <| aR (fun Z hZ => sLA0 2 tyA66 tyS66 ?_))))
 refine sCP0 (wJ3 p h.b h.k h.note) ?_
 refine sS10 0 tyS30 ?_
 refine sN (hZ _ _ <| f4K 2 3 4 5 rfl <| aR (fun Z hZ => sL0 0 tyA30 tyS30 ?_))
 refine jA6 ?_
 refine sN (hZ _ _ <| f5K 2 3 4 5 16 rfl <| aC0 (fun h1 => ?_) (fun h1 => ?_))
 ·cases h1
 refine aK <| nN <| jA7 ([errE g4 0, strE g3 []] ++ ([.own g2 66 p.cells, .own g1 58 [.slice A L.length c]] ++ T)) (hV _) <| aR (fun Z hZ => sLA0 3 tyA58 tyS58 ?_)
 refine jO1 [] T ([errE g4 0, strE g3 []] ++ ([.own g2 66 p.cells, .own g1 58 [.slice A L.length c]] ++ T)) hrows rfl (hV _) ((lX [_, _] T).trans (lX [_, _] _)) hro rfl ?_
 rintro v H' ⟨u, rfl, hu, rfl⟩
 rw [jE2]
 obtain ⟨B, d, rfl, hB, hle⟩ := hu.ro
 refine yQ3 (fun w hw => Go.Proofs.YteofkgedfjffcaaGreatDoor.row_cap hu (fun x hx => xI _ hx) hw) (fun hcap => jC6 ([errE g4 0, strE g3 []] ++ ([.own g2 66 p.cells, .own g1 58 [.slice A L.length c]] ++ (roE B (jA2 R) ++ T))) ((zI2 [_, _] [_, _] _ T).trans (hle [] _ _ _ _)) <| sM rfl rfl <| sX rfl rfl rfl <| sX rfl rfl rfl <| sA rfl rfl <| sAN hZ rfl rfl <| f6K 2 3 4 5 6 7 rfl ?_)
 have hnil : B = none → R.length = 0 := hB.nil'
 have hsp := wZ0 B d R (roE B (jA2 R)) (p.b : Nat) hB.arg (fun _ => rfl) (kG _ _) hRl hRo hnil hcap.1
 obtain ⟨sp, hsp'⟩ : ∃ sp, jI3 R (p.b : Nat) = sp := ⟨_, rfl⟩
 have hS : prS L p.b = sp := by rw [← hsp', ← hR]; rfl
 rw [hsp'] at hsp
 have hroot := h.root
 rw [hS] at hroot
 refine aR fun Z hZ => sM rfl rfl <| sFA0 vH6 ?_
 refine sL0 2 tyA3 tyS3 ?_
 refine jO1 [] (roE B (jA2 R)) ([errE g4 0, strE g3 []] ++ ([.own g2 66 p.cells, .own g1 58 [.slice A L.length c]] ++ (roE B (jA2 R) ++ T))) hsp rfl (hV _) (((xE (roE B (jA2 R)) T).trans (lX [_, _] _)).trans (lX [_, _] _)) (kG _ _) rfl ?_
 rintro v H' ⟨u2, rfl, hu2, rfl⟩
 rw [jE2]
 obtain ⟨B2, d2, rfl, hB2, hle2⟩ := hu2.ro
 refine jC6 ([errE g4 0, strE g3 []] ++ ([.own g2 66 p.cells, .own g1 58 [.slice A L.length c]] ++ (roE B2 (jA2 sp.1) ++ (roE B (jA2 R) ++ T)))) ((zI2 [_, _] [_, _] _ _).trans (hle2 [] _ _ _ _)) <| sM rfl rfl <| sX rfl rfl rfl <| sX rfl rfl rfl <| sX rfl rfl rfl <| sX rfl rfl rfl <| sA rfl rfl <| sA rfl rfl <| sA rfl rfl <| sS10 0 tyS30 ?_
 refine sN (hZ _ _ <| f8K 2 3 4 5 6 7 8 9 rfl <| jA7 ([errE g4 (sp.2.2.2 : Nat), strE g3 []] ++ ([.own g2 66 p.cells, .own g1 58 [.slice A L.length c]] ++ (roE B2 (jA2 sp.1) ++ (roE B (jA2 R) ++ T)))) (hV _) <| aS <| aR (fun Z hZ => sL0 0 tyA30 tyS30 ?_))
 refine jA6 ?_
 refine sN (hZ _ _ <| f9K 2 3 4 5 6 7 8 9 32 rfl <| aC0 (fun h1 => ?_) (fun h1 => ?_))
 ·have h1' : sp.2.2.2 ≠ 0 := by simpa using h1
  have hE : prE L p = (sp.2.2.2 : Nat) := by unfold prE; rw [hS, if_pos h1']
  have hT0 : prT L p = [] := by unfold prT; rw [hE, if_neg (by omega)]
  refine jQ3 (fun j : Unit => [(4, ptr g3 0), (5, ptr g4 0)]) (fun j => [errE g4 (sp.2.2.2 : Nat), strE g3 []] ++ ([.own g2 66 p.cells, .own g1 58 [.slice A L.length c]] ++ (roE B2 (jA2 sp.1) ++ (roE B (jA2 R) ++ T)))) (fun j => True) _ [0, 1, 2] (Tr.fork (Tr.step (0, false) (Tr.step (1, false) (Tr.step (2, false) Tr.nil))) (Tr.step (1, false) (Tr.step (0, false) (Tr.step (2, false) Tr.nil)))) jF1 (by kernel_rfl) (HLe.pick [] (by simp) (by simp only [pick, lY]; rfl)) ?_ ?_
  ·refine vI0 ?_ ?_
   ·refine tt_g rfl <| sL0 0 tyA30 tyS30 ?_
    refine sN ⟨pH [] rfl, ?_⟩
    refine tt_g rfl <| sS10 1 tyS9 ?_
    refine sN ⟨pH [] rfl, ?_⟩
    refine tt_g rfl <| sS10 0 tyS30 ?_
    refine sN ⟨pH [] rfl, ?_⟩
    refine kK1 <| ⟨(), trivial, kR rfl, hV _⟩
   ·refine tt_g rfl <| sS10 1 tyS9 ?_
    refine sN ⟨pH [] rfl, ?_⟩
    refine tt_g rfl <| sL0 0 tyA30 tyS30 ?_
    refine sN ⟨pH [] rfl, ?_⟩
    refine tt_g rfl <| sS10 0 tyS30 ?_
    refine sN ⟨pH [] rfl, ?_⟩
    refine kK1 <| ⟨(), trivial, kR rfl, hV _⟩
  rintro - -
  refine aE ?_
  repeat (with_reducible refine nTR ?_)
  refine kD9 [errE g4 (sp.2.2.2 : Nat), strE g3 []] [] (vJ9 g4 g3 (sp.2.2.2 : Nat) []) (kA (xE [errE g4 (sp.2.2.2 : Nat), strE g3 []] _)) ?_
  rintro v H' ⟨rfl, rfl⟩
  refine jK2 [] trivial (jD8 [errE g4 (sp.2.2.2 : Nat), strE g3 (if ((sp.2.2.2 : Nat) : Int) = 0 then [] else [])] rfl (kH 1 rfl rfl tyA9 tyS9 rfl) (kH 0 rfl rfl tyA30 tyS30 rfl) (hV _) <| by rw [hE, hT0]; split <;> rfl)
 have h1' : sp.2.2.2 = 0 := by simpa using h1
 rw [h1']
 refine aK <| nN ?_
 have hen := kR4 B2 d2 sp.1 (roE B2 (jA2 sp.1)) hB2.arg (fun _ => rfl) (kG _ _) hroot.1 hroot.2
 obtain ⟨en, hen'⟩ : ∃ en, encQ sp.1 = en := ⟨_, rfl⟩
 rw [hen'] at hen
 refine aR fun Z hZ => sM rfl rfl <| jD7 (roE B2 (jA2 sp.1)) hen rfl (((xE (roE B2 (jA2 sp.1)) _).trans (lX [_, _] _)).trans (lX [_, _] _)) (kG _ _) rfl <| sM rfl rfl <| sX rfl rfl rfl <| sX rfl rfl rfl <| sA rfl rfl <| sS10 0 tyS30 ?_
 refine sN (hZ _ _ <| f8K 2 3 4 5 6 7 9 11 rfl <| jA7 ([errE g4 (en.2 : Nat), strE g3 []] ++ ([.own g2 66 p.cells, .own g1 58 [.slice A L.length c]] ++ (roE B2 (jA2 sp.1) ++ (roE B (jA2 R) ++ T)))) (hV _) <| aS <| aR (fun Z hZ => sL0 0 tyA30 tyS30 ?_))
 refine jA6 ?_
 refine sN (hZ _ _ <| f9K 2 3 4 5 6 7 9 11 40 rfl <| aC0 (fun h2 => ?_) (fun h2 => ?_))
 ·have h2' : en.2 ≠ 0 := by simpa using h2
  have hE : prE L p = (en.2 : Nat) := by unfold prE; rw [hS, if_neg (by simpa using h1'), hen', if_pos h2']
  have hT0 : prT L p = [] := by unfold prT; rw [hE, if_neg (by omega)]
  refine jQ3 (fun j : Unit => [(4, ptr g3 0), (5, ptr g4 0)]) (fun j => [errE g4 (en.2 : Nat), strE g3 []] ++ ([.own g2 66 p.cells, .own g1 58 [.slice A L.length c]] ++ (roE B2 (jA2 sp.1) ++ (roE B (jA2 R) ++ T)))) (fun j => True) _ [0, 1, 2] (Tr.fork (Tr.step (0, false) (Tr.step (1, false) (Tr.step (2, false) Tr.nil))) (Tr.step (1, false) (Tr.step (0, false) (Tr.step (2, false) Tr.nil)))) jF1 (by kernel_rfl) (HLe.pick [] (by simp) (by simp only [pick, lY]; rfl)) ?_ ?_
  ·refine vI0 ?_ ?_
   ·refine tt_g rfl <| sL0 0 tyA30 tyS30 ?_
    refine sN ⟨pH [] rfl, ?_⟩
    refine tt_g rfl <| sS10 1 tyS9 ?_
    refine sN ⟨pH [] rfl, ?_⟩
    refine tt_g rfl <| sS10 0 tyS30 ?_
    refine sN ⟨pH [] rfl, ?_⟩
    refine kK1 <| ⟨(), trivial, kR rfl, hV _⟩
   ·refine tt_g rfl <| sS10 1 tyS9 ?_
    refine sN ⟨pH [] rfl, ?_⟩
    refine tt_g rfl <| sL0 0 tyA30 tyS30 ?_
    refine sN ⟨pH [] rfl, ?_⟩
    refine tt_g rfl <| sS10 0 tyS30 ?_
    refine sN ⟨pH [] rfl, ?_⟩
    refine kK1 <| ⟨(), trivial, kR rfl, hV _⟩
  rintro - -
  refine aE ?_
  repeat (with_reducible refine nTR ?_)
  refine kD9 [errE g4 (en.2 : Nat), strE g3 []] [] (vJ9 g4 g3 (en.2 : Nat) []) (kA (xE [errE g4 (en.2 : Nat), strE g3 []] _)) ?_
  rintro v H' ⟨rfl, rfl⟩
  refine jK2 [] trivial (jD8 [errE g4 (en.2 : Nat), strE g3 (if ((en.2 : Nat) : Int) = 0 then [] else [])] rfl (kH 1 rfl rfl tyA9 tyS9 rfl) (kH 0 rfl rfl tyA30 tyS30 rfl) (hV _) <| by rw [hE, hT0]; split <;> rfl)
 have h2' : en.2 = 0 := by simpa using h2
 rw [h2']
 refine aK <| nN ?_
 have hq : prP L p = ⟨en.1, p.note, sp.2.1, D⟩ := by unfold prP prD; rw [hS, hen', hD]
 have hqo := h.parts
 have hh : prH L p = kG5 L R p.k := by unfold prH prR; rw [hR]
 have hho : (kG5 L R p.k).Ok := vS4 (by omega) (by omega) h.k
 have hE : prE L p = jG4 (jJ8 (kG5 L R p.k) ⟨en.1, p.note, sp.2.1, D⟩) := by unfold prE; rw [hS, if_neg (by simpa using h1'), hen', if_neg (by simpa using h2'), hh, hq]
 have hTx : vF1 (kG5 L R p.k) ⟨en.1, p.note, sp.2.1, D⟩ = if prE L p = 0 then vF1 (kG5 L R p.k) ⟨en.1, p.note, sp.2.1, D⟩ else [] := by
  rw [hE]
  unfold vF1
  split <;> rfl
 have hTT : prT L p = vF1 (kG5 L R p.k) ⟨en.1, p.note, sp.2.1, D⟩ := by rw [hTx]; unfold prT; rw [hh, hq]
 rw [hq] at hqo
 have hgl := yX8 (kG5 L R p.k) hho ⟨en.1, p.note, sp.2.1, D⟩ hqo
 rw [← hE, ← hTT] at hgl
 have hhd := yB4 A c L T hA hT hro (by omega) h.ok.its B d R (roE B (jA2 R)) hB.arg (fun _ => rfl) (kG _ _) (by omega) hRo p.k
 obtain ⟨E, hEd⟩ := xZ9 (prE L p)
 obtain ⟨S, hSd⟩ := xZ9 (prT L p)
 have hfin : (if E = 0 then S else []) = S := by
  rw [← hSd, ← hEd]
  unfold prT
  split <;> rfl
 rw [hEd, hSd] at hgl ⊢
 refine jD5 _ [(0, true), (1, true), (2, true), (3, true), (4, false), (5, true), (6, true), (7, true), (8, true), (9, true), (10, true), (11, false), (12, true), (13, true), (14, false), (15, false)] jF1 (by kernel_rfl) (HLe.pick [2, 3] (by simp) (by simp only [pick, l8, lY]; rfl)) (fun Z hZ => ?_)
 refine tw_p rfl <| jL1 1 rfl rfl tyA58 tyS58 rfl (by simp only [qS]; rfl) rfl ?_
 refine vN <| tw_p rfl <| jA5 ?_
 refine vN <| tw_p rfl <| jA3 wB4 ?_
 refine vN <| tw_p rfl <| jD6 0 rfl rfl tyA5 tyS5 rfl rfl <| vN <| tw_g rfl <| jO0 (T ++ roE B (jA2 R)) hhd rfl ((kD (roE B (jA2 R)) T).trans (kA (((lX _ _).trans (lX [_, _] _)).trans (lX [_, _] _)))) (hro.append (kG _ _)) rfl <| sN ⟨pH [2, 3] rfl, ?_⟩
 refine tw_p rfl <| jA5 ?_
 refine vN <| tw_p rfl <| jA3 wB3 ?_
 refine vN <| tw_p rfl <| jD6 0 rfl rfl tyA9 tyS9 rfl rfl <| vN <| tw_p rfl <| jA5 ?_
 refine vN <| tw_p rfl <| jA5 ?_
 refine vN <| tw_p rfl <| wE4 tyZ126 Tryz.underlying126 tyS9 rfl rfl (by simp only [qS, Nat.reduceAdd, Value.cells, wrV, Nat.reduceMul, xH]; rfl) rfl ?_
 refine vN <| tw_g rfl <| sCP0 hgl ?_
 refine sN ⟨pH [2, 3] rfl, ?_⟩
 refine tw_p rfl <| jE7 rfl rfl rfl <| vN <| tw_p rfl <| jE7 rfl rfl rfl <| vN <| tw_g rfl <| sS10 1 tyS9 ?_
 refine sN ⟨pH [2, 3] rfl, ?_⟩
 refine tw_g rfl <| sS10 0 tyS30 ?_
 refine sN ⟨pH [2, 3] rfl, ?_⟩
 refine jH1 (hZ _ _ <| f2K 4 5 rfl <| jA7 ([errE g4 E, strE g3 S] ++ ([.own g2 66 p.cells, .own g1 58 [.slice A L.length c]] ++ (roE B2 (jA2 sp.1) ++ (roE B (jA2 R) ++ T)))) (hV _) <| aE <| kD9 [errE g4 E, strE g3 S] [] (vJ9 g4 g3 E S) (kA (xE [errE g4 E, strE g3 S] _)) ?_)
 rintro v H' ⟨rfl, rfl⟩
 rw [hfin]
 refine jK2 [] trivial (jD8 [errE g4 E, strE g3 S] rfl (kH 1 rfl rfl tyA9 tyS9 rfl) (kH 0 rfl rfl tyA30 tyS30 rfl) (hV _) rfl)
end
namespace V
open Go.RowKit
set_option maxRecDepth 100000
theorem vT6 (s : List UInt8) : (Y.cutP s).a.length ≤ s.length ∧ (Y.cutP s).c.length ≤ s.length ∧ (Y.cutP s).d.length ≤ s.length := by
 have hp : ∀ k, (Y.piece s k).length ≤ s.length := fun k => by
  unfold Y.piece
  rw [xV, qF]
  omega
 unfold Y.cutP
 split
 ·exact ⟨hp 0, hp 2, hp 3⟩
 ·exact ⟨lZ _, lZ _, lZ _⟩
def nrE (s : List UInt8) : Int := if Y.cutE s = 0 then (if (decQ (Y.cutP s).a).2.2 = 0 then ((jT0 (decQ (Y.cutP s).a).1 (Y.cutP s).c).2 : Int) else ((decQ (Y.cutP s).a).2.2 : Int)) else Y.cutE s
def nrL (s : List UInt8) : List En := if nrE s = 0 then (jT0 (decQ (Y.cutP s).a).1 (Y.cutP s).c).1 else []
def nrT (s : List UInt8) : List UInt8 := if nrE s = 0 then (Y.cutP s).d else []
theorem yU9 (s : List UInt8) : (nrT s).length ≤ s.length := by
 unfold nrT
 split
 ·exact (vT6 s).2.2
 ·exact lZ _
theorem kX9 (t : List UInt8) : ∀ (L out : List En), jF5 out → jF5 L → jF5 (jQ9 t out L).1
 | [], out, h, _ => by
  rw [jQ9]
  split
  ·exact fun e he => by cases he
  ·exact h
 | x :: r, out, h, hL => by
  rw [jQ9]
  have hr : jF5 r := fun e he => hL e (lU _ he)
  split
  ·split
   ·exact fun e he => by cases he
   ·refine kX9 t r _ (fun e he => ?_) hr
    rcases List.mem_append.1 he with he | he
    ·exact h e he
    ·exact (kM0 x t).2 e he
  ·refine kX9 t r _ (fun e he => ?_) hr
   rcases List.mem_append.1 he with he | he
   ·exact h e he
   ·rw [List.mem_singleton.1 he]; exact hL x lP
theorem kM3 (t : List UInt8) : ∀ (L out : List En), (jQ9 t out L).1.length ≤ out.length + L.length * 4097
 | [], out => by
  rw [jQ9]
  split <;> simp
 | x :: r, out => by
  rw [jQ9, lD]
  split
  ·split
   ·simp
   ·have h1 := kM3 t r (out ++ (jJ2 x t).1)
    have h2 := (kM0 x t).1
    rw [lN] at h1
    omega
  ·have h1 := kM3 t r (out ++ [x])
   rw [lN] at h1
   simp at h1
   omega
theorem zH6 (s : List UInt8) : jF5 (nrL s) ∧ (nrL s).length ≤ maxLen := by
 obtain ⟨d1, d2, _, _⟩ := kZ1 (Y.cutP s).a
 unfold nrL
 split
 ·unfold jT0
  split
  ·exact ⟨fun e he => (by cases he), lZ _⟩
  ·refine ⟨kX9 _ _ [] (fun e he => by cases he) d2, ?_⟩
   have := kM3 (Y.cutP s).c (decQ (Y.cutP s).a).1 []
   show _ ≤ 9223372036854775807
   simp at this
   omega
 ·exact ⟨fun e he => (by cases he), lZ _⟩
theorem yC0 (s : List UInt8) (hs : s.length ≤ 100000) : Fn Tryz.prog 49 [.string (str s)] [] fun v H' => ∃ u, v = .tuple #[u, .string (str (nrT s)), iq (nrE s)] ∧ RowOk u (nrL s).length ∧ H' = rowE u 182 4 (jA2 (nrL s)) := by
 have hcut := Y.cut_fn s hs
 obtain ⟨hp0, hp2, _⟩ := vT6 s
 obtain ⟨h0, hh0⟩ := xZ9 (Y.cutH s)
 obtain ⟨p0, hpp⟩ := xZ9 (Y.cutP s)
 obtain ⟨e0, he0⟩ := xZ9 (Y.cutE s)
 have hE : nrE s = if e0 = 0 then (if (decQ p0.a).2.2 = 0 then ((jT0 (decQ p0.a).1 p0.c).2 : Int) else ((decQ p0.a).2.2 : Int)) else e0 := by unfold nrE; rw [he0, hpp]
 have hLL : nrL s = if nrE s = 0 then (jT0 (decQ p0.a).1 p0.c).1 else [] := by unfold nrL; rw [hpp]
 have hTT : nrT s = if nrE s = 0 then p0.d else [] := by unfold nrT; rw [hpp]
 rw [hh0, hpp, he0] at hcut
 rw [hpp] at hp0 hp2
 obtain ⟨d1, d2, d3, d4⟩ := kZ1 p0.a
 have hdec := kR5 p0.a (by omega)
 refine fE 43 Tryz.func49 rfl (fun w0 => aR fun Z hZ => sA rfl rfl <| sA rfl rfl <| sAN hZ rfl rfl <| f1K 0 rfl <| aR fun Z hZ => sM rfl rfl <| sCP0 hcut ?_)
 refine sM rfl rfl <| sX rfl rfl rfl <| sX rfl rfl rfl <| sX rfl rfl rfl <| sAl tyZ124 rfl (fun g1 => sAl tyZ126 rfl (fun g2 => sS0 1 tyS124 ?_))
 refine sS0 0 tyS126 ?_
 refine sAN hZ rfl rfl <| f2K 6 7 rfl <| aS <| aR fun Z hZ => sM rfl rfl <| jA6 ?_
 refine sN (hZ _ _ <| f3K 6 7 18 rfl <| aC0 (fun h => ?_) (fun h => ?_))
 ·have h' : ¬ e0 = 0 := by simpa using h
  have hx : nrE s = e0 := by rw [hE, if_neg h']
  rw [hLL, hTT, hx, if_neg h', if_neg h']
  refine aR fun Z hZ => sM rfl rfl <| sA rfl rfl <| sA rfl rfl <| sAN hZ rfl rfl ?_
  refine f3K 2 3 4 rfl ?_
  refine aE ?_
  repeat (with_reducible refine nTR ?_)
  exact jF8 [] rfl rfl rfl rfl (kA (lO _)) ⟨_, rfl, kI, rfl⟩
 have h' : e0 = 0 := by simpa using h
 rw [if_pos h'] at hE
 refine aK <| nN ?_
 obtain ⟨Q, hQ⟩ := xZ9 ((decQ p0.a).1)
 obtain ⟨ed, hed⟩ := xZ9 ((decQ p0.a).2.2)
 rw [hQ, hed] at hdec hE d4
 rw [hQ] at d1 d2 hLL
 refine aR (fun Z hZ => jH3 0 Tryz.underlying126 tyS9 rfl rfl (by omega) rfl rfl ?_)
 refine sL0 0 tyA9 tyS9 ?_
 refine jB4 [] [_, _] hdec rfl (hV _) rfl ?_
 rintro v H' ⟨u, rfl, hu, rfl⟩
 rw [jE2]
 obtain ⟨A1, c1, rfl, hA1, hle1⟩ := hu.ro
 refine jC6 ([_, _] ++ roE A1 (jA2 Q)) ((kD _ _).trans (hle1 [] [_, _] 182 4 (jA2 Q))) <| sM rfl rfl <| sX rfl rfl rfl <| sX rfl rfl rfl <| sX rfl rfl rfl <| sA rfl rfl <| sA rfl rfl <| sAN hZ rfl rfl <| f3K 6 7 8 rfl <| aS <| aR fun Z hZ => sM rfl rfl <| jA6 ?_
 refine sN (hZ _ _ <| f4K 6 7 8 28 rfl <| aC0 (fun h2 => ?_) (fun h2 => ?_))
 ·have h2' : ¬ ed = 0 := by simp at h2; omega
  rw [if_neg h2'] at hE
  have hx : ¬ nrE s = 0 := by rw [hE]; omega
  rw [hLL, hTT, if_neg hx, if_neg hx, hE]
  refine aR fun Z hZ => sM rfl rfl <| sA rfl rfl <| sA rfl rfl <| sAN hZ rfl rfl ?_
  refine f3K 2 3 4 rfl ?_
  refine aE ?_
  repeat (with_reducible refine nTR ?_)
  exact jF8 [] rfl rfl rfl rfl (kA (lO _)) ⟨_, rfl, kI, rfl⟩
 have h2' : ed = 0 := by simp at h2; omega
 rw [if_pos h2'] at hE
 have hjoin := yW6 A1 c1 Q (roE A1 (jA2 Q)) hA1.arg (fun _ => rfl) (kG _ _) (by show _ ≤ 9223372036854775807; omega) d2 p0.c (by omega)
 obtain ⟨J, hJ⟩ := xZ9 ((jT0 Q p0.c).1)
 obtain ⟨ej, hej⟩ := xZ9 ((jT0 Q p0.c).2)
 rw [hJ, hej] at hjoin
 rw [hej] at hE
 rw [hJ] at hLL
 refine aK <| nN <| aR fun Z hZ => sM rfl rfl <| jH3 2 Tryz.underlying126 tyS9 rfl rfl (by omega) rfl rfl ?_
 refine sL0 0 tyA9 tyS9 ?_
 refine jZ3 (roE A1 (jA2 Q)) hjoin rfl (kA (.cons _ (.cons _ (xO _)))) (kG _ _) rfl ?_
 rintro v H' ⟨u, rfl, hu2, rfl⟩
 rw [jE2]
 refine jC6 ([_, _] ++ rowE u 182 4 (jA2 J)) ((kD _ _).trans (kA (uE (.cons_cons _ (.cons_cons _ (lO _))) _))) <| sM rfl rfl <| sX rfl rfl rfl <| sX rfl rfl rfl <| sA rfl rfl <| sAN hZ rfl rfl <| f3K 6 7 10 rfl <| aS <| aR fun Z hZ => sM rfl rfl <| jA6 ?_
 refine sN (hZ _ _ <| f4K 6 7 10 38 rfl <| aC0 (fun h3 => ?_) (fun h3 => ?_))
 ·have h3' : ¬ ej = 0 := by simp at h3; omega
  have hx : ¬ nrE s = 0 := by rw [hE]; omega
  rw [hLL, hTT, if_neg hx, if_neg hx, hE]
  refine aR fun Z hZ => sM rfl rfl <| sA rfl rfl <| sA rfl rfl <| sAN hZ rfl rfl ?_
  refine f3K 2 3 4 rfl ?_
  refine aE ?_
  repeat (with_reducible refine nTR ?_)
  exact jF8 [] rfl rfl rfl rfl (kA (lO _)) ⟨_, rfl, kI, rfl⟩
 have h3' : ej = 0 := by simp at h3; omega
 have hx : nrE s = 0 := by rw [hE]; omega
 rw [hLL, hTT, hx, if_pos rfl, if_pos rfl]
 refine aK <| nN <| jC1 jF1 (by kernel_rfl) (fun Z hZ => ?_)
 refine qM rfl rfl <| kV8 3 Tryz.underlying126 tyS9 rfl rfl (by omega) rfl rfl ?_
 refine jA9 0 tyA9 tyS9 ?_
 refine jB8 rfl rfl <| jB8 rfl rfl <| jB8 rfl rfl <| jE9 (hZ _ _ <| f3K 2 3 4 rfl <| aE <| jF8 _ rfl rfl rfl rfl (kA (lX _ _)) ⟨_, rfl, hu2, rfl⟩)
def rdK8 (s : List UInt8) : Int := if nrE s = 0 then ((mbQ (nrL s) (nrT s)).1 : Int) else nrE s
def rdO (s : List UInt8) : List It := if nrE s = 0 then (mbQ (nrL s) (nrT s)).2 else []
theorem yC1 (s : List UInt8) (hs : s.length ≤ 100000) : Fn Tryz.prog 16 [.string (str s)] [] fun v H' => ∃ u, v = .tuple #[.agg #[u], iq (rdK8 s)] ∧ RowOk u (rdO s).length ∧ H' = rowE u 63 2 (jC9 (rdO s)) := by
 have hrw := yC0 s hs
 obtain ⟨l1, l2⟩ := zH6 s
 have l3 := yU9 s
 refine fE 22 Tryz.func16 rfl (fun w0 => aR (fun Z hZ => sAl tyZ58 rfl (fun g1 => sAN hZ rfl rfl <| f2K 0 2 rfl <| aR fun Z hZ => sM rfl rfl <| jB4 [] [_] hrw rfl (hV _) rfl ?_)))
 rintro v H' ⟨u, rfl, hu, rfl⟩
 rw [jE2]
 obtain ⟨A1, c1, rfl, hA1, hle1⟩ := hu.ro
 refine jC6 ([_] ++ roE A1 (jA2 (nrL s))) ((kD _ _).trans (hle1 [] [_] 182 4 (jA2 (nrL s)))) <| sM rfl rfl <| sX rfl rfl rfl <| sX rfl rfl rfl <| sX rfl rfl rfl <| sA rfl rfl <| sA rfl rfl <| sAN hZ rfl rfl <| f4K 2 4 5 6 rfl <| aS <| aR fun Z hZ => sM rfl rfl <| jA6 ?_
 refine sN (hZ _ _ <| f5K 2 4 5 6 14 rfl <| aC0 (fun h => ?_) (fun h => ?_))
 ·have h' : ¬ nrE s = 0 := by simpa using h
  rw [show rdK8 s = nrE s by unfold rdK8; rw [if_neg h'], show rdO s = [] by unfold rdO; rw [if_neg h']]
  refine aR (fun Z hZ => jB6 tyZ58 tyP58 ?_)
  refine sM rfl rfl ?_
  first | refine sS0 0 tyS58 ?_
  refine sAN hZ rfl rfl ?_
  refine f2K 2 3 rfl ?_
  refine aE ?_
  repeat (with_reducible refine nTR ?_)
  exact jD8 [] rfl (kH 0 rfl rfl tyA58 tyS58 rfl) rfl (kA (lO _)) ⟨_, rfl, kI, rfl⟩
 have h' : nrE s = 0 := by simpa using h
 rw [show rdK8 s = ((mbQ (nrL s) (nrT s)).1 : Int) by unfold rdK8; rw [if_pos h'], show rdO s = (mbQ (nrL s) (nrT s)).2 by unfold rdO; rw [if_pos h']]
 have hb := yC4 A1 c1 (nrL s) (roE A1 (jA2 (nrL s))) hA1.arg (fun _ => rfl) (kG _ _) l2 l1 (nrT s) (by omega)
 refine aK <| nN <| aR fun Z hZ => sM rfl rfl <| sM rfl rfl <| jZ3 (roE A1 (jA2 (nrL s))) hb rfl (kA (.cons _ (xO _))) (kG _ _) rfl ?_
 rintro v H' ⟨u, rfl, hu2, rfl⟩
 rw [jE2]
 refine jC6 ([_] ++ rowE u 63 2 (jC9 (mbQ (nrL s) (nrT s)).2)) ((kD _ _).trans (kA (uE (.cons_cons _ (lO _)) _))) ?_
 obtain ⟨A2, c2, rfl, _⟩ := hu2.form
 refine sX rfl rfl rfl <| sX rfl rfl rfl ?_
 first | refine sS0 0 tyS58 ?_
 refine sAN hZ rfl rfl <| f2K 2 3 rfl <| aE <| jD8 _ rfl (kH 0 rfl rfl tyA58 tyS58 rfl) rfl (kA (lX [_] _)) ⟨_, rfl, hu2, rfl⟩
end V
namespace V
open Go.RowKit
theorem zB5 {n z : Nat} (hz : 0 < z) : cntP n z ≤ n := by
 rcases xX n (cntP n z) with h | h
 ·have h1 := (jQ0 hz).1 h
  have := Nat.le_mul_of_pos_right n hz
  omega
 ·exact h
end V
namespace V
open Go.RowKit
set_option maxRecDepth 100000

end V
end Go.Proofs.YteofkgedfjffcaaGreatDoor
