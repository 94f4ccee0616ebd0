/- The walks of package little and of its reference: each function, once, does to its arguments what a plain Lean function says. Conditions: lengths that a slice may have. -/
import Derived.Test.YtkcbdidaahgfhaaRows
import Derived.Test.YtkcbdidaahgfhaaBase
namespace Go.Proofs.Ytkcbdidaahgfhaa
open Go.RowKit
set_option linter.unusedVariables false
set_option linter.unusedSimpArgs false

abbrev scanV (s : ByteArray) (p b : Int) : Value := .agg #[.string s, .int .i64 p, .int .i64 b]

def fitsB (n : Int) : Bool := decide (1 ≤ n ∧ n ≤ 8)
theorem fits_any (n : Int) (w : World) : Calls Try.prog 59 #[.int .i64 n] w fun e w' => e = .returned (.bool (fitsB n)) ∧ w = w' := by
  by_cases h1 : 1 ≤ n
  · by_cases h2 : n ≤ 8
    · have h : fitsB n = true := by simp [fitsB, h1, h2]
      rw [h]
      go_enter Try.func59, Try.ntmps59
      go_wp2
      go_ret
      exact ⟨rfl, rfl⟩
    · have h : fitsB n = false := by simp [fitsB, h1, h2]
      rw [h]
      go_enter Try.func59, Try.ntmps59
      go_wp2
      go_ret
      exact ⟨rfl, rfl⟩
  · have h : fitsB n = false := by simp [fitsB, h1]
    rw [h]
    go_enter Try.func59, Try.ntmps59
    go_wp2
    go_ret
    exact ⟨rfl, rfl⟩

def stands (s : ByteArray) (p : Int) : Bool := decide (0 ≤ p ∧ p ≤ s.size)
set_option maxHeartbeats 400000 in
theorem stands_any (s : ByteArray) (p e : Int) (w : World) : Calls Try.prog 63 #[scanV s p e] w fun e w' => e = .returned (.bool (stands s p)) ∧ Bel w w' := by
  by_cases h1 : 0 ≤ p
  · by_cases h2 : p ≤ s.size
    · have h : stands s p = true := by simp [stands, h1, h2]
      rw [h]
      go_enter Try.func63, Try.ntmps63
      go_wp2
      go_ret
      exact ⟨rfl, (Bel.refl _).alloc _⟩
    · have h : stands s p = false := by simp [stands, h1, h2]
      rw [h]
      go_enter Try.func63, Try.ntmps63
      go_wp2
      go_ret
      exact ⟨rfl, (Bel.refl _).alloc _⟩
  · have h : stands s p = false := by simp [stands, h1]
    rw [h]
    go_enter Try.func63, Try.ntmps63
    go_wp2
    go_ret
    exact ⟨rfl, (Bel.refl _).alloc _⟩
set_option maxHeartbeats 400000 in
theorem fail_any (s : ByteArray) (p b c : Int) (w : World) : Calls Try.prog 64 #[scanV s p b, .int .i64 c] w fun e w' => e = .returned (.tuple #[.string ⟨#[]⟩, scanV s p c]) ∧ Bel w w' := by
  go_enter Try.func64, Try.ntmps64
  go_wp2
  go_region
  go_wp2
  refine bodyPost_ret (v := .tuple #[.string ⟨#[]⟩, scanV s p c]) (by simp [results, Try.results64, go_sem]) rfl ⟨rfl, ?_⟩
  exact (by repeat (first | exact Bel.refl _ | exact Bel.drew (Bel.refl _) | refine Bel.drew ?_ | refine Bel.drewN ?_ _ | refine Bel.alloc ?_ _ | refine Bel.set ?_ (by simp; try omega) _ | refine Bel.trans ?_ (by assumption)))

def takeE (s : ByteArray) (p e n : Int) (may : Bool) : Int := if e ≠ 0 then e else if may = false ∨ stands s p = false then 2 else if (s.size : Int) - p < n then 3 else 0
def takeT (s : ByteArray) (p e n : Int) (may : Bool) : ByteArray := if takeE s p e n may = 0 then s.extract p.toNat (p + n).toNat else ⟨#[]⟩
def takeP (s : ByteArray) (p e n : Int) (may : Bool) : Int := if takeE s p e n may = 0 then p + n else p

set_option maxHeartbeats 400000 in
theorem cut_bad (s : ByteArray) (p e n : Int) (may : Bool) (w : World) (he : e ≠ 0) :
    Calls Try.prog 62 #[scanV s p e, .int .i64 n, .bool may] w fun x w' => x = .returned (.tuple #[.string ⟨#[]⟩, scanV s p e]) ∧ Bel w w' := by
  have h1 : (e != 0) = true := by simp [he]
  go_enter Try.func62, Try.ntmps62
  go_wp2
  go_region
  go_wp2
  refine bodyPost_ret (v := .tuple #[.string ⟨#[]⟩, scanV s p e]) (by simp [results, Try.results62, go_sem]) rfl ⟨rfl, ?_⟩
  exact (by repeat (first | exact Bel.refl _ | exact Bel.drew (Bel.refl _) | refine Bel.drew ?_ | refine Bel.drewN ?_ _ | refine Bel.alloc ?_ _ | refine Bel.set ?_ (by simp; try omega) _ | refine Bel.trans ?_ (by assumption)))
set_option maxHeartbeats 400000 in
theorem cut_arg (s : ByteArray) (p n : Int) (may : Bool) (w : World) (h : may = false ∨ stands s p = false) :
    Calls Try.prog 62 #[scanV s p 0, .int .i64 n, .bool may] w fun x w' => x = .returned (.tuple #[.string ⟨#[]⟩, scanV s p 2]) ∧ Bel w w' := by
  cases may with
  | false =>
    clear h
    go_enter Try.func62, Try.ntmps62
    go_wp2_with (first | (go_at_call 63; refine (stands_any _ _ _ _).mono ?_; rintro e w1 ⟨rfl, hb1⟩; obtain ⟨hb1c, hb1f, hb1z⟩ := Bel.took hb1; have hb1z0 : w.heap.size < w1.heap.size := (by (try simp at hb1z); omega); have hb1z1 : w.heap.size + 1 < w1.heap.size := (by (try simp at hb1z); omega); clear hb1z) | (go_at_call 64; refine (fail_any _ _ _ _ _).mono ?_; rintro e w1 ⟨rfl, hb1⟩; obtain ⟨hb1c, hb1f, hb1z⟩ := Bel.took hb1; have hb1z0 : w.heap.size < w1.heap.size := (by (try simp at hb1z); omega); have hb1z1 : w.heap.size + 1 < w1.heap.size := (by (try simp at hb1z); omega); clear hb1z))
    refine bodyPost_ret (v := .tuple #[.string ⟨#[]⟩, scanV s p 2]) (by simp [results, Try.results62, go_sem, *]) rfl ⟨rfl, ?_⟩
    exact (by repeat (first | exact Bel.refl _ | exact Bel.drew (Bel.refl _) | refine Bel.drew ?_ | refine Bel.drewN ?_ _ | refine Bel.alloc ?_ _ | refine Bel.set ?_ (by simp; try omega) _ | refine Bel.trans ?_ (by assumption)))
  | true =>
    have h : stands s p = false := by simpa using h
    go_enter Try.func62, Try.ntmps62
    go_wp2_with (first | (go_at_call 63; refine (stands_any _ _ _ _).mono ?_; rintro e w1 ⟨rfl, hb1⟩; obtain ⟨hb1c, hb1f, hb1z⟩ := Bel.took hb1; have hb1z0 : w.heap.size < w1.heap.size := (by (try simp at hb1z); omega); have hb1z1 : w.heap.size + 1 < w1.heap.size := (by (try simp at hb1z); omega); clear hb1z) | (go_at_call 64; refine (fail_any _ _ _ _ _).mono ?_; rintro e w2 ⟨rfl, hb2⟩; obtain ⟨hb2c, hb2f, hb2z⟩ := Bel.took hb2; have hb2z0 : w.heap.size < w2.heap.size := (by (try simp at hb2z); omega); have hb2z1 : w.heap.size + 1 < w2.heap.size := (by (try simp at hb2z); omega); clear hb2z))
    refine bodyPost_ret (v := .tuple #[.string ⟨#[]⟩, scanV s p 2]) (by simp [results, Try.results62, go_sem, *]) rfl ⟨rfl, ?_⟩
    exact (by repeat (first | exact Bel.refl _ | exact Bel.drew (Bel.refl _) | refine Bel.drew ?_ | refine Bel.drewN ?_ _ | refine Bel.alloc ?_ _ | refine Bel.set ?_ (by simp; try omega) _ | refine Bel.trans ?_ (by assumption)))
set_option maxHeartbeats 400000 in
theorem cut_short (s : ByteArray) (p n : Int) (w : World) (h : stands s p = true) (hn : (s.size : Int) - p < n) (hs : s.size ≤ maxLen) :
    Calls Try.prog 62 #[scanV s p 0, .int .i64 n, .bool true] w fun x w' => x = .returned (.tuple #[.string ⟨#[]⟩, scanV s p 3]) ∧ Bel w w' := by
  unfold maxLen at hs
  obtain ⟨k, rfl⟩ : ∃ k : Nat, p = k := ⟨p.toNat, by simp [stands] at h; omega⟩
  have hk : k ≤ s.size := by simp [stands] at h; omega
  go_enter Try.func62, Try.ntmps62
  go_wp2_with (first | (go_at_call 63; refine (stands_any _ _ _ _).mono ?_; rintro e w1 ⟨rfl, hb1⟩; obtain ⟨hb1c, hb1f, hb1z⟩ := Bel.took hb1; have hb1z0 : w.heap.size < w1.heap.size := (by (try simp at hb1z); omega); have hb1z1 : w.heap.size + 1 < w1.heap.size := (by (try simp at hb1z); omega); clear hb1z) | (go_at_call 64; refine (fail_any _ _ _ _ _).mono ?_; rintro e w2 ⟨rfl, hb2⟩; obtain ⟨hb2c, hb2f, hb2z⟩ := Bel.took hb2; have hb2z0 : w.heap.size < w2.heap.size := (by (try simp at hb2z); omega); have hb2z1 : w.heap.size + 1 < w2.heap.size := (by (try simp at hb2z); omega); clear hb2z))
  refine bodyPost_ret (v := .tuple #[.string ⟨#[]⟩, scanV s k 3]) (by simp [results, Try.results62, go_sem, *]) rfl ⟨rfl, ?_⟩
  exact (by repeat (first | exact Bel.refl _ | exact Bel.drew (Bel.refl _) | refine Bel.drew ?_ | refine Bel.drewN ?_ _ | refine Bel.alloc ?_ _ | refine Bel.set ?_ (by simp; try omega) _ | refine Bel.trans ?_ (by assumption)))
set_option maxHeartbeats 400000 in
theorem cut_ok (s : ByteArray) (k n : Nat) (w : World) (hn : k + n ≤ s.size) (hs : s.size ≤ maxLen) :
    Calls Try.prog 62 #[scanV s k 0, .int .i64 n, .bool true] w fun x w' => x = .returned (.tuple #[.string (s.extract k (k + n)), scanV s (k + n : Nat) 0]) ∧ Bel w w' := by
  unfold maxLen at hs
  have h : stands s k = true := by simp [stands]; omega
  go_enter Try.func62, Try.ntmps62
  go_wp2_with (first | (go_at_call 63; refine (stands_any _ _ _ _).mono ?_; rintro e w1 ⟨rfl, hb1⟩; obtain ⟨hb1c, hb1f, hb1z⟩ := Bel.took hb1; have hb1z0 : w.heap.size < w1.heap.size := (by (try simp at hb1z); omega); have hb1z1 : w.heap.size + 1 < w1.heap.size := (by (try simp at hb1z); omega); clear hb1z; have hs1 : ∀ u, (w1.setCell ⟨w.heap.size, 1, none⟩ u).cell? ⟨w.heap.size, 1, none⟩ = some u := (fun u => cell_set_here _ _ _ (by simp [go_sem, hb1c]))))
  go_region
  go_wp2
  refine bodyPost_ret (v := .tuple #[.string (s.extract k (k + n)), scanV s (k + n : Nat) 0]) (by simp [results, Try.results62, go_sem, *]) rfl ⟨rfl, ?_⟩
  exact (by repeat (first | exact Bel.refl _ | exact Bel.drew (Bel.refl _) | refine Bel.drew ?_ | refine Bel.drewN ?_ _ | refine Bel.alloc ?_ _ | refine Bel.set ?_ (by simp; try omega) _ | refine Bel.trans ?_ (by assumption)))

/-- (little.Scan).cut, whatever the scan. -/
theorem cut_any (s : ByteArray) (p e n : Int) (may : Bool) (w : World) (hs : s.size ≤ maxLen) (hm : may = true → 0 ≤ n) :
    Calls Try.prog 62 #[scanV s p e, .int .i64 n, .bool may] w fun x w' => x = .returned (.tuple #[.string (takeT s p e n may), scanV s (takeP s p e n may) (takeE s p e n may)]) ∧ Bel w w' := by
  by_cases he : e = 0
  · subst he
    by_cases h : may = false ∨ stands s p = false
    · have h1 : takeE s p 0 n may = 2 := by simp [takeE, h]
      have h2 : takeT s p 0 n may = ⟨#[]⟩ := by simp [takeT, h1]
      have h3 : takeP s p 0 n may = p := by simp [takeP, h1]
      rw [h1, h2, h3]
      exact cut_arg s p n may w h
    · have h' := h
      simp only [not_or, Bool.not_eq_false] at h'
      obtain ⟨rfl, hst⟩ := h'
      by_cases hn : (s.size : Int) - p < n
      · have h1 : takeE s p 0 n true = 3 := by simp [takeE, hst, hn]
        have h2 : takeT s p 0 n true = ⟨#[]⟩ := by simp [takeT, h1]
        have h3 : takeP s p 0 n true = p := by simp [takeP, h1]
        rw [h1, h2, h3]
        exact cut_short s p n w hst hn hs
      · have h1 : takeE s p 0 n true = 0 := by simp [takeE, hst, hn]
        have h2 : takeT s p 0 n true = s.extract p.toNat (p + n).toNat := by simp [takeT, h1]
        have h3 : takeP s p 0 n true = p + n := by simp [takeP, h1]
        rw [h1, h2, h3]
        have hst' := hst
        simp only [stands, decide_eq_true_eq] at hst'
        obtain ⟨k, rfl⟩ : ∃ k : Nat, p = k := ⟨p.toNat, by omega⟩
        obtain ⟨m, rfl⟩ : ∃ m : Nat, n = m := ⟨n.toNat, by have := hm rfl; omega⟩
        have e1 : ((k : Int) + (m : Int)).toNat = k + m := by omega
        have e2 : ((k : Int) + (m : Int)) = ((k + m : Nat) : Int) := by omega
        rw [e1, e2, Int.toNat_natCast]
        exact cut_ok s k m w (by omega) hs
  · have h1 : takeE s p e n may = e := by simp [takeE, he]
    have h2 : takeT s p e n may = ⟨#[]⟩ := by simp [takeT, h1, he]
    have h3 : takeP s p e n may = p := by simp [takeP, h1, he]
    rw [h1, h2, h3]
    exact cut_bad s p e n may w he
end Go.Proofs.Ytkcbdidaahgfhaa
