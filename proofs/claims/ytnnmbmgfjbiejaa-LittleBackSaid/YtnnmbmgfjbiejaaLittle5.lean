/- The walks of little's reference: what takes bytes and numbers off a scan. Condition: a text's length is one that a text may have. -/
import Derived.Test.YtnnmbmgfjbiejaaLittle4
namespace Go.Proofs.Ytnnmbmgfjbiejaa
open Go.RowKit
set_option linter.unusedVariables false
set_option linter.unusedSimpArgs false
set_option maxHeartbeats 400000 in
theorem rtake_bad (s : ByteArray) (p e n : Int) (wrong : Bool) (w : World) (he : e ≠ 0) :
    Calls Try.prog 28 #[scanV s p e, .int .i64 n, .bool wrong] w fun x w' => x = .returned (.tuple #[.string ⟨#[]⟩, scanV s p e]) ∧ Bel w w' := by
  have h1 : (e != 0) = true := by simp [he]
  go_enter Try.func28, Try.ntmps28
  go_wp2
  go_region
  go_wp2
  refine bodyPost_ret (v := .tuple #[.string ⟨#[]⟩, scanV s p e]) (by simp [results, Try.results28, go_sem]) rfl ⟨rfl, ?_⟩
  exact (by repeat (first | exact Bel.refl _ | exact Bel.drew (Bel.refl _) | refine Bel.drew ?_ | refine Bel.drewN ?_ _ | refine Bel.alloc ?_ _ | refine Bel.set ?_ (by simp; try omega) _ | refine Bel.trans ?_ (by assumption)))
set_option maxHeartbeats 1000000 in
theorem rtake_arg (s : ByteArray) (p n : Int) (wrong : Bool) (w : World) (h : wrong = true ∨ stands s p = false) :
    Calls Try.prog 28 #[scanV s p 0, .int .i64 n, .bool wrong] w fun x w' => x = .returned (.tuple #[.string ⟨#[]⟩, scanV s p 2]) ∧ Bel w w' := by
  cases hst : stands s p with
  | false =>
    clear h
    go_enter Try.func28, Try.ntmps28
    go_wp2_with (go_at_call 31; refine (may_any _ _ _ _).mono ?_; rintro e w1 ⟨rfl, hb1⟩; obtain ⟨hb1c, hb1f, hb1z⟩ := Bel.took hb1; have hb1z0 : w.heap.size < w1.heap.size := (by (try simp at hb1z); omega); have hb1z1 : w.heap.size + 1 < w1.heap.size := (by (try simp at hb1z); omega); clear hb1z; have hs1 : ∀ u, (w1.setCell ⟨w.heap.size, 2, none⟩ u).cell? ⟨w.heap.size, 2, none⟩ = some u := (fun u => cell_set_here _ _ _ (by simp [go_sem, hb1c])))
    go_region
    go_wp2
    refine bodyPost_ret (v := .tuple #[.string ⟨#[]⟩, scanV s p 2]) (by simp [results, Try.results28, go_sem, hb1c, hb1z0, hb1z1]) rfl ⟨rfl, ?_⟩
    exact (by repeat (first | exact Bel.refl _ | exact Bel.drew (Bel.refl _) | refine Bel.drew ?_ | refine Bel.drewN ?_ _ | refine Bel.alloc ?_ _ | refine Bel.set ?_ (by simp; try omega) _ | refine Bel.trans ?_ (by assumption)))
  | true =>
    have h : wrong = true := by simpa [hst] using h
    subst h
    go_enter Try.func28, Try.ntmps28
    go_wp2_with (go_at_call 31; refine (may_any _ _ _ _).mono ?_; rintro e w1 ⟨rfl, hb1⟩; obtain ⟨hb1c, hb1f, hb1z⟩ := Bel.took hb1; have hb1z0 : w.heap.size < w1.heap.size := (by (try simp at hb1z); omega); have hb1z1 : w.heap.size + 1 < w1.heap.size := (by (try simp at hb1z); omega); clear hb1z; have hs1 : ∀ u, (w1.setCell ⟨w.heap.size, 2, none⟩ u).cell? ⟨w.heap.size, 2, none⟩ = some u := (fun u => cell_set_here _ _ _ (by simp [go_sem, hb1c])))
    go_region
    go_wp2
    refine bodyPost_ret (v := .tuple #[.string ⟨#[]⟩, scanV s p 2]) (by simp [results, Try.results28, go_sem, hb1c, hb1z0, hb1z1]) rfl ⟨rfl, ?_⟩
    exact (by repeat (first | exact Bel.refl _ | exact Bel.drew (Bel.refl _) | refine Bel.drew ?_ | refine Bel.drewN ?_ _ | refine Bel.alloc ?_ _ | refine Bel.set ?_ (by simp; try omega) _ | refine Bel.trans ?_ (by assumption)))
set_option maxHeartbeats 1000000 in
theorem rtake_short (s : ByteArray) (p n : Int) (w : World) (h : stands s p = true) (hn : (s.size : Int) - p < n) (hs : s.size ≤ maxLen) :
    Calls Try.prog 28 #[scanV s p 0, .int .i64 n, .bool false] w fun x w' => x = .returned (.tuple #[.string ⟨#[]⟩, scanV s p 3]) ∧ Bel w w' := by
  unfold maxLen at hs
  obtain ⟨k, rfl⟩ : ∃ k : Nat, p = k := ⟨p.toNat, by simp [stands] at h; omega⟩
  have hk : k ≤ s.size := by simp [stands] at h; omega
  go_enter Try.func28, Try.ntmps28
  go_wp2_with (go_at_call 31; refine (may_any _ _ _ _).mono ?_; rintro e w1 ⟨rfl, hb1⟩; obtain ⟨hb1c, hb1f, hb1z⟩ := Bel.took hb1; have hb1z0 : w.heap.size < w1.heap.size := (by (try simp at hb1z); omega); have hb1z1 : w.heap.size + 1 < w1.heap.size := (by (try simp at hb1z); omega); clear hb1z; have hs1 : ∀ u, (w1.setCell ⟨w.heap.size, 2, none⟩ u).cell? ⟨w.heap.size, 2, none⟩ = some u := (fun u => cell_set_here _ _ _ (by simp [go_sem, hb1c])))
  go_region
  go_wp2
  refine bodyPost_ret (v := .tuple #[.string ⟨#[]⟩, scanV s k 3]) (by simp [results, Try.results28, go_sem, hb1c, hb1z0, hb1z1]) rfl ⟨rfl, ?_⟩
  exact (by repeat (first | exact Bel.refl _ | exact Bel.drew (Bel.refl _) | refine Bel.drew ?_ | refine Bel.drewN ?_ _ | refine Bel.alloc ?_ _ | refine Bel.set ?_ (by simp; try omega) _ | refine Bel.trans ?_ (by assumption)))
set_option maxHeartbeats 1000000 in
theorem rtake_ok (s : ByteArray) (k n : Nat) (w : World) (hn : k + n ≤ s.size) (hs : s.size ≤ maxLen) :
    Calls Try.prog 28 #[scanV s k 0, .int .i64 n, .bool false] w fun x w' => x = .returned (.tuple #[.string (s.extract k (k + n)), scanV s (k + n : Nat) 0]) ∧ Bel w w' := by
  unfold maxLen at hs
  have h : stands s k = true := by simp [stands]; omega
  go_enter Try.func28, Try.ntmps28
  go_wp2_with (go_at_call 31; refine (may_any _ _ _ _).mono ?_; rintro e w1 ⟨rfl, hb1⟩; obtain ⟨hb1c, hb1f, hb1z⟩ := Bel.took hb1; have hb1z0 : w.heap.size < w1.heap.size := (by (try simp at hb1z); omega); have hb1z1 : w.heap.size + 1 < w1.heap.size := (by (try simp at hb1z); omega); clear hb1z; have hs1 : ∀ u, (w1.setCell ⟨w.heap.size, 1, none⟩ u).cell? ⟨w.heap.size, 1, none⟩ = some u := (fun u => cell_set_here _ _ _ (by simp [go_sem, hb1c])))
  go_region
  go_wp2
  refine bodyPost_ret (v := .tuple #[.string (s.extract k (k + n)), scanV s (k + n : Nat) 0]) (by simp [results, Try.results28, go_sem, hb1c, hb1z0, hb1z1]) rfl ⟨rfl, ?_⟩
  exact (by repeat (first | exact Bel.refl _ | exact Bel.drew (Bel.refl _) | refine Bel.drew ?_ | refine Bel.drewN ?_ _ | refine Bel.alloc ?_ _ | refine Bel.set ?_ (by simp; try omega) _ | refine Bel.trans ?_ (by assumption)))
/-- gazetteerref01.take, whatever the scan. -/
theorem rtake_any (s : ByteArray) (p e n : Int) (wrong : Bool) (w : World) (hs : s.size ≤ maxLen) (hm : wrong = false → 0 ≤ n) :
    Calls Try.prog 28 #[scanV s p e, .int .i64 n, .bool wrong] w fun x w' => x = .returned (.tuple #[.string (takeT s p e n (!wrong)), scanV s (takeP s p e n (!wrong)) (takeE s p e n (!wrong))]) ∧ Bel w w' := by
  by_cases he : e = 0
  · subst he
    by_cases h : wrong = true ∨ stands s p = false
    · have h1 : takeE s p 0 n (!wrong) = 2 := by simp [takeE, h]
      have h2 : takeT s p 0 n (!wrong) = ⟨#[]⟩ := by simp [takeT, h1]
      have h3 : takeP s p 0 n (!wrong) = p := by simp [takeP, h1]
      rw [h1, h2, h3]
      exact rtake_arg s p n wrong w h
    · have h' := h
      simp only [not_or, Bool.not_eq_false, Bool.not_eq_true] at h'
      obtain ⟨rfl, hst⟩ := h'
      by_cases hn : (s.size : Int) - p < n
      · have h1 : takeE s p 0 n true = 3 := by simp [takeE, hst, hn]
        have h2 : takeT s p 0 n true = ⟨#[]⟩ := by simp [takeT, h1]
        have h3 : takeP s p 0 n true = p := by simp [takeP, h1]
        rw [Bool.not_false, h1, h2, h3]
        exact rtake_short s p n w hst hn hs
      · have h1 : takeE s p 0 n true = 0 := by simp [takeE, hst, hn]
        have h2 : takeT s p 0 n true = s.extract p.toNat (p + n).toNat := by simp [takeT, h1]
        have h3 : takeP s p 0 n true = p + n := by simp [takeP, h1]
        rw [Bool.not_false, h1, h2, h3]
        have hst' := hst
        simp only [stands, decide_eq_true_eq] at hst'
        obtain ⟨k, rfl⟩ : ∃ k : Nat, p = k := ⟨p.toNat, by omega⟩
        obtain ⟨m, rfl⟩ : ∃ m : Nat, n = m := ⟨n.toNat, by have := hm rfl; omega⟩
        have e1 : ((k : Int) + (m : Int)).toNat = k + m := by omega
        have e2 : ((k : Int) + (m : Int)) = ((k + m : Nat) : Int) := by omega
        rw [e1, e2, Int.toNat_natCast]
        exact rtake_ok s k m w (by omega) hs
  · have h1 : takeE s p e n (!wrong) = e := by simp [takeE, he]
    have h2 : takeT s p e n (!wrong) = ⟨#[]⟩ := by simp [takeT, h1, he]
    have h3 : takeP s p e n (!wrong) = p := by simp [takeP, h1, he]
    rw [h1, h2, h3]
    exact rtake_bad s p e n wrong w he
set_option maxHeartbeats 400000 in
theorem rbytes_any (s : ByteArray) (p e n : Int) (w : World) (hs : s.size ≤ maxLen) :
    Calls Try.prog 15 #[scanV s p e, .int .i64 n] w fun x w' => x = .returned (.tuple #[.string (takeT s p e n (decide (0 ≤ n))), scanV s (takeP s p e n (decide (0 ≤ n))) (takeE s p e n (decide (0 ≤ n)))]) ∧ Bel w w' := by
  have hd : decide (0 ≤ n) = !decide (n < 0) := by by_cases h : 0 ≤ n <;> simp [h]; omega
  rw [hd]
  clear hd
  go_enter Try.func15, Try.ntmps15
  go_wp2_with (go_at_call 28; refine (rtake_any _ _ _ _ _ _ hs (by simp)).mono ?_; rintro e w1 ⟨rfl, hb1⟩; obtain ⟨hb1c, hb1f, hb1z⟩ := Bel.took hb1; have hb1z0 : w.heap.size < w1.heap.size := (by (try simp at hb1z); omega); have hb1z1 : w.heap.size + 1 < w1.heap.size := (by (try simp at hb1z); omega); clear hb1z)
  refine bodyPost_ret (v := .tuple #[.string (takeT s p e n (!decide (n < 0))), scanV s (takeP s p e n (!decide (n < 0))) (takeE s p e n (!decide (n < 0)))]) (by simp [results, Try.results15, go_sem, hb1c, hb1z0, hb1z1]) rfl ⟨rfl, ?_⟩
  exact (by repeat (first | exact Bel.refl _ | exact Bel.drew (Bel.refl _) | refine Bel.drew ?_ | refine Bel.drewN ?_ _ | refine Bel.alloc ?_ _ | refine Bel.set ?_ (by simp; try omega) _ | refine Bel.trans ?_ (by assumption)))
end Go.Proofs.Ytnnmbmgfjbiejaa
