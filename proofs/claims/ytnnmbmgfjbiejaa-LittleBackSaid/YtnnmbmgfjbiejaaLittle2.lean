/- The walks of package little: what takes bytes and numbers off a scan. Condition: a text's length is one that a text may have. -/
import Derived.Test.YtnnmbmgfjbiejaaLittle
namespace Go.Proofs.Ytnnmbmgfjbiejaa
open Go.RowKit
set_option linter.unusedVariables false
set_option linter.unusedSimpArgs false
def restS (s : ByteArray) (p e : Int) : ByteArray := if e ≠ 0 ∨ stands s p = false then ⟨#[]⟩ else s.extract p.toNat s.size
def endE (s : ByteArray) (p e : Int) : Int := if e ≠ 0 then e else if stands s p = false then 2 else if p < s.size then 4 else 0
set_option maxHeartbeats 400000 in
theorem bytes_any (s : ByteArray) (p e n : Int) (w : World) (hs : s.size ≤ maxLen) :
    Calls Try.prog 14 #[scanV s p e, .int .i64 n] w fun x w' => x = .returned (.tuple #[.string (takeT s p e n (decide (0 ≤ n))), scanV s (takeP s p e n (decide (0 ≤ n))) (takeE s p e n (decide (0 ≤ n)))]) ∧ Bel w w' := by
  go_enter Try.func14, Try.ntmps14
  go_wp2_with (go_at_call 27; refine (cut_any _ _ _ _ _ _ hs (by simp)).mono ?_; rintro e w1 ⟨rfl, hb1⟩; obtain ⟨hb1c, hb1f, hb1z⟩ := Bel.took hb1; have hb1z0 : w.heap.size < w1.heap.size := (by (try simp at hb1z); omega); have hb1z1 : w.heap.size + 1 < w1.heap.size := (by (try simp at hb1z); omega); clear hb1z)
  refine bodyPost_ret (v := .tuple #[.string (takeT s p e n (decide (0 ≤ n))), scanV s (takeP s p e n (decide (0 ≤ n))) (takeE s p e n (decide (0 ≤ n)))]) (by simp [results, Try.results14, go_sem, hb1c, hb1z0, hb1z1]) rfl ⟨rfl, ?_⟩
  exact (by repeat (first | exact Bel.refl _ | exact Bel.drew (Bel.refl _) | refine Bel.drew ?_ | refine Bel.drewN ?_ _ | refine Bel.alloc ?_ _ | refine Bel.set ?_ (by simp; try omega) _ | refine Bel.trans ?_ (by assumption)))
set_option maxHeartbeats 400000 in
theorem rest_any (s : ByteArray) (p e : Int) (w : World) (hs : s.size ≤ maxLen) :
    Calls Try.prog 17 #[scanV s p e] w fun x w' => x = .returned (.string (restS s p e)) ∧ Bel w w' := by
  by_cases he : e = 0
  · subst he
    cases h : stands s p with
    | false =>
      go_enter Try.func17, Try.ntmps17
      go_wp2_with (go_at_call 30; refine (stands_any _ _ _ _).mono ?_; rintro e w1 ⟨rfl, hb1⟩; obtain ⟨hb1c, hb1f, hb1z⟩ := Bel.took hb1; have hb1z0 : w.heap.size < w1.heap.size := (by (try simp at hb1z); omega); clear hb1z)
      go_ret
      exact ⟨by simp [restS, h], (by repeat (first | exact Bel.refl _ | exact Bel.drew (Bel.refl _) | refine Bel.drew ?_ | refine Bel.drewN ?_ _ | refine Bel.alloc ?_ _ | refine Bel.set ?_ (by simp; try omega) _ | refine Bel.trans ?_ (by assumption)))⟩
    | true =>
      have h' := h
      simp only [stands, decide_eq_true_eq] at h'
      obtain ⟨k, rfl⟩ : ∃ k : Nat, p = k := ⟨p.toNat, by omega⟩
      have hk : k ≤ s.size := by omega
      clear h'
      go_enter Try.func17, Try.ntmps17
      go_wp2_with (go_at_call 30; refine (stands_any _ _ _ _).mono ?_; rintro e w1 ⟨rfl, hb1⟩; obtain ⟨hb1c, hb1f, hb1z⟩ := Bel.took hb1; have hb1z0 : w.heap.size < w1.heap.size := (by (try simp at hb1z); omega); clear hb1z)
      go_ret
      exact ⟨by simp [restS, h], (by repeat (first | exact Bel.refl _ | exact Bel.drew (Bel.refl _) | refine Bel.drew ?_ | refine Bel.drewN ?_ _ | refine Bel.alloc ?_ _ | refine Bel.set ?_ (by simp; try omega) _ | refine Bel.trans ?_ (by assumption)))⟩
  · have h1 : (e != 0) = true := by simp [he]
    go_enter Try.func17, Try.ntmps17
    go_wp2_with fail
    go_ret
    exact ⟨by simp [restS, he], (by repeat (first | exact Bel.refl _ | exact Bel.drew (Bel.refl _) | refine Bel.drew ?_ | refine Bel.drewN ?_ _ | refine Bel.alloc ?_ _ | refine Bel.set ?_ (by simp; try omega) _ | refine Bel.trans ?_ (by assumption)))⟩
set_option maxHeartbeats 400000 in
theorem end_any (s : ByteArray) (p e : Int) (w : World) :
    Calls Try.prog 19 #[scanV s p e] w fun x w' => x = .returned (.int .i64 (endE s p e)) ∧ Bel w w' := by
  by_cases he : e = 0
  · subst he
    cases h : stands s p with
    | false =>
      go_enter Try.func19, Try.ntmps19
      go_wp2_with (go_at_call 30; refine (stands_any _ _ _ _).mono ?_; rintro e w1 ⟨rfl, hb1⟩; obtain ⟨hb1c, hb1f, hb1z⟩ := Bel.took hb1; have hb1z0 : w.heap.size < w1.heap.size := (by (try simp at hb1z); omega); clear hb1z)
      go_ret
      exact ⟨by simp [endE, h], (by repeat (first | exact Bel.refl _ | exact Bel.drew (Bel.refl _) | refine Bel.drew ?_ | refine Bel.drewN ?_ _ | refine Bel.alloc ?_ _ | refine Bel.set ?_ (by simp; try omega) _ | refine Bel.trans ?_ (by assumption)))⟩
    | true =>
      by_cases hp : p < s.size
      · go_enter Try.func19, Try.ntmps19
        go_wp2_with (go_at_call 30; refine (stands_any _ _ _ _).mono ?_; rintro e w1 ⟨rfl, hb1⟩; obtain ⟨hb1c, hb1f, hb1z⟩ := Bel.took hb1; have hb1z0 : w.heap.size < w1.heap.size := (by (try simp at hb1z); omega); clear hb1z)
        go_ret
        exact ⟨by simp [endE, h, hp], (by repeat (first | exact Bel.refl _ | exact Bel.drew (Bel.refl _) | refine Bel.drew ?_ | refine Bel.drewN ?_ _ | refine Bel.alloc ?_ _ | refine Bel.set ?_ (by simp; try omega) _ | refine Bel.trans ?_ (by assumption)))⟩
      · go_enter Try.func19, Try.ntmps19
        go_wp2_with (go_at_call 30; refine (stands_any _ _ _ _).mono ?_; rintro e w1 ⟨rfl, hb1⟩; obtain ⟨hb1c, hb1f, hb1z⟩ := Bel.took hb1; have hb1z0 : w.heap.size < w1.heap.size := (by (try simp at hb1z); omega); clear hb1z)
        go_ret
        exact ⟨by simp [endE, h, hp], (by repeat (first | exact Bel.refl _ | exact Bel.drew (Bel.refl _) | refine Bel.drew ?_ | refine Bel.drewN ?_ _ | refine Bel.alloc ?_ _ | refine Bel.set ?_ (by simp; try omega) _ | refine Bel.trans ?_ (by assumption)))⟩
  · have h1 : (e != 0) = true := by simp [he]
    go_enter Try.func19, Try.ntmps19
    go_wp2_with fail
    go_ret
    exact ⟨by simp [endE, he], (by repeat (first | exact Bel.refl _ | exact Bel.drew (Bel.refl _) | refine Bel.drew ?_ | refine Bel.drewN ?_ _ | refine Bel.alloc ?_ _ | refine Bel.set ?_ (by simp; try omega) _ | refine Bel.trans ?_ (by assumption)))⟩
end Go.Proofs.Ytnnmbmgfjbiejaa
