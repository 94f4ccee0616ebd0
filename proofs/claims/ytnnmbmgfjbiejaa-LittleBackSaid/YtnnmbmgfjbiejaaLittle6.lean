/- The walks of little's reference, and of what the law's package adds: the number, the rest, the end; a scan made of the other's. Condition: a text's length is one that a text may have. -/
import Derived.Test.YtnnmbmgfjbiejaaLittle5
namespace Go.Proofs.Ytnnmbmgfjbiejaa
open Go.RowKit
set_option linter.unusedVariables false
set_option linter.unusedSimpArgs false
set_option maxHeartbeats 1000000 in
theorem rnum_any (s : ByteArray) (p e n : Int) (w : World) (hs : s.size ≤ maxLen) :
    Calls Try.prog 13 #[scanV s p e, .int .i64 n] w fun x w' => x = .returned (.tuple #[.int .u64 (numL (takeT s p e n (fitsB n)).data.toList), scanV s (takeP s p e n (fitsB n)) (takeE s p e n (fitsB n))]) ∧ Bel w w' := by
  have hm : fitsB n = true → 0 ≤ n ∧ n ≤ 8 := by intro h; simp [fitsB] at h; omega
  have ht := takeT_size s p e n (fitsB n) hm
  generalize hT : takeT s p e n (fitsB n) = T at ht
  have HT := hide hT
  clear hT
  have HW : Hid ((decide (n < 1) || decide (8 < n)) = !fitsB n) := by
    apply hide
    rw [fitsB]
    by_cases h1 : 1 ≤ n <;> by_cases h2 : n ≤ 8 <;> simp [h1, h2] <;> omega
  have HM : Hid ((!fitsB n) = false → 0 ≤ n) := hide (fun h => (hm (by simpa using h)).1)
  clear hm
  by_cases h1 : n < 1
  · have HF : Hid (fitsB n = false) := hide (by simp [fitsB]; omega)
    go_enter Try.func13, Try.ntmps13
    go_wp2_with (go_at_call 28; refine (rtake_any s p e n true _ hs (by intro h; cases h)).mono ?_; rintro e w1 ⟨rfl, hb1⟩; rw [show (!true) = fitsB n from HF.out.symm, HT.out]; obtain ⟨hb1c, hb1f, hb1z⟩ := Bel.took hb1; have hb1z0 : w.heap.size < w1.heap.size := (by (try simp at hb1z); omega); have hb1z1 : w.heap.size + 1 < w1.heap.size := (by (try simp at hb1z); omega); clear hb1z)
    go_region_with (go_at_call 29; refine (number_any T _ ht).mono ?_; rintro e w2 ⟨rfl, rfl⟩)
    all_goals
      go_wp2
      refine bodyPost_ret (v := .tuple #[.int .u64 (numL T.data.toList), scanV s (takeP s p e n (fitsB n)) (takeE s p e n (fitsB n))]) (by simp [results, Try.results13, go_sem, hb1c, hb1z0, hb1z1]) rfl ⟨rfl, ?_⟩
      exact (by repeat (first | exact Bel.refl _ | exact Bel.drew (Bel.refl _) | refine Bel.drew ?_ | refine Bel.drewN ?_ _ | refine Bel.alloc ?_ _ | refine Bel.set ?_ (by simp; try omega) _ | refine Bel.trans ?_ (by assumption)))
  · have h2 : 1 ≤ n := by omega
    have HW2 : Hid (decide (8 < n) = !fitsB n) := by
      apply hide
      rw [fitsB]
      by_cases h3 : n ≤ 8 <;> simp [h2, h3] <;> omega
    go_enter Try.func13, Try.ntmps13
    go_wp2_with (go_at_call 28; (first | rw [HW.out] | rw [HW2.out]); refine (rtake_any s p e n (!fitsB n) _ hs HM.out).mono ?_; rintro e w1 ⟨rfl, hb1⟩; rw [Bool.not_not, HT.out]; obtain ⟨hb1c, hb1f, hb1z⟩ := Bel.took hb1; have hb1z0 : w.heap.size < w1.heap.size := (by (try simp at hb1z); omega); have hb1z1 : w.heap.size + 1 < w1.heap.size := (by (try simp at hb1z); omega); clear hb1z)
    go_region_with (go_at_call 29; refine (number_any T _ ht).mono ?_; rintro e w2 ⟨rfl, rfl⟩)
    all_goals
      go_wp2
      refine bodyPost_ret (v := .tuple #[.int .u64 (numL T.data.toList), scanV s (takeP s p e n (fitsB n)) (takeE s p e n (fitsB n))]) (by simp [results, Try.results13, go_sem, hb1c, hb1z0, hb1z1]) rfl ⟨rfl, ?_⟩
      exact (by repeat (first | exact Bel.refl _ | exact Bel.drew (Bel.refl _) | refine Bel.drew ?_ | refine Bel.drewN ?_ _ | refine Bel.alloc ?_ _ | refine Bel.set ?_ (by simp; try omega) _ | refine Bel.trans ?_ (by assumption)))
set_option maxHeartbeats 400000 in
theorem rrest_any (s : ByteArray) (p e : Int) (w : World) (hs : s.size ≤ maxLen) :
    Calls Try.prog 18 #[scanV s p e] w fun x w' => x = .returned (.string (restS s p e)) ∧ Bel w w' := by
  by_cases he : e = 0
  · subst he
    cases h : stands s p with
    | false =>
      go_enter Try.func18, Try.ntmps18
      go_wp2_with (go_at_call 31; refine (may_any _ _ _ _).mono ?_; rintro e w1 ⟨rfl, hb1⟩; obtain ⟨hb1c, hb1f, hb1z⟩ := Bel.took hb1; have hb1z0 : w.heap.size < w1.heap.size := (by (try simp at hb1z); omega); clear hb1z)
      go_ret
      exact ⟨by simp [restS, h], (by repeat (first | exact Bel.refl _ | exact Bel.drew (Bel.refl _) | refine Bel.drew ?_ | refine Bel.drewN ?_ _ | refine Bel.alloc ?_ _ | refine Bel.set ?_ (by simp; try omega) _ | refine Bel.trans ?_ (by assumption)))⟩
    | true =>
      have h' := h
      simp only [stands, decide_eq_true_eq] at h'
      obtain ⟨k, rfl⟩ : ∃ k : Nat, p = k := ⟨p.toNat, by omega⟩
      have hk : k ≤ s.size := by omega
      clear h'
      go_enter Try.func18, Try.ntmps18
      go_wp2_with (go_at_call 31; refine (may_any _ _ _ _).mono ?_; rintro e w1 ⟨rfl, hb1⟩; obtain ⟨hb1c, hb1f, hb1z⟩ := Bel.took hb1; have hb1z0 : w.heap.size < w1.heap.size := (by (try simp at hb1z); omega); clear hb1z)
      go_ret
      exact ⟨by simp [restS, h], (by repeat (first | exact Bel.refl _ | exact Bel.drew (Bel.refl _) | refine Bel.drew ?_ | refine Bel.drewN ?_ _ | refine Bel.alloc ?_ _ | refine Bel.set ?_ (by simp; try omega) _ | refine Bel.trans ?_ (by assumption)))⟩
  · have h1 : (e != 0) = true := by simp [he]
    go_enter Try.func18, Try.ntmps18
    go_wp2_with fail
    go_ret
    exact ⟨by simp [restS, he], (by repeat (first | exact Bel.refl _ | exact Bel.drew (Bel.refl _) | refine Bel.drew ?_ | refine Bel.drewN ?_ _ | refine Bel.alloc ?_ _ | refine Bel.set ?_ (by simp; try omega) _ | refine Bel.trans ?_ (by assumption)))⟩
set_option maxHeartbeats 400000 in
theorem rend_any (s : ByteArray) (p e : Int) (w : World) :
    Calls Try.prog 20 #[scanV s p e] w fun x w' => x = .returned (.int .i64 (endE s p e)) ∧ Bel w w' := by
  by_cases he : e = 0
  · subst he
    cases h : stands s p with
    | false =>
      go_enter Try.func20, Try.ntmps20
      go_wp2_with (go_at_call 31; refine (may_any _ _ _ _).mono ?_; rintro e w1 ⟨rfl, hb1⟩; obtain ⟨hb1c, hb1f, hb1z⟩ := Bel.took hb1; have hb1z0 : w.heap.size < w1.heap.size := (by (try simp at hb1z); omega); clear hb1z)
      go_ret
      exact ⟨by simp [endE, h], (by repeat (first | exact Bel.refl _ | exact Bel.drew (Bel.refl _) | refine Bel.drew ?_ | refine Bel.drewN ?_ _ | refine Bel.alloc ?_ _ | refine Bel.set ?_ (by simp; try omega) _ | refine Bel.trans ?_ (by assumption)))⟩
    | true =>
      by_cases hp : p < s.size
      · go_enter Try.func20, Try.ntmps20
        go_wp2_with (go_at_call 31; refine (may_any _ _ _ _).mono ?_; rintro e w1 ⟨rfl, hb1⟩; obtain ⟨hb1c, hb1f, hb1z⟩ := Bel.took hb1; have hb1z0 : w.heap.size < w1.heap.size := (by (try simp at hb1z); omega); clear hb1z)
        go_ret
        exact ⟨by simp [endE, h, hp], (by repeat (first | exact Bel.refl _ | exact Bel.drew (Bel.refl _) | refine Bel.drew ?_ | refine Bel.drewN ?_ _ | refine Bel.alloc ?_ _ | refine Bel.set ?_ (by simp; try omega) _ | refine Bel.trans ?_ (by assumption)))⟩
      · go_enter Try.func20, Try.ntmps20
        go_wp2_with (go_at_call 31; refine (may_any _ _ _ _).mono ?_; rintro e w1 ⟨rfl, hb1⟩; obtain ⟨hb1c, hb1f, hb1z⟩ := Bel.took hb1; have hb1z0 : w.heap.size < w1.heap.size := (by (try simp at hb1z); omega); clear hb1z)
        go_ret
        exact ⟨by simp [endE, h, hp], (by repeat (first | exact Bel.refl _ | exact Bel.drew (Bel.refl _) | refine Bel.drew ?_ | refine Bel.drewN ?_ _ | refine Bel.alloc ?_ _ | refine Bel.set ?_ (by simp; try omega) _ | refine Bel.trans ?_ (by assumption)))⟩
  · have h1 : (e != 0) = true := by simp [he]
    go_enter Try.func20, Try.ntmps20
    go_wp2_with fail
    go_ret
    exact ⟨by simp [endE, he], (by repeat (first | exact Bel.refl _ | exact Bel.drew (Bel.refl _) | refine Bel.drew ?_ | refine Bel.drewN ?_ _ | refine Bel.alloc ?_ _ | refine Bel.set ?_ (by simp; try omega) _ | refine Bel.trans ?_ (by assumption)))⟩
set_option maxHeartbeats 400000 in
theorem own_any (s : ByteArray) (p e : Int) (w : World) :
    Calls Try.prog 11 #[scanV s p e] w fun x w' => x = .returned (scanV s p e) ∧ Bel w w' := by
  go_enter Try.func11, Try.ntmps11
  go_wp2
  refine bodyPost_ret (v := scanV s p e) (by simp [results, Try.results11, go_sem]) rfl ⟨rfl, ?_⟩
  exact (by repeat (first | exact Bel.refl _ | exact Bel.drew (Bel.refl _) | refine Bel.drew ?_ | refine Bel.drewN ?_ _ | refine Bel.alloc ?_ _ | refine Bel.set ?_ (by simp; try omega) _ | refine Bel.trans ?_ (by assumption)))
set_option maxHeartbeats 400000 in
theorem back_any (s : ByteArray) (p e : Int) (w : World) :
    Calls Try.prog 16 #[scanV s p e] w fun x w' => x = .returned (scanV s p e) ∧ Bel w w' := by
  go_enter Try.func16, Try.ntmps16
  go_wp2
  refine bodyPost_ret (v := scanV s p e) (by simp [results, Try.results16, go_sem]) rfl ⟨rfl, ?_⟩
  exact (by repeat (first | exact Bel.refl _ | exact Bel.drew (Bel.refl _) | refine Bel.drew ?_ | refine Bel.drewN ?_ _ | refine Bel.alloc ?_ _ | refine Bel.set ?_ (by simp; try omega) _ | refine Bel.trans ?_ (by assumption)))
end Go.Proofs.Ytnnmbmgfjbiejaa
