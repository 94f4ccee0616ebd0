/- The walk of the law package's awake: what the program tells of some bytes. No conditions. -/
import Derived.Test.YtnnmbmgfjbiejaaLittle8
import Derived.Lib.SlBytesConst
namespace Go.Proofs.Ytnnmbmgfjbiejaa
open Go.RowKit
set_option linter.unusedVariables false
set_option linter.unusedSimpArgs false
set_option maxHeartbeats 1000000 in
theorem awake_any (w : World) : Calls Try.prog 8 #[] w fun e w' => e = .returned (.bool true) ∧ Bel w w' := by
  have e1 : putL [120] 2 (258 : Int).toNat = [120, 2, 1] := by decide
  have E1 := hide e1
  clear e1
  have kc := fun (w : World) (C : Array Value) (n c : Nat) => Lib.run_convert_bytes_const (P := Try.prog) w 22 5 C n c Try.underlying22 Try.underlying5
  go_enter Try.func8, Try.ntmps8
  go_wp2_with fail
  refine (put_any (some ⟨w.heap.size, 0, none⟩) 1 [120] 2 258 _ (Rd.newM w #[.int .u8 120] _ _ 1 rfl) (fun h => by cases h) (by simp) (by omega)).mono ?_
  rintro e w1 ⟨A1, c1, rfl, hown1, hA1, hb1⟩
  rw [E1.out] at hown1 ⊢
  have hcv : ∀ W, Bel w1 W → (convert 22 9 (.slice A1 3 c1)).run Try.prog W = .ok (.string (str [120, 2, 1])) W := fun W hW => run_str ((Rd.of_own hown1).bel hW) _ _ _ Try.underlying22 Try.underlying5 Try.underlying9
  clear hA1
  go_wp2_with fail
  refine (num_any (str [120, 2, 1]) 1 0 2 _ (by decide)).mono ?_
  rintro e w2 ⟨rfl, hb2⟩
  rw [show takeT (str [120, 2, 1]) 1 0 2 (fitsB 2) = str [2, 1] from by decide +kernel, show takeP (str [120, 2, 1]) 1 0 2 (fitsB 2) = 3 from by decide +kernel, show takeE (str [120, 2, 1]) 1 0 2 (fitsB 2) = 0 from by decide +kernel, show numL (str [2, 1]).data.toList = 258 from by decide +kernel]
  go_wp2_with fail
  refine (bytes_any (str [120, 2, 1]) 3 0 1 _ (by decide)).mono ?_
  rintro e w3 ⟨rfl, hb3⟩
  rw [show takeT (str [120, 2, 1]) 3 0 1 (decide ((0 : Int) ≤ 1)) = str [] from by decide +kernel, show takeP (str [120, 2, 1]) 3 0 1 (decide ((0 : Int) ≤ 1)) = 3 from by decide +kernel, show takeE (str [120, 2, 1]) 3 0 1 (decide ((0 : Int) ≤ 1)) = 3 from by decide +kernel]
  obtain ⟨hb3c, hb3f, hb3z⟩ := Bel.took hb3; have hb3z0 : w2.heap.size < w3.heap.size := (by (try simp at hb3z); omega); clear hb3z
  have hw13 : Bel w1 w3 := (hb2.alloc _).trans hb3
  go_wp2_with fail
  refine (signed_any 255 1 _ (by omega)).mono ?_
  rintro e w4 ⟨rfl, rfl⟩
  rw [show sgnV 255 1 = -1 from by decide +kernel, show sgnE 1 = 0 from by decide +kernel]
  go_wp2_with fail
  refine (unsigned_any (-2) 2 _ (by omega)).mono ?_
  rintro e w4 ⟨rfl, rfl⟩
  rw [show unsV (-2) 2 = 65534 from by decide +kernel, show unsE (-2) 2 = 0 from by decide +kernel]
  go_wp2_with fail
  refine (unsigned_any 128 1 _ (by omega)).mono ?_
  rintro e w4 ⟨rfl, rfl⟩
  rw [show unsV 128 1 = 0 from by decide +kernel, show unsE 128 1 = 8 from by decide +kernel]
  go_wp2_with fail
  refine (end_any (str [120, 2, 1]) 3 0 _).mono ?_
  rintro e w5 ⟨rfl, hb5⟩
  rw [show endE (str [120, 2, 1]) 3 0 = 0 from by decide +kernel]
  obtain ⟨hb5c, hb5f, hb5z⟩ := Bel.took hb5; have hb5z0 : w3.heap.size < w5.heap.size := (by (try simp at hb5z); omega); clear hb5z
  go_wp2_with fail
  refine (rest_any (str [97, 98]) 0 0 _ (by decide)).mono ?_
  rintro e w6 ⟨rfl, hb6⟩
  rw [show restS (str [97, 98]) 0 0 = str [97, 98] from by decide +kernel]
  go_wp2_with fail
  go_ret
  exact ⟨rfl, (by repeat (first | exact Bel.refl _ | exact Bel.drew (Bel.refl _) | refine Bel.drew ?_ | refine Bel.drewN ?_ _ | refine Bel.alloc ?_ _ | refine Bel.set ?_ (by simp; try omega) _ | refine Bel.trans ?_ (by assumption)))⟩
end Go.Proofs.Ytnnmbmgfjbiejaa
