/- How many places of a square have a property: as many as its tiles have it. Plain laws. -/
import Derived.Test.YtbldhokgbcljjaaCv1
import Derived.Test.YtbldhokgbcljjaaMk2
namespace Go.Proofs.Ytbldhokgbcljjaa
open Go.RowKit
set_option linter.unusedVariables false
set_option linter.unusedSimpArgs false
theorem cntB_add (p : Nat → Bool) (m : Nat) : ∀ n, cntB p (m + n) = cntB p m + cntB (fun k => p (m + k)) n
  | 0 => rfl
  | n + 1 => by
    rw [← Nat.add_assoc, cntB, cntB, cntB_add p m n]
    omega
/-- A sum over the first numbers. -/
def sumN (f : Nat → Nat) : Nat → Nat
  | 0 => 0
  | n + 1 => sumN f n + f n
theorem sumN_congr {f g : Nat → Nat} : ∀ n, (∀ k, k < n → f k = g k) → sumN f n = sumN g n
  | 0, _ => rfl
  | n + 1, h => by rw [sumN, sumN, sumN_congr n (fun k hk => h k (by omega)), h n (Nat.lt_succ_self n)]
theorem sumN_add (f : Nat → Nat) (m : Nat) : ∀ n, sumN f (m + n) = sumN f m + sumN (fun k => f (m + k)) n
  | 0 => rfl
  | n + 1 => by rw [← Nat.add_assoc, sumN, sumN, sumN_add f m n]; omega
theorem sumN_plus (f g : Nat → Nat) : ∀ n, sumN (fun k => f k + g k) n = sumN f n + sumN g n
  | 0 => rfl
  | n + 1 => by rw [sumN, sumN, sumN, sumN_plus f g n]; omega
theorem sumN_zero : ∀ n, sumN (fun _ => 0) n = 0
  | 0 => rfl
  | n + 1 => by rw [sumN, sumN_zero n]
theorem cntB_sum (p : Nat → Bool) : ∀ n, cntB p n = sumN (fun k => if p k then 1 else 0) n
  | 0 => rfl
  | n + 1 => by rw [cntB, sumN, cntB_sum p n]
theorem sumN_swap (f : Nat → Nat → Nat) : ∀ n m, sumN (fun x => sumN (fun y => f x y) m) n = sumN (fun y => sumN (fun x => f x y) n) m
  | 0, m => by
    show 0 = sumN (fun _ => 0) m
    rw [sumN_zero]
  | n + 1, m => by
    rw [sumN, sumN_swap f n m]
    show _ = sumN (fun y => sumN (fun x => f x y) n + f n y) m
    rw [sumN_plus]
theorem sumN_rev (f : Nat → Nat) : ∀ n, sumN (fun k => f (n - 1 - k)) n = sumN f n
  | 0 => rfl
  | n + 1 => by
    have h := sumN_rev f n
    rw [Nat.add_comm n 1, sumN_add]
    have e : sumN (fun k => f (1 + n - 1 - (1 + k))) n = sumN (fun k => f (n - 1 - k)) n := sumN_congr n fun k hk => by congr 1; omega
    rw [e, h, Nat.add_comm 1 n]
    show (sumN (fun k => f (n + 1 - 1 - k)) 0 + f (n + 1 - 1 - 0)) + sumN f n = sumN f n + f n
    show 0 + f (n + 1 - 1 - 0) + sumN f n = sumN f n + f n
    rw [show n + 1 - 1 - 0 = n by omega]
    omega
def ind (P : Nat → Nat → Bool) (x y : Nat) : Nat := if P x y then 1 else 0
/-- How many tiles of a rectangle from the corner on have a property. -/
def grid (P : Nat → Nat → Bool) (n m : Nat) : Nat := sumN (fun x => sumN (fun y => ind P x y) m) n
theorem cnt_pt : ∀ (z : Nat) (P : Nat → Nat → Bool), cntB (fun d => P (pt z d).1 (pt z d).2) (4 ^ z) = grid P (2 ^ z) (2 ^ z)
  | 0, P => by
    show cntB _ 1 = grid P 1 1
    show 0 + (if P 0 0 then 1 else 0) = (0 + (0 + ind P 0 0))
    simp [ind]
  | z + 1, P => by
    have hq := pow4_pos z
    have e4 : 4 ^ (z + 1) = 4 ^ z + (4 ^ z + (4 ^ z + 4 ^ z)) := by rw [Nat.pow_succ]; omega
    have e2 : 2 ^ (z + 1) = 2 ^ z + 2 ^ z := by rw [Nat.pow_succ]; omega
    rw [e4, cntB_add, cntB_add, cntB_add]
    obtain ⟨q, hqe⟩ : ∃ q, 4 ^ z = q := ⟨_, rfl⟩
    have hp : ∀ k d, d < q → (k * q + d) / q = k ∧ (k * q + d) % q = d := fun k d hd => div_is hd
    have a0 : cntB (fun d => P (pt (z + 1) d).1 (pt (z + 1) d).2) q = grid P (2 ^ z) (2 ^ z) := by
      rw [cntB_congr (q := fun d => (fun x y => P y x) (pt z d).1 (pt z d).2) q fun d hd => by
        have h := hp 0 d hd
        rw [Nat.zero_mul, Nat.zero_add] at h
        show P _ _ = P _ _
        rw [pt, hqe, h.1, h.2, if_pos rfl]]
      rw [← hqe, cnt_pt z (fun x y => P y x)]
      exact sumN_swap (fun x y => ind P y x) _ _
    have a1 : cntB (fun d => P (pt (z + 1) (q + d)).1 (pt (z + 1) (q + d)).2) q = grid (fun x y => P x (2 ^ z + y)) (2 ^ z) (2 ^ z) := by
      rw [cntB_congr (q := fun d => (fun x y => P x (2 ^ z + y)) (pt z d).1 (pt z d).2) q fun d hd => by
        have h := hp 1 d hd
        rw [Nat.one_mul] at h
        show P _ _ = P _ _
        rw [pt, hqe, h.1, h.2, if_neg (by decide), if_pos rfl, Nat.add_comm (2 ^ z)]]
      rw [← hqe]
      exact cnt_pt z (fun x y => P x (2 ^ z + y))
    have a2 : cntB (fun d => P (pt (z + 1) (q + (q + d))).1 (pt (z + 1) (q + (q + d))).2) q = grid (fun x y => P (2 ^ z + x) (2 ^ z + y)) (2 ^ z) (2 ^ z) := by
      rw [cntB_congr (q := fun d => (fun x y => P (2 ^ z + x) (2 ^ z + y)) (pt z d).1 (pt z d).2) q fun d hd => by
        have h := hp 2 d hd
        rw [show 2 * q + d = q + (q + d) by omega] at h
        show P _ _ = P _ _
        rw [pt, hqe, h.1, h.2, if_neg (by decide), if_neg (by decide), if_pos rfl, Nat.add_comm (2 ^ z), Nat.add_comm (2 ^ z)]]
      rw [← hqe]
      exact cnt_pt z (fun x y => P (2 ^ z + x) (2 ^ z + y))
    have a3 : cntB (fun d => P (pt (z + 1) (q + (q + (q + d)))).1 (pt (z + 1) (q + (q + (q + d)))).2) q = grid (fun x y => P (2 ^ z + x) y) (2 ^ z) (2 ^ z) := by
      rw [cntB_congr (q := fun d => (fun x y => P (2 ^ z + (2 ^ z - 1 - y)) (2 ^ z - 1 - x)) (pt z d).1 (pt z d).2) q fun d hd => by
        have h := hp 3 d hd
        rw [show 3 * q + d = q + (q + (q + d)) by omega] at h
        show P _ _ = P _ _
        rw [pt, hqe, h.1, h.2, if_neg (by decide), if_neg (by decide), if_neg (by decide), Nat.add_comm (2 ^ z)]]
      rw [← hqe, cnt_pt z (fun x y => P (2 ^ z + (2 ^ z - 1 - y)) (2 ^ z - 1 - x))]
      show sumN (fun x => sumN (fun y => ind P (2 ^ z + (2 ^ z - 1 - y)) (2 ^ z - 1 - x)) (2 ^ z)) (2 ^ z) = _
      have r1 : ∀ x, sumN (fun y => ind P (2 ^ z + (2 ^ z - 1 - y)) (2 ^ z - 1 - x)) (2 ^ z) = sumN (fun y => ind P (2 ^ z + y) (2 ^ z - 1 - x)) (2 ^ z) := fun x => sumN_rev (fun y => ind P (2 ^ z + y) (2 ^ z - 1 - x)) (2 ^ z)
      rw [sumN_congr _ fun x _ => r1 x, sumN_rev (fun x => sumN (fun y => ind P (2 ^ z + y) x) (2 ^ z)) (2 ^ z)]
      exact sumN_swap (fun x y => ind P (2 ^ z + y) x) _ _
    rw [hqe, a0, a1, a2, a3, e2]
    show _ = sumN (fun x => sumN (fun y => ind P x y) (2 ^ z + 2 ^ z)) (2 ^ z + 2 ^ z)
    rw [sumN_add]
    have s1 : ∀ f : Nat → Nat → Nat, sumN (fun x => sumN (fun y => f x y) (2 ^ z + 2 ^ z)) (2 ^ z) = sumN (fun x => sumN (fun y => f x y) (2 ^ z)) (2 ^ z) + sumN (fun x => sumN (fun y => f x (2 ^ z + y)) (2 ^ z)) (2 ^ z) := fun f => by
      rw [sumN_congr _ fun x _ => sumN_add (fun y => f x y) (2 ^ z) (2 ^ z), sumN_plus]
    rw [s1 (fun x y => ind P x y), s1 (fun x y => ind P (2 ^ z + x) y)]
    show sumN (fun x => sumN (fun y => ind P x y) (2 ^ z)) (2 ^ z) + (sumN (fun x => sumN (fun y => ind P x (2 ^ z + y)) (2 ^ z)) (2 ^ z) + (sumN (fun x => sumN (fun y => ind P (2 ^ z + x) (2 ^ z + y)) (2 ^ z)) (2 ^ z) + sumN (fun x => sumN (fun y => ind P (2 ^ z + x) y) (2 ^ z)) (2 ^ z))) = _
    omega
theorem grid_rect (x0 x1 y0 y1 n m : Nat) (hx : x1 < n) (hy : y1 < m) : grid (fun x y => decide (x0 ≤ x ∧ x ≤ x1) && decide (y0 ≤ y ∧ y ≤ y1)) n m = (x1 + 1 - x0) * (y1 + 1 - y0) := by
  have h1 : ∀ x, sumN (fun y => ind (fun x y => decide (x0 ≤ x ∧ x ≤ x1) && decide (y0 ≤ y ∧ y ≤ y1)) x y) m = if x0 ≤ x ∧ x ≤ x1 then y1 + 1 - y0 else 0 := fun x => by
    by_cases hc : x0 ≤ x ∧ x ≤ x1
    · rw [if_pos hc, sumN_congr (g := fun y => if decide (y0 ≤ y ∧ y ≤ y1) then 1 else 0) m fun y _ => by simp [ind, hc]]
      rw [← cntB_sum, cntB_span]
      omega
    · rw [if_neg hc, sumN_congr (g := fun _ => 0) m fun y _ => by simp [ind, hc]]
      exact sumN_zero m
  unfold grid
  rw [sumN_congr n fun x _ => h1 x]
  have h2 : ∀ c n, sumN (fun x => if x0 ≤ x ∧ x ≤ x1 then c else 0) n = (min n (x1 + 1) - x0) * c := fun c n => by
    induction n with
    | zero => simp [sumN]
    | succ n ih =>
      rw [sumN, ih]
      by_cases hc : x0 ≤ n ∧ n ≤ x1
      · rw [if_pos hc, show min (n + 1) (x1 + 1) - x0 = min n (x1 + 1) - x0 + 1 by omega, Nat.add_mul, Nat.one_mul]
      · rw [if_neg hc, show min (n + 1) (x1 + 1) - x0 = min n (x1 + 1) - x0 by omega]
        rfl
  rw [h2, show min n (x1 + 1) = x1 + 1 by omega]
end Go.Proofs.Ytbldhokgbcljjaa
