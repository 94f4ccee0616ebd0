/- The walks of package little and of its reference: bytes as a number. Condition: a text's length is one that a text may have. -/
import Derived.Test.YtkcbdidaahgfhaaLittle3
namespace Go.Proofs.Ytkcbdidaahgfhaa
open Go.RowKit
set_option linter.unusedVariables false
set_option linter.unusedSimpArgs false
/-- The number of bytes, the least one first. -/
def numL : List UInt8 → Nat
  | [] => 0
  | c :: l => c.toNat + 256 * numL l
theorem numL_lt : ∀ l : List UInt8, numL l < 256 ^ l.length
  | [] => by simp [numL]
  | c :: l => by
    have h1 := numL_lt l
    have h2 : c.toNat < 256 := c.toNat_lt
    simp only [numL, List.length_cons, Nat.pow_succ]
    omega
theorem pow_le8 {n : Nat} (h : n ≤ 8) : 256 ^ n ≤ 18446744073709551616 := by
  have : 256 ^ n ≤ 256 ^ 8 := Nat.pow_le_pow_right (by omega) h
  simpa using this
theorem pow_le7 {n : Nat} (h : n ≤ 7) : 256 ^ n ≤ 72057594037927936 := by
  have : 256 ^ n ≤ 256 ^ 7 := Nat.pow_le_pow_right (by omega) h
  simpa using this
theorem drop_at (s : ByteArray) (j : Nat) (h : j < s.size) : s.data.toList.drop j = s[j] :: s.data.toList.drop (j + 1) := by
  rw [List.drop_eq_getElem_cons (by simpa using h)]; rfl
set_option maxHeartbeats 400000 in
theorem number_any (s : ByteArray) (w : World) (hs : s.size ≤ 8) :
    Calls Try.prog 56 #[.string s] w fun e w' => e = .returned (.int .u64 (numL s.data.toList)) ∧ w = w' := by
  go_enter Try.func56, Try.ntmps56
  go_wp2
  go_loop [3, 4] (fun n i => ∃ k : Nat, k ≤ s.size ∧ i = .int .i64 ((k : Int) - 1) ∧ n = .int .u64 (numL (s.data.toList.drop k))) (fun _ i => (intOf i + 1).toNat)
  case atStart => exact ⟨s.size, Nat.le_refl _, rfl, by rw [List.drop_of_length_le (by simp)]; rfl⟩
  case round =>
    obtain ⟨k, hk, rfl, rfl⟩ := hrel
    rcases k with _ | j
    · go_wp2
      go_ret
      exact ⟨by simp, rfl⟩
    · have hj : j < s.size := by omega
      have hd := drop_at s j hj
      have hb1 : numL (s.data.toList.drop (j + 1)) < 72057594037927936 := Nat.lt_of_lt_of_le (numL_lt _) (pow_le7 (by simp; omega))
      have hb2 : (s[j]).toNat < 256 := (s[j]).toNat_lt
      have HD := hide hd
      clear hd
      go_wp2
      go_round
      case rel =>
        refine ⟨j, by omega, rfl, ?_⟩
        rw [HD.out]
        exact congrArg (Value.int _) (by simp only [numL]; omega)
      case measure => simp [intOf]
theorem takeT_size (s : ByteArray) (p e n : Int) (m : Bool) (hm : m = true → 0 ≤ n ∧ n ≤ 8) : (takeT s p e n m).size ≤ 8 := by
  unfold takeT
  split
  · rename_i h
    have h1 : m = true ∧ stands s p = true := by
      unfold takeE at h
      split at h
      · omega
      · split at h
        · omega
        · rename_i h'; simpa using h'
    have h2 := hm h1.1
    have h3 : 0 ≤ p ∧ p ≤ s.size := by have := h1.2; simpa [stands] using this
    simp
    omega
  · exact Nat.zero_le _
theorem or_place (a c k : Nat) (ha : a < 2 ^ k) : a ||| (c * 2 ^ k) = a + c * 2 ^ k := by
  rw [Nat.or_comm, Nat.mul_comm, ← Nat.two_pow_add_eq_or_of_lt ha, Nat.add_comm]
theorem numL_snoc : ∀ (l : List UInt8) (c : UInt8), numL (l ++ [c]) = numL l + c.toNat * 256 ^ l.length
  | [], c => by simp [numL]
  | b :: l, c => by simp only [List.cons_append, numL, numL_snoc l c, List.length_cons, Nat.pow_succ]; rw [Nat.mul_add, Nat.add_assoc]; congr 2; rw [Nat.mul_comm, Nat.mul_assoc]
theorem take_at (s : ByteArray) (k : Nat) (h : k < s.size) : s.data.toList.take (k + 1) = s.data.toList.take k ++ [s[k]] := by
  rw [List.take_succ_eq_append_getElem (by simpa using h)]; rfl
theorem or_step (a c k : Nat) (hk : k < 8) (ha : a < 256 ^ k) (hc : c < 256) : bits .or .u64 (a : Int) (IntKind.u64.wrap ((c : Int) * 2 ^ (8 * k))) = ((a + c * 256 ^ k : Nat) : Int) := by
  have e : (256 : Nat) ^ k = 2 ^ (8 * k) := by rw [Nat.pow_mul]
  have h1 : 256 ^ (k + 1) ≤ 18446744073709551616 := pow_le8 (by omega)
  have h2 : c * 256 ^ k + 256 ^ k ≤ 256 ^ (k + 1) := by
    rw [Nat.pow_succ, Nat.mul_comm (256 ^ k) 256, ← Nat.succ_mul]
    exact Nat.mul_le_mul_right _ hc
  have h0 : 0 < 256 ^ k := Nat.pow_pos (by omega)
  have e2 : IntKind.u64.wrap ((c : Int) * 2 ^ (8 * k)) = ((c * 256 ^ k : Nat) : Int) := by
    have e3 : ((c : Int) * 2 ^ (8 * k)) = ((c * 256 ^ k : Nat) : Int) := by rw [e]; simp
    rw [IntKind.wrap_u64, e3]
    generalize c * 256 ^ k = y at *
    generalize 256 ^ (k + 1) = z at *
    generalize 256 ^ k = x at *
    omega
  rw [e2, u64_or_nat _ _ (by omega) (by omega)]
  rw [e] at ha ⊢
  rw [or_place _ _ _ ha]
set_option maxHeartbeats 400000 in
theorem num_any (s : ByteArray) (p e n : Int) (w : World) (hs : s.size ≤ maxLen) :
    Calls Try.prog 54 #[scanV s p e, .int .i64 n] w fun x w' => x = .returned (.tuple #[.int .u64 (numL (takeT s p e n (fitsB n)).data.toList), scanV s (takeP s p e n (fitsB n)) (takeE s p e n (fitsB n))]) ∧ Bel w w' := by
  have hm : fitsB n = true → 0 ≤ n ∧ n ≤ 8 := by intro h; simp [fitsB] at h; omega
  have ht := takeT_size s p e n (fitsB n) hm
  generalize hT : takeT s p e n (fitsB n) = T at ht
  have HT := hide hT
  clear hT
  have hmf : ∀ (fn : Fn) (first cap : Array Value) (w : World), (Instr.makeFunc fn first cap).run Try.prog w = .ok (.func fn first cap) w := fun _ _ _ _ => rfl
  go_enter Try.func54, Try.ntmps54
  go_wp2_with (first | (go_at_call 59; refine (fits_any _ _).mono ?_; rintro e w1 ⟨rfl, rfl⟩) | (go_at_call 62; refine (cut_any _ _ _ _ _ _ hs (fun h => (hm h).1)).mono ?_; rintro e w1 ⟨rfl, hb1⟩; rw [HT.out]; obtain ⟨hb1c, hb1f, hb1z⟩ := Bel.took hb1; have hb1z0 : w.heap.size < w1.heap.size := (by (try simp at hb1z); omega); have hb1z1 : w.heap.size + 1 < w1.heap.size := (by (try simp at hb1z); omega); clear hb1z))
  go_loop [9, 10, 23] (fun x _ i => ∃ k : Nat, k ≤ T.size ∧ i = .int .i64 k ∧ x = .int .u64 (numL (T.data.toList.take k))) (fun _ _ i => T.size - (intOf i).toNat)
  case atStart => exact ⟨0, Nat.zero_le _, rfl, rfl⟩
  case round =>
    obtain ⟨k, hk, rfl, rfl⟩ := hrel
    by_cases hlt : k < T.size
    · have hs1 := take_at T k hlt
      have hl : numL (T.data.toList.take k) < 256 ^ k := by
        have := numL_lt (T.data.toList.take k)
        rwa [List.length_take, Array.length_toList, Nat.min_eq_left (by simpa using hk)] at this
      have hb2 : (T[k]).toNat < 256 := (T[k]).toNat_lt
      have HS := hide hs1
      clear hs1
      go_wp2
      go_round
      case rel =>
        refine ⟨k + 1, by omega, by go_num, congrArg (Value.int _) ?_⟩
        rw [HS.out, numL_snoc]
        refine (or_step _ _ _ (by omega) hl hb2).trans ?_
        rw [List.length_take, Array.length_toList, Nat.min_eq_left (by simpa using hk)]
      case measure => simp [intOf]; omega
    · have hke : k = T.size := by omega
      subst hke
      go_wp2
      have hT2 : List.take T.size T.data.toList = T.data.toList := List.take_of_length_le (by simp)
      rw [hT2]
      go_region
      go_wp2
      refine bodyPost_ret (v := .tuple #[.int .u64 (numL T.data.toList), scanV s (takeP s p e n (fitsB n)) (takeE s p e n (fitsB n))]) (by simp [results, Try.results54, go_sem, hb1c, hb1z0, hb1z1]) rfl ⟨rfl, ?_⟩
      exact (by repeat (first | exact Bel.refl _ | exact Bel.drew (Bel.refl _) | refine Bel.drew ?_ | refine Bel.drewN ?_ _ | refine Bel.alloc ?_ _ | refine Bel.set ?_ (by simp; try omega) _ | refine Bel.trans ?_ (by assumption)))
end Go.Proofs.Ytkcbdidaahgfhaa
