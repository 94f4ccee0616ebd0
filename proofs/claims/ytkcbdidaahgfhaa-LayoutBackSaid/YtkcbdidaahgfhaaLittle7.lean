/- The walks of little's Put and its reference. Conditions: at most 2^40 bytes, the number fits its kind. -/
import Derived.Test.YtkcbdidaahgfhaaLittle6
import Derived.Test.YtkcbdidaahgfhaaMem
namespace Go.Proofs.Ytkcbdidaahgfhaa
open Go.RowKit
set_option linter.unusedVariables false
set_option linter.unusedSimpArgs false
@[go_sem] theorem eqnil_bytes (w : World) (A : Option Addr) (n c : Nat) : (binOp .eql 67 (.slice A n c) (.slice none 0 0)).run Try.prog w = .ok (.bool A.isNone) w := Lib.run_eql_slice_nil w _ _ A n c 0 0 Try.underlying67
theorem elemU8 : ElemOk Try.prog 67 5 1 1 := ElemOk.mk_ (z := .int .u8 0) Try.underlying67 (by kernel_rfl) rfl (by omega)
/-- The lowest n bytes of a number, the least one first. -/
def leB : Nat → Nat → List UInt8
  | 0, _ => []
  | n + 1, x => UInt8.ofNat (x % 256) :: leB n (x / 256)
theorem leB_length : ∀ n x, (leB n x).length = n
  | 0, _ => rfl
  | n + 1, x => by simp [leB, leB_length n]
theorem leB_snoc : ∀ n x, leB (n + 1) x = leB n x ++ [UInt8.ofNat (x / 256 ^ n % 256)]
  | 0, x => by simp [leB]
  | n + 1, x => by
    rw [leB, leB_snoc n (x / 256), leB]
    simp only [List.cons_append]
    rw [Nat.div_div_eq_div_mul, Nat.pow_succ, Nat.mul_comm 256]
def putL (b : List UInt8) (n : Int) (x : Nat) : List UInt8 := if 1 ≤ n ∧ n ≤ 8 then b ++ leB n.toNat x else b
theorem own_form {w : World} {base : Nat} {e : TypeId} {size : Nat} {v : Value} {n : Nat} {xs : List Value} (h : w.ownsRow base e size v n xs) : ∃ A c, v = .slice A n c ∧ (A = none → n = 0 ∧ c = 0) := by
  rcases h.2 with ⟨rfl, rfl⟩ | ⟨g, cap, cur, rfl, _⟩
  · exact ⟨_, _, rfl, fun _ => ⟨rfl, rfl⟩⟩
  · exact ⟨_, _, rfl, fun h => by cases h⟩
/-- What a function hands back that makes a slice. -/
def MakesRow (W0 : World) (e : TypeId) (size : Nat) (xs : List Value) (len : Nat) (x : Ending) (w' : World) : Prop :=
  ∃ A c, x = .returned (.slice A len c) ∧ w'.ownsRow W0.heap.size e size (.slice A len c) len xs ∧ (A = none → len = 0 ∧ c = 0) ∧ Bel W0 w'
set_option maxHeartbeats 400000 in
theorem clone_any (A : Option Addr) (c : Nat) (l : List UInt8) (w : World) (hr : Rd w 1 A l.length (bv l)) (hc : A = none → c = 0) (hn : l.length ≤ 1099511627776) :
    Calls Try.prog 58 #[.slice A l.length c] w (MakesRow w 5 1 (bv l) l.length) := by
  rcases A with _ | ad
  · obtain rfl := hc rfl
    have h0 := hr.2.1 rfl
    obtain rfl : l = [] := List.eq_nil_of_length_eq_zero h0
    go_enter Try.func58, Try.ntmps58
    go_wp2
    go_ret
    exact ⟨_, _, rfl, by simpa [bv] using World.ownsRow_nil w _ _ 1, fun _ => ⟨rfl, rfl⟩, Bel.refl _⟩
  · clear hc
    go_enter Try.func58, Try.ntmps58
    have hown : ∀ W : World, Bel w W → (W.alloc (.cells #[] 5)).ownsRow w.heap.size 5 1 (.slice (some ⟨W.heap.size, 0, none⟩) 0 0) 0 [] := fun W hW => World.ownsRow_lit W #[] 0 hW.size (by unfold maxLen; omega) rfl
    go_wp2_with (at_builtin; refine wpList_app w elemU8 rfl _ _ rfl ((Bel.refl w).alloc _) (Nat.le_refl _) (by simp) rfl (hown w (Bel.refl w)) rfl (hr.alloc _) (bv_one l) (by unfold maxLen; omega) (by omega) ?_; intro v' w1 hown1 hb1 _ _)
    simp only [Nat.zero_add, List.nil_append] at hown1
    obtain ⟨A', c', rfl, hA⟩ := own_form hown1
    go_wp2
    go_ret
    exact ⟨_, _, rfl, hown1, hA, hb1⟩
set_option maxHeartbeats 1000000 in
theorem put_yes (A : Option Addr) (c : Nat) (l : List UInt8) (m x : Nat) (w : World) (hr : Rd w 1 A l.length (bv l)) (hc : A = none → c = 0) (hn : l.length ≤ 1099511627776) (hm : 1 ≤ m ∧ m ≤ 8) (hx : x < 18446744073709551616) :
    Calls Try.prog 45 #[.slice A l.length c, .int .i64 m, .int .u64 x] w (MakesRow w 5 1 (bv (l ++ leB m x)) (l.length + m)) := by
  have hf : fitsB m = true := by simp [fitsB]; omega
  go_enter Try.func45, Try.ntmps45
  go_wp2_with (first | (go_at_call 58; refine (clone_any A c l _ hr hc hn).mono ?_; rintro e w1 ⟨A1, c1, rfl, hown1, hA1, hb1⟩) | (go_at_call 59; refine (fits_any _ _).mono ?_; rintro e w2 ⟨rfl, rfl⟩))
  go_loopw [2, 7, 15] (fun y o i wr => ∃ (k : Nat) (Ao : Option Addr) (co : Nat), k ≤ m ∧ i = .int .i64 k ∧ y = .int .u64 ((x / 256 ^ k : Nat) : Int) ∧ o = .slice Ao (l.length + k) co ∧ wr.ownsRow w.heap.size 5 1 (.slice Ao (l.length + k) co) (l.length + k) (bv (l ++ leB k x)) ∧ (Ao = none → l.length + k = 0 ∧ co = 0) ∧ Bel w wr) (fun _ _ i _ => m - (intOf i).toNat)
  case atStart => exact ⟨0, A1, c1, Nat.zero_le _, rfl, by simp, rfl, by simpa [leB] using hown1, by simpa using hA1, hb1⟩
  case round =>
    obtain ⟨k, Ao, co, hk, rfl, rfl, rfl, hown, hAo, hbw⟩ := hrel
    by_cases hlt : k < m
    · have hy : x / 256 ^ k < 18446744073709551616 := Nat.lt_of_le_of_lt (Nat.div_le_self _ _) hx
      go_wp2_with (at_builtin; refine wpList_app w elemU8 rfl _ _ rfl (hbw.alloc _) (Nat.le_refl _) (by have := hbw.size; simp; omega) rfl (hown.alloc _) rfl (Rd.new wr _ _ 1 rfl) (by intro u hu; simp at hu; subst hu; rfl) (by unfold maxLen; omega) (by omega) ?_; intro v' w3 hown3 hb3 _ _)
      go_roundw
      case rel =>
        obtain ⟨A2, c2, hv2, hA2⟩ := own_form hown3
        rw [hv2] at hown3
        refine ⟨k + 1, A2, c2, by omega, by go_num, ?_, hv2, ?_, fun h => by have := hA2 h; omega, hb3⟩
        · rw [Nat.pow_succ, ← Nat.div_div_eq_div_mul]; simp
        · have e : bv (l ++ leB (k + 1) x) = bv (l ++ leB k x) ++ #[Value.int .u8 ((x : Int) / 256 ^ k % 256)].toList := by
            rw [leB_snoc, ← List.append_assoc, bv_append (l ++ leB k x)]
            simp [bv]
          rw [e]
          exact hown3
      case measure => simp [intOf]; omega
    · have hke : k = m := by omega
      subst hke
      go_wp2
      go_ret
      exact ⟨_, _, rfl, hown, hAo, hbw⟩
set_option maxHeartbeats 1000000 in
theorem put_no (A : Option Addr) (c : Nat) (l : List UInt8) (m x : Int) (w : World) (hr : Rd w 1 A l.length (bv l)) (hc : A = none → c = 0) (hn : l.length ≤ 1099511627776) (hm : ¬ (1 ≤ m ∧ m ≤ 8)) :
    Calls Try.prog 45 #[.slice A l.length c, .int .i64 m, .int .u64 x] w (MakesRow w 5 1 (bv l) l.length) := by
  have hf : fitsB m = false := by simp [fitsB]; omega
  go_enter Try.func45, Try.ntmps45
  go_wp2_with (first | (go_at_call 58; refine (clone_any A c l _ hr hc hn).mono ?_; rintro e w1 ⟨A1, c1, rfl, hown1, hA1, hb1⟩) | (go_at_call 59; refine (fits_any _ _).mono ?_; rintro e w2 ⟨rfl, rfl⟩))
  go_ret
  exact ⟨_, _, rfl, hown1, hA1, hb1⟩
theorem put_any (A : Option Addr) (c : Nat) (l : List UInt8) (m x : Int) (w : World) (hr : Rd w 1 A l.length (bv l)) (hc : A = none → c = 0) (hn : l.length ≤ 1099511627776) (hx : 0 ≤ x ∧ x < 18446744073709551616) :
    Calls Try.prog 45 #[.slice A l.length c, .int .i64 m, .int .u64 x] w (MakesRow w 5 1 (bv (putL l m x.toNat)) (putL l m x.toNat).length) := by
  by_cases hm : 1 ≤ m ∧ m ≤ 8
  · obtain ⟨k, rfl⟩ : ∃ k : Nat, m = k := ⟨m.toNat, by omega⟩
    obtain ⟨y, rfl⟩ : ∃ y : Nat, x = y := ⟨x.toNat, by omega⟩
    have e : putL l k (y : Int).toNat = l ++ leB k y := by simp only [putL, if_pos hm, Int.toNat_natCast]
    have e2 : (l ++ leB k y).length = l.length + k := by simp [leB_length]
    rw [e, e2]
    exact put_yes A c l k y w hr hc hn (by omega) (by omega)
  · have e : putL l m x.toNat = l := if_neg hm
    rw [e]
    exact put_no A c l m x w hr hc hn hm
end Go.Proofs.Ytkcbdidaahgfhaa
