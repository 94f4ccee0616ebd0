/- The walk of the reference's Put. Conditions: at most 2^40 bytes, the number fits its kind. -/
import Derived.Test.YtkcbdidaahgfhaaLittle7
namespace Go.Proofs.Ytkcbdidaahgfhaa
open Go.RowKit
set_option linter.unusedVariables false
set_option linter.unusedSimpArgs false
set_option maxHeartbeats 1000000 in
theorem rput_any (A : Option Addr) (c : Nat) (l : List UInt8) (m : Int) (x : Nat) (w : World) (hr : Rd w 1 A l.length (bv l)) (hn : l.length ≤ 1099511627776) (hm : -9223372036854775808 ≤ m ∧ m < 9223372036854775808) (hx : x < 18446744073709551616) :
    Calls Try.prog 51 #[.slice A l.length c, .int .i64 m, .int .u64 x] w (MakesRow w 5 1 (bv (putL l m x)) (putL l m x).length) := by
  go_enter Try.func51, Try.ntmps51
  go_wp2
  go_loopw [7, 8] (fun o i wr => ∃ (k : Nat) (Ao : Option Addr) (co : Nat), k ≤ l.length ∧ i = .int .i64 k ∧ o = .slice Ao k co ∧ wr.ownsRow w.heap.size 5 1 (.slice Ao k co) k (bv (l.take k)) ∧ (Ao = none → k = 0 ∧ co = 0) ∧ Bel w wr) (fun _ i _ => l.length - (intOf i).toNat)
  case atStart => exact ⟨0, none, 0, Nat.zero_le _, rfl, rfl, by simpa [bv] using World.ownsRow_nil w _ _ 1, fun _ => ⟨rfl, rfl⟩, Bel.refl _⟩
  case round =>
    obtain ⟨k, Ao, co, hk, rfl, rfl, hown, hAo, hbw⟩ := hrel
    by_cases hlt : k < l.length
    · obtain ⟨g, o, hA, hg, hcell⟩ := hr.some_ (by omega)
      have hcx := ((Bel.took hbw).1 g (o + k) hg).trans (hcell k _ (bv_at l k hlt))
      subst hA
      go_wp2_with (at_builtin; refine wpList_app w elemU8 rfl _ _ rfl (hbw.alloc _) (Nat.le_refl _) (by have := hbw.size; simp; omega) rfl (hown.alloc _) rfl (Rd.new wr _ _ 1 rfl) (by intro u hu; simp at hu; subst hu; rfl) (by unfold maxLen; omega) (by omega) ?_; intro v' w3 hown3 hb3 _ _)
      go_roundw
      case rel =>
        obtain ⟨A2, c2, hv2, hA2⟩ := own_form hown3
        rw [hv2] at hown3
        refine ⟨k + 1, A2, c2, by omega, by go_num, hv2, ?_, fun h => by have := hA2 h; omega, hb3⟩
        have e : bv (l.take (k + 1)) = bv (l.take k) ++ #[Value.int .u8 (l[k].toNat : Int)].toList := by
          rw [List.take_succ_eq_append_getElem hlt, bv_append]
          rfl
        rw [e]
        exact hown3
      case measure => simp [intOf]; omega
    · have hke : k = l.length := by omega
      subst hke
      rw [List.take_length] at hown
      by_cases h8 : m ≤ 8
      · have hp : putL l m x = l ++ leB m.toNat x := by
          unfold putL
          split
          · rfl
          · rw [show m.toNat = 0 from by omega]; simp [leB]
        have hpl : (putL l m x).length = l.length + m.toNat := by rw [hp, List.length_append, leB_length]
        have HP := hide hp
        have HPL := hide hpl
        clear hp hpl
        go_wp2
        obtain ⟨wo, rfl⟩ : ∃ wo : World, wo = wr := ⟨_, rfl⟩
        go_loopw [2, 7, 9] (fun y o i wr => ∃ (k : Nat) (Ao : Option Addr) (co : Nat), k ≤ m.toNat ∧ i = .int .i64 k ∧ y = .int .u64 ((x / 256 ^ k : Nat) : Int) ∧ o = .slice Ao (l.length + k) co ∧ wr.ownsRow w.heap.size 5 1 (.slice Ao (l.length + k) co) (l.length + k) (bv (l ++ leB k x)) ∧ (Ao = none → l.length + k = 0 ∧ co = 0) ∧ Bel w wr) (fun _ _ i _ => m.toNat - (intOf i).toNat)
        case atStart => exact ⟨0, Ao, co, Nat.zero_le _, rfl, by simp, rfl, by simpa [leB] using hown, by simpa using hAo, hbw⟩
        case round =>
          obtain ⟨k, Ao, co, hk, rfl, rfl, rfl, hown, hAo, hbw⟩ := hrel
          by_cases hlt : (k : Int) < m
          · have hy : x / 256 ^ k < 18446744073709551616 := Nat.lt_of_le_of_lt (Nat.div_le_self _ _) hx
            generalize hyq : x / 256 ^ k = y at hy
            have HQ := hide hyq
            clear hyq
            go_wp2_with (at_builtin; refine wpList_app w elemU8 rfl _ _ rfl (hbw.alloc _) (Nat.le_refl _) (by have := hbw.size; simp; omega) rfl (hown.alloc _) rfl (Rd.new wr _ _ 1 rfl) (by intro u hu; simp at hu; subst hu; rfl) (by unfold maxLen; omega) (by omega) ?_; intro v' w3 hown3 hb3 _ _)
            go_roundw
            case rel =>
              obtain ⟨A2, c2, hv2, hA2⟩ := own_form hown3
              rw [hv2] at hown3
              refine ⟨k + 1, A2, c2, by omega, by go_num, ?_, hv2, ?_, fun h => by have := hA2 h; omega, hb3⟩
              · rw [Nat.pow_succ, ← Nat.div_div_eq_div_mul, HQ.out]; simp
              · have e : bv (l ++ leB (k + 1) x) = bv (l ++ leB k x) ++ #[Value.int .u8 ((y : Int) % 256)].toList := by
                  rw [leB_snoc, ← List.append_assoc, bv_append (l ++ leB k x), HQ.out]
                  simp [bv]
                rw [e]
                exact hown3
            case measure => simp [intOf]; omega
          · have hke : k = m.toNat := by omega
            subst hke
            go_wp2
            go_ret
            rw [HPL.out, HP.out]
            exact ⟨_, _, rfl, hown, hAo, hbw⟩
      · have hp : putL l m x = l := if_neg (by omega)
        have HP := hide hp
        clear hp
        have h8' : 8 < m := by omega
        go_wp2
        obtain ⟨wo, rfl⟩ : ∃ wo : World, wo = wr := ⟨_, rfl⟩
        go_loopw [2, 7, 9] (fun y o i wr => i = .int .i64 0 ∧ y = .int .u64 (x : Int) ∧ o = .slice Ao l.length co ∧ wr = wo) (fun _ _ i _ => 0)
        case atStart => exact ⟨rfl, rfl, rfl, rfl⟩
        case round =>
          obtain ⟨rfl, rfl, rfl, rfl⟩ := hrel
          go_wp2
          go_ret
          rw [HP.out]
          exact ⟨_, _, rfl, hown, hAo, hbw⟩
end Go.Proofs.Ytkcbdidaahgfhaa
