/- What the laws of intervals share: arguments. No conditions. -/
import Derived.Test.YtbldhokgbcljjaaKv6
import Derived.Test.YtbldhokgbcljjaaGop2
namespace Go.Proofs.Ytbldhokgbcljjaa
open Go.RowKit
set_option linter.unusedVariables false
set_option linter.unusedSimpArgs false
set_option maxRecDepth 100000
theorem leaves_sp : leaves Try.prog 5 75 = some [.int .u64, .int .u64] := by kernel_rfl
def Sp.ok (s : Sp) : Prop := s.a < 18446744073709551616 ∧ s.b < 18446744073709551616
theorem sp_of (r : List Value) (h : Alike [.int .u64, .int .u64] r) : ∃ x : Sp, x.ok ∧ r = x.cells := by
  obtain ⟨a, c, rfl, ha, a1⟩ := alike_u64 h
  obtain ⟨b, c, rfl, hb, a2⟩ := alike_u64 a1
  cases a2
  exact ⟨⟨a, b⟩, ⟨ha, hb⟩, rfl⟩
theorem open_sps {H : Type} {enc : TypeId × Value → H} {w : World} {b0 : Nat} {r : Reach} {v : Value} {d : DataW H} {p : List MemPlace}
    (hv : Value.okWide Try.prog w r b0 22 v) (h : DataW.Trod enc Try.prog w 0 (fun _ => true) true 22 v d p) :
    ∃ A c, ∃ L : List Sp, ∃ T : Heap, v = .slice A L.length c ∧ ArgOk A L.length ∧ L.length ≤ maxLen ∧ SpsOk L ∧ (0 < L.length → T = roE A (scells L)) ∧ Ro T ∧ Sat w [] T w := by
  obtain ⟨A, n, c, rows, rfl, h1, h2, h3, h4⟩ := open_rows 5 Try.underlying22 leaves_sp (by kernel_rfl) (Nat.succ_pos _) hv h
  obtain ⟨L, h5, h6, h7⟩ := rows_as (f := Sp.cells) (ok := Sp.ok) sp_of rows h3
  have hn : L.length = n := by omega
  subst hn
  rw [h5] at h4
  by_cases h0 : 0 < L.length
  · exact ⟨A, c, L, roE A (scells L), rfl, arg_ok h4, h2, h7, fun _ => rfl, Ro.roE _ _, arg_sat h4 h0⟩
  · exact ⟨A, c, L, [], rfl, arg_ok h4, h2, h7, fun h => absurd h h0, Ro.nil, Sat.nil w⟩
theorem Sat.bothS {w : World} {T U : Heap} (h : Sat w [] T w) (k : Sat w [] U w) (hT : Ro T) (hU : Ro U) : Sat w [] (T ++ U) w :=
  ⟨h.only, fun e he => by
    rcases List.mem_append.1 he with he | he
    · exact h.ents e he
    · exact k.ents e he, List.pairwise_append.2 ⟨h.sep, k.sep, fun a ha b hb hw => by
      rw [hT a ha, hU b hb] at hw
      cases hw⟩⟩
end Go.Proofs.Ytbldhokgbcljjaa
