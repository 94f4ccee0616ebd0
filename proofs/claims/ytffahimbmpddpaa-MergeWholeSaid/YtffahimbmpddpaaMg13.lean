/- What the laws of merge share: arguments. No conditions. -/
import Derived.Test.YtffahimbmpddpaaMg12
import Derived.Test.YtffahimbmpddpaaGop2
namespace Go.Proofs.Ytffahimbmpddpaa.V
open Go.RowKit
set_option linter.unusedVariables false
set_option linter.unusedSimpArgs false
set_option maxRecDepth 100000
theorem leaves_en : leaves Try.prog 5 68 = some [.int .u64, .int .u64, .int .u32, .int .u32] := by kernel_rfl
theorem en_of (r : List Value) (h : Alike [.int .u64, .int .u64, .int .u32, .int .u32] r) : ∃ x : En, x.ok ∧ r = x.cells := by
  obtain ⟨a, c, rfl, ha, a1⟩ := alike_u64 h
  obtain ⟨b, c, rfl, hb, a2⟩ := alike_u64 a1
  obtain ⟨l, c, rfl, hl, a3⟩ := alike_u32 a2
  obtain ⟨n, c, rfl, hn, a4⟩ := alike_u32 a3
  cases a4
  exact ⟨⟨a, b, l, n⟩, ⟨ha, hb, hl, hn⟩, rfl⟩
theorem open_ens {H : Type} {enc : TypeId × Value → H} {w : World} {b0 : Nat} {r : Reach} {v : Value} {d : DataW H} {p : List MemPlace}
    (hv : Value.okWide Try.prog w r b0 22 v) (h : DataW.Trod enc Try.prog w 0 (fun _ => true) true 22 v d p) :
    ∃ A c, ∃ L : List En, ∃ T : Heap, v = .slice A L.length c ∧ ArgOk A L.length ∧ L.length ≤ maxLen ∧ EnsOk L ∧ (0 < L.length → T = roE A (ecells L)) ∧ Ro T ∧ Sat w [] T w := by
  obtain ⟨A, n, c, rows, rfl, h1, h2, h3, h4⟩ := open_rows 5 Try.underlying22 leaves_en (by kernel_rfl) (Nat.succ_pos _) hv h
  obtain ⟨L, h5, h6, h7⟩ := rows_as (f := En.cells) (ok := En.ok) en_of rows h3
  have hn : L.length = n := by omega
  subst hn
  rw [h5] at h4
  by_cases h0 : 0 < L.length
  · exact ⟨A, c, L, roE A (ecells L), rfl, arg_ok h4, h2, h7, fun _ => rfl, Ro.roE _ _, arg_sat h4 h0⟩
  · exact ⟨A, c, L, [], rfl, arg_ok h4, h2, h7, fun h => absurd h h0, Ro.nil, Sat.nil w⟩
theorem open_text {H : Type} {enc : TypeId × Value → H} {w : World} {base b0 : Nat} {spare : Nat → Bool} {held : Bool} {r : Reach} {v : Value} {d : DataW H} {p : List MemPlace}
    (hv : Value.okWide Try.prog w r b0 9 v) (h : DataW.Trod enc Try.prog w base spare held 9 v d p) : ∃ l : List UInt8, v = .string (str l) := by
  obtain ⟨s, rfl, _⟩ := ChangeMaps.open_string Try.underlying9 hv h
  obtain ⟨l⟩ := s
  exact ⟨l.toList, rfl⟩
end Go.Proofs.Ytffahimbmpddpaa.V
