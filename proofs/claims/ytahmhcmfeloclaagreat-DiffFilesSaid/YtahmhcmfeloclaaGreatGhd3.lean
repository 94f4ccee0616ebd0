/- What the laws of header share: a header of the other's; whether two are the same; the small example. No conditions. The small example of the laws of header. No conditions. A header that stands as an argument. No conditions. A header's bytes tell it, and it tells them: plain laws. No conditions. -/
import Derived.Test.YtahmhcmfeloclaaGreatGhd2
import Derived.Test.YtahmhcmfeloclaaGreatGsx3
import Derived.Test.YtahmhcmfeloclaaGreatGop2
namespace Go.Proofs.YtahmhcmfeloclaaGreat.Y
open Go.RowKit
set_option linter.unusedVariables false
set_option linter.unusedSimpArgs false
end Go.Proofs.YtahmhcmfeloclaaGreat.Y

namespace Go.Proofs.YtahmhcmfeloclaaGreat.Y
open Go.RowKit
set_option linter.unusedVariables false
set_option linter.unusedSimpArgs false
def aw1 : Hdr := ⟨0, 0, 0, 0, 0, 0, 0, 0, 0, 0, 0, false, 0, 0, 2, 0, 3, -1, 0, 0, 0, 0, 0, 0⟩
def aw2 : Hdr := ⟨0, 0, 0, 0, 0, 0, 0, 0, 0, 0, 0, false, 0, 0, 6, 0, 0, 0, 0, 0, 0, 0, 0, 0⟩
def aw7 : List UInt8 := [80, 77, 84, 105, 108, 101, 115]
end Go.Proofs.YtahmhcmfeloclaaGreat.Y

namespace Go.Proofs.YtahmhcmfeloclaaGreat.Y
open Go.RowKit
set_option linter.unusedVariables false
set_option linter.unusedSimpArgs false
end Go.Proofs.YtahmhcmfeloclaaGreat.Y

namespace Go.Proofs.YtahmhcmfeloclaaGreat.Y
open Go.RowKit
set_option linter.unusedVariables false
set_option linter.unusedSimpArgs false
def flat : List (Nat × Nat) → List UInt8
  | [] => []
  | (n, x) :: r => leB n x ++ flat r
def uv (v : Int) : Nat := (unsV v 4).toNat
def fld (h : Hdr) : List (Nat × Nat) :=
  [(8, h.r0), (8, h.r1), (8, h.m0), (8, h.m1), (8, h.l0), (8, h.l1), (8, h.d0), (8, h.d1), (8, h.ad), (8, h.en), (8, h.co), (1, clN h), (1, h.ic), (1, h.oc), (1, h.ki), (1, h.z0.toNat), (1, h.z1.toNat),
    (4, uv h.lo0), (4, uv h.la0), (4, uv h.lo1), (4, uv h.la1), (1, h.zo.toNat), (4, uv h.lon), (4, uv h.lat)]
def mag8 : List UInt8 := [80, 77, 84, 105, 108, 101, 115, 3]
/-- Back: the bytes of what bytes tell. -/
def walkF (l : List UInt8) : List Nat → Nat → List (Nat × Nat)
  | [], _ => []
  | n :: r, i => (n, atL l i n) :: walkF l r (i + n)
def lens : List Nat := [8, 8, 8, 8, 8, 8, 8, 8, 8, 8, 8, 1, 1, 1, 1, 1, 1, 4, 4, 4, 4, 1, 4, 4]
theorem decE_ok {l : List UInt8} (h : decE l = 0) : 127 ≤ l.length ∧ l.take 7 = magic7 ∧ l[7]? = some 3 ∧ atL l 96 1 ≤ 1 ∧ checkV (decH l) = 0 := by
  unfold decE at h
  by_cases h1 : l.length < 127
  · simp [h1] at h
  by_cases h2 : l.take 7 ≠ magic7
  · simp [h1, h2] at h
  by_cases h3 : l[7]? ≠ some 3
  · simp [h1, h2, h3] at h
  by_cases h4 : 1 < atL l 96 1
  · simp [h1, h2, h3, h4] at h
  rw [if_neg h1, if_neg h2, if_neg h3, if_neg h4] at h
  exact ⟨by omega, Classical.byContradiction h2, Classical.byContradiction h3, by omega, h⟩
end Go.Proofs.YtahmhcmfeloclaaGreat.Y
