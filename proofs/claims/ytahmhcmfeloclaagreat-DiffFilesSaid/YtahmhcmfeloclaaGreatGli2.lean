/- The walks of little's Put and its reference. Conditions: at most 2^40 bytes, the number fits its kind. The walk of the reference's Put. Conditions: at most 2^40 bytes, the number fits its kind. The walk of the law package's awake: what the program tells of some bytes. No conditions. -/
import Derived.Test.YtahmhcmfeloclaaGreatGli1
import Derived.Test.YtahmhcmfeloclaaGreatMem
import Derived.Lib.SlBytesConst
namespace Go.Proofs.YtahmhcmfeloclaaGreat
open Go.RowKit
set_option linter.unusedVariables false
set_option linter.unusedSimpArgs false
/-- The lowest n bytes of a number, the least one first. -/
def leB : Nat → Nat → List UInt8
  | 0, _ => []
  | n + 1, x => UInt8.ofNat (x % 256) :: leB n (x / 256)
def putL (b : List UInt8) (n : Int) (x : Nat) : List UInt8 := if 1 ≤ n ∧ n ≤ 8 then b ++ leB n.toNat x else b
/-- What a function hands back that makes a slice. -/
def MakesRow (W0 : World) (e : TypeId) (size : Nat) (xs : List Value) (len : Nat) (x : Ending) (w' : World) : Prop :=
  ∃ A c, x = .returned (.slice A len c) ∧ w'.ownsRow W0.heap.size e size (.slice A len c) len xs ∧ (A = none → len = 0 ∧ c = 0) ∧ Bel W0 w'
end Go.Proofs.YtahmhcmfeloclaaGreat

namespace Go.Proofs.YtahmhcmfeloclaaGreat
open Go.RowKit
set_option linter.unusedVariables false
set_option linter.unusedSimpArgs false
end Go.Proofs.YtahmhcmfeloclaaGreat

namespace Go.Proofs.YtahmhcmfeloclaaGreat
open Go.RowKit
set_option linter.unusedVariables false
set_option linter.unusedSimpArgs false
end Go.Proofs.YtahmhcmfeloclaaGreat
