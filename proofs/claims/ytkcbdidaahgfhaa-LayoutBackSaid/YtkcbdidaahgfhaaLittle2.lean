/- The walks of package little: what takes bytes and numbers off a scan. Condition: a text's length is one that a text may have. -/
import Derived.Test.YtkcbdidaahgfhaaLittle
namespace Go.Proofs.Ytkcbdidaahgfhaa
open Go.RowKit
set_option linter.unusedVariables false
set_option linter.unusedSimpArgs false
def restS (s : ByteArray) (p e : Int) : ByteArray := if e ≠ 0 ∨ stands s p = false then ⟨#[]⟩ else s.extract p.toNat s.size
def endE (s : ByteArray) (p e : Int) : Int := if e ≠ 0 then e else if stands s p = false then 2 else if p < s.size then 4 else 0
end Go.Proofs.Ytkcbdidaahgfhaa
