/- The walks of little's reference: what takes bytes and numbers off a scan. Condition: a text's length is one that a text may have. -/
import Derived.Test.YtkcbdidaahgfhaaLittle4
namespace Go.Proofs.Ytkcbdidaahgfhaa
open Go.RowKit
set_option linter.unusedVariables false
set_option linter.unusedSimpArgs false
end Go.Proofs.Ytkcbdidaahgfhaa
