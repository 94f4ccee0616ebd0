/- The walks of little's reference, and of what the law's package adds: the number, the rest, the end; a scan made of the other's. Condition: a text's length is one that a text may have. -/
import Derived.Test.YtkcbdidaahgfhaaLittle5
namespace Go.Proofs.Ytkcbdidaahgfhaa
open Go.RowKit
set_option linter.unusedVariables false
set_option linter.unusedSimpArgs false
end Go.Proofs.Ytkcbdidaahgfhaa
