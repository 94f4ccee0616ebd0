/- The small example of the laws of header. No conditions. -/
import Derived.Test.YtkcbdidaahgfhaaHd10
namespace Go.Proofs.Ytkcbdidaahgfhaa
open Go.RowKit
set_option linter.unusedVariables false
set_option linter.unusedSimpArgs false
def aw1 : Hdr := ⟨0, 0, 0, 0, 0, 0, 0, 0, 0, 0, 0, false, 0, 0, 2, 0, 3, -1, 0, 0, 0, 0, 0, 0⟩
def aw2 : Hdr := ⟨0, 0, 0, 0, 0, 0, 0, 0, 0, 0, 0, false, 0, 0, 6, 0, 0, 0, 0, 0, 0, 0, 0, 0⟩
def aw7 : List UInt8 := [80, 77, 84, 105, 108, 101, 115]
theorem aw_check : checkV aw1 = 0 := by kernel_rfl
theorem aw_len : (encV aw1).length = 127 := by kernel_rfl
theorem aw_take : (encV aw1).take 8 = [80, 77, 84, 105, 108, 101, 115, 3] := by kernel_rfl
theorem aw_99 : (encV aw1)[99]? = some 2 := by kernel_rfl
theorem aw_101 : (encV aw1)[101]? = some 3 := by kernel_rfl
theorem aw_102 : (encV aw1)[102]? = some 255 := by kernel_rfl
theorem aw_dec : decE (encV aw1 ++ [120]) = 0 := by kernel_rfl
theorem aw_decV : decV (encV aw1 ++ [120]) = aw1 := by kernel_rfl
theorem aw_short : decE aw7 = 3 := by kernel_rfl
theorem aw_kind : checkV aw2 = 14 := by kernel_rfl
theorem aw_laid : laidV aw1 0 = 10 := by kernel_rfl
theorem aw1_ok : aw1.Ok := by constructor <;> decide
theorem aw2_ok : aw2.Ok := by constructor <;> decide
end Go.Proofs.Ytkcbdidaahgfhaa
