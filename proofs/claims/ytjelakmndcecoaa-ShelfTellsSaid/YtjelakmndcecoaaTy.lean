/- The facts of the program's types that the walks of this seat use. No conditions. -/
import Derived.Test.YtjelakmndcecoaaRows
import Derived.Test.YtjelakmndcecoaaGsx3
namespace Go.Proofs.Ytjelakmndcecoaa
set_option linter.unusedVariables false
theorem mixed : Try.prog.follows .mixedOrders = true := by kernel_rfl
theorem tyA3 : tyAgg Try.prog 3 = some false := by kernel_rfl
theorem tyS3 : tySize Try.prog 3 = some 1 := by kernel_rfl
theorem tyA5 : tyAgg Try.prog 5 = some false := by kernel_rfl
theorem tyS5 : tySize Try.prog 5 = some 1 := by kernel_rfl
theorem tyA9 : tyAgg Try.prog 9 = some false := by kernel_rfl
theorem tyS9 : tySize Try.prog 9 = some 1 := by kernel_rfl
theorem tyA24 : tyAgg Try.prog 24 = some false := by kernel_rfl
theorem tyS24 : tySize Try.prog 24 = some 1 := by kernel_rfl
theorem tyA30 : tyAgg Try.prog 30 = some false := by kernel_rfl
theorem tyS30 : tySize Try.prog 30 = some 1 := by kernel_rfl
theorem tyA32 : tyAgg Try.prog 32 = some true := by kernel_rfl
theorem tyS32 : tySize Try.prog 32 = some 4 := by kernel_rfl
theorem tyZ32 : tyZero Try.prog 32 = some [.int .i64 0, .slice none 0 0, .int .i64 0, .int .i64 0] := by kernel_rfl
theorem tyP32 : tyPlaces Try.prog 32 = some [(0, 1), (1, 1), (2, 1), (3, 1)] := by kernel_rfl
theorem tyF32_0 : tyField Try.prog 32 0 = some (0, 1, false) := by kernel_rfl
theorem tyF32_1 : tyField Try.prog 32 1 = some (1, 1, false) := by kernel_rfl
theorem tyF32_2 : tyField Try.prog 32 2 = some (2, 1, false) := by kernel_rfl
theorem tyF32_3 : tyField Try.prog 32 3 = some (3, 1, false) := by kernel_rfl
theorem tyA35 : tyAgg Try.prog 35 = some false := by kernel_rfl
theorem tyS35 : tySize Try.prog 35 = some 1 := by kernel_rfl
theorem tyA37 : tyAgg Try.prog 37 = some true := by kernel_rfl
theorem tyS37 : tySize Try.prog 37 = some 2 := by kernel_rfl
theorem tyZ37 : tyZero Try.prog 37 = some [.int .u64 0, .int .u64 0] := by kernel_rfl
theorem tyP37 : tyPlaces Try.prog 37 = some [(0, 1), (1, 1)] := by kernel_rfl
theorem tyA39 : tyAgg Try.prog 39 = some true := by kernel_rfl
theorem tyS39 : tySize Try.prog 39 = some 4 := by kernel_rfl
theorem tyF39_0 : tyField Try.prog 39 0 = some (0, 1, false) := by kernel_rfl
theorem tyF39_1 : tyField Try.prog 39 1 = some (1, 2, true) := by kernel_rfl
theorem tyF39_2 : tyField Try.prog 39 2 = some (3, 1, false) := by kernel_rfl
theorem tyA47 : tyAgg Try.prog 47 = some true := by kernel_rfl
theorem tyS47 : tySize Try.prog 47 = some 2 := by kernel_rfl
theorem tyZ47 : tyZero Try.prog 47 = some [.int .u64 0, .int .u64 0] := by kernel_rfl
theorem tyP47 : tyPlaces Try.prog 47 = some [(0, 1), (1, 1)] := by kernel_rfl
theorem tyA55 : tyAgg Try.prog 55 = some false := by kernel_rfl
theorem tyS55 : tySize Try.prog 55 = some 1 := by kernel_rfl
theorem tyA58 : tyAgg Try.prog 58 = some false := by kernel_rfl
theorem tyS58 : tySize Try.prog 58 = some 1 := by kernel_rfl
theorem tyZ60 : tyZero Try.prog 60 = some [.pointer none, .map none, .int .i64 0, .int .i64 0, .int .i64 0] := by kernel_rfl
theorem tyP60 : tyPlaces Try.prog 60 = some [(0, 1), (1, 1), (2, 1), (3, 1), (4, 1)] := by kernel_rfl
theorem tyF60_0 : tyField Try.prog 60 0 = some (0, 1, false) := by kernel_rfl
theorem tyF60_1 : tyField Try.prog 60 1 = some (1, 1, false) := by kernel_rfl
theorem tyF60_2 : tyField Try.prog 60 2 = some (2, 1, false) := by kernel_rfl
theorem tyF60_3 : tyField Try.prog 60 3 = some (3, 1, false) := by kernel_rfl
theorem tyF60_4 : tyField Try.prog 60 4 = some (4, 1, false) := by kernel_rfl
theorem tyA63 : tyAgg Try.prog 63 = some false := by kernel_rfl
theorem tyS63 : tySize Try.prog 63 = some 1 := by kernel_rfl
theorem tyA65 : tyAgg Try.prog 65 = some true := by kernel_rfl
theorem tyS65 : tySize Try.prog 65 = some 4 := by kernel_rfl
theorem tyZ65 : tyZero Try.prog 65 = some [.int .u64 0, .int .u64 0, .int .u32 0, .int .u32 0] := by kernel_rfl
theorem tyP65 : tyPlaces Try.prog 65 = some [(0, 1), (1, 1), (2, 1), (3, 1)] := by kernel_rfl
theorem tyF65_0 : tyField Try.prog 65 0 = some (0, 1, false) := by kernel_rfl
theorem tyF65_1 : tyField Try.prog 65 1 = some (1, 1, false) := by kernel_rfl
theorem tyF65_2 : tyField Try.prog 65 2 = some (2, 1, false) := by kernel_rfl
theorem tyF65_3 : tyField Try.prog 65 3 = some (3, 1, false) := by kernel_rfl
theorem tyA81 : tyAgg Try.prog 81 = some true := by kernel_rfl
theorem tyS81 : tySize Try.prog 81 = some 3 := by kernel_rfl
theorem tyZ81 : tyZero Try.prog 81 = some [.string ⟨#[]⟩, .int .i64 0, .int .i64 0] := by kernel_rfl
theorem tyP81 : tyPlaces Try.prog 81 = some [(0, 1), (1, 1), (2, 1)] := by kernel_rfl
theorem tyF81_0 : tyField Try.prog 81 0 = some (0, 1, false) := by kernel_rfl
theorem tyF81_1 : tyField Try.prog 81 1 = some (1, 1, false) := by kernel_rfl
theorem tyF81_2 : tyField Try.prog 81 2 = some (2, 1, false) := by kernel_rfl
theorem tyA91 : tyAgg Try.prog 91 = some false := by kernel_rfl
theorem tyS91 : tySize Try.prog 91 = some 1 := by kernel_rfl
theorem tyA93 : tyAgg Try.prog 93 = some true := by kernel_rfl
theorem tyS93 : tySize Try.prog 93 = some 6 := by kernel_rfl
theorem tyZ93 : tyZero Try.prog 93 = some [.int .i64 0, .map none, .int .u64 0, .int .u64 0, .int .u64 0, .int .u64 0] := by kernel_rfl
theorem tyP93 : tyPlaces Try.prog 93 = some [(0, 1), (1, 1), (2, 2), (4, 2)] := by kernel_rfl
theorem tyF93_0 : tyField Try.prog 93 0 = some (0, 1, false) := by kernel_rfl
theorem tyF93_1 : tyField Try.prog 93 1 = some (1, 1, false) := by kernel_rfl
theorem tyF93_2 : tyField Try.prog 93 2 = some (2, 2, true) := by kernel_rfl
theorem tyF93_3 : tyField Try.prog 93 3 = some (4, 2, true) := by kernel_rfl
theorem tyA98 : tyAgg Try.prog 98 = some true := by kernel_rfl
theorem tyS98 : tySize Try.prog 98 = some 4 := by kernel_rfl
theorem tyZ98 : tyZero Try.prog 98 = some [.int .u64 0, .int .u64 0, .int .u32 0, .int .u32 0] := by kernel_rfl
theorem tyF98_0 : tyField Try.prog 98 0 = some (0, 1, false) := by kernel_rfl
theorem tyF98_1 : tyField Try.prog 98 1 = some (1, 1, false) := by kernel_rfl
theorem tyF98_2 : tyField Try.prog 98 2 = some (2, 1, false) := by kernel_rfl
theorem tyF98_3 : tyField Try.prog 98 3 = some (3, 1, false) := by kernel_rfl
theorem tyA102 : tyAgg Try.prog 102 = some true := by kernel_rfl
theorem tyS102 : tySize Try.prog 102 = some 3 := by kernel_rfl
theorem tyZ102 : tyZero Try.prog 102 = some [.int .u64 0, .int .u64 0, .string ⟨#[]⟩] := by kernel_rfl
theorem tyP102 : tyPlaces Try.prog 102 = some [(0, 2), (2, 1)] := by kernel_rfl
theorem tyF102_0 : tyField Try.prog 102 0 = some (0, 2, true) := by kernel_rfl
theorem tyF102_1 : tyField Try.prog 102 1 = some (2, 1, false) := by kernel_rfl
theorem tyA104 : tyAgg Try.prog 104 = some true := by kernel_rfl
theorem tyS104 : tySize Try.prog 104 = some 5 := by kernel_rfl
theorem tyZ104 : tyZero Try.prog 104 = some [.int .i64 0, .int .u64 0, .int .u64 0, .int .u64 0, .int .u64 0] := by kernel_rfl
theorem tyP104 : tyPlaces Try.prog 104 = some [(0, 1), (1, 2), (3, 2)] := by kernel_rfl
theorem tyF104_0 : tyField Try.prog 104 0 = some (0, 1, false) := by kernel_rfl
theorem tyF104_1 : tyField Try.prog 104 1 = some (1, 2, true) := by kernel_rfl
theorem tyF104_2 : tyField Try.prog 104 2 = some (3, 2, true) := by kernel_rfl
theorem tyA113 : tyAgg Try.prog 113 = some true := by kernel_rfl
theorem tyS113 : tySize Try.prog 113 = some 3 := by kernel_rfl
theorem tyZ113 : tyZero Try.prog 113 = some [.string ⟨#[]⟩, .int .i64 0, .int .i64 0] := by kernel_rfl
theorem tyP113 : tyPlaces Try.prog 113 = some [(0, 1), (1, 1), (2, 1)] := by kernel_rfl
theorem tyF113_0 : tyField Try.prog 113 0 = some (0, 1, false) := by kernel_rfl
theorem tyF113_1 : tyField Try.prog 113 1 = some (1, 1, false) := by kernel_rfl
theorem tyF113_2 : tyField Try.prog 113 2 = some (2, 1, false) := by kernel_rfl
end Go.Proofs.Ytjelakmndcecoaa
