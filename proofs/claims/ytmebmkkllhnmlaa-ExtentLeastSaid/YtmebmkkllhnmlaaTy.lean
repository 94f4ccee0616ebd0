/- The facts of the program's types that the walks of this seat use. No conditions. -/
import Derived.Test.YtmebmkkllhnmlaaRows
import Derived.Test.YtmebmkkllhnmlaaGsx3
namespace Go.Proofs.Ytmebmkkllhnmlaa
set_option linter.unusedVariables false
theorem mixed : Try.prog.follows .mixedOrders = true := by kernel_rfl
theorem tyA3 : tyAgg Try.prog 3 = some false := by kernel_rfl
theorem tyS3 : tySize Try.prog 3 = some 1 := by kernel_rfl
theorem tyA4 : tyAgg Try.prog 4 = some false := by kernel_rfl
theorem tyS4 : tySize Try.prog 4 = some 1 := by kernel_rfl
theorem tyA9 : tyAgg Try.prog 9 = some false := by kernel_rfl
theorem tyS9 : tySize Try.prog 9 = some 1 := by kernel_rfl
theorem tyA24 : tyAgg Try.prog 24 = some true := by kernel_rfl
theorem tyS24 : tySize Try.prog 24 = some 3 := by kernel_rfl
theorem tyZ24 : tyZero Try.prog 24 = some [.int .i64 0, .int .i64 0, .int .i64 0] := by kernel_rfl
theorem tyP24 : tyPlaces Try.prog 24 = some [(0, 1), (1, 1), (2, 1)] := by kernel_rfl
theorem tyF24_0 : tyField Try.prog 24 0 = some (0, 1, false) := by kernel_rfl
theorem tyF24_1 : tyField Try.prog 24 1 = some (1, 1, false) := by kernel_rfl
theorem tyF24_2 : tyField Try.prog 24 2 = some (2, 1, false) := by kernel_rfl
theorem tyA27 : tyAgg Try.prog 27 = some false := by kernel_rfl
theorem tyS27 : tySize Try.prog 27 = some 1 := by kernel_rfl
theorem tyA29 : tyAgg Try.prog 29 = some true := by kernel_rfl
theorem tyS29 : tySize Try.prog 29 = some 1 := by kernel_rfl
theorem tyZ29 : tyZero Try.prog 29 = some [.slice none 0 0] := by kernel_rfl
theorem tyP29 : tyPlaces Try.prog 29 = some [(0, 1)] := by kernel_rfl
theorem tyF29_0 : tyField Try.prog 29 0 = some (0, 1, false) := by kernel_rfl
theorem tyA33 : tyAgg Try.prog 33 = some true := by kernel_rfl
theorem tyS33 : tySize Try.prog 33 = some 5 := by kernel_rfl
theorem tyZ33 : tyZero Try.prog 33 = some [.int .i64 0, .int .i64 0, .int .i64 0, .int .i64 0, .int .i64 0] := by kernel_rfl
theorem tyP33 : tyPlaces Try.prog 33 = some [(0, 1), (1, 1), (2, 1), (3, 1), (4, 1)] := by kernel_rfl
theorem tyF33_0 : tyField Try.prog 33 0 = some (0, 1, false) := by kernel_rfl
theorem tyF33_1 : tyField Try.prog 33 1 = some (1, 1, false) := by kernel_rfl
theorem tyF33_2 : tyField Try.prog 33 2 = some (2, 1, false) := by kernel_rfl
theorem tyF33_3 : tyField Try.prog 33 3 = some (3, 1, false) := by kernel_rfl
theorem tyF33_4 : tyField Try.prog 33 4 = some (4, 1, false) := by kernel_rfl
theorem tyA36 : tyAgg Try.prog 36 = some true := by kernel_rfl
theorem tyS36 : tySize Try.prog 36 = some 5 := by kernel_rfl
theorem tyZ36 : tyZero Try.prog 36 = some [.int .i64 0, .int .i64 0, .int .i64 0, .int .i64 0, .int .i64 0] := by kernel_rfl
theorem tyP36 : tyPlaces Try.prog 36 = some [(0, 1), (1, 1), (2, 1), (3, 1), (4, 1)] := by kernel_rfl
theorem tyF36_0 : tyField Try.prog 36 0 = some (0, 1, false) := by kernel_rfl
theorem tyF36_1 : tyField Try.prog 36 1 = some (1, 1, false) := by kernel_rfl
theorem tyF36_2 : tyField Try.prog 36 2 = some (2, 1, false) := by kernel_rfl
theorem tyF36_3 : tyField Try.prog 36 3 = some (3, 1, false) := by kernel_rfl
theorem tyF36_4 : tyField Try.prog 36 4 = some (4, 1, false) := by kernel_rfl
theorem tyA39 : tyAgg Try.prog 39 = some true := by kernel_rfl
theorem tyS39 : tySize Try.prog 39 = some 3 := by kernel_rfl
theorem tyZ39 : tyZero Try.prog 39 = some [.int .i64 0, .int .i64 0, .int .i64 0] := by kernel_rfl
theorem tyP39 : tyPlaces Try.prog 39 = some [(0, 1), (1, 1), (2, 1)] := by kernel_rfl
theorem tyF39_0 : tyField Try.prog 39 0 = some (0, 1, false) := by kernel_rfl
theorem tyF39_1 : tyField Try.prog 39 1 = some (1, 1, false) := by kernel_rfl
theorem tyF39_2 : tyField Try.prog 39 2 = some (2, 1, false) := by kernel_rfl
theorem tyA66 : tyAgg Try.prog 66 = some false := by kernel_rfl
theorem tyS66 : tySize Try.prog 66 = some 1 := by kernel_rfl
theorem tyA78 : tyAgg Try.prog 78 = some true := by kernel_rfl
theorem tyS78 : tySize Try.prog 78 = some 2 := by kernel_rfl
theorem tyZ78 : tyZero Try.prog 78 = some [.int .u64 0, .string ⟨#[]⟩] := by kernel_rfl
theorem tyP78 : tyPlaces Try.prog 78 = some [(0, 1), (1, 1)] := by kernel_rfl
theorem tyF78_0 : tyField Try.prog 78 0 = some (0, 1, false) := by kernel_rfl
theorem tyF78_1 : tyField Try.prog 78 1 = some (1, 1, false) := by kernel_rfl
theorem tyA80 : tyAgg Try.prog 80 = some true := by kernel_rfl
theorem tyS80 : tySize Try.prog 80 = some 4 := by kernel_rfl
theorem tyZ80 : tyZero Try.prog 80 = some [.bool false, .bool false, .bool false, .bool false] := by kernel_rfl
theorem tyA82 : tyAgg Try.prog 82 = some true := by kernel_rfl
theorem tyS82 : tySize Try.prog 82 = some 2 := by kernel_rfl
theorem tyZ82 : tyZero Try.prog 82 = some [.int .u64 0, .string ⟨#[]⟩] := by kernel_rfl
theorem tyP82 : tyPlaces Try.prog 82 = some [(0, 1), (1, 1)] := by kernel_rfl
theorem tyF82_0 : tyField Try.prog 82 0 = some (0, 1, false) := by kernel_rfl
theorem tyF82_1 : tyField Try.prog 82 1 = some (1, 1, false) := by kernel_rfl
theorem tyA90 : tyAgg Try.prog 90 = some true := by kernel_rfl
theorem tyS90 : tySize Try.prog 90 = some 6 := by kernel_rfl
theorem tyZ90 : tyZero Try.prog 90 = some [.int .i64 0, .int .i64 0, .int .i64 0, .int .i64 0, .int .i64 0, .int .i64 0] := by kernel_rfl
theorem tyP90 : tyPlaces Try.prog 90 = some [(0, 5), (5, 1)] := by kernel_rfl
theorem tyF90_0 : tyField Try.prog 90 0 = some (0, 5, true) := by kernel_rfl
theorem tyF90_1 : tyField Try.prog 90 1 = some (5, 1, false) := by kernel_rfl
theorem tyA98 : tyAgg Try.prog 98 = some true := by kernel_rfl
theorem tyS98 : tySize Try.prog 98 = some 162 := by kernel_rfl
theorem tyA101 : tyAgg Try.prog 101 = some false := by kernel_rfl
theorem tyS101 : tySize Try.prog 101 = some 1 := by kernel_rfl
theorem tyZ101 : tyZero Try.prog 101 = some [.map none] := by kernel_rfl
theorem tyA103 : tyAgg Try.prog 103 = some false := by kernel_rfl
theorem tyS103 : tySize Try.prog 103 = some 1 := by kernel_rfl
theorem tyA128 : tyAgg Try.prog 128 = some true := by kernel_rfl
theorem tyS128 : tySize Try.prog 128 = some 4 := by kernel_rfl
theorem tyZ128 : tyZero Try.prog 128 = some [.int .u64 0, .int .u64 0, .bool false, .bool false] := by kernel_rfl
theorem tyP128 : tyPlaces Try.prog 128 = some [(0, 1), (1, 1), (2, 1), (3, 1)] := by kernel_rfl
theorem tyF128_0 : tyField Try.prog 128 0 = some (0, 1, false) := by kernel_rfl
theorem tyF128_1 : tyField Try.prog 128 1 = some (1, 1, false) := by kernel_rfl
theorem tyF128_2 : tyField Try.prog 128 2 = some (2, 1, false) := by kernel_rfl
theorem tyF128_3 : tyField Try.prog 128 3 = some (3, 1, false) := by kernel_rfl
theorem tyA129 : tyAgg Try.prog 129 = some true := by kernel_rfl
theorem tyS129 : tySize Try.prog 129 = some 16 := by kernel_rfl
theorem tyZ129 : tyZero Try.prog 129 = some [.int .u64 0, .int .u64 0, .bool false, .bool false, .int .u64 0, .int .u64 0, .bool false, .bool false, .int .u64 0, .int .u64 0, .bool false, .bool false, .int .u64 0, .int .u64 0, .bool false, .bool false] := by kernel_rfl
theorem tyS145 : tySize Try.prog 145 = some 2 := by kernel_rfl
theorem tyZ145 : tyZero Try.prog 145 = some [.int .u64 0, .int .u64 0] := by kernel_rfl
theorem tyS146 : tySize Try.prog 146 = some 4 := by kernel_rfl
theorem tyZ146 : tyZero Try.prog 146 = some [.int .u64 0, .int .u64 0, .int .u64 0, .int .u64 0] := by kernel_rfl
end Go.Proofs.Ytmebmkkllhnmlaa
