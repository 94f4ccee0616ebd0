/- The facts of the program's types that the walks of this seat use. No conditions. -/
import Derived.Test.YtahmhcmfeloclaaGreatRows
import Derived.Test.YtahmhcmfeloclaaGreatGsx3
namespace Go.Proofs.YtahmhcmfeloclaaGreat
set_option linter.unusedVariables false
theorem mixed : Tryz.prog.follows .mixedOrders = true := by kernel_rfl
theorem tyA3 : tyAgg Tryz.prog 3 = some false := by kernel_rfl
theorem tyS3 : tySize Tryz.prog 3 = some 1 := by kernel_rfl
theorem tyZ3 : tyZero Tryz.prog 3 = some [.int .i64 0] := by kernel_rfl
theorem tyS4 : tySize Tryz.prog 4 = some 1 := by kernel_rfl
theorem tyA5 : tyAgg Tryz.prog 5 = some false := by kernel_rfl
theorem tyS5 : tySize Tryz.prog 5 = some 1 := by kernel_rfl
theorem tyA9 : tyAgg Tryz.prog 9 = some false := by kernel_rfl
theorem tyS9 : tySize Tryz.prog 9 = some 1 := by kernel_rfl
theorem tyA23 : tyAgg Tryz.prog 23 = some false := by kernel_rfl
theorem tyS23 : tySize Tryz.prog 23 = some 1 := by kernel_rfl
theorem tyZ23 : tyZero Tryz.prog 23 = some [.slice none 0 0] := by kernel_rfl
theorem tyA24 : tyAgg Tryz.prog 24 = some false := by kernel_rfl
theorem tyS24 : tySize Tryz.prog 24 = some 1 := by kernel_rfl
theorem tyA33 : tyAgg Tryz.prog 33 = some false := by kernel_rfl
theorem tyS33 : tySize Tryz.prog 33 = some 1 := by kernel_rfl
theorem tyZ33 : tyZero Tryz.prog 33 = some [.slice none 0 0] := by kernel_rfl
theorem tyA35 : tyAgg Tryz.prog 35 = some true := by kernel_rfl
theorem tyS35 : tySize Tryz.prog 35 = some 1 := by kernel_rfl
theorem tyZ35 : tyZero Tryz.prog 35 = some [.slice none 0 0] := by kernel_rfl
theorem tyP35 : tyPlaces Tryz.prog 35 = some [(0, 1)] := by kernel_rfl
theorem tyF35_0 : tyField Tryz.prog 35 0 = some (0, 1, false) := by kernel_rfl
theorem tyA38 : tyAgg Tryz.prog 38 = some false := by kernel_rfl
theorem tyS38 : tySize Tryz.prog 38 = some 1 := by kernel_rfl
theorem tyA40 : tyAgg Tryz.prog 40 = some true := by kernel_rfl
theorem tyS40 : tySize Tryz.prog 40 = some 2 := by kernel_rfl
theorem tyZ40 : tyZero Tryz.prog 40 = some [.int .u64 0, .string ⟨#[]⟩] := by kernel_rfl
theorem tyP40 : tyPlaces Tryz.prog 40 = some [(0, 1), (1, 1)] := by kernel_rfl
theorem tyF40_0 : tyField Tryz.prog 40 0 = some (0, 1, false) := by kernel_rfl
theorem tyF40_1 : tyField Tryz.prog 40 1 = some (1, 1, false) := by kernel_rfl
theorem tyA45 : tyAgg Tryz.prog 45 = some true := by kernel_rfl
theorem tyS45 : tySize Tryz.prog 45 = some 3 := by kernel_rfl
theorem tyZ45 : tyZero Tryz.prog 45 = some [.int .u64 0, .string ⟨#[]⟩, .string ⟨#[]⟩] := by kernel_rfl
theorem tyP45 : tyPlaces Tryz.prog 45 = some [(0, 1), (1, 1), (2, 1)] := by kernel_rfl
theorem tyF45_0 : tyField Tryz.prog 45 0 = some (0, 1, false) := by kernel_rfl
theorem tyF45_1 : tyField Tryz.prog 45 1 = some (1, 1, false) := by kernel_rfl
theorem tyF45_2 : tyField Tryz.prog 45 2 = some (2, 1, false) := by kernel_rfl
theorem tyA52 : tyAgg Tryz.prog 52 = some true := by kernel_rfl
theorem tyS52 : tySize Tryz.prog 52 = some 3 := by kernel_rfl
theorem tyZ52 : tyZero Tryz.prog 52 = some [.int .u64 0, .string ⟨#[]⟩, .string ⟨#[]⟩] := by kernel_rfl
theorem tyP52 : tyPlaces Tryz.prog 52 = some [(0, 1), (1, 1), (2, 1)] := by kernel_rfl
theorem tyA71 : tyAgg Tryz.prog 71 = some true := by kernel_rfl
theorem tyS71 : tySize Tryz.prog 71 = some 2 := by kernel_rfl
theorem tyZ71 : tyZero Tryz.prog 71 = some [.int .u64 0, .string ⟨#[]⟩] := by kernel_rfl
theorem tyP71 : tyPlaces Tryz.prog 71 = some [(0, 1), (1, 1)] := by kernel_rfl
theorem tyF71_0 : tyField Tryz.prog 71 0 = some (0, 1, false) := by kernel_rfl
theorem tyF71_1 : tyField Tryz.prog 71 1 = some (1, 1, false) := by kernel_rfl
theorem tyA84 : tyAgg Tryz.prog 84 = some true := by kernel_rfl
theorem tyS84 : tySize Tryz.prog 84 = some 2 := by kernel_rfl
theorem tyZ84 : tyZero Tryz.prog 84 = some [.int .u64 0, .int .u64 0] := by kernel_rfl
theorem tyP84 : tyPlaces Tryz.prog 84 = some [(0, 1), (1, 1)] := by kernel_rfl
theorem tyF84_0 : tyField Tryz.prog 84 0 = some (0, 1, false) := by kernel_rfl
theorem tyF84_1 : tyField Tryz.prog 84 1 = some (1, 1, false) := by kernel_rfl
theorem tyA86 : tyAgg Tryz.prog 86 = some true := by kernel_rfl
theorem tyS86 : tySize Tryz.prog 86 = some 24 := by kernel_rfl
theorem tyZ86 : tyZero Tryz.prog 86 = some [.int .u64 0, .int .u64 0, .int .u64 0, .int .u64 0, .int .u64 0, .int .u64 0, .int .u64 0, .int .u64 0, .int .u64 0, .int .u64 0, .int .u64 0, .bool false, .int .u8 0, .int .u8 0, .int .u8 0, .int .i64 0, .int .i64 0, .int .i64 0, .int .i64 0, .int .i64 0, .int .i64 0, .int .i64 0, .int .i64 0, .int .i64 0] := by kernel_rfl
theorem tyP86 : tyPlaces Tryz.prog 86 = some [(0, 2), (2, 2), (4, 2), (6, 2), (8, 1), (9, 1), (10, 1), (11, 1), (12, 1), (13, 1), (14, 1), (15, 1), (16, 1), (17, 1), (18, 1), (19, 1), (20, 1), (21, 1), (22, 1), (23, 1)] := by kernel_rfl
theorem tyF86_0 : tyField Tryz.prog 86 0 = some (0, 2, true) := by kernel_rfl
theorem tyF86_1 : tyField Tryz.prog 86 1 = some (2, 2, true) := by kernel_rfl
theorem tyF86_2 : tyField Tryz.prog 86 2 = some (4, 2, true) := by kernel_rfl
theorem tyF86_3 : tyField Tryz.prog 86 3 = some (6, 2, true) := by kernel_rfl
theorem tyF86_4 : tyField Tryz.prog 86 4 = some (8, 1, false) := by kernel_rfl
theorem tyF86_5 : tyField Tryz.prog 86 5 = some (9, 1, false) := by kernel_rfl
theorem tyF86_6 : tyField Tryz.prog 86 6 = some (10, 1, false) := by kernel_rfl
theorem tyF86_7 : tyField Tryz.prog 86 7 = some (11, 1, false) := by kernel_rfl
theorem tyF86_8 : tyField Tryz.prog 86 8 = some (12, 1, false) := by kernel_rfl
theorem tyF86_9 : tyField Tryz.prog 86 9 = some (13, 1, false) := by kernel_rfl
theorem tyF86_10 : tyField Tryz.prog 86 10 = some (14, 1, false) := by kernel_rfl
theorem tyF86_11 : tyField Tryz.prog 86 11 = some (15, 1, false) := by kernel_rfl
theorem tyF86_12 : tyField Tryz.prog 86 12 = some (16, 1, false) := by kernel_rfl
theorem tyF86_13 : tyField Tryz.prog 86 13 = some (17, 1, false) := by kernel_rfl
theorem tyF86_14 : tyField Tryz.prog 86 14 = some (18, 1, false) := by kernel_rfl
theorem tyF86_15 : tyField Tryz.prog 86 15 = some (19, 1, false) := by kernel_rfl
theorem tyF86_16 : tyField Tryz.prog 86 16 = some (20, 1, false) := by kernel_rfl
theorem tyF86_17 : tyField Tryz.prog 86 17 = some (21, 1, false) := by kernel_rfl
theorem tyF86_18 : tyField Tryz.prog 86 18 = some (22, 1, false) := by kernel_rfl
theorem tyF86_19 : tyField Tryz.prog 86 19 = some (23, 1, false) := by kernel_rfl
theorem tyA87 : tyAgg Tryz.prog 87 = some true := by kernel_rfl
theorem tyS87 : tySize Tryz.prog 87 = some 4 := by kernel_rfl
theorem tyZ87 : tyZero Tryz.prog 87 = some [.string ⟨#[]⟩, .string ⟨#[]⟩, .string ⟨#[]⟩, .string ⟨#[]⟩] := by kernel_rfl
theorem tyA95 : tyAgg Tryz.prog 95 = some false := by kernel_rfl
theorem tyS95 : tySize Tryz.prog 95 = some 1 := by kernel_rfl
theorem tyA97 : tyAgg Tryz.prog 97 = some true := by kernel_rfl
theorem tyS97 : tySize Tryz.prog 97 = some 4 := by kernel_rfl
theorem tyZ97 : tyZero Tryz.prog 97 = some [.int .u64 0, .int .u64 0, .int .u32 0, .int .u32 0] := by kernel_rfl
theorem tyF97_0 : tyField Tryz.prog 97 0 = some (0, 1, false) := by kernel_rfl
theorem tyF97_1 : tyField Tryz.prog 97 1 = some (1, 1, false) := by kernel_rfl
theorem tyF97_2 : tyField Tryz.prog 97 2 = some (2, 1, false) := by kernel_rfl
theorem tyF97_3 : tyField Tryz.prog 97 3 = some (3, 1, false) := by kernel_rfl
theorem tyA99 : tyAgg Tryz.prog 99 = some true := by kernel_rfl
theorem tyS99 : tySize Tryz.prog 99 = some 2 := by kernel_rfl
theorem tyZ99 : tyZero Tryz.prog 99 = some [.int .u64 0, .int .u64 0] := by kernel_rfl
theorem tyP99 : tyPlaces Tryz.prog 99 = some [(0, 1), (1, 1)] := by kernel_rfl
theorem tyF99_0 : tyField Tryz.prog 99 0 = some (0, 1, false) := by kernel_rfl
theorem tyF99_1 : tyField Tryz.prog 99 1 = some (1, 1, false) := by kernel_rfl
theorem tyA101 : tyAgg Tryz.prog 101 = some true := by kernel_rfl
theorem tyS101 : tySize Tryz.prog 101 = some 24 := by kernel_rfl
theorem tyZ101 : tyZero Tryz.prog 101 = some [.int .u64 0, .int .u64 0, .int .u64 0, .int .u64 0, .int .u64 0, .int .u64 0, .int .u64 0, .int .u64 0, .int .u64 0, .int .u64 0, .int .u64 0, .bool false, .int .u8 0, .int .u8 0, .int .u8 0, .int .i64 0, .int .i64 0, .int .i64 0, .int .i64 0, .int .i64 0, .int .i64 0, .int .i64 0, .int .i64 0, .int .i64 0] := by kernel_rfl
theorem tyP101 : tyPlaces Tryz.prog 101 = some [(0, 2), (2, 2), (4, 2), (6, 2), (8, 1), (9, 1), (10, 1), (11, 1), (12, 1), (13, 1), (14, 1), (15, 1), (16, 1), (17, 1), (18, 1), (19, 1), (20, 1), (21, 1), (22, 1), (23, 1)] := by kernel_rfl
theorem tyF101_0 : tyField Tryz.prog 101 0 = some (0, 2, true) := by kernel_rfl
theorem tyF101_1 : tyField Tryz.prog 101 1 = some (2, 2, true) := by kernel_rfl
theorem tyF101_2 : tyField Tryz.prog 101 2 = some (4, 2, true) := by kernel_rfl
theorem tyF101_3 : tyField Tryz.prog 101 3 = some (6, 2, true) := by kernel_rfl
theorem tyF101_4 : tyField Tryz.prog 101 4 = some (8, 1, false) := by kernel_rfl
theorem tyF101_5 : tyField Tryz.prog 101 5 = some (9, 1, false) := by kernel_rfl
theorem tyF101_6 : tyField Tryz.prog 101 6 = some (10, 1, false) := by kernel_rfl
theorem tyF101_7 : tyField Tryz.prog 101 7 = some (11, 1, false) := by kernel_rfl
theorem tyF101_8 : tyField Tryz.prog 101 8 = some (12, 1, false) := by kernel_rfl
theorem tyF101_9 : tyField Tryz.prog 101 9 = some (13, 1, false) := by kernel_rfl
theorem tyF101_10 : tyField Tryz.prog 101 10 = some (14, 1, false) := by kernel_rfl
theorem tyF101_11 : tyField Tryz.prog 101 11 = some (15, 1, false) := by kernel_rfl
theorem tyF101_12 : tyField Tryz.prog 101 12 = some (16, 1, false) := by kernel_rfl
theorem tyF101_13 : tyField Tryz.prog 101 13 = some (17, 1, false) := by kernel_rfl
theorem tyF101_14 : tyField Tryz.prog 101 14 = some (18, 1, false) := by kernel_rfl
theorem tyF101_15 : tyField Tryz.prog 101 15 = some (19, 1, false) := by kernel_rfl
theorem tyF101_16 : tyField Tryz.prog 101 16 = some (20, 1, false) := by kernel_rfl
theorem tyF101_17 : tyField Tryz.prog 101 17 = some (21, 1, false) := by kernel_rfl
theorem tyF101_18 : tyField Tryz.prog 101 18 = some (22, 1, false) := by kernel_rfl
theorem tyF101_19 : tyField Tryz.prog 101 19 = some (23, 1, false) := by kernel_rfl
theorem tyA109 : tyAgg Tryz.prog 109 = some true := by kernel_rfl
theorem tyS109 : tySize Tryz.prog 109 = some 4 := by kernel_rfl
theorem tyZ109 : tyZero Tryz.prog 109 = some [.int .u64 0, .int .u64 0, .int .u32 0, .int .u32 0] := by kernel_rfl
theorem tyF109_0 : tyField Tryz.prog 109 0 = some (0, 1, false) := by kernel_rfl
theorem tyF109_1 : tyField Tryz.prog 109 1 = some (1, 1, false) := by kernel_rfl
theorem tyF109_2 : tyField Tryz.prog 109 2 = some (2, 1, false) := by kernel_rfl
theorem tyF109_3 : tyField Tryz.prog 109 3 = some (3, 1, false) := by kernel_rfl
theorem tyA125 : tyAgg Tryz.prog 125 = some true := by kernel_rfl
theorem tyS125 : tySize Tryz.prog 125 = some 8 := by kernel_rfl
theorem tyZ125 : tyZero Tryz.prog 125 = some [.int .u64 0, .int .u64 0, .int .u64 0, .int .u64 0, .int .u64 0, .int .u64 0, .int .u64 0, .int .u64 0] := by kernel_rfl
theorem tyA128 : tyAgg Tryz.prog 128 = some true := by kernel_rfl
theorem tyS128 : tySize Tryz.prog 128 = some 3 := by kernel_rfl
theorem tyZ128 : tyZero Tryz.prog 128 = some [.string ⟨#[]⟩, .int .i64 0, .int .i64 0] := by kernel_rfl
theorem tyP128 : tyPlaces Tryz.prog 128 = some [(0, 1), (1, 1), (2, 1)] := by kernel_rfl
theorem tyF128_0 : tyField Tryz.prog 128 0 = some (0, 1, false) := by kernel_rfl
theorem tyF128_1 : tyField Tryz.prog 128 1 = some (1, 1, false) := by kernel_rfl
theorem tyF128_2 : tyField Tryz.prog 128 2 = some (2, 1, false) := by kernel_rfl
theorem tyS139 : tySize Tryz.prog 139 = some 8 := by kernel_rfl
theorem tyZ139 : tyZero Tryz.prog 139 = some [.int .u64 0, .int .u64 0, .int .u64 0, .int .u64 0, .int .u64 0, .int .u64 0, .int .u64 0, .int .u64 0] := by kernel_rfl
theorem tyA141 : tyAgg Tryz.prog 141 = some true := by kernel_rfl
theorem tyS141 : tySize Tryz.prog 141 = some 3 := by kernel_rfl
theorem tyZ141 : tyZero Tryz.prog 141 = some [.string ⟨#[]⟩, .int .i64 0, .int .i64 0] := by kernel_rfl
theorem tyP141 : tyPlaces Tryz.prog 141 = some [(0, 1), (1, 1), (2, 1)] := by kernel_rfl
theorem tyF141_0 : tyField Tryz.prog 141 0 = some (0, 1, false) := by kernel_rfl
theorem tyF141_1 : tyField Tryz.prog 141 1 = some (1, 1, false) := by kernel_rfl
theorem tyF141_2 : tyField Tryz.prog 141 2 = some (2, 1, false) := by kernel_rfl
theorem tyZ160 : tyZero Tryz.prog 160 = some [.string ⟨#[]⟩, .int .i64 0, .int .i64 0] := by kernel_rfl
theorem tyP160 : tyPlaces Tryz.prog 160 = some [(0, 3)] := by kernel_rfl
theorem tyF160_0 : tyField Tryz.prog 160 0 = some (0, 3, true) := by kernel_rfl
end Go.Proofs.YtahmhcmfeloclaaGreat
