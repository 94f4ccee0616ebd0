/- The facts of the program's types that the walks of this seat use. No conditions. -/
import Derived.Test.YtbldhokgbcljjaaRows
import Derived.Test.YtbldhokgbcljjaaGsx3
namespace Go.Proofs.Ytbldhokgbcljjaa
set_option linter.unusedVariables false
theorem mixed : Try.prog.follows .mixedOrders = true := by kernel_rfl
theorem tyA0 : tyAgg Try.prog 0 = some false := by kernel_rfl
theorem tyS0 : tySize Try.prog 0 = some 1 := by kernel_rfl
theorem tyA1 : tyAgg Try.prog 1 = some false := by kernel_rfl
theorem tyS1 : tySize Try.prog 1 = some 1 := by kernel_rfl
theorem tyZ1 : tyZero Try.prog 1 = some [.nilFunc] := by kernel_rfl
theorem tyA2 : tyAgg Try.prog 2 = some false := by kernel_rfl
theorem tyS2 : tySize Try.prog 2 = some 1 := by kernel_rfl
theorem tyZ2 : tyZero Try.prog 2 = some [.int .i64 0] := by kernel_rfl
theorem tyA3 : tyAgg Try.prog 3 = some false := by kernel_rfl
theorem tyS3 : tySize Try.prog 3 = some 1 := by kernel_rfl
theorem tyZ3 : tyZero Try.prog 3 = some [.int .i64 0] := by kernel_rfl
theorem tyA4 : tyAgg Try.prog 4 = some false := by kernel_rfl
theorem tyS4 : tySize Try.prog 4 = some 1 := by kernel_rfl
theorem tyZ4 : tyZero Try.prog 4 = some [.bool false] := by kernel_rfl
theorem tyA5 : tyAgg Try.prog 5 = some false := by kernel_rfl
theorem tyS5 : tySize Try.prog 5 = some 1 := by kernel_rfl
theorem tyZ5 : tyZero Try.prog 5 = some [.int .u8 0] := by kernel_rfl
theorem tyA6 : tyAgg Try.prog 6 = some false := by kernel_rfl
theorem tyS6 : tySize Try.prog 6 = some 1 := by kernel_rfl
theorem tyZ6 : tyZero Try.prog 6 = some [.int .u8 0] := by kernel_rfl
theorem tyA7 : tyAgg Try.prog 7 = some true := by kernel_rfl
theorem tyS7 : tySize Try.prog 7 = some 4 := by kernel_rfl
theorem tyZ7 : tyZero Try.prog 7 = some [.int .i64 0, .int .i64 0, .bool false, .int .u8 0] := by kernel_rfl
theorem tyP7 : tyPlaces Try.prog 7 = some [(0, 1), (1, 1), (2, 1), (3, 1)] := by kernel_rfl
theorem tyF7_0 : tyField Try.prog 7 0 = some (0, 1, false) := by kernel_rfl
theorem tyF7_1 : tyField Try.prog 7 1 = some (1, 1, false) := by kernel_rfl
theorem tyF7_2 : tyField Try.prog 7 2 = some (2, 1, false) := by kernel_rfl
theorem tyF7_3 : tyField Try.prog 7 3 = some (3, 1, false) := by kernel_rfl
theorem tyA8 : tyAgg Try.prog 8 = some true := by kernel_rfl
theorem tyS8 : tySize Try.prog 8 = some 4 := by kernel_rfl
theorem tyZ8 : tyZero Try.prog 8 = some [.int .i64 0, .int .i64 0, .bool false, .int .u8 0] := by kernel_rfl
theorem tyP8 : tyPlaces Try.prog 8 = some [(0, 1), (1, 1), (2, 1), (3, 1)] := by kernel_rfl
theorem tyF8_0 : tyField Try.prog 8 0 = some (0, 1, false) := by kernel_rfl
theorem tyF8_1 : tyField Try.prog 8 1 = some (1, 1, false) := by kernel_rfl
theorem tyF8_2 : tyField Try.prog 8 2 = some (2, 1, false) := by kernel_rfl
theorem tyF8_3 : tyField Try.prog 8 3 = some (3, 1, false) := by kernel_rfl
theorem tyA9 : tyAgg Try.prog 9 = some false := by kernel_rfl
theorem tyS9 : tySize Try.prog 9 = some 1 := by kernel_rfl
theorem tyZ9 : tyZero Try.prog 9 = some [.string ⟨#[]⟩] := by kernel_rfl
theorem tyA10 : tyAgg Try.prog 10 = some false := by kernel_rfl
theorem tyS10 : tySize Try.prog 10 = some 1 := by kernel_rfl
theorem tyZ10 : tyZero Try.prog 10 = some [.string ⟨#[]⟩] := by kernel_rfl
theorem tyA11 : tyAgg Try.prog 11 = some false := by kernel_rfl
theorem tyS11 : tySize Try.prog 11 = some 1 := by kernel_rfl
theorem tyZ11 : tyZero Try.prog 11 = some [.string ⟨#[]⟩] := by kernel_rfl
theorem tyA12 : tyAgg Try.prog 12 = some false := by kernel_rfl
theorem tyS12 : tySize Try.prog 12 = some 1 := by kernel_rfl
theorem tyZ12 : tyZero Try.prog 12 = some [.int .u64 0] := by kernel_rfl
theorem tyA13 : tyAgg Try.prog 13 = some true := by kernel_rfl
theorem tyS13 : tySize Try.prog 13 = some 2 := by kernel_rfl
theorem tyZ13 : tyZero Try.prog 13 = some [.string ⟨#[]⟩, .int .u64 0] := by kernel_rfl
theorem tyP13 : tyPlaces Try.prog 13 = some [(0, 1), (1, 1)] := by kernel_rfl
theorem tyF13_0 : tyField Try.prog 13 0 = some (0, 1, false) := by kernel_rfl
theorem tyF13_1 : tyField Try.prog 13 1 = some (1, 1, false) := by kernel_rfl
theorem tyA14 : tyAgg Try.prog 14 = some true := by kernel_rfl
theorem tyS14 : tySize Try.prog 14 = some 2 := by kernel_rfl
theorem tyZ14 : tyZero Try.prog 14 = some [.string ⟨#[]⟩, .int .u64 0] := by kernel_rfl
theorem tyP14 : tyPlaces Try.prog 14 = some [(0, 1), (1, 1)] := by kernel_rfl
theorem tyF14_0 : tyField Try.prog 14 0 = some (0, 1, false) := by kernel_rfl
theorem tyF14_1 : tyField Try.prog 14 1 = some (1, 1, false) := by kernel_rfl
theorem tyA15 : tyAgg Try.prog 15 = some false := by kernel_rfl
theorem tyS15 : tySize Try.prog 15 = some 1 := by kernel_rfl
theorem tyZ15 : tyZero Try.prog 15 = some [.pointer none] := by kernel_rfl
theorem tyA16 : tyAgg Try.prog 16 = some false := by kernel_rfl
theorem tyS16 : tySize Try.prog 16 = some 1 := by kernel_rfl
theorem tyZ16 : tyZero Try.prog 16 = some [.pointer none] := by kernel_rfl
theorem tyA17 : tyAgg Try.prog 17 = some false := by kernel_rfl
theorem tyS17 : tySize Try.prog 17 = some 1 := by kernel_rfl
theorem tyZ17 : tyZero Try.prog 17 = some [.pointer none] := by kernel_rfl
theorem tyA18 : tyAgg Try.prog 18 = some true := by kernel_rfl
theorem tyS18 : tySize Try.prog 18 = some 1 := by kernel_rfl
theorem tyZ18 : tyZero Try.prog 18 = some [.pointer none] := by kernel_rfl
theorem tyP18 : tyPlaces Try.prog 18 = some [(0, 1)] := by kernel_rfl
theorem tyF18_0 : tyField Try.prog 18 0 = some (0, 1, false) := by kernel_rfl
theorem tyA19 : tyAgg Try.prog 19 = some true := by kernel_rfl
theorem tyS19 : tySize Try.prog 19 = some 1 := by kernel_rfl
theorem tyZ19 : tyZero Try.prog 19 = some [.pointer none] := by kernel_rfl
theorem tyP19 : tyPlaces Try.prog 19 = some [(0, 1)] := by kernel_rfl
theorem tyF19_0 : tyField Try.prog 19 0 = some (0, 1, false) := by kernel_rfl
theorem tyA20 : tyAgg Try.prog 20 = some false := by kernel_rfl
theorem tyS20 : tySize Try.prog 20 = some 1 := by kernel_rfl
theorem tyZ20 : tyZero Try.prog 20 = some [.nilIface] := by kernel_rfl
theorem tyA21 : tyAgg Try.prog 21 = some false := by kernel_rfl
theorem tyS21 : tySize Try.prog 21 = some 1 := by kernel_rfl
theorem tyZ21 : tyZero Try.prog 21 = some [.int .i32 0] := by kernel_rfl
theorem tyA22 : tyAgg Try.prog 22 = some false := by kernel_rfl
theorem tyS22 : tySize Try.prog 22 = some 1 := by kernel_rfl
theorem tyZ22 : tyZero Try.prog 22 = some [.slice none 0 0] := by kernel_rfl
theorem tyA23 : tyAgg Try.prog 23 = some false := by kernel_rfl
theorem tyS23 : tySize Try.prog 23 = some 1 := by kernel_rfl
theorem tyZ23 : tyZero Try.prog 23 = some [.nilFunc] := by kernel_rfl
theorem tyA24 : tyAgg Try.prog 24 = some false := by kernel_rfl
theorem tyS24 : tySize Try.prog 24 = some 1 := by kernel_rfl
theorem tyZ24 : tyZero Try.prog 24 = some [.slice none 0 0] := by kernel_rfl
theorem tyA25 : tyAgg Try.prog 25 = some false := by kernel_rfl
theorem tyS25 : tySize Try.prog 25 = some 1 := by kernel_rfl
theorem tyZ25 : tyZero Try.prog 25 = some [.nilFunc] := by kernel_rfl
theorem tyA26 : tyAgg Try.prog 26 = some false := by kernel_rfl
theorem tyS26 : tySize Try.prog 26 = some 1 := by kernel_rfl
theorem tyZ26 : tyZero Try.prog 26 = some [.nilFunc] := by kernel_rfl
theorem tyA27 : tyAgg Try.prog 27 = some false := by kernel_rfl
theorem tyS27 : tySize Try.prog 27 = some 1 := by kernel_rfl
theorem tyZ27 : tyZero Try.prog 27 = some [.nilFunc] := by kernel_rfl
theorem tyA28 : tyAgg Try.prog 28 = some false := by kernel_rfl
theorem tyS28 : tySize Try.prog 28 = some 1 := by kernel_rfl
theorem tyZ28 : tyZero Try.prog 28 = some [.nilFunc] := by kernel_rfl
theorem tyA29 : tyAgg Try.prog 29 = some false := by kernel_rfl
theorem tyS29 : tySize Try.prog 29 = some 1 := by kernel_rfl
theorem tyZ29 : tyZero Try.prog 29 = some [.nilFunc] := by kernel_rfl
theorem tyA30 : tyAgg Try.prog 30 = some false := by kernel_rfl
theorem tyS30 : tySize Try.prog 30 = some 1 := by kernel_rfl
theorem tyZ30 : tyZero Try.prog 30 = some [.nilFunc] := by kernel_rfl
theorem tyA31 : tyAgg Try.prog 31 = some false := by kernel_rfl
theorem tyS31 : tySize Try.prog 31 = some 1 := by kernel_rfl
theorem tyZ31 : tyZero Try.prog 31 = some [.nilFunc] := by kernel_rfl
theorem tyA32 : tyAgg Try.prog 32 = some false := by kernel_rfl
theorem tyS32 : tySize Try.prog 32 = some 1 := by kernel_rfl
theorem tyZ32 : tyZero Try.prog 32 = some [.nilFunc] := by kernel_rfl
theorem tyA33 : tyAgg Try.prog 33 = some false := by kernel_rfl
theorem tyS33 : tySize Try.prog 33 = some 1 := by kernel_rfl
theorem tyZ33 : tyZero Try.prog 33 = some [.nilFunc] := by kernel_rfl
theorem tyA34 : tyAgg Try.prog 34 = some false := by kernel_rfl
theorem tyS34 : tySize Try.prog 34 = some 1 := by kernel_rfl
theorem tyZ34 : tyZero Try.prog 34 = some [.nilFunc] := by kernel_rfl
theorem tyA35 : tyAgg Try.prog 35 = some false := by kernel_rfl
theorem tyS35 : tySize Try.prog 35 = some 1 := by kernel_rfl
theorem tyZ35 : tyZero Try.prog 35 = some [.nilFunc] := by kernel_rfl
theorem tyA36 : tyAgg Try.prog 36 = some false := by kernel_rfl
theorem tyS36 : tySize Try.prog 36 = some 1 := by kernel_rfl
theorem tyZ36 : tyZero Try.prog 36 = some [.int .u64 0] := by kernel_rfl
theorem tyA37 : tyAgg Try.prog 37 = some false := by kernel_rfl
theorem tyS37 : tySize Try.prog 37 = some 1 := by kernel_rfl
theorem tyZ37 : tyZero Try.prog 37 = some [.nilFunc] := by kernel_rfl
theorem tyA38 : tyAgg Try.prog 38 = some false := by kernel_rfl
theorem tyS38 : tySize Try.prog 38 = some 1 := by kernel_rfl
theorem tyZ38 : tyZero Try.prog 38 = some [.nilFunc] := by kernel_rfl
theorem tyA39 : tyAgg Try.prog 39 = some false := by kernel_rfl
theorem tyS39 : tySize Try.prog 39 = some 1 := by kernel_rfl
theorem tyZ39 : tyZero Try.prog 39 = some [.nilFunc] := by kernel_rfl
theorem tyA40 : tyAgg Try.prog 40 = some false := by kernel_rfl
theorem tyS40 : tySize Try.prog 40 = some 1 := by kernel_rfl
theorem tyZ40 : tyZero Try.prog 40 = some [.slice none 0 0] := by kernel_rfl
theorem tyA41 : tyAgg Try.prog 41 = some false := by kernel_rfl
theorem tyS41 : tySize Try.prog 41 = some 1 := by kernel_rfl
theorem tyZ41 : tyZero Try.prog 41 = some [.slice none 0 0] := by kernel_rfl
theorem tyA42 : tyAgg Try.prog 42 = some true := by kernel_rfl
theorem tyS42 : tySize Try.prog 42 = some 2 := by kernel_rfl
theorem tyZ42 : tyZero Try.prog 42 = some [.int .u64 0, .int .u64 0] := by kernel_rfl
theorem tyP42 : tyPlaces Try.prog 42 = some [(0, 1), (1, 1)] := by kernel_rfl
theorem tyF42_0 : tyField Try.prog 42 0 = some (0, 1, false) := by kernel_rfl
theorem tyF42_1 : tyField Try.prog 42 1 = some (1, 1, false) := by kernel_rfl
theorem tyA43 : tyAgg Try.prog 43 = some true := by kernel_rfl
theorem tyS43 : tySize Try.prog 43 = some 2 := by kernel_rfl
theorem tyZ43 : tyZero Try.prog 43 = some [.int .u64 0, .int .u64 0] := by kernel_rfl
theorem tyP43 : tyPlaces Try.prog 43 = some [(0, 1), (1, 1)] := by kernel_rfl
theorem tyF43_0 : tyField Try.prog 43 0 = some (0, 1, false) := by kernel_rfl
theorem tyF43_1 : tyField Try.prog 43 1 = some (1, 1, false) := by kernel_rfl
theorem tyA44 : tyAgg Try.prog 44 = some false := by kernel_rfl
theorem tyS44 : tySize Try.prog 44 = some 1 := by kernel_rfl
theorem tyZ44 : tyZero Try.prog 44 = some [.nilFunc] := by kernel_rfl
theorem tyA45 : tyAgg Try.prog 45 = some false := by kernel_rfl
theorem tyS45 : tySize Try.prog 45 = some 1 := by kernel_rfl
theorem tyZ45 : tyZero Try.prog 45 = some [.nilFunc] := by kernel_rfl
theorem tyA46 : tyAgg Try.prog 46 = some false := by kernel_rfl
theorem tyS46 : tySize Try.prog 46 = some 1 := by kernel_rfl
theorem tyZ46 : tyZero Try.prog 46 = some [.nilFunc] := by kernel_rfl
theorem tyA47 : tyAgg Try.prog 47 = some true := by kernel_rfl
theorem tyS47 : tySize Try.prog 47 = some 3 := by kernel_rfl
theorem tyZ47 : tyZero Try.prog 47 = some [.int .i64 0, .int .i64 0, .int .i64 0] := by kernel_rfl
theorem tyP47 : tyPlaces Try.prog 47 = some [(0, 1), (1, 1), (2, 1)] := by kernel_rfl
theorem tyF47_0 : tyField Try.prog 47 0 = some (0, 1, false) := by kernel_rfl
theorem tyF47_1 : tyField Try.prog 47 1 = some (1, 1, false) := by kernel_rfl
theorem tyF47_2 : tyField Try.prog 47 2 = some (2, 1, false) := by kernel_rfl
theorem tyA48 : tyAgg Try.prog 48 = some true := by kernel_rfl
theorem tyS48 : tySize Try.prog 48 = some 3 := by kernel_rfl
theorem tyZ48 : tyZero Try.prog 48 = some [.int .i64 0, .int .i64 0, .int .i64 0] := by kernel_rfl
theorem tyP48 : tyPlaces Try.prog 48 = some [(0, 1), (1, 1), (2, 1)] := by kernel_rfl
theorem tyF48_0 : tyField Try.prog 48 0 = some (0, 1, false) := by kernel_rfl
theorem tyF48_1 : tyField Try.prog 48 1 = some (1, 1, false) := by kernel_rfl
theorem tyF48_2 : tyField Try.prog 48 2 = some (2, 1, false) := by kernel_rfl
theorem tyA49 : tyAgg Try.prog 49 = some false := by kernel_rfl
theorem tyS49 : tySize Try.prog 49 = some 1 := by kernel_rfl
theorem tyZ49 : tyZero Try.prog 49 = some [.int .i64 0] := by kernel_rfl
theorem tyA50 : tyAgg Try.prog 50 = some false := by kernel_rfl
theorem tyS50 : tySize Try.prog 50 = some 1 := by kernel_rfl
theorem tyA51 : tyAgg Try.prog 51 = some false := by kernel_rfl
theorem tyS51 : tySize Try.prog 51 = some 1 := by kernel_rfl
theorem tyZ51 : tyZero Try.prog 51 = some [.nilFunc] := by kernel_rfl
theorem tyA52 : tyAgg Try.prog 52 = some true := by kernel_rfl
theorem tyS52 : tySize Try.prog 52 = some 3 := by kernel_rfl
theorem tyZ52 : tyZero Try.prog 52 = some [.int .i64 0, .int .i64 0, .int .i64 0] := by kernel_rfl
theorem tyP52 : tyPlaces Try.prog 52 = some [(0, 1), (1, 1), (2, 1)] := by kernel_rfl
theorem tyF52_0 : tyField Try.prog 52 0 = some (0, 1, false) := by kernel_rfl
theorem tyF52_1 : tyField Try.prog 52 1 = some (1, 1, false) := by kernel_rfl
theorem tyF52_2 : tyField Try.prog 52 2 = some (2, 1, false) := by kernel_rfl
theorem tyA53 : tyAgg Try.prog 53 = some false := by kernel_rfl
theorem tyS53 : tySize Try.prog 53 = some 1 := by kernel_rfl
theorem tyA54 : tyAgg Try.prog 54 = some false := by kernel_rfl
theorem tyS54 : tySize Try.prog 54 = some 1 := by kernel_rfl
theorem tyZ54 : tyZero Try.prog 54 = some [.nilFunc] := by kernel_rfl
theorem tyA55 : tyAgg Try.prog 55 = some false := by kernel_rfl
theorem tyS55 : tySize Try.prog 55 = some 1 := by kernel_rfl
theorem tyZ55 : tyZero Try.prog 55 = some [.slice none 0 0] := by kernel_rfl
theorem tyA56 : tyAgg Try.prog 56 = some false := by kernel_rfl
theorem tyS56 : tySize Try.prog 56 = some 1 := by kernel_rfl
theorem tyA57 : tyAgg Try.prog 57 = some false := by kernel_rfl
theorem tyS57 : tySize Try.prog 57 = some 1 := by kernel_rfl
theorem tyZ57 : tyZero Try.prog 57 = some [.nilFunc] := by kernel_rfl
theorem tyA58 : tyAgg Try.prog 58 = some false := by kernel_rfl
theorem tyS58 : tySize Try.prog 58 = some 1 := by kernel_rfl
theorem tyZ58 : tyZero Try.prog 58 = some [.nilFunc] := by kernel_rfl
theorem tyA59 : tyAgg Try.prog 59 = some false := by kernel_rfl
theorem tyS59 : tySize Try.prog 59 = some 1 := by kernel_rfl
theorem tyZ59 : tyZero Try.prog 59 = some [.nilFunc] := by kernel_rfl
theorem tyA60 : tyAgg Try.prog 60 = some true := by kernel_rfl
theorem tyS60 : tySize Try.prog 60 = some 5 := by kernel_rfl
theorem tyZ60 : tyZero Try.prog 60 = some [.int .i64 0, .int .i64 0, .int .i64 0, .int .i64 0, .int .i64 0] := by kernel_rfl
theorem tyP60 : tyPlaces Try.prog 60 = some [(0, 1), (1, 1), (2, 1), (3, 1), (4, 1)] := by kernel_rfl
theorem tyF60_0 : tyField Try.prog 60 0 = some (0, 1, false) := by kernel_rfl
theorem tyF60_1 : tyField Try.prog 60 1 = some (1, 1, false) := by kernel_rfl
theorem tyF60_2 : tyField Try.prog 60 2 = some (2, 1, false) := by kernel_rfl
theorem tyF60_3 : tyField Try.prog 60 3 = some (3, 1, false) := by kernel_rfl
theorem tyF60_4 : tyField Try.prog 60 4 = some (4, 1, false) := by kernel_rfl
theorem tyA61 : tyAgg Try.prog 61 = some true := by kernel_rfl
theorem tyS61 : tySize Try.prog 61 = some 5 := by kernel_rfl
theorem tyZ61 : tyZero Try.prog 61 = some [.int .i64 0, .int .i64 0, .int .i64 0, .int .i64 0, .int .i64 0] := by kernel_rfl
theorem tyP61 : tyPlaces Try.prog 61 = some [(0, 1), (1, 1), (2, 1), (3, 1), (4, 1)] := by kernel_rfl
theorem tyF61_0 : tyField Try.prog 61 0 = some (0, 1, false) := by kernel_rfl
theorem tyF61_1 : tyField Try.prog 61 1 = some (1, 1, false) := by kernel_rfl
theorem tyF61_2 : tyField Try.prog 61 2 = some (2, 1, false) := by kernel_rfl
theorem tyF61_3 : tyField Try.prog 61 3 = some (3, 1, false) := by kernel_rfl
theorem tyF61_4 : tyField Try.prog 61 4 = some (4, 1, false) := by kernel_rfl
theorem tyA62 : tyAgg Try.prog 62 = some false := by kernel_rfl
theorem tyS62 : tySize Try.prog 62 = some 1 := by kernel_rfl
theorem tyA63 : tyAgg Try.prog 63 = some false := by kernel_rfl
theorem tyS63 : tySize Try.prog 63 = some 1 := by kernel_rfl
theorem tyZ63 : tyZero Try.prog 63 = some [.nilFunc] := by kernel_rfl
theorem tyA64 : tyAgg Try.prog 64 = some true := by kernel_rfl
theorem tyS64 : tySize Try.prog 64 = some 5 := by kernel_rfl
theorem tyZ64 : tyZero Try.prog 64 = some [.int .i64 0, .int .i64 0, .int .i64 0, .int .i64 0, .int .i64 0] := by kernel_rfl
theorem tyP64 : tyPlaces Try.prog 64 = some [(0, 1), (1, 1), (2, 1), (3, 1), (4, 1)] := by kernel_rfl
theorem tyF64_0 : tyField Try.prog 64 0 = some (0, 1, false) := by kernel_rfl
theorem tyF64_1 : tyField Try.prog 64 1 = some (1, 1, false) := by kernel_rfl
theorem tyF64_2 : tyField Try.prog 64 2 = some (2, 1, false) := by kernel_rfl
theorem tyF64_3 : tyField Try.prog 64 3 = some (3, 1, false) := by kernel_rfl
theorem tyF64_4 : tyField Try.prog 64 4 = some (4, 1, false) := by kernel_rfl
theorem tyA65 : tyAgg Try.prog 65 = some false := by kernel_rfl
theorem tyS65 : tySize Try.prog 65 = some 1 := by kernel_rfl
theorem tyZ65 : tyZero Try.prog 65 = some [.nilFunc] := by kernel_rfl
theorem tyA66 : tyAgg Try.prog 66 = some false := by kernel_rfl
theorem tyS66 : tySize Try.prog 66 = some 1 := by kernel_rfl
theorem tyZ66 : tyZero Try.prog 66 = some [.nilFunc] := by kernel_rfl
theorem tyA67 : tyAgg Try.prog 67 = some false := by kernel_rfl
theorem tyS67 : tySize Try.prog 67 = some 1 := by kernel_rfl
theorem tyZ67 : tyZero Try.prog 67 = some [.nilFunc] := by kernel_rfl
theorem tyA68 : tyAgg Try.prog 68 = some false := by kernel_rfl
theorem tyS68 : tySize Try.prog 68 = some 1 := by kernel_rfl
theorem tyZ68 : tyZero Try.prog 68 = some [.nilFunc] := by kernel_rfl
theorem tyA69 : tyAgg Try.prog 69 = some false := by kernel_rfl
theorem tyS69 : tySize Try.prog 69 = some 1 := by kernel_rfl
theorem tyZ69 : tyZero Try.prog 69 = some [.nilFunc] := by kernel_rfl
theorem tyA70 : tyAgg Try.prog 70 = some false := by kernel_rfl
theorem tyS70 : tySize Try.prog 70 = some 1 := by kernel_rfl
theorem tyZ70 : tyZero Try.prog 70 = some [.nilFunc] := by kernel_rfl
theorem tyA71 : tyAgg Try.prog 71 = some false := by kernel_rfl
theorem tyS71 : tySize Try.prog 71 = some 1 := by kernel_rfl
theorem tyA72 : tyAgg Try.prog 72 = some false := by kernel_rfl
theorem tyS72 : tySize Try.prog 72 = some 1 := by kernel_rfl
theorem tyZ72 : tyZero Try.prog 72 = some [.nilFunc] := by kernel_rfl
theorem tyA73 : tyAgg Try.prog 73 = some false := by kernel_rfl
theorem tyS73 : tySize Try.prog 73 = some 1 := by kernel_rfl
theorem tyZ73 : tyZero Try.prog 73 = some [.nilFunc] := by kernel_rfl
theorem tyA74 : tyAgg Try.prog 74 = some false := by kernel_rfl
theorem tyS74 : tySize Try.prog 74 = some 1 := by kernel_rfl
theorem tyZ74 : tyZero Try.prog 74 = some [.nilFunc] := by kernel_rfl
theorem tyA75 : tyAgg Try.prog 75 = some true := by kernel_rfl
theorem tyS75 : tySize Try.prog 75 = some 2 := by kernel_rfl
theorem tyZ75 : tyZero Try.prog 75 = some [.int .u64 0, .int .u64 0] := by kernel_rfl
theorem tyP75 : tyPlaces Try.prog 75 = some [(0, 1), (1, 1)] := by kernel_rfl
theorem tyF75_0 : tyField Try.prog 75 0 = some (0, 1, false) := by kernel_rfl
theorem tyF75_1 : tyField Try.prog 75 1 = some (1, 1, false) := by kernel_rfl
theorem tyA76 : tyAgg Try.prog 76 = some false := by kernel_rfl
theorem tyS76 : tySize Try.prog 76 = some 1 := by kernel_rfl
theorem tyA77 : tyAgg Try.prog 77 = some false := by kernel_rfl
theorem tyS77 : tySize Try.prog 77 = some 1 := by kernel_rfl
theorem tyZ77 : tyZero Try.prog 77 = some [.nilFunc] := by kernel_rfl
theorem tyA78 : tyAgg Try.prog 78 = some false := by kernel_rfl
theorem tyS78 : tySize Try.prog 78 = some 1 := by kernel_rfl
theorem tyZ78 : tyZero Try.prog 78 = some [.nilFunc] := by kernel_rfl
theorem tyA79 : tyAgg Try.prog 79 = some false := by kernel_rfl
theorem tyS79 : tySize Try.prog 79 = some 1 := by kernel_rfl
theorem tyA80 : tyAgg Try.prog 80 = some false := by kernel_rfl
theorem tyS80 : tySize Try.prog 80 = some 1 := by kernel_rfl
theorem tyZ80 : tyZero Try.prog 80 = some [.nilFunc] := by kernel_rfl
theorem tyA81 : tyAgg Try.prog 81 = some false := by kernel_rfl
theorem tyS81 : tySize Try.prog 81 = some 1 := by kernel_rfl
theorem tyZ81 : tyZero Try.prog 81 = some [.nilFunc] := by kernel_rfl
theorem tyA82 : tyAgg Try.prog 82 = some false := by kernel_rfl
theorem tyS82 : tySize Try.prog 82 = some 1 := by kernel_rfl
theorem tyZ82 : tyZero Try.prog 82 = some [.nilFunc] := by kernel_rfl
theorem tyA83 : tyAgg Try.prog 83 = some false := by kernel_rfl
theorem tyS83 : tySize Try.prog 83 = some 1 := by kernel_rfl
theorem tyZ83 : tyZero Try.prog 83 = some [.nilFunc] := by kernel_rfl
theorem tyA84 : tyAgg Try.prog 84 = some false := by kernel_rfl
theorem tyS84 : tySize Try.prog 84 = some 1 := by kernel_rfl
theorem tyZ84 : tyZero Try.prog 84 = some [.nilFunc] := by kernel_rfl
theorem tyA85 : tyAgg Try.prog 85 = some false := by kernel_rfl
theorem tyS85 : tySize Try.prog 85 = some 1 := by kernel_rfl
theorem tyZ85 : tyZero Try.prog 85 = some [.nilFunc] := by kernel_rfl
theorem tyA86 : tyAgg Try.prog 86 = some false := by kernel_rfl
theorem tyS86 : tySize Try.prog 86 = some 1 := by kernel_rfl
theorem tyZ86 : tyZero Try.prog 86 = some [.nilFunc] := by kernel_rfl
theorem tyA87 : tyAgg Try.prog 87 = some false := by kernel_rfl
theorem tyS87 : tySize Try.prog 87 = some 1 := by kernel_rfl
theorem tyZ87 : tyZero Try.prog 87 = some [.nilFunc] := by kernel_rfl
theorem tyA88 : tyAgg Try.prog 88 = some false := by kernel_rfl
theorem tyS88 : tySize Try.prog 88 = some 1 := by kernel_rfl
theorem tyZ88 : tyZero Try.prog 88 = some [.nilFunc] := by kernel_rfl
theorem tyA89 : tyAgg Try.prog 89 = some false := by kernel_rfl
theorem tyS89 : tySize Try.prog 89 = some 1 := by kernel_rfl
theorem tyZ89 : tyZero Try.prog 89 = some [.nilFunc] := by kernel_rfl
theorem tyA90 : tyAgg Try.prog 90 = some false := by kernel_rfl
theorem tyS90 : tySize Try.prog 90 = some 1 := by kernel_rfl
theorem tyA91 : tyAgg Try.prog 91 = some false := by kernel_rfl
theorem tyS91 : tySize Try.prog 91 = some 1 := by kernel_rfl
theorem tyZ91 : tyZero Try.prog 91 = some [.nilFunc] := by kernel_rfl
theorem tyA92 : tyAgg Try.prog 92 = some false := by kernel_rfl
theorem tyS92 : tySize Try.prog 92 = some 1 := by kernel_rfl
theorem tyZ92 : tyZero Try.prog 92 = some [.nilFunc] := by kernel_rfl
theorem tyA93 : tyAgg Try.prog 93 = some false := by kernel_rfl
theorem tyS93 : tySize Try.prog 93 = some 1 := by kernel_rfl
theorem tyZ93 : tyZero Try.prog 93 = some [.nilFunc] := by kernel_rfl
theorem tyA94 : tyAgg Try.prog 94 = some false := by kernel_rfl
theorem tyS94 : tySize Try.prog 94 = some 1 := by kernel_rfl
theorem tyZ94 : tyZero Try.prog 94 = some [.nilFunc] := by kernel_rfl
theorem tyA95 : tyAgg Try.prog 95 = some false := by kernel_rfl
theorem tyS95 : tySize Try.prog 95 = some 1 := by kernel_rfl
theorem tyZ95 : tyZero Try.prog 95 = some [.nilFunc] := by kernel_rfl
theorem tyA96 : tyAgg Try.prog 96 = some false := by kernel_rfl
theorem tyS96 : tySize Try.prog 96 = some 1 := by kernel_rfl
theorem tyZ96 : tyZero Try.prog 96 = some [.nilFunc] := by kernel_rfl
theorem tyA97 : tyAgg Try.prog 97 = some false := by kernel_rfl
theorem tyS97 : tySize Try.prog 97 = some 1 := by kernel_rfl
theorem tyZ97 : tyZero Try.prog 97 = some [.nilFunc] := by kernel_rfl
theorem tyA98 : tyAgg Try.prog 98 = some false := by kernel_rfl
theorem tyS98 : tySize Try.prog 98 = some 1 := by kernel_rfl
theorem tyZ98 : tyZero Try.prog 98 = some [.nilFunc] := by kernel_rfl
theorem tyA99 : tyAgg Try.prog 99 = some false := by kernel_rfl
theorem tyS99 : tySize Try.prog 99 = some 1 := by kernel_rfl
theorem tyZ99 : tyZero Try.prog 99 = some [.nilFunc] := by kernel_rfl
theorem tyA100 : tyAgg Try.prog 100 = some false := by kernel_rfl
theorem tyS100 : tySize Try.prog 100 = some 1 := by kernel_rfl
theorem tyZ100 : tyZero Try.prog 100 = some [.nilFunc] := by kernel_rfl
theorem tyA101 : tyAgg Try.prog 101 = some false := by kernel_rfl
theorem tyS101 : tySize Try.prog 101 = some 1 := by kernel_rfl
theorem tyZ101 : tyZero Try.prog 101 = some [.nilFunc] := by kernel_rfl
theorem tyA102 : tyAgg Try.prog 102 = some false := by kernel_rfl
theorem tyS102 : tySize Try.prog 102 = some 1 := by kernel_rfl
theorem tyZ102 : tyZero Try.prog 102 = some [.nilFunc] := by kernel_rfl
theorem tyA103 : tyAgg Try.prog 103 = some false := by kernel_rfl
theorem tyS103 : tySize Try.prog 103 = some 1 := by kernel_rfl
theorem tyZ103 : tyZero Try.prog 103 = some [.nilFunc] := by kernel_rfl
theorem tyA104 : tyAgg Try.prog 104 = some false := by kernel_rfl
theorem tyS104 : tySize Try.prog 104 = some 1 := by kernel_rfl
theorem tyZ104 : tyZero Try.prog 104 = some [.nilFunc] := by kernel_rfl
theorem tyA105 : tyAgg Try.prog 105 = some false := by kernel_rfl
theorem tyS105 : tySize Try.prog 105 = some 1 := by kernel_rfl
theorem tyA106 : tyAgg Try.prog 106 = some false := by kernel_rfl
theorem tyS106 : tySize Try.prog 106 = some 1 := by kernel_rfl
theorem tyZ106 : tyZero Try.prog 106 = some [.nilFunc] := by kernel_rfl
theorem tyA107 : tyAgg Try.prog 107 = some false := by kernel_rfl
theorem tyS107 : tySize Try.prog 107 = some 1 := by kernel_rfl
theorem tyZ107 : tyZero Try.prog 107 = some [.slice none 0 0] := by kernel_rfl
theorem tyA108 : tyAgg Try.prog 108 = some false := by kernel_rfl
theorem tyS108 : tySize Try.prog 108 = some 1 := by kernel_rfl
theorem tyZ108 : tyZero Try.prog 108 = some [.nilFunc] := by kernel_rfl
theorem tyA109 : tyAgg Try.prog 109 = some false := by kernel_rfl
theorem tyS109 : tySize Try.prog 109 = some 1 := by kernel_rfl
theorem tyA110 : tyAgg Try.prog 110 = some false := by kernel_rfl
theorem tyS110 : tySize Try.prog 110 = some 1 := by kernel_rfl
theorem tyZ110 : tyZero Try.prog 110 = some [.nilFunc] := by kernel_rfl
theorem tyA111 : tyAgg Try.prog 111 = some false := by kernel_rfl
theorem tyS111 : tySize Try.prog 111 = some 1 := by kernel_rfl
theorem tyZ111 : tyZero Try.prog 111 = some [.nilFunc] := by kernel_rfl
theorem tyA112 : tyAgg Try.prog 112 = some true := by kernel_rfl
theorem tyS112 : tySize Try.prog 112 = some 4 := by kernel_rfl
theorem tyZ112 : tyZero Try.prog 112 = some [.int .u64 0, .int .u64 0, .bool false, .bool false] := by kernel_rfl
theorem tyP112 : tyPlaces Try.prog 112 = some [(0, 1), (1, 1), (2, 1), (3, 1)] := by kernel_rfl
theorem tyF112_0 : tyField Try.prog 112 0 = some (0, 1, false) := by kernel_rfl
theorem tyF112_1 : tyField Try.prog 112 1 = some (1, 1, false) := by kernel_rfl
theorem tyF112_2 : tyField Try.prog 112 2 = some (2, 1, false) := by kernel_rfl
theorem tyF112_3 : tyField Try.prog 112 3 = some (3, 1, false) := by kernel_rfl
theorem tyA113 : tyAgg Try.prog 113 = some true := by kernel_rfl
theorem tyS113 : tySize Try.prog 113 = some 4 := by kernel_rfl
theorem tyZ113 : tyZero Try.prog 113 = some [.int .u64 0, .int .u64 0, .bool false, .bool false] := by kernel_rfl
theorem tyP113 : tyPlaces Try.prog 113 = some [(0, 1), (1, 1), (2, 1), (3, 1)] := by kernel_rfl
theorem tyF113_0 : tyField Try.prog 113 0 = some (0, 1, false) := by kernel_rfl
theorem tyF113_1 : tyField Try.prog 113 1 = some (1, 1, false) := by kernel_rfl
theorem tyF113_2 : tyField Try.prog 113 2 = some (2, 1, false) := by kernel_rfl
theorem tyF113_3 : tyField Try.prog 113 3 = some (3, 1, false) := by kernel_rfl
theorem tyA114 : tyAgg Try.prog 114 = some true := by kernel_rfl
theorem tyS114 : tySize Try.prog 114 = some 16 := by kernel_rfl
theorem tyZ114 : tyZero Try.prog 114 = some [.int .u64 0, .int .u64 0, .bool false, .bool false, .int .u64 0, .int .u64 0, .bool false, .bool false, .int .u64 0, .int .u64 0, .bool false, .bool false, .int .u64 0, .int .u64 0, .bool false, .bool false] := by kernel_rfl
theorem tyA115 : tyAgg Try.prog 115 = some false := by kernel_rfl
theorem tyS115 : tySize Try.prog 115 = some 1 := by kernel_rfl
theorem tyZ115 : tyZero Try.prog 115 = some [.nilFunc] := by kernel_rfl
theorem tyA116 : tyAgg Try.prog 116 = some false := by kernel_rfl
theorem tyS116 : tySize Try.prog 116 = some 1 := by kernel_rfl
theorem tyZ116 : tyZero Try.prog 116 = some [.nilFunc] := by kernel_rfl
theorem tyA117 : tyAgg Try.prog 117 = some false := by kernel_rfl
theorem tyS117 : tySize Try.prog 117 = some 1 := by kernel_rfl
theorem tyZ117 : tyZero Try.prog 117 = some [.int .u64 0] := by kernel_rfl
theorem tyA118 : tyAgg Try.prog 118 = some false := by kernel_rfl
theorem tyS118 : tySize Try.prog 118 = some 1 := by kernel_rfl
theorem tyA119 : tyAgg Try.prog 119 = some false := by kernel_rfl
theorem tyS119 : tySize Try.prog 119 = some 1 := by kernel_rfl
theorem tyZ119 : tyZero Try.prog 119 = some [.nilFunc] := by kernel_rfl
theorem tyA120 : tyAgg Try.prog 120 = some false := by kernel_rfl
theorem tyS120 : tySize Try.prog 120 = some 1 := by kernel_rfl
theorem tyA121 : tyAgg Try.prog 121 = some false := by kernel_rfl
theorem tyS121 : tySize Try.prog 121 = some 1 := by kernel_rfl
theorem tyZ121 : tyZero Try.prog 121 = some [.nilFunc] := by kernel_rfl
theorem tyA122 : tyAgg Try.prog 122 = some false := by kernel_rfl
theorem tyS122 : tySize Try.prog 122 = some 1 := by kernel_rfl
theorem tyZ122 : tyZero Try.prog 122 = some [.nilFunc] := by kernel_rfl
theorem tyA123 : tyAgg Try.prog 123 = some false := by kernel_rfl
theorem tyS123 : tySize Try.prog 123 = some 1 := by kernel_rfl
theorem tyZ123 : tyZero Try.prog 123 = some [.nilFunc] := by kernel_rfl
theorem tyA124 : tyAgg Try.prog 124 = some false := by kernel_rfl
theorem tyS124 : tySize Try.prog 124 = some 1 := by kernel_rfl
theorem tyZ124 : tyZero Try.prog 124 = some [.nilFunc] := by kernel_rfl
theorem tyA125 : tyAgg Try.prog 125 = some false := by kernel_rfl
theorem tyS125 : tySize Try.prog 125 = some 1 := by kernel_rfl
theorem tyZ125 : tyZero Try.prog 125 = some [.nilFunc] := by kernel_rfl
theorem tyA126 : tyAgg Try.prog 126 = some false := by kernel_rfl
theorem tyS126 : tySize Try.prog 126 = some 1 := by kernel_rfl
theorem tyZ126 : tyZero Try.prog 126 = some [.nilFunc] := by kernel_rfl
theorem tyA127 : tyAgg Try.prog 127 = some false := by kernel_rfl
theorem tyS127 : tySize Try.prog 127 = some 1 := by kernel_rfl
theorem tyZ127 : tyZero Try.prog 127 = some [.nilFunc] := by kernel_rfl
theorem tyA128 : tyAgg Try.prog 128 = some false := by kernel_rfl
theorem tyS128 : tySize Try.prog 128 = some 1 := by kernel_rfl
theorem tyZ128 : tyZero Try.prog 128 = some [.nilFunc] := by kernel_rfl
theorem tyA129 : tyAgg Try.prog 129 = some false := by kernel_rfl
theorem tyS129 : tySize Try.prog 129 = some 1 := by kernel_rfl
theorem tyA130 : tyAgg Try.prog 130 = some false := by kernel_rfl
theorem tyS130 : tySize Try.prog 130 = some 1 := by kernel_rfl
theorem tyZ130 : tyZero Try.prog 130 = some [.nilFunc] := by kernel_rfl
theorem tyA131 : tyAgg Try.prog 131 = some true := by kernel_rfl
theorem tyS131 : tySize Try.prog 131 = some 2 := by kernel_rfl
theorem tyZ131 : tyZero Try.prog 131 = some [.int .u64 0, .int .u64 0] := by kernel_rfl
theorem tyA132 : tyAgg Try.prog 132 = some true := by kernel_rfl
theorem tyS132 : tySize Try.prog 132 = some 4 := by kernel_rfl
theorem tyZ132 : tyZero Try.prog 132 = some [.int .u64 0, .int .u64 0, .int .u64 0, .int .u64 0] := by kernel_rfl
theorem tyA133 : tyAgg Try.prog 133 = some false := by kernel_rfl
theorem tyS133 : tySize Try.prog 133 = some 1 := by kernel_rfl
theorem tyZ133 : tyZero Try.prog 133 = some [.nilFunc] := by kernel_rfl
theorem tyA134 : tyAgg Try.prog 134 = some false := by kernel_rfl
theorem tyS134 : tySize Try.prog 134 = some 1 := by kernel_rfl
theorem tyZ134 : tyZero Try.prog 134 = some [.int .i64 0] := by kernel_rfl
theorem tyA135 : tyAgg Try.prog 135 = some false := by kernel_rfl
theorem tyS135 : tySize Try.prog 135 = some 1 := by kernel_rfl
theorem tyA136 : tyAgg Try.prog 136 = some false := by kernel_rfl
theorem tyS136 : tySize Try.prog 136 = some 1 := by kernel_rfl
theorem tyZ136 : tyZero Try.prog 136 = some [.nilFunc] := by kernel_rfl
theorem tyA137 : tyAgg Try.prog 137 = some false := by kernel_rfl
theorem tyS137 : tySize Try.prog 137 = some 1 := by kernel_rfl
theorem tyZ137 : tyZero Try.prog 137 = some [.nilFunc] := by kernel_rfl
theorem tyA138 : tyAgg Try.prog 138 = some false := by kernel_rfl
theorem tyS138 : tySize Try.prog 138 = some 1 := by kernel_rfl
theorem tyZ138 : tyZero Try.prog 138 = some [.nilFunc] := by kernel_rfl
theorem tyA139 : tyAgg Try.prog 139 = some false := by kernel_rfl
theorem tyS139 : tySize Try.prog 139 = some 1 := by kernel_rfl
theorem tyA140 : tyAgg Try.prog 140 = some false := by kernel_rfl
theorem tyS140 : tySize Try.prog 140 = some 1 := by kernel_rfl
theorem tyZ140 : tyZero Try.prog 140 = some [.nilFunc] := by kernel_rfl
theorem tyA141 : tyAgg Try.prog 141 = some false := by kernel_rfl
theorem tyS141 : tySize Try.prog 141 = some 1 := by kernel_rfl
theorem tyZ141 : tyZero Try.prog 141 = some [.nilFunc] := by kernel_rfl
theorem tyA142 : tyAgg Try.prog 142 = some false := by kernel_rfl
theorem tyS142 : tySize Try.prog 142 = some 1 := by kernel_rfl
theorem tyZ142 : tyZero Try.prog 142 = some [.int .u32 0] := by kernel_rfl
theorem tyA143 : tyAgg Try.prog 143 = some false := by kernel_rfl
theorem tyS143 : tySize Try.prog 143 = some 1 := by kernel_rfl
theorem tyZ143 : tyZero Try.prog 143 = some [.nilFunc] := by kernel_rfl
theorem tyA144 : tyAgg Try.prog 144 = some false := by kernel_rfl
theorem tyS144 : tySize Try.prog 144 = some 1 := by kernel_rfl
theorem tyA145 : tyAgg Try.prog 145 = some false := by kernel_rfl
theorem tyS145 : tySize Try.prog 145 = some 1 := by kernel_rfl
theorem tyZ145 : tyZero Try.prog 145 = some [.nilFunc] := by kernel_rfl
theorem tyA146 : tyAgg Try.prog 146 = some false := by kernel_rfl
theorem tyS146 : tySize Try.prog 146 = some 1 := by kernel_rfl
theorem tyZ146 : tyZero Try.prog 146 = some [.int .u64 0] := by kernel_rfl
theorem tyA147 : tyAgg Try.prog 147 = some false := by kernel_rfl
theorem tyS147 : tySize Try.prog 147 = some 1 := by kernel_rfl
theorem tyZ147 : tyZero Try.prog 147 = some [.nilFunc] := by kernel_rfl
theorem tyA148 : tyAgg Try.prog 148 = some false := by kernel_rfl
theorem tyS148 : tySize Try.prog 148 = some 1 := by kernel_rfl
theorem tyZ148 : tyZero Try.prog 148 = some [.nilFunc] := by kernel_rfl
theorem tyA149 : tyAgg Try.prog 149 = some false := by kernel_rfl
theorem tyS149 : tySize Try.prog 149 = some 1 := by kernel_rfl
theorem tyZ149 : tyZero Try.prog 149 = some [.nilFunc] := by kernel_rfl
theorem tyA150 : tyAgg Try.prog 150 = some false := by kernel_rfl
theorem tyS150 : tySize Try.prog 150 = some 1 := by kernel_rfl
theorem tyZ150 : tyZero Try.prog 150 = some [.pointer none] := by kernel_rfl
theorem tyA151 : tyAgg Try.prog 151 = some false := by kernel_rfl
theorem tyS151 : tySize Try.prog 151 = some 1 := by kernel_rfl
theorem tyZ151 : tyZero Try.prog 151 = some [.nilFunc] := by kernel_rfl
theorem tyA152 : tyAgg Try.prog 152 = some false := by kernel_rfl
theorem tyS152 : tySize Try.prog 152 = some 1 := by kernel_rfl
theorem tyZ152 : tyZero Try.prog 152 = some [.pointer none] := by kernel_rfl
theorem tyA153 : tyAgg Try.prog 153 = some false := by kernel_rfl
theorem tyS153 : tySize Try.prog 153 = some 1 := by kernel_rfl
theorem tyZ153 : tyZero Try.prog 153 = some [.nilFunc] := by kernel_rfl
theorem tyA154 : tyAgg Try.prog 154 = some false := by kernel_rfl
theorem tyS154 : tySize Try.prog 154 = some 1 := by kernel_rfl
theorem tyZ154 : tyZero Try.prog 154 = some [.nilFunc] := by kernel_rfl
theorem tyA155 : tyAgg Try.prog 155 = some true := by kernel_rfl
theorem tyS155 : tySize Try.prog 155 = some 4 := by kernel_rfl
theorem tyZ155 : tyZero Try.prog 155 = some [.pointer none, .pointer none, .pointer none, .string ⟨#[]⟩] := by kernel_rfl
theorem tyP155 : tyPlaces Try.prog 155 = some [(0, 1), (1, 1), (2, 1), (3, 1)] := by kernel_rfl
theorem tyF155_0 : tyField Try.prog 155 0 = some (0, 1, false) := by kernel_rfl
theorem tyF155_1 : tyField Try.prog 155 1 = some (1, 1, false) := by kernel_rfl
theorem tyF155_2 : tyField Try.prog 155 2 = some (2, 1, false) := by kernel_rfl
theorem tyF155_3 : tyField Try.prog 155 3 = some (3, 1, false) := by kernel_rfl
theorem tyA156 : tyAgg Try.prog 156 = some true := by kernel_rfl
theorem tyS156 : tySize Try.prog 156 = some 4 := by kernel_rfl
theorem tyZ156 : tyZero Try.prog 156 = some [.pointer none, .pointer none, .pointer none, .string ⟨#[]⟩] := by kernel_rfl
theorem tyP156 : tyPlaces Try.prog 156 = some [(0, 1), (1, 1), (2, 1), (3, 1)] := by kernel_rfl
theorem tyF156_0 : tyField Try.prog 156 0 = some (0, 1, false) := by kernel_rfl
theorem tyF156_1 : tyField Try.prog 156 1 = some (1, 1, false) := by kernel_rfl
theorem tyF156_2 : tyField Try.prog 156 2 = some (2, 1, false) := by kernel_rfl
theorem tyF156_3 : tyField Try.prog 156 3 = some (3, 1, false) := by kernel_rfl
theorem tyA157 : tyAgg Try.prog 157 = some true := by kernel_rfl
theorem tyS157 : tySize Try.prog 157 = some 0 := by kernel_rfl
theorem tyZ157 : tyZero Try.prog 157 = some [] := by kernel_rfl
theorem tyA158 : tyAgg Try.prog 158 = some true := by kernel_rfl
theorem tyS158 : tySize Try.prog 158 = some 0 := by kernel_rfl
theorem tyZ158 : tyZero Try.prog 158 = some [] := by kernel_rfl
theorem tyP158 : tyPlaces Try.prog 158 = some [(0, 0)] := by kernel_rfl
theorem tyA159 : tyAgg Try.prog 159 = some true := by kernel_rfl
theorem tyS159 : tySize Try.prog 159 = some 0 := by kernel_rfl
theorem tyZ159 : tyZero Try.prog 159 = some [] := by kernel_rfl
theorem tyP159 : tyPlaces Try.prog 159 = some [(0, 0)] := by kernel_rfl
theorem tyA160 : tyAgg Try.prog 160 = some false := by kernel_rfl
theorem tyS160 : tySize Try.prog 160 = some 1 := by kernel_rfl
theorem tyZ160 : tyZero Try.prog 160 = some [.nilFunc] := by kernel_rfl
theorem tyA161 : tyAgg Try.prog 161 = some false := by kernel_rfl
theorem tyS161 : tySize Try.prog 161 = some 1 := by kernel_rfl
theorem tyZ161 : tyZero Try.prog 161 = some [.int .u8 0] := by kernel_rfl
theorem tyA162 : tyAgg Try.prog 162 = some false := by kernel_rfl
theorem tyS162 : tySize Try.prog 162 = some 1 := by kernel_rfl
theorem tyZ162 : tyZero Try.prog 162 = some [.int .u8 0] := by kernel_rfl
theorem tyA163 : tyAgg Try.prog 163 = some false := by kernel_rfl
theorem tyS163 : tySize Try.prog 163 = some 1 := by kernel_rfl
theorem tyZ163 : tyZero Try.prog 163 = some [.nilFunc] := by kernel_rfl
theorem tyA164 : tyAgg Try.prog 164 = some false := by kernel_rfl
theorem tyS164 : tySize Try.prog 164 = some 1 := by kernel_rfl
theorem tyZ164 : tyZero Try.prog 164 = some [.pointer none] := by kernel_rfl
theorem tyA165 : tyAgg Try.prog 165 = some false := by kernel_rfl
theorem tyS165 : tySize Try.prog 165 = some 1 := by kernel_rfl
theorem tyZ165 : tyZero Try.prog 165 = some [.int .i32 0] := by kernel_rfl
theorem tyA166 : tyAgg Try.prog 166 = some false := by kernel_rfl
theorem tyS166 : tySize Try.prog 166 = some 1 := by kernel_rfl
theorem tyZ166 : tyZero Try.prog 166 = some [.int .i32 0] := by kernel_rfl
theorem tyA167 : tyAgg Try.prog 167 = some true := by kernel_rfl
theorem tyS167 : tySize Try.prog 167 = some 11 := by kernel_rfl
theorem tyZ167 : tyZero Try.prog 167 = some [.int .u64 0, .int .u64 0, .int .u32 0, .int .u8 0, .int .u8 0, .int .u8 0, .int .u8 0, .nilFunc, .pointer none, .int .i32 0, .int .i32 0] := by kernel_rfl
theorem tyP167 : tyPlaces Try.prog 167 = some [(0, 1), (1, 1), (2, 1), (3, 1), (4, 1), (5, 1), (6, 1), (7, 1), (8, 1), (9, 1), (10, 1)] := by kernel_rfl
theorem tyF167_0 : tyField Try.prog 167 0 = some (0, 1, false) := by kernel_rfl
theorem tyF167_1 : tyField Try.prog 167 1 = some (1, 1, false) := by kernel_rfl
theorem tyF167_2 : tyField Try.prog 167 2 = some (2, 1, false) := by kernel_rfl
theorem tyF167_3 : tyField Try.prog 167 3 = some (3, 1, false) := by kernel_rfl
theorem tyF167_4 : tyField Try.prog 167 4 = some (4, 1, false) := by kernel_rfl
theorem tyF167_5 : tyField Try.prog 167 5 = some (5, 1, false) := by kernel_rfl
theorem tyF167_6 : tyField Try.prog 167 6 = some (6, 1, false) := by kernel_rfl
theorem tyF167_7 : tyField Try.prog 167 7 = some (7, 1, false) := by kernel_rfl
theorem tyF167_8 : tyField Try.prog 167 8 = some (8, 1, false) := by kernel_rfl
theorem tyF167_9 : tyField Try.prog 167 9 = some (9, 1, false) := by kernel_rfl
theorem tyF167_10 : tyField Try.prog 167 10 = some (10, 1, false) := by kernel_rfl
theorem tyA168 : tyAgg Try.prog 168 = some true := by kernel_rfl
theorem tyS168 : tySize Try.prog 168 = some 11 := by kernel_rfl
theorem tyZ168 : tyZero Try.prog 168 = some [.int .u64 0, .int .u64 0, .int .u32 0, .int .u8 0, .int .u8 0, .int .u8 0, .int .u8 0, .nilFunc, .pointer none, .int .i32 0, .int .i32 0] := by kernel_rfl
theorem tyP168 : tyPlaces Try.prog 168 = some [(0, 1), (1, 1), (2, 1), (3, 1), (4, 1), (5, 1), (6, 1), (7, 1), (8, 1), (9, 1), (10, 1)] := by kernel_rfl
theorem tyF168_0 : tyField Try.prog 168 0 = some (0, 1, false) := by kernel_rfl
theorem tyF168_1 : tyField Try.prog 168 1 = some (1, 1, false) := by kernel_rfl
theorem tyF168_2 : tyField Try.prog 168 2 = some (2, 1, false) := by kernel_rfl
theorem tyF168_3 : tyField Try.prog 168 3 = some (3, 1, false) := by kernel_rfl
theorem tyF168_4 : tyField Try.prog 168 4 = some (4, 1, false) := by kernel_rfl
theorem tyF168_5 : tyField Try.prog 168 5 = some (5, 1, false) := by kernel_rfl
theorem tyF168_6 : tyField Try.prog 168 6 = some (6, 1, false) := by kernel_rfl
theorem tyF168_7 : tyField Try.prog 168 7 = some (7, 1, false) := by kernel_rfl
theorem tyF168_8 : tyField Try.prog 168 8 = some (8, 1, false) := by kernel_rfl
theorem tyF168_9 : tyField Try.prog 168 9 = some (9, 1, false) := by kernel_rfl
theorem tyF168_10 : tyField Try.prog 168 10 = some (10, 1, false) := by kernel_rfl
theorem tyA169 : tyAgg Try.prog 169 = some false := by kernel_rfl
theorem tyS169 : tySize Try.prog 169 = some 1 := by kernel_rfl
theorem tyZ169 : tyZero Try.prog 169 = some [.pointer none] := by kernel_rfl
end Go.Proofs.Ytbldhokgbcljjaa
