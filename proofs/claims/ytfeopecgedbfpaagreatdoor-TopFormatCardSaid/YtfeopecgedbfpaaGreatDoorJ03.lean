/- Walks and plain laws for this claim (texts Ty, MapOwn, Gsx4, SxO, joined). Each theorem states its own conditions. -/
import Derived.Test.YtfeopecgedbfpaaGreatDoorRows
import Derived.Test.YtfeopecgedbfpaaGreatDoorJ02
import Derived.MapKept
import Derived.Maps.Own
import Derived.Laws.Externs
set_option linter.all false
namespace Go.Proofs.YtfeopecgedbfpaaGreatDoor
section
theorem mixed : Tryz.prog.follows .mixedOrders = true := by kernel_rfl
theorem tyA3 : tyAgg Tryz.prog 3 = some false := by kernel_rfl
theorem tyS3 : tySize Tryz.prog 3 = some 1 := by kernel_rfl
theorem tyZ3 : tyZero Tryz.prog 3 = some [.int .i64 0] := by kernel_rfl
theorem tyA4 : tyAgg Tryz.prog 4 = some false := by kernel_rfl
theorem tyS4 : tySize Tryz.prog 4 = some 1 := by kernel_rfl
theorem tyA5 : tyAgg Tryz.prog 5 = some false := by kernel_rfl
theorem tyS5 : tySize Tryz.prog 5 = some 1 := by kernel_rfl
theorem tyZ5 : tyZero Tryz.prog 5 = some [.int .u8 0] := by kernel_rfl
theorem tyA9 : tyAgg Tryz.prog 9 = some false := by kernel_rfl
theorem tyS9 : tySize Tryz.prog 9 = some 1 := by kernel_rfl
theorem tyZ9 : tyZero Tryz.prog 9 = some [.string ⟨#[]⟩] := by kernel_rfl
theorem tyS20 : tySize Tryz.prog 20 = some 1 := by kernel_rfl
theorem tyZ20 : tyZero Tryz.prog 20 = some [.nilIface] := by kernel_rfl
theorem tyA24 : tyAgg Tryz.prog 24 = some true := by kernel_rfl
theorem tyS24 : tySize Tryz.prog 24 = some 3 := by kernel_rfl
theorem yL6 : tyF Tryz.prog 24 0 = some (0, 1, false) := by kernel_rfl
theorem wB3 : tyF Tryz.prog 24 2 = some (2, 1, false) := by kernel_rfl
theorem tyA25 : tyAgg Tryz.prog 25 = some false := by kernel_rfl
theorem tyS25 : tySize Tryz.prog 25 = some 1 := by kernel_rfl
theorem tyZ25 : tyZero Tryz.prog 25 = some [.int .u64 0] := by kernel_rfl
theorem tyA28 : tyAgg Tryz.prog 28 = some false := by kernel_rfl
theorem tyS28 : tySize Tryz.prog 28 = some 1 := by kernel_rfl
theorem tyA30 : tyAgg Tryz.prog 30 = some true := by kernel_rfl
theorem tyS30 : tySize Tryz.prog 30 = some 1 := by kernel_rfl
theorem tyZ30 : tyZero Tryz.prog 30 = some [.slice none 0 0] := by kernel_rfl
theorem tyP30 : tyPlaces Tryz.prog 30 = some [(0, 1)] := by kernel_rfl
theorem jO7 : tyF Tryz.prog 30 0 = some (0, 1, false) := by kernel_rfl
theorem tyA33 : tyAgg Tryz.prog 33 = some false := by kernel_rfl
theorem tyS33 : tySize Tryz.prog 33 = some 1 := by kernel_rfl
theorem tyZ33 : tyZero Tryz.prog 33 = some [.int .i64 0] := by kernel_rfl
theorem tyA36 : tyAgg Tryz.prog 36 = some true := by kernel_rfl
theorem tyS36 : tySize Tryz.prog 36 = some 3 := by kernel_rfl
theorem tyZ36 : tyZero Tryz.prog 36 = some [.int .i64 0, .int .u8 0, .string ⟨#[]⟩] := by kernel_rfl
theorem tyP36 : tyPlaces Tryz.prog 36 = some [(0, 1), (1, 1), (2, 1)] := by kernel_rfl
theorem kL9 : tyF Tryz.prog 36 0 = some (0, 1, false) := by kernel_rfl
theorem vI7 : tyF Tryz.prog 36 1 = some (1, 1, false) := by kernel_rfl
theorem vI6 : tyF Tryz.prog 36 2 = some (2, 1, false) := by kernel_rfl
theorem tyA44 : tyAgg Tryz.prog 44 = some false := by kernel_rfl
theorem tyS44 : tySize Tryz.prog 44 = some 1 := by kernel_rfl
theorem tyA51 : tyAgg Tryz.prog 51 = some true := by kernel_rfl
theorem tyS51 : tySize Tryz.prog 51 = some 2 := by kernel_rfl
theorem tyZ51 : tyZero Tryz.prog 51 = some [.int .u64 0, .string ⟨#[]⟩] := by kernel_rfl
theorem tyP51 : tyPlaces Tryz.prog 51 = some [(0, 1), (1, 1)] := by kernel_rfl
theorem kF4 : tyF Tryz.prog 51 0 = some (0, 1, false) := by kernel_rfl
theorem kL8 : tyF Tryz.prog 51 1 = some (1, 1, false) := by kernel_rfl
theorem tyA53 : tyAgg Tryz.prog 53 = some true := by kernel_rfl
theorem tyS53 : tySize Tryz.prog 53 = some 2 := by kernel_rfl
theorem tyZ53 : tyZero Tryz.prog 53 = some [.int .u64 0, .string ⟨#[]⟩] := by kernel_rfl
theorem tyP53 : tyPlaces Tryz.prog 53 = some [(0, 1), (1, 1)] := by kernel_rfl
theorem jZ2 : tyF Tryz.prog 53 0 = some (0, 1, false) := by kernel_rfl
theorem wB2 : tyF Tryz.prog 53 1 = some (1, 1, false) := by kernel_rfl
theorem tyA58 : tyAgg Tryz.prog 58 = some false := by kernel_rfl
theorem tyS58 : tySize Tryz.prog 58 = some 1 := by kernel_rfl
theorem tyZ58 : tyZero Tryz.prog 58 = some [.slice none 0 0] := by kernel_rfl
theorem tyA66 : tyAgg Tryz.prog 66 = some true := by kernel_rfl
theorem tyS66 : tySize Tryz.prog 66 = some 2 := by kernel_rfl
theorem tyZ66 : tyZero Tryz.prog 66 = some [.int .u64 0, .int .u64 0] := by kernel_rfl
theorem tyP66 : tyPlaces Tryz.prog 66 = some [(0, 1), (1, 1)] := by kernel_rfl
theorem jZ1 : tyF Tryz.prog 66 0 = some (0, 1, false) := by kernel_rfl
theorem kU9 : tyF Tryz.prog 66 1 = some (1, 1, false) := by kernel_rfl
theorem tyA68 : tyAgg Tryz.prog 68 = some true := by kernel_rfl
theorem tyS68 : tySize Tryz.prog 68 = some 24 := by kernel_rfl
theorem tyZ68 : tyZero Tryz.prog 68 = some [.int .u64 0, .int .u64 0, .int .u64 0, .int .u64 0, .int .u64 0, .int .u64 0, .int .u64 0, .int .u64 0, .int .u64 0, .int .u64 0, .int .u64 0, .bool false, .int .u8 0, .int .u8 0, .int .u8 0, .int .i64 0, .int .i64 0, .int .i64 0, .int .i64 0, .int .i64 0, .int .i64 0, .int .i64 0, .int .i64 0, .int .i64 0] := by kernel_rfl
theorem tyP68 : tyPlaces Tryz.prog 68 = some [(0, 2), (2, 2), (4, 2), (6, 2), (8, 1), (9, 1), (10, 1), (11, 1), (12, 1), (13, 1), (14, 1), (15, 1), (16, 1), (17, 1), (18, 1), (19, 1), (20, 1), (21, 1), (22, 1), (23, 1)] := by kernel_rfl
theorem jZ0 : tyF Tryz.prog 68 0 = some (0, 2, true) := by kernel_rfl
theorem kF3 : tyF Tryz.prog 68 1 = some (2, 2, true) := by kernel_rfl
theorem kF2 : tyF Tryz.prog 68 2 = some (4, 2, true) := by kernel_rfl
theorem kF1 : tyF Tryz.prog 68 3 = some (6, 2, true) := by kernel_rfl
theorem vI5 : tyF Tryz.prog 68 4 = some (8, 1, false) := by kernel_rfl
theorem vI4 : tyF Tryz.prog 68 5 = some (9, 1, false) := by kernel_rfl
theorem vI3 : tyF Tryz.prog 68 6 = some (10, 1, false) := by kernel_rfl
theorem vI2 : tyF Tryz.prog 68 7 = some (11, 1, false) := by kernel_rfl
theorem kU5 : tyF Tryz.prog 68 8 = some (12, 1, false) := by kernel_rfl
theorem kU4 : tyF Tryz.prog 68 9 = some (13, 1, false) := by kernel_rfl
theorem kU8 : tyF Tryz.prog 68 10 = some (14, 1, false) := by kernel_rfl
theorem jS6 : tyF Tryz.prog 68 11 = some (15, 1, false) := by kernel_rfl
theorem jW8 : tyF Tryz.prog 68 12 = some (16, 1, false) := by kernel_rfl
theorem kB5 : tyF Tryz.prog 68 13 = some (17, 1, false) := by kernel_rfl
theorem kB4 : tyF Tryz.prog 68 14 = some (18, 1, false) := by kernel_rfl
theorem kB3 : tyF Tryz.prog 68 15 = some (19, 1, false) := by kernel_rfl
theorem kB2 : tyF Tryz.prog 68 16 = some (20, 1, false) := by kernel_rfl
theorem kJ4 : tyF Tryz.prog 68 17 = some (21, 1, false) := by kernel_rfl
theorem kU7 : tyF Tryz.prog 68 18 = some (22, 1, false) := by kernel_rfl
theorem kU6 : tyF Tryz.prog 68 19 = some (23, 1, false) := by kernel_rfl
theorem tyA70 : tyAgg Tryz.prog 70 = some true := by kernel_rfl
theorem tyS70 : tySize Tryz.prog 70 = some 4 := by kernel_rfl
theorem tyZ70 : tyZero Tryz.prog 70 = some [.string ⟨#[]⟩, .string ⟨#[]⟩, .string ⟨#[]⟩, .string ⟨#[]⟩] := by kernel_rfl
theorem tyA73 : tyAgg Tryz.prog 73 = some false := by kernel_rfl
theorem tyS73 : tySize Tryz.prog 73 = some 1 := by kernel_rfl
theorem tyZ73 : tyZero Tryz.prog 73 = some [.slice none 0 0] := by kernel_rfl
theorem tyA78 : tyAgg Tryz.prog 78 = some false := by kernel_rfl
theorem tyS78 : tySize Tryz.prog 78 = some 1 := by kernel_rfl
theorem tyA80 : tyAgg Tryz.prog 80 = some true := by kernel_rfl
theorem tyS80 : tySize Tryz.prog 80 = some 4 := by kernel_rfl
theorem tyZ80 : tyZero Tryz.prog 80 = some [.int .u64 0, .int .u64 0, .int .u32 0, .int .u32 0] := by kernel_rfl
theorem tyP80 : tyPlaces Tryz.prog 80 = some [(0, 1), (1, 1), (2, 1), (3, 1)] := by kernel_rfl
theorem jK0 : tyF Tryz.prog 80 0 = some (0, 1, false) := by kernel_rfl
theorem jH7 : tyF Tryz.prog 80 1 = some (1, 1, false) := by kernel_rfl
theorem jL8 : tyF Tryz.prog 80 2 = some (2, 1, false) := by kernel_rfl
theorem jN0 : tyF Tryz.prog 80 3 = some (3, 1, false) := by kernel_rfl
theorem tyA83 : tyAgg Tryz.prog 83 = some false := by kernel_rfl
theorem tyS83 : tySize Tryz.prog 83 = some 1 := by kernel_rfl
theorem tyZ85 : tyZero Tryz.prog 85 = some [.string ⟨#[]⟩, .int .u64 0, .int .u64 0, .int .u64 0, .int .u64 0, .int .u64 0, .int .u64 0, .int .u64 0, .int .u64 0, .int .u64 0, .int .u64 0, .int .u64 0, .bool false, .int .u8 0, .int .u8 0, .int .u8 0, .int .i64 0, .int .i64 0, .int .i64 0, .int .i64 0, .int .i64 0, .int .i64 0, .int .i64 0, .int .i64 0, .int .i64 0, .map none] := by kernel_rfl
theorem tyP85 : tyPlaces Tryz.prog 85 = some [(0, 1), (1, 24), (25, 1)] := by kernel_rfl
theorem vI1 : tyF Tryz.prog 85 0 = some (0, 1, false) := by kernel_rfl
theorem jJ9 : tyF Tryz.prog 85 1 = some (1, 24, true) := by kernel_rfl
theorem kL7 : tyF Tryz.prog 85 2 = some (25, 1, false) := by kernel_rfl
theorem tyA106 : tyAgg Tryz.prog 106 = some false := by kernel_rfl
theorem tyS106 : tySize Tryz.prog 106 = some 1 := by kernel_rfl
theorem tyZ106 : tyZero Tryz.prog 106 = some [.nilFunc] := by kernel_rfl
theorem tyZ109 : tyZero Tryz.prog 109 = some [.int .u64 0, .int .u64 0, .int .u32 0, .int .u32 0] := by kernel_rfl
theorem tyP109 : tyPlaces Tryz.prog 109 = some [(0, 4)] := by kernel_rfl
theorem jX1 : tyF Tryz.prog 109 0 = some (0, 4, true) := by kernel_rfl
theorem tyA110 : tyAgg Tryz.prog 110 = some false := by kernel_rfl
theorem tyS110 : tySize Tryz.prog 110 = some 1 := by kernel_rfl
theorem tyZ110 : tyZero Tryz.prog 110 = some [.pointer none] := by kernel_rfl
theorem tyA116 : tyAgg Tryz.prog 116 = some true := by kernel_rfl
theorem tyS116 : tySize Tryz.prog 116 = some 2 := by kernel_rfl
theorem tyZ116 : tyZero Tryz.prog 116 = some [.int .u64 0, .int .u32 0] := by kernel_rfl
theorem tyP116 : tyPlaces Tryz.prog 116 = some [(0, 1), (1, 1)] := by kernel_rfl
theorem kV2 : tyF Tryz.prog 116 0 = some (0, 1, false) := by kernel_rfl
theorem vP0 : tyF Tryz.prog 116 1 = some (1, 1, false) := by kernel_rfl
theorem tyA125 : tyAgg Tryz.prog 125 = some false := by kernel_rfl
theorem tyS125 : tySize Tryz.prog 125 = some 1 := by kernel_rfl
theorem tyZ125 : tyZero Tryz.prog 125 = some [.slice none 0 0] := by kernel_rfl
theorem tyA127 : tyAgg Tryz.prog 127 = some false := by kernel_rfl
theorem tyS127 : tySize Tryz.prog 127 = some 1 := by kernel_rfl
theorem tyZ127 : tyZero Tryz.prog 127 = some [.slice none 0 0] := by kernel_rfl
theorem tyA132 : tyAgg Tryz.prog 132 = some true := by kernel_rfl
theorem tyS132 : tySize Tryz.prog 132 = some 4 := by kernel_rfl
theorem tyZ132 : tyZero Tryz.prog 132 = some [.int .u64 0, .int .u64 0, .int .u64 0, .int .u64 0] := by kernel_rfl
theorem tyA133 : tyAgg Tryz.prog 133 = some true := by kernel_rfl
theorem tyS133 : tySize Tryz.prog 133 = some 8 := by kernel_rfl
theorem tyZ133 : tyZero Tryz.prog 133 = some [.int .u64 0, .int .u64 0, .int .u64 0, .int .u64 0, .int .u64 0, .int .u64 0, .int .u64 0, .int .u64 0] := by kernel_rfl
theorem tyA143 : tyAgg Tryz.prog 143 = some false := by kernel_rfl
theorem tyS143 : tySize Tryz.prog 143 = some 1 := by kernel_rfl
theorem tyZ145 : tyZero Tryz.prog 145 = some [.string ⟨#[]⟩, .int .i64 0, .int .i64 0] := by kernel_rfl
theorem tyP145 : tyPlaces Tryz.prog 145 = some [(0, 1), (1, 1), (2, 1)] := by kernel_rfl
theorem jG5 : tyF Tryz.prog 145 0 = some (0, 1, false) := by kernel_rfl
theorem jC5 : tyF Tryz.prog 145 1 = some (1, 1, false) := by kernel_rfl
theorem jH9 : tyF Tryz.prog 145 2 = some (2, 1, false) := by kernel_rfl
theorem tyA159 : tyAgg Tryz.prog 159 = some true := by kernel_rfl
theorem tyS159 : tySize Tryz.prog 159 = some 3 := by kernel_rfl
theorem tyZ159 : tyZero Tryz.prog 159 = some [.string ⟨#[]⟩, .int .i64 0, .int .i64 0] := by kernel_rfl
theorem tyP159 : tyPlaces Tryz.prog 159 = some [(0, 1), (1, 1), (2, 1)] := by kernel_rfl
theorem vO9 : tyF Tryz.prog 159 0 = some (0, 1, false) := by kernel_rfl
theorem jP2 : tyF Tryz.prog 159 1 = some (1, 1, false) := by kernel_rfl
theorem jX0 : tyF Tryz.prog 159 2 = some (2, 1, false) := by kernel_rfl
theorem tyZ161 : tyZero Tryz.prog 161 = some [.string ⟨#[]⟩, .int .i64 0, .int .i64 0] := by kernel_rfl
theorem tyP161 : tyPlaces Tryz.prog 161 = some [(0, 3)] := by kernel_rfl
theorem vO8 : tyF Tryz.prog 161 0 = some (0, 3, true) := by kernel_rfl
theorem tyA170 : tyAgg Tryz.prog 170 = some false := by kernel_rfl
theorem tyS170 : tySize Tryz.prog 170 = some 1 := by kernel_rfl
theorem tyA172 : tyAgg Tryz.prog 172 = some true := by kernel_rfl
theorem tyS172 : tySize Tryz.prog 172 = some 2 := by kernel_rfl
theorem tyZ172 : tyZero Tryz.prog 172 = some [.int .u64 0, .int .u32 0] := by kernel_rfl
theorem tyP172 : tyPlaces Tryz.prog 172 = some [(0, 1), (1, 1)] := by kernel_rfl
theorem kV1 : tyF Tryz.prog 172 0 = some (0, 1, false) := by kernel_rfl
theorem wT9 : tyF Tryz.prog 172 1 = some (1, 1, false) := by kernel_rfl
theorem tyA174 : tyAgg Tryz.prog 174 = some false := by kernel_rfl
theorem tyS174 : tySize Tryz.prog 174 = some 1 := by kernel_rfl
theorem tyA190 : tyAgg Tryz.prog 190 = some false := by kernel_rfl
theorem tyS190 : tySize Tryz.prog 190 = some 1 := by kernel_rfl
theorem tyA191 : tyAgg Tryz.prog 191 = some false := by kernel_rfl
theorem tyS191 : tySize Tryz.prog 191 = some 1 := by kernel_rfl
theorem tyZ193 : tyZero Tryz.prog 193 = some [.slice none 0 0, .slice none 0 0, .map none] := by kernel_rfl
theorem tyP193 : tyPlaces Tryz.prog 193 = some [(0, 1), (1, 1), (2, 1)] := by kernel_rfl
theorem kB7 : tyF Tryz.prog 193 0 = some (0, 1, false) := by kernel_rfl
theorem kB6 : tyF Tryz.prog 193 1 = some (1, 1, false) := by kernel_rfl
theorem jW9 : tyF Tryz.prog 193 2 = some (2, 1, false) := by kernel_rfl
theorem tyZ211 : tyZero Tryz.prog 211 = some [.pointer none, .slice none 0 0] := by kernel_rfl
theorem jQ8 : tyF Tryz.prog 211 1 = some (1, 1, false) := by kernel_rfl
theorem tyZ218 : tyZero Tryz.prog 218 = some [.int .u64 0, .int .u32 0] := by kernel_rfl
theorem tyP218 : tyPlaces Tryz.prog 218 = some [(0, 1), (1, 1)] := by kernel_rfl
theorem tyA257 : tyAgg Tryz.prog 257 = some false := by kernel_rfl
theorem tyS257 : tySize Tryz.prog 257 = some 1 := by kernel_rfl
theorem tyZ257 : tyZero Tryz.prog 257 = some [.slice none 0 0] := by kernel_rfl
theorem tyA261 : tyAgg Tryz.prog 261 = some true := by kernel_rfl
theorem tyS261 : tySize Tryz.prog 261 = some 2 := by kernel_rfl
theorem tyZ261 : tyZero Tryz.prog 261 = some [.string ⟨#[]⟩, .nilIface] := by kernel_rfl
theorem tyP261 : tyPlaces Tryz.prog 261 = some [(0, 1), (1, 1)] := by kernel_rfl
theorem wT8 : tyF Tryz.prog 261 0 = some (0, 1, false) := by kernel_rfl
theorem tyA284 : tyAgg Tryz.prog 284 = some false := by kernel_rfl
theorem tyS284 : tySize Tryz.prog 284 = some 1 := by kernel_rfl
theorem tyZ286 : tyZero Tryz.prog 286 = some [.int .u64 0, .nilFunc] := by kernel_rfl
theorem tyP286 : tyPlaces Tryz.prog 286 = some [(0, 1), (1, 1)] := by kernel_rfl
theorem kV0 : tyF Tryz.prog 286 0 = some (0, 1, false) := by kernel_rfl
theorem wT7 : tyF Tryz.prog 286 1 = some (1, 1, false) := by kernel_rfl
end
section
open Go.RowKit
@[go_sem] theorem bel_a1 (a : World) (o1 : Obj) : Bel a (a.alloc o1) ↔ True := ⟨fun _ => trivial, fun _ => (Bel.refl a).alloc o1⟩
@[go_sem] theorem bel_a2 (a : World) (o1 o2 : Obj) : Bel a ((a.alloc o1).alloc o2) ↔ True := ⟨fun _ => trivial, fun _ => ((Bel.refl a).alloc o1).alloc o2⟩
@[go_sem] theorem bel_a3 (a : World) (o1 o2 o3 : Obj) : Bel a (((a.alloc o1).alloc o2).alloc o3) ↔ True := ⟨fun _ => trivial, fun _ => (((Bel.refl a).alloc o1).alloc o2).alloc o3⟩
@[go_sem] theorem bel_a4 (a : World) (o1 o2 o3 o4 : Obj) : Bel a ((((a.alloc o1).alloc o2).alloc o3).alloc o4) ↔ True := ⟨fun _ => trivial, fun _ => ((((Bel.refl a).alloc o1).alloc o2).alloc o3).alloc o4⟩
section plain
variable {κ ν : Type} [DecidableEq κ]
def aget : List (κ × ν) → κ → Option ν
 | [], _ => none
 | (a, v) :: r, k => if a = k then some v else aget r k
def aput : List (κ × ν) → κ → ν → List (κ × ν)
 | [], k, v => [(k, v)]
 | (a, x) :: r, k, v => if a = k then (k, v) :: r else (a, x) :: aput r k v
def adel : List (κ × ν) → κ → List (κ × ν)
 | [], _ => []
 | (a, x) :: r, k => if a = k then r else (a, x) :: adel r k
def jD8 (M : List (κ × ν)) : List κ := M.map Prod.fst
theorem kE7 : ∀ {M : List (κ × ν)} {k : κ}, aget M k = none ↔ k ∉ jD8 M
 | [], k => by simp [aget, jD8]
 | (a, v) :: r, k => by
  have ih := kE7 (M := r) (k := k)
  unfold aget
  by_cases h : a = k
  ·simp [h, jD8]
  ·simp only [h, if_false, ih]
   simp only [jD8, xN, lY, not_or]
   exact ⟨fun x => ⟨fun e => h e.symm, x⟩, fun x => x.2⟩
theorem kE6 : ∀ (M : List (κ × ν)) (k k' : κ) (v : ν), aget (aput M k v) k' = if k = k' then some v else aget M k'
 | [], k, k', v => by simp [aput, aget]
 | (a, x) :: r, k, k', v => by
  unfold aput
  by_cases h : a = k
  ·subst h
   simp only [if_true, aget]
   by_cases h2 : a = k' <;> simp [h2]
  ·simp only [h, if_false, aget, kE6 r k k' v]
   by_cases h2 : a = k'
   ·subst h2
    have : ¬ k = a := fun e => h e.symm
    simp [this]
   ·simp [h2]
theorem kI7 : ∀ {M : List (κ × ν)} {k : κ} (v : ν), k ∈ jD8 M → jD8 (aput M k v) = jD8 M
 | [], k, v, h => by simp [jD8] at h
 | (a, x) :: r, k, v, h => by
  unfold aput
  by_cases e : a = k
  ·subst e; simp [jD8]
  ·have h2 : k ∈ jD8 r := by
    simp only [jD8, xN, lY] at h ⊢
    rcases h with h | h
    ·exact absurd h.symm e
    ·exact h
   have ih := kI7 v h2
   simp only [e, if_false, jD8, xN] at ih ⊢
   rw [ih]
theorem jT9 : ∀ {M : List (κ × ν)} {k : κ} (v : ν), k ∉ jD8 M → jD8 (aput M k v) = jD8 M ++ [k]
 | [], k, v, h => by simp [aput, jD8]
 | (a, x) :: r, k, v, h => by
  have h2 : k ≠ a ∧ k ∉ jD8 r := by simpa [jD8] using h
  have ih := jT9 v h2.2
  unfold aput
  simp only [show ¬ a = k from fun e => h2.1 e.symm, if_false, jD8, xN] at ih ⊢
  rw [ih]
  rfl
theorem kD2 {M : List (κ × ν)} (h : (jD8 M).Nodup) (k : κ) (v : ν) : (jD8 (aput M k v)).Nodup := by
 by_cases hk : k ∈ jD8 M
 ·rw [kI7 v hk]; exact h
 ·rw [jT9 v hk, qF]
  exact ⟨h, by simp, fun a ha b hb => by simp at hb; subst hb; exact fun e => hk (e ▸ ha)⟩
theorem vH3 : ∀ (M : List (κ × ν)) (k : κ), (k ∉ jD8 M ∧ aget M k = none ∧ (∀ v, aput M k v = M ++ [(k, v)]) ∧ adel M k = M) ∨
  ∃ M1 x M2, M = M1 ++ (k, x) :: M2 ∧ k ∉ jD8 M1 ∧ aget M k = some x ∧ (∀ v, aput M k v = M1 ++ (k, v) :: M2) ∧ adel M k = M1 ++ M2
 | [], k => .inl ⟨by simp [jD8], rfl, fun _ => rfl, rfl⟩
 | (a, x) :: r, k => by
  by_cases h : a = k
  ·subst h
   exact .inr ⟨[], x, r, rfl, by simp [jD8], by simp [aget], fun v => by simp [aput], by simp [adel]⟩
  ·rcases vH3 r k with ⟨h1, h2, h3, h4⟩ | ⟨M1, y, M2, rfl, h1, h2, h3, h4⟩
   ·refine .inl ⟨?_, by simp [aget, h, h2], fun v => by simp [aput, h, h3], by simp [adel, h, h4]⟩
    simp only [jD8, xN, lY, not_or] at h1 ⊢
    exact ⟨fun e => h e.symm, h1⟩
   ·refine .inr ⟨(a, x) :: M1, y, M2, rfl, ?_, by simp [aget, h, h2], fun v => by simp [aput, h, h3], by simp [adel, h, h4]⟩
    simp only [jD8, xN, lY, not_or] at h1 ⊢
    exact ⟨fun e => h e.symm, h1⟩
end plain
structure KeyOk (P : Program) (K : TypeId) {κ : Type} [DecidableEq κ] (encK : κ → Value) : Prop where
 eq : ∀ (a b : κ) (w : World), (Op.equal K (encK a) (encK b)).run P w = .ok (decide (a = b)) w
 chk : ∀ (e : Bool) (a : κ) (w : World), (Instr.checkKey e 10000 K (encK a)).run P w = .ok () w
 und : ∃ d, P.underlying K = some d ∧ ((∀ a b : κ, Instr.sameNow d (encK a) (encK b) = none) ∨ (∀ a b : κ, Instr.sameNow d (encK a) (encK b) = some (decide (a = b))))
 same : ∀ a : κ, Instr.sameBits 10000 (encK a) (encK a) = true
section
variable {κ ν : Type} [DecidableEq κ] {encK : κ → Value} {encV : ν → Value}
def MapIs (encK : κ → Value) (encV : ν → Value) (w : World) (b : Nat) (M : List (κ × ν)) : Prop :=
 ∃ es clock, w.heap[b]? = some (.map es clock) ∧ es.toList.map (fun e : MapEntry => (e.key, e.val)) = M.map (fun x => (encK x.1, encV x.2)) ∧ (jD8 M).Nodup
def OnlyMap (w w' : World) (b : Nat) : Prop := ∃ o, w' = { w with heap := w.heap.setIfInBounds b o }
variable {P : Program} {K : TypeId}
theorem jT1 (h : KeyOk P K encK) (w : World) (k : κ) (es : List MapEntry) (M : List (κ × ν)) (hes : es.map (fun e : MapEntry => (e.key, e.val)) = M.map (fun x => (encK x.1, encV x.2))) :
  (k ∉ jD8 M → (Instr.findKey K (encK k) es).run P w = .ok none w) ∧
  (∀ M1 x M2, M = M1 ++ (k, x) :: M2 → k ∉ jD8 M1 → (Instr.findKey K (encK k) es).run P w = .ok (some (M1.length, encV x)) w) := by
 obtain ⟨d, hd, hn⟩ := h.und
 have ask : ∀ (M : List (κ × ν)) (es : List MapEntry) (i : Nat), es.map (fun e : MapEntry => (e.key, e.val)) = M.map (fun x => (encK x.1, encV x.2)) →
   (k ∉ jD8 M → (Instr.findAsking K (encK k) es i).run P w = .ok none w) ∧
   (∀ M1 x M2, M = M1 ++ (k, x) :: M2 → k ∉ jD8 M1 → (Instr.findAsking K (encK k) es i).run P w = .ok (some (i + M1.length, encV x)) w) := by
  intro M
  induction M with
  | nil =>
   intro es i hes
   have : es = [] := by simpa using hes
   subst this
   exact ⟨fun _ => by simp [Instr.findAsking], fun M1 x M2 e => by simp at e⟩
  | cons y M ih =>
   intro es i hes
   match es, hes with
   | e :: es, hes =>
    simp only [xN, List.cons.injEq, Prod.mk.injEq] at hes
    obtain ⟨⟨e1, e2⟩, hes⟩ := hes
    obtain ⟨ih1, ih2⟩ := ih es (i + 1) hes
    refine ⟨fun hk => ?_, fun M1 x M2 eM hk => ?_⟩
    ·have hk2 : k ≠ y.1 ∧ k ∉ jD8 M := by simpa [jD8] using hk
     simp [Instr.findAsking, e1, h.eq, hk2.1, ih1 hk2.2]
    ·rcases M1 with _ | ⟨z, M1⟩
     ·simp only [lD, List.cons.injEq] at eM
      obtain ⟨rfl, rfl⟩ := eM
      simp [Instr.findAsking, e1, e2, h.eq]
     ·simp only [lL, List.cons.injEq] at eM
      obtain ⟨rfl, rfl⟩ := eM
      have hk2 : k ≠ y.1 ∧ k ∉ jD8 M1 := by simpa [jD8] using hk
      simp [Instr.findAsking, e1, h.eq, hk2.1, ih2 M1 x M2 rfl hk2.2, qI, Nat.add_comm 1]
 rcases hn with hn | hn
 case inr =>
  have now : ∀ (M : List (κ × ν)) (es : List MapEntry) (i : Nat), es.map (fun e : MapEntry => (e.key, e.val)) = M.map (fun x => (encK x.1, encV x.2)) →
    (k ∉ jD8 M → Instr.findNow d (encK k) es i = some none) ∧
    (∀ M1 x M2, M = M1 ++ (k, x) :: M2 → k ∉ jD8 M1 → Instr.findNow d (encK k) es i = some (some (i + M1.length, encV x))) := by
   intro M
   induction M with
   | nil =>
    intro es i hes
    have : es = [] := by simpa using hes
    subst this
    exact ⟨fun _ => by simp [Instr.findNow], fun M1 x M2 e => by simp at e⟩
   | cons y M ih =>
    intro es i hes
    match es, hes with
    | e :: es, hes =>
     simp only [xN, List.cons.injEq, Prod.mk.injEq] at hes
     obtain ⟨⟨e1, e2⟩, hes⟩ := hes
     obtain ⟨ih1, ih2⟩ := ih es (i + 1) hes
     refine ⟨fun hk => ?_, fun M1 x M2 eM hk => ?_⟩
     ·have hk2 : k ≠ y.1 ∧ k ∉ jD8 M := by simpa [jD8] using hk
      simp [Instr.findNow, e1, hn, hk2.1, ih1 hk2.2]
     ·rcases M1 with _ | ⟨z, M1⟩
      ·simp only [lD, List.cons.injEq] at eM
       obtain ⟨rfl, rfl⟩ := eM
       simp [Instr.findNow, e1, e2, hn]
      ·simp only [lL, List.cons.injEq] at eM
       obtain ⟨rfl, rfl⟩ := eM
       have hk2 : k ≠ y.1 ∧ k ∉ jD8 M1 := by simpa [jD8] using hk
       simp [Instr.findNow, e1, hn, hk2.1, ih2 M1 x M2 rfl hk2.2, qI, Nat.add_comm 1]
  obtain ⟨n1, n2⟩ := now M es 0 hes
  exact ⟨fun hk => by simp [Instr.findKey, run_underlying hd, n1 hk], fun M1 x M2 e hk => by simp [Instr.findKey, run_underlying hd, n2 M1 x M2 e hk]⟩
 have key : (Instr.findKey K (encK k) es).run P w = (Instr.findAsking K (encK k) es 0).run P w := by
  match es, M, hes with
  | [], _, _ => simp [Instr.findKey, run_underlying hd, Instr.findNow, Instr.findAsking]
  | e :: es, y :: M, hes =>
   simp only [xN, List.cons.injEq, Prod.mk.injEq] at hes
   have : Instr.findNow d (encK k) (e :: es) 0 = none := by simp [Instr.findNow, hes.1.1, hn]
   simp [Instr.findKey, run_underlying hd, this]
 rw [key]
 have := ask M es 0 hes
 simpa using this
theorem kJ8 (h : KeyOk P K encK) {T E : TypeId} (hT : P.underlying T = some (.map K E)) {w : World} {b : Nat} {M : List (κ × ν)} (hm : MapIs encK encV w b M) {z : Value} (hz : (zeroValue E).run P w = .ok z w) (k : κ) (ok : Bool) :
  (Instr.lookup T (.map (some b)) (encK k) ok).run P w = .ok (if ok then .tuple #[((aget M k).map encV).getD z, .bool (aget M k).isSome] else ((aget M k).map encV).getD z) w := by
 obtain ⟨es, clock, hb, hes, _⟩ := hm
 obtain ⟨f1, f2⟩ := jT1 h w k es.toList M hes
 rcases vH3 M k with ⟨h1, h2, _, _⟩ | ⟨M1, x, M2, e, h1, h2, _, _⟩
 ·rw [h2]
  cases ok <;> simp [Instr.lookup, run_underlying hT, MapKept.run_getObj_map hb, h.chk, f1 h1, hz, Result.andThen]
 ·rw [h2]
  cases ok <;> simp [Instr.lookup, run_underlying hT, MapKept.run_getObj_map hb, h.chk, f2 M1 x M2 e h1, Result.andThen]
theorem kD5 (w : World) {b : Nat} {o : Obj} (hb : w.heap[b]? = some o) (o' : Obj) : ({ w with heap := w.heap.setIfInBounds b o' } : World).heap[b]? = some o' := by
 have := (Array.getElem?_eq_some_iff.1 hb).1
 simp [this]
theorem kW8 (h : KeyOk P K encK) {T E : TypeId} (hT : P.underlying T = some (.map K E)) {w : World} {b : Nat} {M : List (κ × ν)} (hm : MapIs encK encV w b M) (k : κ) (v : ν) :
  ∃ w', (Instr.mapUpdate T (.map (some b)) (encK k) (encV v)).run P w = .ok () w' ∧ MapIs encK encV w' b (aput M k v) ∧ OnlyMap w w' b := by
 obtain ⟨es, clock, hb, hes, hnd⟩ := hm
 obtain ⟨f1, f2⟩ := jT1 h w k es.toList M hes
 rcases vH3 M k with ⟨h1, h2, h3, _⟩ | ⟨M1, x, M2, e, h1, h2, h3, _⟩
 ·refine ⟨_, ?_, ⟨es.push { key := encK k, val := encV v, born := clock }, clock + 1, kD5 w hb _, ?_, kD2 hnd k v⟩, ⟨_, rfl⟩⟩
  ·simp [Instr.mapUpdate, run_underlying hT, MapKept.run_getObj_map hb, h.chk, f1 h1, MapKept.run_setObj_map _ hb, Result.andThen]
  ·rw [h3]; simp [hes]
 ·have hlen : M1.length < es.toList.length := by
   have := congrArg List.length hes
   rw [e] at this
   simp at this
   simp [this]
  have hold : ((es[M1.length]?).map (·.key)).getD (encK k) = encK k := by
   have := congrArg (fun l => l[M1.length]?) hes
   simp only [xR] at this
   rw [e] at this
   simp only [qQ (xB _), uL, xA, qA, qW] at this
   cases hq : es[M1.length]? with
   | none => simp
   | some q =>
    rw [hq] at this
    simp only [qA, x5, Prod.mk.injEq] at this
    simp [this.1]
  refine ⟨_, ?_, ⟨es.modify M1.length fun e => { e with key := encK k, val := encV v }, clock, kD5 w hb _, ?_, kD2 hnd k v⟩, ⟨_, rfl⟩⟩
  ·simp [Instr.mapUpdate, run_underlying hT, MapKept.run_getObj_map hb, h.chk, f2 M1 x M2 e h1, hold, Instr.keyThatStays, h.same, MapKept.run_setObj_map _ hb, Result.andThen]
  ·rw [h3]
   apply uM
   intro j
   have hj := congrArg (fun l => l[j]?) hes
   simp only [xR, qW] at hj
   simp only [xR, qW, zX]
   rw [e] at hj
   by_cases hjm : M1.length = j
   ·subst hjm
    simp only [qQ (xB _), uL, xA, qA, if_true] at hj ⊢
    cases hq : es[M1.length]? with
    | none => rw [hq] at hj; simp at hj
    | some q => simp
   ·simp only [hjm, if_false]
    rw [hj]
    congr 1
    by_cases hlt : j < M1.length
    ·rw [qK hlt, qK hlt]
    ·rw [qQ (by omega), qQ (by omega)]
     obtain ⟨i, hi⟩ : ∃ i, j - M1.length = i + 1 := ⟨j - M1.length - 1, by omega⟩
     rw [hi]
     rfl
theorem kN0 {T E ty : TypeId} (hT : P.underlying T = some (.map K E)) {w : World} {b : Nat} {M : List (κ × ν)} (hm : MapIs encK encV w b M) :
  (Builtin.len_ #[T] ty #[.map (some b)]).run P w = .ok (.int .i64 (M.length : Nat)) w := by
 obtain ⟨es, clock, hb, hes, _⟩ := hm
 have e : es.size = M.length := by simpa using congrArg List.length hes
 simp [Builtin.len_, run_underlying hT, MapKept.run_getObj_map hb, goInt, Result.andThen, e]
theorem MapIs.made (encK : κ → Value) (encV : ν → Value) (w : World) : MapIs encK encV (w.alloc (.map #[] 0)) w.heap.size [] :=
 ⟨#[], 0, by show (w.heap.push _)[w.heap.size]? = _; simp, by simp, by simp [jD8]⟩
end
section
variable {κ ν : Type} [DecidableEq κ] (encK : κ → Value) (encV : ν → Value)
def MapP (M : List (κ × ν)) (o : Obj) : Prop :=
 ∃ es clock, o = .map es clock ∧ es.toList.map (fun e : MapEntry => (e.key, e.val)) = M.map (fun x => (encK x.1, encV x.2)) ∧ (jD8 M).Nodup
abbrev mapE (b : Nat) (M : List (κ × ν)) : Ent := .ob b (MapP encK encV M)
variable {encK encV} {b : Nat} {M : List (κ × ν)} {w w' : World}
theorem mapE_is : (mapE encK encV b M).holds w ↔ MapIs encK encV w b M := by
 constructor
 ·rintro ⟨o, h1, es, clock, rfl, h2, h3⟩
  exact ⟨es, clock, h1, h2, h3⟩
 ·rintro ⟨es, clock, h1, h2, h3⟩
  exact ⟨_, h1, es, clock, rfl, h2, h3⟩
theorem OnlyMap.only (h : OnlyMap w w' b) : Only [b] w w' := by
 obtain ⟨x, rfl⟩ := h
 refine ⟨rfl, rfl, rfl, by simp, fun i _ hn => ?_⟩
 have : b ≠ i := fun e => hn (by simp [e])
 simp [Array.getElem?_setIfInBounds_ne this]
end
section
variable {P : Program} {N : Frm} {w0 : World} {Wr : List Nat} {ops : Array Oper} {rest : List Oper} {fr : Fr} {H : Heap} {Z : Fr → Heap → Prop}
variable {d ty : Nat} {pos : String} {after : Array Edge}
variable {κ ν : Type} [DecidableEq κ] {encK : κ → Value} {encV : ν → Value} {K T E : TypeId}
theorem kC1 {κ ν : Type} [DecidableEq κ] {encK : κ → Value} {encV : ν → Value} {K T E : TypeId} (i : Nat) (hK : KeyOk P K encK) (hT : P.underlying T = some (.map K E)) {z : Value} (hz : ∀ w, (zeroValue E).run P w = .ok z w) {x y : Operand} {b : Nat} {M : List (κ × ν)} (k : κ) {ok : Bool} (v : Value)
  (hx : ev fr x = some (.map (some b))) (hy : ev fr y = some (encK k)) (hH : H[i]? = some (mapE encK encV b M)) (hv : (if ok = true then Value.tuple #[((aget M k).map encV).getD z, .bool (aget M k).isSome] else ((aget M k).map encV).getD z) = v) (hN : Nat.ble (d + 1) N.n = true)
  (h : sx P N w0 Wr ops rest ((d, v) :: fr) H Z) : sx P N w0 Wr ops (⟨some d, .lookup T x y ok, ty, pos, after, none⟩ :: rest) fr H Z :=
 jE9 v hN (fun a w ha hw => by
  subst hv
  have := kJ8 hK hT (mapE_is.1 (hw.mem hH)) (hz w) k ok
  simp only [execOp, ha.eval hx, ha.eval hy, lI, this, lQ]
  rfl) h
theorem yM3 {κ ν : Type} [DecidableEq κ] {encK : κ → Value} {encV : ν → Value} {K T E : TypeId} (i : Nat) (hT : P.underlying T = some (.map K E)) {x : Operand} {b : Nat} {M : List (κ × ν)} (hx : ev fr x = some (.map (some b))) (hH : H[i]? = some (mapE encK encV b M)) (hN : Nat.ble (d + 1) N.n = true)
  (h : sx P N w0 Wr ops rest ((d, .int .i64 (M.length : Nat)) :: fr) H Z) : sx P N w0 Wr ops (⟨some d, .call { callee := .builtin .len, args := #[x], argTypes := #[T] }, ty, pos, after, none⟩ :: rest) fr H Z :=
 jE9 _ hN (fun a w ha hw => by
  have := kN0 (ty := ty) hT (mapE_is.1 (hw.mem hH))
  have he := ha.eval hx
  simp [execOp, resolve, invoke, builtin, he, this]) h
theorem jU5 (i : Nat) (hK : KeyOk P K encK) (hT : P.underlying T = some (.map K E)) {x y u : Operand} {b : Nat} {M : List (κ × ν)} (k : κ) (v : ν)
  (hx : ev fr x = some (.map (some b))) (hy : ev fr y = some (encK k)) (hu : ev fr u = some (encV v)) (hH : H[i]? = some (mapE encK encV b M)) {H2 : Heap} (hs : H.set i (mapE encK encV b (aput M k v)) = H2)
  (h : sx P N w0 Wr ops rest fr H2 Z) : sx P N w0 Wr ops (⟨none, .mapUpdate T x y u, ty, pos, after, none⟩ :: rest) fr H Z :=
 wV2 (fun a w ha hw => by
  subst hs
  obtain ⟨w', h1, h2, h3⟩ := kW8 hK hT (mapE_is.1 (hw.mem hH)) k v
  refine ⟨w', ?_, hw.turn hH rfl rfl h3.only (mapE_is.2 h2)⟩
  simp only [execOp, ha.eval hx, ha.eval hy, ha.eval hu, lI, h1, lQ]
  rfl) h
theorem jX2 {t : TypeId} (hN : Nat.ble (d + 1) N.n = true) (encK : κ → Value) (encV : ν → Value)
  (h : ∀ b, sx P N w0 Wr ops rest ((d, .map (some b)) :: fr) (mapE encK encV b [] :: H) Z) : sx P N w0 Wr ops (⟨some d, .makeMap t none, ty, pos, after, none⟩ :: rest) fr H Z := by
 refine jL0 (R := fun v H' => ∃ b, v = .map (some b) ∧ H' = mapE encK encV b [] :: H) hN (fun a w ha hw => ?_) (fun v H' hR => by obtain ⟨b, rfl, rfl⟩ := hR; exact h b)
 refine ⟨.map (some w.heap.size), w.alloc (.map #[] 0), _, ?_, ⟨w.heap.size, rfl, rfl⟩, hw.fresh (mapE_is.2 (MapIs.made encK encV w)) ((Bel.refl w).alloc _) (xB _)⟩
 simp [execOp, Instr.makeMap]
end
end
section
open Go.RowKit
def Wpv (P : Program) (ops : Array Oper) (C : World → Prop) (K : Act → Prop) : List Oper → Act → Prop
 | [], a => K a
 | o :: r, a => ∃ v, YC P ops C o v a ∧ Wpv P ops C K r (a.put o.dst v)
def sv (P : Program) (N : Frm) (w0 : World) (Wr : List Nat) (ops : Array Oper) (l : List Oper) (fr : Fr) (H : Heap) (Z : Fr → Heap → Prop) : Prop :=
 ∀ (K : Act → Prop), (∀ fr' a, Z fr' H → FrOk N fr' a → K a) → ∀ a, FrOk N fr a → Wpv P ops (Sat w0 Wr H) K l a
def tw (P : Program) (N : Frm) (w0 : World) (Wr : List Nat) (ops : Array Oper) (H0 : Heap) (xs : List (Nat × Bool)) (fr : Fr) (H : Heap) (Z : Fr → Heap → Prop) : Prop :=
 ∀ (Q : Exit → Act → World → Prop), (∀ fr' H' a w, Z fr' H' → FrOk N fr' a → Sat w0 Wr H' w → Q .normal a w) → ∀ a w, FrOk N fr a → Sat w0 Wr H w → Wv P ops (Sat w0 Wr H0) Q xs a w
section
variable {P : Program} {N : Frm} {w0 : World} {Wr : List Nat} {ops : Array Oper} {rest : List Oper} {fr : Fr} {H H0 : Heap} {Z : Fr → Heap → Prop}
variable {d ty : Nat} {pos : String} {after : Array Edge}
theorem vN (h : Z fr H) : sv P N w0 Wr ops [] fr H Z := fun _ hK a ha => hK _ a h ha
theorem jM0 {op : Op} {d ty : Nat} {pos : String} {after : Array Edge} (v : Value) (hN : Nat.ble (d + 1) N.n = true)
  (hrun : ∀ (a : Act) (w : World), FrOk N fr a → Sat w0 Wr H w → (execOp a.eval ⟨some d, op, ty, pos, after, none⟩).run P w = .ok (.value v) w)
  (h : sv P N w0 Wr ops rest ((d, v) :: fr) H Z) : sv P N w0 Wr ops (⟨some d, op, ty, pos, after, none⟩ :: rest) fr H Z :=
 fun K hK a ha => ⟨v, fun w hw => .inl ⟨rfl, hrun a w ha hw⟩, h K hK _ (ha.put hN v)⟩
theorem yN0 {x : Operand} {v : Value} (hx : ev fr x = some v) (hN : Nat.ble (d + 1) N.n = true) (h : sv P N w0 Wr ops rest ((d, v) :: fr) H Z) : sv P N w0 Wr ops (⟨some d, .move x, ty, pos, after, none⟩ :: rest) fr H Z :=
 jM0 v hN (fun a w ha _ => by rw [← ha.eval hx]; rfl) h
theorem jA8 {x : Operand} {v : Value} (h : sv P N w0 Wr ops rest ((d, v) :: fr) H Z) (hx : ev fr x = some v := by exact rfl) (hN : Nat.ble (d + 1) N.n = true := by exact rfl) : sv P N w0 Wr ops (⟨some d, .move x, ty, pos, after, none⟩ :: rest) fr H Z := yN0 hx hN h
theorem jE7 {x : Operand} {v : Value} (hx : ev fr x = some v) (hN : Nat.ble (d + 1) N.n = true) (h : sv P N w0 Wr ops rest ((d, v) :: fr) H Z) : sv P N w0 Wr ops (⟨some d, .assign x, ty, pos, after, none⟩ :: rest) fr H Z :=
 jM0 v hN (fun a w ha _ => by rw [← ha.eval hx]; rfl) h
theorem jE0 {x : Operand} {g o : Nat} (hx : ev fr x = some (ptr g o)) (hN : Nat.ble (d + 1) N.n = true) (h : sv P N w0 Wr ops rest ((d, ptr g o) :: fr) H Z) : sv P N w0 Wr ops (⟨some d, .nilCheck x, ty, pos, after, none⟩ :: rest) fr H Z :=
 jM0 _ hN (fun a w ha _ => by simp only [execOp, ha.eval hx, ptr]; rfl) h
theorem jE6 (i : Nat) {t : TypeId} {x : Operand} {g o : Nat} {e : TypeId} {cs : List Value} {agg : Bool} {n : Nat} {v : Value} (hx : ev fr x = some (ptr g o)) (hH : H[i]? = some (.own g e cs)) (ht : tyAgg P t = some agg) (hn : tySize P t = some n) (hv : rdV agg n cs o = some v) (hN : Nat.ble (d + 1) N.n = true)
  (h : sv P N w0 Wr ops rest ((d, v) :: fr) H Z) : sv P N w0 Wr ops (⟨some d, .load t x, ty, pos, after, none⟩ :: rest) fr H Z :=
 jM0 v hN (fun a w ha hw => by
  have hc := Ent.cell (hw.mem hH)
  simp only [execOp, Instr.loadAt, ha.eval hx, ptr, Instr.sureAddr, lI, l9, lQ]
  rw [jQ2 ht hn hv (fun j u hu => (hc j).trans hu)]
  rfl) h
theorem jM3 (i : Nat) {t : TypeId} {x : Operand} {g o : Nat} {e : TypeId} {cs cs' : List Value} {n : Nat} (hx : ev fr x = some (ptr g o)) (hH : H[i]? = some (.own g e cs)) (ht : tyAgg P t = some true) (hn : tySize P t = some n) (hle : Nat.ble (o + n) cs.length = true) (hv : (cs.drop o).take n = cs') (hN : Nat.ble (d + 1) N.n = true)
  (h : sv P N w0 Wr ops rest ((d, .agg cs'.toArray) :: fr) H Z) : sv P N w0 Wr ops (⟨some d, .load t x, ty, pos, after, none⟩ :: rest) fr H Z :=
 jE6 i hx hH ht hn (by subst hv; simp [rdV, hle]) hN h
theorem jM1 (i : Nat) {t : TypeId} {x : Operand} {g o o' : Nat} {cs : List Value} {agg : Bool} {n : Nat} {v : Value} (hx : ev fr x = some (ptr g o)) (hH : H[i]? = some (.ro g o' cs)) (k : Nat) (ho : o = o' + k) (ht : tyAgg P t = some agg) (hn : tySize P t = some n) (hv : rdV agg n cs k = some v) (hN : Nat.ble (d + 1) N.n = true)
  (h : sv P N w0 Wr ops rest ((d, v) :: fr) H Z) : sv P N w0 Wr ops (⟨some d, .load t x, ty, pos, after, none⟩ :: rest) fr H Z :=
 jM0 v hN (fun a w ha hw => by
  subst ho
  have hc := (hw.mem hH).2
  simp only [execOp, Instr.loadAt, ha.eval hx, ptr, Instr.sureAddr, lI, l9, lQ]
  have : (loadVar t ⟨g, o' + k, none⟩).run P w = .ok v w := by
   unfold loadVar
   simp only [lI, jQ3 ht, lQ]
   cases agg with
   | false => simp [load, Sem.run, hc k v hv]
   | true =>
    simp only [rdV, cond_true] at hv
    cases hb : Nat.ble (k + n) cs.length with
    | false => rw [hb] at hv; cases hv
    | true =>
     rw [hb] at hv
     obtain rfl := lV hv
     have hle := zQ hb
     simp only [if_true, lI, jC0 hn, lQ, loadCells]
     rw [jK2 (P := P) ⟨g, o' + k, none⟩ n 0 #[] ((cs.drop k).take n) (by simp; omega) (fun j u hu => by
      have e : Addr.add ⟨g, o' + k, none⟩ (0 + j) = ⟨g, o' + (k + j), none⟩ := by unfold Addr.add; split <;> simp_all <;> omega
      rw [e]
      refine hc _ _ ?_
      rw [qU] at hu
      split at hu
      ·rw [← hu, zP]
      ·cases hu)]
     simp
  rw [this]
  rfl) h
theorem vC5 {s i : Nat} {x : Operand} {g o off n o' : Nat} {b : Bool} (hx : ev fr x = some (ptr g o)) (hf : tyF P s i = some (off, n, b)) (ho : o + off = o') (hN : Nat.ble (d + 1) N.n = true)
  (h : sv P N w0 Wr ops rest ((d, ptr g o') :: fr) H Z) : sv P N w0 Wr ops (⟨some d, .fieldAddr s x i, ty, pos, after, none⟩ :: rest) fr H Z :=
 jM0 _ hN (fun a w ha _ => by
  subst ho
  unfold tyF at hf
  cases hu : P.underlying s with
  | none => simp [hu] at hf
  | some dd =>
   cases dd <;> simp only [hu] at hf <;> try cases hf
   rename_i fs
   cases hi : fs[i]? with
   | none => simp [hi] at hf
   | some f =>
    simp only [hi, zI] at hf
    cases hs : tySize P f.type with
    | none => simp [hs] at hf
    | some m =>
     cases hb : tyAgg P f.type with
     | none => simp [hs, hb] at hf
     | some bb =>
      simp only [hs, hb, zI] at hf
      split at hf
      ·cases hf
      ·rename_i hm
       simp only [x5, Prod.mk.injEq] at hf
       obtain ⟨rfl, rfl, rfl⟩ := hf
       have e : Addr.add ⟨g, o, none⟩ f.offset = ⟨g, o + f.offset, none⟩ := by unfold Addr.add; split <;> simp_all
       simp only [execOp, Instr.fieldAt, ha.eval hx, ptr, lI, run_underlying hu, lQ, hi, Instr.sureAddr, l9, fieldPlace, jC0 hs, hm, if_false, e]) h
theorem jA7 {s i : Nat} {x : Operand} {g o off n o' : Nat} {b : Bool} (hf : tyF P s i = some (off, n, b)) (h : sv P N w0 Wr ops rest ((d, ptr g o') :: fr) H Z) (hx : ev fr x = some (ptr g o) := by exact rfl) (ho : o + off = o' := by first | (simp only [qS]; first | done | rfl) | rfl) (hN : Nat.ble (d + 1) N.n = true := by exact rfl) : sv P N w0 Wr ops (⟨some d, .fieldAddr s x i, ty, pos, after, none⟩ :: rest) fr H Z := vC5 hx hf ho hN h
theorem wD0 {op : BinOp} {t t' : TypeId} {x y : Operand} {k : IntKind} {m n : Int} (v : Value) (hx : ev fr x = some (.int k m)) (hy : ev fr y = some (.int k n)) (hv : ∀ w, (binOp op t (.int k m) (.int k n)).run P w = .ok v w) (hN : Nat.ble (d + 1) N.n = true)
  (h : sv P N w0 Wr ops rest ((d, v) :: fr) H Z) : sv P N w0 Wr ops (⟨some d, .binOp op t x y t', ty, pos, after, none⟩ :: rest) fr H Z :=
 jM0 v hN (fun a w ha _ => by
  have hg : (eqGuard op t x y (.int k m) (.int k n)).run P w = .ok () w := by
   unfold eqGuard
   split <;> rfl
  simp only [execOp, ha.eval hx, ha.eval hy, lI, hg, lQ, hv w]
  rfl) h
theorem kH8 {t t' : TypeId} {x y : Operand} {k : IntKind} {m n : Int} (hx : ev fr x = some (.int k m)) (hy : ev fr y = some (.int k n)) (r : Int) (hr : k.wrap (m + n) = r) (hN : Nat.ble (d + 1) N.n = true)
  (h : sv P N w0 Wr ops rest ((d, .int k r) :: fr) H Z) : sv P N w0 Wr ops (⟨some d, .binOp .add t x y t', ty, pos, after, none⟩ :: rest) fr H Z :=
 wD0 _ hx hy (fun w => by subst hr; simp [binOp, Op.intArith]) hN h
theorem yG5 {t t' : TypeId} {x y : Operand} {k : IntKind} {m n : Int} (hx : ev fr x = some (.int k m)) (hy : ev fr y = some (.int k n)) (hN : Nat.ble (d + 1) N.n = true)
  (h : sv P N w0 Wr ops rest ((d, .bool (m == n)) :: fr) H Z) : sv P N w0 Wr ops (⟨some d, .binOp .eql t x y t', ty, pos, after, none⟩ :: rest) fr H Z :=
 wD0 _ hx hy (fun w => by simp [binOp, Op.intCmp]) hN h
theorem jF7 {x : Operand} {i : Nat} {vs : List Value} {v : Value} (hx : ev fr x = some (.tuple vs.toArray)) (hv : vs[i]? = some v) (hN : Nat.ble (d + 1) N.n = true)
  (h : sv P N w0 Wr ops rest ((d, v) :: fr) H Z) : sv P N w0 Wr ops (⟨some d, .extract x i, ty, pos, after, none⟩ :: rest) fr H Z :=
 jM0 v hN (fun a w ha _ => by
  have : vs.toArray[i]? = some v := by simpa using hv
  simp only [execOp, ha.eval hx, Instr.extract, this]; rfl) h
theorem vC4 {x : Operand} {t e : TypeId} {A : Option Addr} {n c : Nat} (ht : P.underlying t = some (.slice e)) (hx : ev fr x = some (.slice A n c)) (hN : Nat.ble (d + 1) N.n = true)
  (h : sv P N w0 Wr ops rest ((d, .int .i64 n) :: fr) H Z) : sv P N w0 Wr ops (⟨some d, .call { callee := .builtin .len, args := #[x], argTypes := #[t] }, ty, pos, after, none⟩ :: rest) fr H Z :=
 jM0 _ hN (fun a w ha _ => by
  have := ha.eval hx
  simp [execOp, resolve, invoke, builtin, this, lI, Builtin.len_, run_underlying ht, goInt]) h
theorem wD1 {t : Nat} {x y : Operand} {l : List UInt8} {k : IntKind} {i : Int} {c : UInt8} (ht : P.underlying t = some .string) (hx : ev fr x = some (.string (str l))) (hy : ev fr y = some (.int k i)) (hi : 0 ≤ i) (hv : l[i.toNat]? = some c) (hN : Nat.ble (d + 1) N.n = true)
  (h : sv P N w0 Wr ops rest ((d, .int .u8 (c.toNat : Int)) :: fr) H Z) : sv P N w0 Wr ops (⟨some d, .index t x y, ty, pos, after, none⟩ :: rest) fr H Z :=
 jM0 _ hN (fun a w ha _ => by
  have : (str l)[i.toNat]? = some c := by
   have hl := (List.getElem?_eq_some_iff.1 hv)
   obtain ⟨h1, h2⟩ := hl
   have h3 : i.toNat < (str l).size := by rw [str_size]; exact h1
   rw [getElem?_pos (str l) i.toNat h3]
   congr 1
  simp only [execOp, Instr.index, ha.eval hx, ha.eval hy, asIntOf, lI, l9, run_underlying ht, lQ, if_pos hi, this]) h
theorem jJ8 {t e n g o len c : Nat} {x y : Operand} {k : IntKind} {i : Int} (o' : Nat) (ht : P.underlying t = some (.slice e)) (hs : tySize P e = some n) (hx : ev fr x = some (.slice (some ⟨g, o, none⟩) len c)) (hy : ev fr y = some (.int k i)) (hi : 0 ≤ i ∧ i < len) (ho : o + i.toNat * n = o') (hN : Nat.ble (d + 1) N.n = true)
  (h : sv P N w0 Wr ops rest ((d, ptr g o') :: fr) H Z) : sv P N w0 Wr ops (⟨some d, .indexAddr t x y, ty, pos, after, none⟩ :: rest) fr H Z :=
 jM0 _ hN (fun a w ha _ => by
  subst ho
  simp only [execOp, Instr.indexAt, ha.eval hx, ha.eval hy, asIntOf, lI, l9, run_underlying ht, lQ, if_pos hi, jC0 hs, jI3]
  rfl) h
theorem kW2 {t e n g o len : Nat} {x y : Operand} {k : IntKind} {i : Int} (o' : Nat) (ht : P.underlying t = some (.array len e)) (hs : tySize P e = some n) (hx : ev fr x = some (ptr g o)) (hy : ev fr y = some (.int k i)) (hi : 0 ≤ i ∧ i < len) (ho : o + i.toNat * n = o') (hN : Nat.ble (d + 1) N.n = true)
  (h : sv P N w0 Wr ops rest ((d, ptr g o') :: fr) H Z) : sv P N w0 Wr ops (⟨some d, .indexAddr t x y, ty, pos, after, none⟩ :: rest) fr H Z :=
 jM0 _ hN (fun a w ha _ => by
  subst ho
  simp only [execOp, Instr.indexAt, ha.eval hx, ha.eval hy, asIntOf, lI, l9, run_underlying ht, lQ, ptr, Instr.sureAddr, if_pos hi, jC0 hs, jI3]) h
theorem jV0 {t : TypeId} {x : Operand} {lo hi : Option Operand} {l : List UInt8} {i j : Int} (m : List UInt8) (ht : P.underlying t = some .string) (hx : ev fr x = some (.string (str l))) (hl : bnd fr 0 lo = some i) (hh : bnd fr (l.length : Int) hi = some j) (h0 : 0 ≤ i) (h1 : i ≤ j) (h2 : j ≤ l.length) (hm : (l.drop i.toNat).take (j.toNat - i.toNat) = m) (hN : Nat.ble (d + 1) N.n = true)
  (h : sv P N w0 Wr ops rest ((d, .string (str m)) :: fr) H Z) : sv P N w0 Wr ops (⟨some d, .slice t x lo hi none, ty, pos, after, none⟩ :: rest) fr H Z :=
 jM0 _ hN (fun a w ha _ => by
  subst hm
  have hb := jI5 (P := P) (isS := false) (len := (str l).size) (cap := (str l).size) (w := w) ha hl (by rw [str_size]; exact hh) h0 h1 (by rw [str_size]; exact h2)
  simp only [execOp, Instr.sliceAt, Instr.slice, ha.eval hx, lI, run_underlying ht, lQ, uC, Option.isSome_none, Bool.false_eq_true, if_false, hb, l9, vJ5]) h
theorem wV6 {t e n g o len c : Nat} {x : Operand} {lo hi : Option Operand} {i j : Int} (ht : P.underlying t = some (.slice e)) (hs : tySize P e = some n) (hx : ev fr x = some (.slice (some ⟨g, o, none⟩) len c)) (hl : bnd fr 0 lo = some i) (hh : bnd fr (len : Int) hi = some j) (h0 : 0 ≤ i) (h1 : i ≤ j) (h2 : j ≤ c) (hN : Nat.ble (d + 1) N.n = true)
  (h : ∀ o', (i < j → o' = o + i.toNat * n) → sv P N w0 Wr ops rest ((d, .slice (some ⟨g, o', none⟩) (j.toNat - i.toNat) (c - i.toNat)) :: fr) H Z) : sv P N w0 Wr ops (⟨some d, .slice t x lo hi none, ty, pos, after, none⟩ :: rest) fr H Z :=
 jM0 (.slice (some ⟨g, (if c = i.toNat then o else o + i.toNat * n), none⟩) (j.toNat - i.toNat) (c - i.toNat)) hN (fun a w ha _ => by
  have hb := jI5 (P := P) (isS := true) (len := len) (cap := c) (w := w) ha hl hh h0 h1 h2
  simp only [execOp, Instr.sliceAt, Instr.slice, ha.eval hx, lI, run_underlying ht, lQ, uC, hb, l9, jC0 hs, qA, jI3]
  by_cases hc : c = i.toNat <;> simp [hc]) (h _ (fun hlt => by rw [if_neg (by omega)]))
theorem kJ6 {t : TypeId} {parts : List (Nat × Operand)} {pv : List (Nat × Value)} {z cs cs' : List Value} {pl : List (Nat × Nat)} (hz : tyZero P t = some z) (hp : tyPlaces P t = some pl) (hx : jO0 fr parts = some pv) (hf : kA5 (pl[·]?) z (jR3 pv) = some cs) (hn : cs = cs') (hN : Nat.ble (d + 1) N.n = true)
  (h : sv P N w0 Wr ops rest ((d, .agg cs'.toArray) :: fr) H Z) : sv P N w0 Wr ops (⟨some d, .build t parts.toArray, ty, pos, after, none⟩ :: rest) fr H Z :=
 jM0 _ hN (fun a w ha _ => by
  subst hn
  obtain ⟨v, h1, h2⟩ := jR0 (w := w) hz
  unfold tyPlaces at hp
  cases hu : P.underlying t with
  | none => simp [hu] at hp
  | some dd =>
   cases dd <;> simp only [hu] at hp <;> try cases hp
   rename_i fs
   have hpl := kC7 (P := P) fs.toList pl w hp
   have hpl' : (fs.mapM (m := Sem) fun f => do pure (f.offset, ← sizeOf f.type)).run P w = .ok pl.toArray w := by
    rw [← Array.toArray_toList (xs := fs), List.mapM_toArray]
    rw [Sem.run_map, hpl]
    rfl
   have hfl : Instr.fill (fun i => pl.toArray[i]?) v.cells pv = some cs.toArray := jW1 _ pv v.cells cs (by rw [h2]; simpa using hf)
   have hpv := ha.parts hx
   have hpv' : (parts.toArray.map fun (p : Nat × Operand) => (p.1, a.eval p.2)).toList = pv := by simpa using hpv
   simp only [execOp, Instr.build, lI, h1, lQ, run_underlying hu, hpl', hpv', hfl]
   rfl) h
theorem wD2 {t e len n : TypeId} {parts : List (Nat × Operand)} {pv : List (Nat × Value)} {z cs cs' : List Value} (hz : tyZero P t = some z) (ht : P.underlying t = some (.array len e)) (hs : tySize P e = some n) (hx : jO0 fr parts = some pv) (hf : kA5 (fun i => some (i * n, n)) z (jR3 pv) = some cs) (hn : cs = cs') (hN : Nat.ble (d + 1) N.n = true)
  (h : sv P N w0 Wr ops rest ((d, .agg cs'.toArray) :: fr) H Z) : sv P N w0 Wr ops (⟨some d, .build t parts.toArray, ty, pos, after, none⟩ :: rest) fr H Z :=
 jM0 _ hN (fun a w ha _ => by
  subst hn
  obtain ⟨v, h1, h2⟩ := jR0 (w := w) hz
  have hfl : Instr.fill (fun i => some (i * n, n)) v.cells pv = some cs.toArray := jW1 _ pv v.cells cs (by rw [h2]; simpa using hf)
  have hpv := ha.parts hx
  have hpv' : (parts.toArray.map fun (p : Nat × Operand) => (p.1, a.eval p.2)).toList = pv := by simpa using hpv
  simp only [execOp, Instr.build, lI, h1, lQ, run_underlying ht, jC0 hs, hpv', hfl]
  rfl) h
theorem yM8 {c x y : Operand} {b : Bool} {v : Value} (hc : ev fr c = some (.bool b)) (hx : ev fr (bif b then x else y) = some v) (hN : Nat.ble (d + 1) N.n = true)
  (h : sv P N w0 Wr ops rest ((d, v) :: fr) H Z) : sv P N w0 Wr ops (⟨some d, .pick c x y, ty, pos, after, none⟩ :: rest) fr H Z :=
 jM0 v hN (fun a w ha _ => by
  cases b <;> simp only [cond_true, cond_false] at hx <;> simp [execOp, ha.eval hc, ha.eval hx, asBool]) h
theorem jV1 {κ ν : Type} [DecidableEq κ] {encK : κ → Value} {encV : ν → Value} {K T E : TypeId} (i : Nat) (hK : KeyOk P K encK) (hT : P.underlying T = some (.map K E)) {z : Value} (hz : ∀ w, (zeroValue E).run P w = .ok z w) {x y : Operand} {b : Nat} {M : List (κ × ν)} (k : κ) {ok : Bool} (v : Value)
  (hx : ev fr x = some (.map (some b))) (hy : ev fr y = some (encK k)) (hH : H[i]? = some (mapE encK encV b M)) (hv : (if ok = true then Value.tuple #[((aget M k).map encV).getD z, .bool (aget M k).isSome] else ((aget M k).map encV).getD z) = v) (hN : Nat.ble (d + 1) N.n = true)
  (h : sv P N w0 Wr ops rest ((d, v) :: fr) H Z) : sv P N w0 Wr ops (⟨some d, .lookup T x y ok, ty, pos, after, none⟩ :: rest) fr H Z :=
 jM0 v hN (fun a w ha hw => by
  subst hv
  have := kJ8 hK hT (mapE_is.1 (hw.mem hH)) (hz w) k ok
  simp only [execOp, ha.eval hx, ha.eval hy, lI, this, lQ]
  rfl) h
theorem jI7 (h : Z fr H) : tw P N w0 Wr ops H0 [] fr H Z := fun _ hQ a w ha hw => ⟨rfl, hQ _ _ a w h ha hw⟩
theorem tw_p {i : Nat} {o : Oper} {xs : List (Nat × Bool)} (ho : ops[i]? = some o) (h : sv P N w0 Wr ops [o] fr H0 fun fr' _ => tw P N w0 Wr ops H0 xs fr' H Z) : tw P N w0 Wr ops H0 ((i, true) :: xs) fr H Z :=
 fun Q hQ a w ha hw => by
  obtain ⟨v, hv, hk⟩ := h (fun a => Wv P ops (Sat w0 Wr H0) Q xs a w) (fun fr' a ht hf => ht Q hQ a w hf hw) a ha
  exact ⟨o, v, ho, hv, hk⟩
theorem tw_g {i : Nat} {o : Oper} {xs : List (Nat × Bool)} (ho : ops[i]? = some o) (h : sx P N w0 Wr ops [o] fr H fun fr' H' => HLe H0 H' ∧ tw P N w0 Wr ops H0 xs fr' H' Z) : tw P N w0 Wr ops H0 ((i, false) :: xs) fr H Z :=
 fun Q hQ a w ha hw => by
  have h1 := h (QN fun _ a w => Sat w0 Wr H0 w ∧ Wv P ops (Sat w0 Wr H0) Q xs a w) (fun fr' H' a w ht hf hS => ⟨rfl, ht.1 _ _ _ hS, ht.2 Q hQ a w hf hS⟩) a w ha hw
  show wpOp P ops (QN Q) i (fun a w' => Sat w0 Wr H0 w' ∧ Wv P ops (Sat w0 Wr H0) Q xs a w') a w
  refine kJ3 (Q := fun _ a w => Sat w0 Wr H0 w ∧ Wv P ops (Sat w0 Wr H0) Q xs a w) ho ?_
  unfold wpOp
  simp only [ho]
  unfold wpList at h1
  split
  ·rename_i hw'
   rw [if_pos hw'] at h1
   exact h1.imp (Oper.wp_mono fun a w hh => hh.2) id
  ·rename_i hw'
   rw [if_neg hw'] at h1
   exact h1.2
theorem kG9 {Q : Exit → Act → World → Prop} {id : Nat} {l : List Oper} (H0 : Heap) (ls : List (Nat × Bool)) (hm : P.follows .mixedOrders = true) (hB : vG7 l ls = true) (hk : HLe H0 H)
  (h : ∀ Z : Fr → Heap → Prop, (∀ fr H, nx N w0 Wr fr H Q .normal → Z fr H) → tw P N w0 Wr l.toArray H0 ls fr H Z) : awp P N w0 Wr (.region id l.toArray true) fr H Q :=
 fun a w ha hw => jY4 (C := Sat w0 Wr H0) ls hm hB (hk _ _ _ hw.drew)
  (h (fun fr H => nx N w0 Wr fr H Q .normal) (fun _ _ h => h) Q (fun fr' H' a w hz hf hs => hz a w hf hs) a w.drew ha hw.drew)
theorem jD3 {Q : Exit → Act → World → Prop} {id : Nat} {l : List Oper} {y : Code} (H0 : Heap) (ls : List (Nat × Bool)) (hm : P.follows .mixedOrders = true) (hB : vG7 l ls = true) (hk : HLe H0 H)
  (h : ∀ Z : Fr → Heap → Prop, (∀ fr H, awp P N w0 Wr y fr H Q → Z fr H) → tw P N w0 Wr l.toArray H0 ls fr H Z) : awp P N w0 Wr (.seq (.region id l.toArray true) y) fr H Q :=
 aS (kG9 H0 ls hm hB hk fun Z hZ => h Z fun fr H hy => hZ fr H hy)
end
end
section
open Go.RowKit
def Ro (T : Heap) : Prop := ∀ e ∈ T, e.wr = false
theorem Ro.nil : Ro [] := fun _ h => by cases h
theorem Ro.roE (A : Option Addr) (xs : List Value) : Ro (roE A xs) := fun e he => by
 unfold Go.Proofs.YtfeopecgedbfpaaGreatDoor.roE at he
 split at he
 ·rw [List.mem_singleton.1 he]; rfl
 ·cases he
theorem Ro.append {T U : Heap} (h : Ro T) (k : Ro U) : Ro (T ++ U) := fun e he => (List.mem_append.1 he).elim (h e) (k e)
theorem Ro.filter {T : Heap} (h : Ro T) : T.filter Ent.wr = [] := List.filter_eq_nil_iff.2 fun e he => by simp [h e he]
theorem Ro.wrs {T : Heap} (h : Ro T) (A : Heap) : wrs (A ++ T) = wrs A := by simp [Go.Proofs.YtfeopecgedbfpaaGreatDoor.wrs, zB, h.filter]
section
variable {w0 w w' : World} {Wr : List Nat} {H H' T U : Heap} {idxs ks : List Nat}
theorem vH4 (h : Sat w0 Wr H w) {a b : Ent} (ha : a ∈ H) (hb : b ∈ H) (hr : b.wr = false) : a.apart b := by
 obtain ⟨i, hi⟩ := List.mem_iff_getElem?.1 ha
 obtain ⟨j, hj⟩ := List.mem_iff_getElem?.1 hb
 by_cases hij : i = j
 ·subst hij
  have : a = b := lV (hi.symm.trans hj)
  subst this
  intro hw
  simp [hr] at hw
 ·exact h.sep.at_ hij hi hj
theorem vR3 {e : Ent} (h : e ∈ pick idxs H) : e ∈ H := by
 obtain ⟨i, _, hi⟩ := jX5 h
 exact xM hi
theorem HLe.drop (n : Nat) {a b : Heap} (h : b.drop n = a) : HLe a b := HLe.sub (h ▸ List.drop_sublist n b)
theorem HLe.pickT {A A' T : Heap} (idxs : List Nat) (hn : idxs.Nodup) (he : Go.Proofs.YtfeopecgedbfpaaGreatDoor.pick idxs A = A') (hro : Ro T) : HLe (A' ++ T) (A ++ T) := fun w0 Wr w h => by
 subst he
 have hA : Sat w0 Wr A w := h.sub (lS _ _)
 refine ⟨h.only, fun e hx => ?_, List.pairwise_append.2 ⟨kJ7 hA.sep hn, h.sep.sublist (lP _ _), fun a ha b hb => vH4 h (xI _ (vR3 ha)) (x0 _ hb) (hro b hb)⟩⟩
 rcases List.mem_append.1 hx with hx | hx
 ·exact h.ents e (xI _ (vR3 hx))
 ·exact h.ents e (x0 _ hx)
end
section
variable {P : Program} {N : Frm} {w0 : World} {Wr : List Nat} {ops : Array Oper} {rest : List Oper} {fr : Fr} {H H1 T U : Heap} {Z : Fr → Heap → Prop}
variable {d ty : Nat} {pos : String} {after : Array Edge}
theorem jC3 {l : List Oper} (H' : Heap) (hk : HLe H' H) (h : sx P N w0 Wr ops l fr H' Z) : sx P N w0 Wr ops l fr H Z :=
 fun Q hQ a w ha hw => h Q hQ a w ha (hk _ _ _ hw)
theorem jD1 {f : FuncId} {xs : List Operand} {vs : List Value} {ts : Array TypeId} {v : Value} (U : Heap) (hc : Fn P f vs U fun u _ => u = v) (hx : evs fr xs = some vs) (hU : U.Sublist H) (hroU : Ro U) (hN : Nat.ble (d + 1) N.n = true)
  (h : sx P N w0 Wr ops rest ((d, v) :: fr) H Z) :
  sx P N w0 Wr ops (⟨some d, .call { callee := .value (.func f), args := xs.toArray, argTypes := ts }, ty, pos, after, none⟩ :: rest) fr H Z :=
 jP5 (R := fun u H' => u = v ∧ H' = H) hc.1 hx hN (fun w hw => by
  have hpre : Sat w (wrs U) U w := ⟨Only.refl _ _, fun e he => ⟨(hw.ents e (hU.subset he)).1, fun h => .inl (mem_wrs.2 ⟨e, he, h, rfl⟩)⟩, hw.sep.sublist hU⟩
  exact (hc.2 w hpre).mono fun e w' he => by
   obtain ⟨u, H', h1, h2, h3⟩ := he
   have h0 : wrs U = [] := by have := hroU.wrs []; simpa [wrs] using this
   rw [h0] at h3
   exact ⟨u, H, h1, ⟨h2, rfl⟩, hw.bel h3.only.bel⟩) (fun u H' hR => by obtain ⟨rfl, rfl⟩ := hR; exact h)
theorem kM5 {f : FuncId} {xs : List Operand} {vs : List Value} {ts : Array TypeId} {e : TypeId} {size n : Nat} {ys : List Value} (U : Heap) (hc : Fn P f vs U fun u H' => RowOk u n ∧ H' = rowE u e size ys) (hx : evs fr xs = some vs) (hU : U.Sublist H) (hroU : Ro U) (hN : Nat.ble (d + 1) N.n = true)
  (h : ∀ v, RowOk v n → sx P N w0 Wr ops rest ((d, v) :: fr) (rowE v e size ys ++ H) Z) :
  sx P N w0 Wr ops (⟨some d, .call { callee := .value (.func f), args := xs.toArray, argTypes := ts }, ty, pos, after, none⟩ :: rest) fr H Z :=
 jP5 (R := fun u H' => RowOk u n ∧ H' = rowE u e size ys ++ H) hc.1 hx hN (fun w hw => by
  have hpre : Sat w (wrs U) U w := ⟨Only.refl _ _, fun e he => ⟨(hw.ents e (hU.subset he)).1, fun h => .inl (mem_wrs.2 ⟨e, he, h, rfl⟩)⟩, hw.sep.sublist hU⟩
  exact (hc.2 w hpre).mono fun x w' he => by
   obtain ⟨u, H', h1, ⟨h2, rfl⟩, h3⟩ := he
   have h0 : wrs U = [] := by have := hroU.wrs []; simpa [wrs] using this
   rw [h0] at h3
   have hb := h3.only.bel
   refine ⟨u, _, h1, ⟨h2, rfl⟩, ?_⟩
   rcases h2 with ⟨rfl, rfl⟩ | ⟨g, c, rfl⟩
   ·exact hw.bel hb
   ·have hm := h3.ents (.ob g (RowP e size n c ys)) lO
    refine hw.fresh hm.1 hb ?_
    rcases hm.2 rfl with h4 | h4
    ·cases h4
    ·exact h4) (fun u H' hR => by obtain ⟨h1, rfl⟩ := hR; exact h u h1)
end
/- Rows of elements of so many cells. -/
section
variable {α : Type} {f : α → List Value} {n : Nat}
theorem kD6 (hf : ∀ x, (f x).length = n) : ∀ L : List α, (L.flatMap f).length = L.length * n
 | [] => by simp
 | x :: L => by rw [xX, lX, hf, kD6 hf L, lE, zZ, Nat.add_comm]
theorem kZ2 (hf : ∀ x, (f x).length = n) : ∀ (L : List α) (i : Nat), (L.flatMap f).drop (i * n) = (L.drop i).flatMap f
 | L, 0 => by simp
 | [], i + 1 => by simp
 | x :: L, i + 1 => by
  rw [xX, lK, ← kZ2 hf L i, zZ, Nat.add_comm, ← List.drop_drop, ← hf x, List.drop_left]
theorem yC0 {L : List α} {i : Nat} {x : α} (h : L[i]? = some x) : L.drop i = x :: L.drop (i + 1) := by
 obtain ⟨h1, h2⟩ := List.getElem?_eq_some_iff.1 h
 rw [qR h1, h2]
theorem yT8 (hf : ∀ x, (f x).length = n) {L : List α} {i : Nat} {x : α} (h : L[i]? = some x) : ((L.flatMap f).drop (i * n)).take n = f x := by
 rw [kZ2 hf, yC0 h, xX, ← hf x, List.take_left]
theorem wL7 (hf : ∀ x, (f x).length = n) {L : List α} {i : Nat} {x : α} (h : L[i]? = some x) : rdV true n (L.flatMap f) (i * n) = some (.agg (f x).toArray) := by
 have h1 := (List.getElem?_eq_some_iff.1 h).1
 have h2 : i * n + n ≤ L.length * n := by rw [← zZ]; exact uN _ h1
 have h3 : Nat.ble (i * n + n) (L.flatMap f).length = true := Nat.ble_eq_true_of_le (by rw [kD6 hf]; exact h2)
 unfold rdV
 rw [cond_true, h3, cond_true, yT8 hf h]
theorem vF5 (hf : ∀ x, (f x).length = n) {L : List α} {i j : Nat} {x : α} {v : Value} (h : L[i]? = some x) (hj : (f x)[j]? = some v) : rdV false 1 (L.flatMap f) (i * n + j) = some v := by
 have h1 := (List.getElem?_eq_some_iff.1 hj).1
 unfold rdV
 rw [cond_false, ← zP, ← List.getElem?_take_of_lt (show j < n by rw [← hf x]; exact h1), yT8 hf h]
 exact hj
theorem kO2 (L : List α) (x : α) : (L ++ [x]).flatMap f = L.flatMap f ++ f x := by simp
theorem yT7 {L : List α} {i : Nat} {x : α} (h : L[i]? = some x) : (L.take (i + 1)).flatMap f = (L.take i).flatMap f ++ f x := by
 obtain ⟨h1, h2⟩ := List.getElem?_eq_some_iff.1 h
 rw [qB h1, kO2, h2]
end
theorem HLe.swap (A T : Heap) : HLe (T ++ A) (A ++ T) := fun _ _ _ hw => hw.perm qX
section
variable {P : Program} {N : Frm} {w0 : World} {Wr : List Nat} {ops : Array Oper} {rest : List Oper} {fr : Fr} {H H1 T U : Heap} {Z : Fr → Heap → Prop}
variable {d ty : Nat} {pos : String} {after : Array Edge}
theorem wC6 {f : FuncId} {xs : List Operand} {vs : List Value} {ts : Array TypeId} {e : TypeId} {size n : Nat} {ys : List Value} (U : Heap) (hc : Fn P f vs U fun u H' => RowOk u n ∧ H' = rowE u e size ys) (hx : evs fr xs = some vs) (hU : U.Sublist H) (hroU : Ro U) (hN : Nat.ble (d + 1) N.n = true)
  (h : ∀ v, RowOk v n → sx P N w0 Wr ops rest ((d, v) :: fr) (H ++ rowE v e size ys) Z) :
  sx P N w0 Wr ops (⟨some d, .call { callee := .value (.func f), args := xs.toArray, argTypes := ts }, ty, pos, after, none⟩ :: rest) fr H Z :=
 kM5 U hc hx hU hroU hN fun v hv => jC3 _ (HLe.swap _ _) (h v hv)
theorem jC9 {t e : TypeId} {size bytes n m c : Nat} {s x : Operand} {v : Value} {xs news : List Value} {A : Option Addr} (H1 : Heap) (hE : ElemOk P t e size bytes) (hs : ev fr s = some v) (hv : RowOk v n) (hl : xs.length = n * size) (hx : ev fr x = some (.slice A m c))
  (hr : ∀ w, Sat w0 Wr H w → Rd w size A m news) (h1 : news.all Value.oneCell' = true) (h63 : n + m ≤ maxLen) (hby : (n + m) * bytes ≤ 140737488355328) (hH : HLe (H1 ++ rowE v e size xs) H) (hN : Nat.ble (d + 1) N.n = true)
  (h : ∀ v', RowOk v' (n + m) → sx P N w0 Wr ops rest ((d, v') :: fr) (H1 ++ rowE v' e size (xs ++ news)) Z) :
  sx P N w0 Wr ops (⟨some d, .call { callee := .builtin .append, args := #[s, x], argTypes := #[t, t] }, ty, pos, after, none⟩ :: rest) fr H Z :=
 wC9 hE hs hv hl hx hr h1 h63 hby ((HLe.swap _ _).trans hH) hN fun v' hv' => jC3 _ (HLe.swap _ _) (h v' hv')
end
theorem vA4 {P : Program} {N : Frm} {w0 : World} {Wr : List Nat} {fr : Fr} {H : Heap} {Q : Exit → Act → World → Prop} {x : Code} {ι : Type} (F : ι → Fr) (HH : ι → Heap) (I : ι → Prop)
  (hx : awp P N w0 Wr x fr H (Exit.then (fun a w => ∃ j, I j ∧ FrOk N (F j) a ∧ Sat w0 Wr (HH j) w) Q)) (hy : ∀ j, I j → nx N w0 Wr (F j) (HH j) Q .normal) : awp P N w0 Wr x fr H Q :=
 fun a w ha hw => kT4 (fun e a w h => by
  cases e <;> first | exact h | (obtain ⟨j, hj, h1, h2⟩ := h; exact hy j hj a w h1 h2)) (hx a w ha hw)
theorem HLe.mid (A T B : Heap) : HLe (A ++ B) (A ++ (T ++ B)) := HLe.sub (zS (lP _ _) _)
theorem jF6 {P : Program} {n : Nat} {ro : Option Nat} {w0 : World} {Wr : List Nat} {fr : Fr} {H : Heap} {fn : Func} {R : Value → Heap → Prop} {r s t : ResultVar} {v u x : Value} (HH : Heap) (hr : fn.results = #[r, s, t]) (h1 : ResOk P fr H r v) (h2 : ResOk P fr H s u) (h3 : ResOk P fr H t x) (hk : HLe HH H) (hR : R (.tuple #[v, u, x]) HH) : nx ⟨n, ro, []⟩ w0 Wr fr H (bodyPost P fn (jR4 w0 Wr R)) .ret :=
 fun a w ha hw => ⟨ha.defers, _, by
  have e1 := h1.run' ha hw
  have e2 := h2.run' ha hw
  have e3 := h3.run' ha hw
  rw [jN7]
  simp [hr, lI, e1, e2, e3], _, HH, rfl, hR, hk _ _ _ hw⟩
def jH6 (A : Option Addr) (n : Nat) : Prop := 0 < n → ∃ g o, A = some ⟨g, o, none⟩
theorem SlOk.arg {A : Option Addr} {n : Nat} (h : SlOk A n) : jH6 A n := fun hn => h.some hn
end
section
open Go.RowKit
def gsOf (ord : List (Nat × Bool)) : List Nat := (ord.filter fun x => !x.2).map Prod.fst
def covB (A : List (List Nat)) (pl : Nat → Bool) : Nat → List (List Nat) → Bool
 | 0, _ => true
 | n + 1, G => match G with
  | [] => false
  | g0 :: _ => g0.all fun j => (g0.any fun i => (A.getD j []).contains i) || (!((G.filter fun g => g.head? == some j).isEmpty) && (pl j || Nat.beq (G.filter fun g => g.head? == some j).length 1) && covB A pl n ((G.filter fun g => g.head? == some j).map List.tail))
theorem vT2 {ord : List (Nat × Bool)} {j : Nat} (h : (j, false) ∈ ord) : j ∈ gsOf ord := List.mem_map.2 ⟨(j, false), List.mem_filter.2 ⟨h, rfl⟩, rfl⟩
theorem yB4 {ord : List (Nat × Bool)} {j : Nat} (h : j ∈ gsOf ord) : (j, false) ∈ ord := by
 obtain ⟨⟨i, b⟩, h1, rfl⟩ := List.mem_map.1 h
 obtain ⟨h2, h3⟩ := List.mem_filter.1 h1
 cases b with
 | false => exact h2
 | true => simp at h3
section
variable {P : Program} {ops : Array Oper} {Q : Exit → Act → World → Prop} {C : World → Prop} {A : List (List Nat)}
def MayK (ops : Array Oper) (x y : Nat × Bool) : Prop := Dep ops x.1 y.1 ∨ MayV ops x y ∨ (x.2 = false ∧ y.2 = false)
structure OrdK (P : Program) (ops : Array Oper) (Q : Exit → Act → World → Prop) (C : World → Prop) (n : Nat) (listed : Array Bool) (a : Act) (w : World) (ord : List (Nat × Bool)) : Prop where
 len : ord.length = n
 left : Left ops (ord.map Prod.fst) listed
 pair : ord.Pairwise (MayK ops)
 goes : Wv P ops C Q ord a w
def Det (P : Program) (ops : Array Oper) (j : Nat) : Prop := ∀ o, ops[j]? = some o → ∀ ρ w n w', (execOp ρ o).run P w = .ok n w' → (∃ v, n = .value v) ∨ n = .skip
theorem wT2 {ι : Type} {S : List ι} {K : ι → Act → World → Prop} {j : Nat} {a : Act} {w : World} (hS : S ≠ []) (hd : Det P ops j ∨ S.length = 1) (h : ∀ s ∈ S, wpOp P ops (QN Q) j (K s) a w) : wpOp P ops (QN Q) j (fun b w' => ∀ s ∈ S, K s b w') a w := by
 rcases hd with hd | hd
 ·obtain ⟨s0, hs0⟩ := List.exists_mem_of_ne_nil S hS
  cases ho : ops[j]? with
  | none =>
   unfold wpOp at h ⊢
   simp only [ho] at h ⊢
   exact h
  | some o =>
   rw [jL5 ho]
   have h' := fun s hs => (jL5 ho).1 (h s hs)
   split
   ·rename_i hw
    simp only [hw, if_true] at h'
    have h0 := h' s0 hs0
    unfold Oper.wp at h' h0 ⊢
    cases hr : (execOp a.eval o).run P w with
    | ok n w' =>
     rw [hr] at h0
     simp only [hr] at h'
     rcases hd o ho _ _ _ _ hr with ⟨v, rfl⟩ | rfl
     ·exact h'
     ·exact h'
    | halt x w' =>
     rw [hr] at h0
     cases x <;> simp only [Oper.upon] at h0 <;> first | exact h0.elim | (cases h0.1)
   ·rename_i hw
    simp only [hw] at h'
    exact fun s hs => by simpa using h' s hs
 ·match S, hd with
  | [s], _ => exact wpOp_mono (fun b w' hb s' hs' => by rw [List.mem_singleton.1 hs']; exact hb) (h s lO)
theorem yE9 {pl : Nat → Bool} (hpl : ∀ j, pl j = true → Det P ops j) (hA : ∀ j i, i ∈ A.getD j [] → Dep ops i j) (hsel : ∀ (j : Nat) (o : Oper) cs b, ops[j]? = some o → o.op ≠ .select cs b) (hedge : ∀ (j : Nat) (o : Oper), ops[j]? = some o → ∀ e ∈ o.after, Region.binds .any e = true → e.on < ops.size) (fl : Nat → Bool) :
  ∀ (n m : Nat) (S : List (List (Nat × Bool))) (listed : Array Bool) (a : Act) (w : World), S ≠ [] → covB A pl m (S.map gsOf) = true → (∀ ord ∈ S, (gsOf ord).length ≤ m) → C w → (∀ ord ∈ S, ∀ x ∈ ord, x.2 = fl x.1) → (∀ ord ∈ S, OrdK P ops Q C n listed a w ord) → wpAny P .any ops (QN Q) n listed a w := by
 intro n
 induction n with
 | zero =>
  intro m S listed a w hS _ _ hC _ h
  obtain ⟨ord, hord⟩ := List.exists_mem_of_ne_nil S hS
  obtain ⟨hl, hL, hp, h⟩ := h ord hord
  obtain rfl := qT hl
  refine ⟨List.eq_nil_iff_forall_not_mem.2 fun j hj => ?_, h⟩
  obtain ⟨h0, o, ho, _⟩ := mem_ready.1 hj
  have := (hL.mem j (Array.getElem?_eq_some_iff.1 ho).1).1 h0
  simp at this
 | succ n ih =>
  intro m S listed a w hS hc hm hC hfl h
  obtain ⟨ord0, hord0⟩ := List.exists_mem_of_ne_nil S hS
  refine ⟨fun hnil => ?_, fun j hj => ?_⟩
  ·exfalso
   obtain ⟨hl, hL, hp, h⟩ := h ord0 hord0
   match ord0, hl with
   | x :: r, _ =>
    have := hL.first hedge
    rw [hnil] at this
    cases this
  ·obtain ⟨h0, o, ho, hall⟩ := mem_ready.1 hj
   have split : ∀ ord ∈ S, ∃ p r, ord = p ++ (j, fl j) :: r ∧ (∀ x ∈ p, MayV ops x (j, fl j) ∨ (x.2 = false ∧ fl j = false)) ∧ Left ops ((p ++ r).map Prod.fst) (listed.setIfInBounds j true) ∧ (p ++ r).Pairwise (MayK ops) ∧ (p ++ r).length = n := fun ord hord => by
    obtain ⟨hl, hL, hp, _⟩ := h ord hord
    have hdeps := hL.deps hedge hj
    have hjm := (hL.mem j (Array.getElem?_eq_some_iff.1 ho).1).1 h0
    obtain ⟨bj, hjb⟩ := kY4 hjm
    have hb : bj = fl j := hfl ord hord _ hjb
    subst hb
    obtain ⟨p, r, rfl⟩ := List.append_of_mem hjb
    have hpp := List.pairwise_append.1 hp
    refine ⟨p, r, rfl, fun x hx => ?_, ?_, List.pairwise_append.2 ⟨hpp.1, (List.pairwise_cons.1 hpp.2.1).2, fun x hx y hy => hpp.2.2 x hx y (lW _ hy)⟩, by simp at hl ⊢; omega⟩
    ·rcases hpp.2.2 x hx (j, fl j) lO with hd | hd | hd
     ·exact absurd (List.mem_map.2 ⟨x, xI _ hx, rfl⟩) (hdeps x.1 hd)
     ·exact .inl hd
     ·exact .inr hd
    ·rw [x8]
     exact Left.step (by simpa using hL) hedge hj
   cases hf : fl j with
   | true =>
    have step : ∀ ord ∈ S, ∃ v, YC P ops C o v a ∧ ∃ ord', gsOf ord' = gsOf ord ∧ (∀ x ∈ ord', x ∈ ord) ∧ OrdK P ops Q C n (listed.setIfInBounds j true) (a.put o.dst v) w ord' := fun ord hord => by
     obtain ⟨p, r, rfl, hp, hL', hpw, hl⟩ := split ord hord
     rw [hf] at hp
     have hg := kL6 hsel p a w (fun x hx => (hp x hx).elim id (fun h => by cases h.2)) (by have := (h _ hord).goes; rwa [hf] at this)
     simp only [vst] at hg
     obtain ⟨o', v, e, hv, hk⟩ := hg
     rw [ho] at e; obtain rfl := lV e
     exact ⟨v, hv, p ++ r, by simp [gsOf, hf, zB], fun x hx => by rcases List.mem_append.1 hx with hx | hx <;> simp [hx], hl, hL', hpw, hk⟩
    obtain ⟨v, hv, _⟩ := step ord0 hord0
    refine (hv w hC).wp ho ?_
    have step' : ∀ ord ∈ S, ∃ ord', gsOf ord' = gsOf ord ∧ (∀ x ∈ ord', x ∈ ord) ∧ OrdK P ops Q C n (listed.setIfInBounds j true) (a.put o.dst v) w ord' := fun ord hord => by
     obtain ⟨u, hu, h1⟩ := step ord hord
     have : u = v := (hu w hC).uniq (hv w hC)
     exact this ▸ h1
    have coll : ∀ S1 : List (List (Nat × Bool)), (∀ ord ∈ S1, ord ∈ S) → ∃ S2 : List (List (Nat × Bool)), S2.map gsOf = S1.map gsOf ∧ ∀ ord' ∈ S2, (∃ ord ∈ S1, gsOf ord' = gsOf ord ∧ ∀ x ∈ ord', x ∈ ord) ∧ OrdK P ops Q C n (listed.setIfInBounds j true) (a.put o.dst v) w ord' := by
     intro S1
     induction S1 with
     | nil => intro _; exact ⟨[], rfl, by simp⟩
     | cons x S1 ih2 =>
      intro hs
      obtain ⟨S2, e, h2⟩ := ih2 (fun ord hord => hs ord (lW _ hord))
      obtain ⟨x', h3, h4, h5⟩ := step' x (hs x lO)
      refine ⟨x' :: S2, by simp [e, h3], fun ord' hord' => ?_⟩
      rcases List.mem_cons.1 hord' with rfl | hord'
      ·exact ⟨⟨x, lO, h3, h4⟩, h5⟩
      ·obtain ⟨⟨y, h6, h7⟩, h8⟩ := h2 ord' hord'
       exact ⟨⟨y, lW _ h6, h7⟩, h8⟩
    obtain ⟨S2, e, h2⟩ := coll S (fun _ h => h)
    refine ih m S2 _ _ w (fun e0 => ?_) (by rw [e]; exact hc) (fun ord' ho' => ?_) hC (fun ord' ho' x hx => ?_) (fun ord' ho' => (h2 ord' ho').2)
    ·subst e0
     have := List.map_eq_nil_iff.1 e.symm
     exact hS this
    ·obtain ⟨⟨ord, h3, h4, _⟩, _⟩ := h2 ord' ho'
     rw [h4]; exact hm ord h3
    ·obtain ⟨⟨ord, h3, _, h5⟩, _⟩ := h2 ord' ho'
     exact hfl ord h3 x (h5 x hx)
   | false =>
    have hj0 : j ∈ gsOf ord0 := by
     obtain ⟨p, r, e, _⟩ := split ord0 hord0
     rw [hf] at e
     exact vT2 (by rw [e]; simp)
    have hm1 : 0 < m := uH (List.length_pos_of_mem hj0) (hm ord0 hord0)
    obtain ⟨m, rfl⟩ : ∃ k, m = k + 1 := ⟨m - 1, by omega⟩
    have hcov : ((S.map gsOf).filter fun g => g.head? == some j) ≠ [] ∧ (pl j = true ∨ ((S.map gsOf).filter fun g => g.head? == some j).length = 1) ∧ covB A pl m (((S.map gsOf).filter fun g => g.head? == some j).map List.tail) = true := by
     match S, hS, hc with
     | s0 :: S1, _, hc =>
      have hs0 : s0 ∈ s0 :: S1 := lO
      have hjs : j ∈ gsOf s0 := by
       obtain ⟨p, r, e, _⟩ := split s0 hs0
       rw [hf] at e
       exact vT2 (by rw [e]; simp)
      simp only [xN, covB, xZ] at hc
      have := hc j hjs
      simp only [zR, List.any_eq_true] at this
      rcases this with ⟨i, hi, hij⟩ | this
      ·have hdeps := (h s0 hs0).left.deps hedge hj i (hA j i (by simpa using hij))
       exact absurd (List.mem_map.2 ⟨(i, false), yB4 hi, rfl⟩) hdeps
      ·rw [← xN] at this
       simp only [xW, zR, Bool.not_eq_true'] at this
       refine ⟨fun e => ?_, this.1.2.imp id x7, this.2⟩
       have := this.1.1
       rw [e] at this
       cases this
    obtain ⟨hne, hdet, hc'⟩ := hcov
    have step : ∀ ord ∈ S, (gsOf ord).head? = some j → ∃ ord', gsOf ord' = (gsOf ord).tail ∧ (∀ x ∈ ord', x ∈ ord) ∧ Left ops (ord'.map Prod.fst) (listed.setIfInBounds j true) ∧ ord'.Pairwise (MayK ops) ∧ ord'.length = n ∧ wpOp P ops (QN Q) j (fun b w' => C w' ∧ Wv P ops C Q ord' b w') a w := fun ord hord hh => by
     obtain ⟨p, r, e, hp, hL', hpw, hl⟩ := split ord hord
     have hpt : ∀ x ∈ p, x.2 = true := fun x hx => by
      cases hx2 : x.2 with
      | true => rfl
      | false =>
       exfalso
       have hnd := (h ord hord).left.nodup
       have hgp : gsOf ord = gsOf p ++ j :: gsOf r := by rw [e]; simp [gsOf, zB, hf]
       have hxp : x.1 ∈ gsOf p := vT2 (by
        have : x = (x.1, false) := (by rw [← hx2])
        exact this ▸ hx)
       rw [hgp] at hh
       match hq : gsOf p with
       | [] => rw [hq] at hxp; cases hxp
       | y :: q =>
        rw [hq] at hh
        have hy : y = j := by simpa using hh
        have hyp : (y, false) ∈ p := yB4 (by rw [hq]; exact lO)
        rw [e, x8, xN] at hnd
        have := (List.nodup_append.1 hnd).2.2 y (List.mem_map.2 ⟨_, hyp, rfl⟩) j lO
        exact this hy
     have hgr : gsOf ord = j :: gsOf (p ++ r) := by
      have : gsOf p = [] := by
       unfold gsOf
       rw [List.filter_eq_nil_iff.2 fun x hx => by simp [hpt x hx]]
       rfl
      have h1 : gsOf ord = gsOf p ++ j :: gsOf r := by rw [e]; simp [gsOf, zB, hf]
      have h2 : gsOf (p ++ r) = gsOf p ++ gsOf r := by simp [gsOf, zB]
      rw [h1, h2, this]
      rfl
     have hg := kL6 hsel p a w (fun x hx => (hp x hx).elim id (fun h2 => by rw [hpt x hx] at h2; cases h2.1)) (e ▸ (h ord hord).goes)
     exact ⟨p ++ r, by rw [hgr]; rfl, fun x hx => by rw [e]; rcases List.mem_append.1 hx with hx | hx <;> simp [hx], hL', hpw, hl, vO6 hC (by rw [hf] at hg; exact hg)⟩
    have coll : ∀ S1 : List (List (Nat × Bool)), (∀ ord ∈ S1, ord ∈ S) → ∃ S2 : List (List (Nat × Bool)), S2.map gsOf = ((S1.map gsOf).filter fun g => g.head? == some j).map List.tail ∧
      ∀ ord' ∈ S2, (∃ ord ∈ S, gsOf ord = j :: gsOf ord' ∧ ∀ x ∈ ord', x ∈ ord) ∧ Left ops (ord'.map Prod.fst) (listed.setIfInBounds j true) ∧ ord'.Pairwise (MayK ops) ∧ ord'.length = n ∧ wpOp P ops (QN Q) j (fun b w' => C w' ∧ Wv P ops C Q ord' b w') a w := by
     intro S1
     induction S1 with
     | nil => intro _; exact ⟨[], rfl, by simp⟩
     | cons x S1 ih2 =>
      intro hs
      obtain ⟨S2, e, h2⟩ := ih2 (fun ord hord => hs ord (lW _ hord))
      by_cases hh : (gsOf x).head? = some j
      ·obtain ⟨x', h3, h4, h5⟩ := step x (hs x lO) hh
       refine ⟨x' :: S2, by simp [e, h3, hh], fun ord' hord' => ?_⟩
       rcases List.mem_cons.1 hord' with rfl | hord'
       ·refine ⟨⟨x, hs x lO, ?_, h4⟩, h5⟩
        rw [h3]
        match hq : gsOf x with
        | [] => rw [hq] at hh; cases hh
        | y :: q => rw [hq] at hh; simp at hh; rw [hh]; rfl
       ·exact h2 ord' hord'
      ·exact ⟨S2, by simp [e, hh], h2⟩
    obtain ⟨S2, e, h2⟩ := coll S (fun _ h => h)
    have hne2 : S2 ≠ [] := fun e0 => by
     subst e0
     have := List.map_eq_nil_iff.1 e.symm
     exact hne this
    have hlen2 : S2.length = ((S.map gsOf).filter fun g => g.head? == some j).length := by
     have := congrArg List.length e
     simpa using this
    refine wpOp_mono (fun b w' hb => ?_) (wT2 (K := fun ord' b w' => C w' ∧ Wv P ops C Q ord' b w') hne2 (hdet.imp (hpl j) (fun h => hlen2.trans h)) (fun ord' ho' => (h2 ord' ho').2.2.2.2))
    obtain ⟨s0, hs0⟩ := List.exists_mem_of_ne_nil S2 hne2
    refine ih m S2 _ b w' hne2 (by rw [e]; exact hc') (fun ord' ho' => ?_) (hb s0 hs0).1 (fun ord' ho' x hx => ?_) (fun ord' ho' => ⟨(h2 ord' ho').2.2.2.1, (h2 ord' ho').2.1, (h2 ord' ho').2.2.1, (hb ord' ho').2⟩)
    ·obtain ⟨⟨ord, h3, h4, _⟩, _⟩ := h2 ord' ho'
     have := hm ord h3
     rw [h4, lE] at this
     omega
    ·obtain ⟨⟨ord, h3, _, h5⟩, _⟩ := h2 ord' ho'
     exact hfl ord h3 x (h5 x hx)
def kB (ops : Array Oper) (A : List (List Nat)) : List (Nat × Bool) → Bool
 | [] => true
 | x :: r => (r.all fun y => (A.getD y.1 []).contains x.1 || (apB ops x.1 y.1 && (x.2 || y.2)) || (!x.2 && !y.2)) && kB ops A r
theorem yS6 (hA : ∀ j i, i ∈ A.getD j [] → Dep ops i j) : ∀ {l : List (Nat × Bool)}, kB ops A l = true → l.Pairwise (MayK ops)
 | [], _ => qH
 | x :: r, h => by
  simp only [kB, xW] at h
  refine zN (fun y hy => ?_) (yS6 hA h.2)
  have := List.all_eq_true.1 h.1 y hy
  simp only [zR, xW, Bool.not_eq_true'] at this
  rcases this with (h1 | ⟨h1, h2⟩) | h1
  ·exact .inl (hA _ _ (by simpa using h1))
  ·obtain ⟨oi, oj, e1, e2, e3⟩ := yJ6 h1
   exact .inr (.inl ⟨oi, oj, e1, e2, e3, h2⟩)
  ·exact .inr (.inr h1)
def ordB (l : List Oper) (fl : Nat → Bool) (ls : List (Nat × Bool)) : Bool :=
 Nat.beq ls.length l.length && decide (ls.map Prod.fst).Nodup && extB l.toArray [] (ls.map Prod.fst) && kB l.toArray (ancs l) ls && (ls.all fun x => x.2 == fl x.1)
def detB (ops : Array Oper) (j : Nat) : Bool := match ops[j]? with
 | some o => match o.op with
  | .buildSlice .. => true
  | .convert .. => true
  | .alloc .. => true
  | .box .. => true
  | _ => false
 | none => false
theorem yV2 {P : Program} {s : Sem Value} {w w' : World} {n : Next} (h : (do pure (Next.value (← s)) : Sem Next).run P w = .ok n w') : (∃ v, n = .value v) ∨ n = .skip := by
 rw [lI] at h
 cases hr : s.run P w with
 | ok v w1 =>
  rw [hr] at h
  simp only [lQ, l9] at h
  injection h with h1
  exact .inl ⟨v, h1.symm⟩
 | halt x w1 => rw [hr] at h; cases h
theorem yV3 {P : Program} {ops : Array Oper} {j : Nat} (h : detB ops j = true) : Det P ops j := fun o ho ρ w n w' hr => by
 unfold detB at h
 rw [ho] at h
 simp only at h
 unfold execOp at hr
 split at h <;> rename_i hop <;> first | (cases h; done) | (rw [hop] at hr; exact yV2 hr)
def wZ6 (l : List Oper) (gs : List Nat) (S : List (List (Nat × Bool))) : Bool :=
 Region.noSelect l.toArray && covB (ancs l) (detB l.toArray) gs.length (S.map gsOf) && (S.all fun ls => ordB l (fun i => !gs.contains i) ls && Nat.beq (gsOf ls).length gs.length)
theorem kP3 {N : Frm} {id : Nat} {l : List Oper} {a : Act} {w : World} (gs : List Nat) (S : List (List (Nat × Bool))) (hS : S ≠ []) (hm : P.follows .mixedOrders = true) (hB : wZ6 l gs S = true) (hC : C w.drew) (h : ∀ ls ∈ S, Wv P l.toArray C Q ls a w.drew) : wq P N (.region id l.toArray true) Q a w := by
 simp only [wZ6, xW, xZ] at hB
 obtain ⟨⟨hsel, hcov⟩, hall0⟩ := hB
 have hA := kH3 l
 have ok : ∀ ls ∈ S, (Left l.toArray (ls.map Prod.fst) (Array.replicate l.toArray.size false) ∧ ls.Pairwise (MayK l.toArray) ∧ ls.length = l.length ∧ (∀ x ∈ ls, x.2 = !gs.contains x.1) ∧ (gsOf ls).length = gs.length) ∧
   (∀ (j : Nat) (o : Oper), l.toArray[j]? = some o → ∀ e ∈ o.after, Region.binds .any e = true → e.on < l.toArray.size) := fun ls hls => by
  obtain ⟨hB, hg⟩ := hall0 ls hls
  simp only [ordB, xW, decide_eq_true_eq, xZ] at hB
  obtain ⟨⟨⟨⟨hlen, hnd⟩, hext⟩, hpairs⟩, hfl⟩ := hB
  have hlen := x7 hlen
  obtain ⟨he1, he2⟩ := kD8 hext (by simp) hnd
  have hall : ∀ k, k < l.length → k ∈ ls.map Prod.fst := vH5 l.length _ hnd (by simpa using hlen) (fun x hx => by simpa using he2 x hx)
  refine ⟨⟨⟨hnd, by simp, he2, fun k hk => ?_, he1, fun j o ho hj => absurd (hall j (by simpa using (Array.getElem?_eq_some_iff.1 ho).1)) hj⟩, yS6 hA hpairs, hlen, fun x hx => by simpa using hfl x hx, x7 hg⟩, fun j o ho e he hb =>
   jW2 _ _ hext (by simp) j (hall j (by simpa using (Array.getElem?_eq_some_iff.1 ho).1)) o ho e he hb⟩
  have h1 : k ∈ ls.map Prod.fst := hall k (by simpa using hk)
  have hk' : k < l.length := by simpa using hk
  have h2 : (Array.replicate l.toArray.size false).getD k true = false := by simp [zH, hk']
  exact ⟨fun _ => h1, fun _ => h2⟩
 obtain ⟨ls0, hls0⟩ := List.exists_mem_of_ne_nil S hS
 refine kL3 hm ?_
 have := yE9 (P := P) (Q := Q) (C := C) (fun j h => yV3 h) hA (Region.noSelect_spec hsel) (ok ls0 hls0).2 (fun i => !gs.contains i) l.length gs.length S (Array.replicate l.toArray.size false) a w.drew hS hcov
  (fun ls hls => Nat.le_of_eq (ok ls hls).1.2.2.2.2) hC (fun ls hls => (ok ls hls).1.2.2.2.1) (fun ls hls => ⟨(ok ls hls).1.2.2.1, (ok ls hls).1.1, (ok ls hls).1.2.1, h ls hls⟩)
 simpa using this
end
section
variable {P : Program} {N : Frm} {w0 : World} {Wr : List Nat} {fr : Fr} {H H0 : Heap} {Q : Exit → Act → World → Prop}
theorem vZ4 {id : Nat} {l : List Oper} {ι : Type} (F : ι → Fr) (HH : ι → Heap) (I : ι → Prop) (H0 : Heap) (gs : List Nat) (o1 o2 : List (Nat × Bool)) (hm : P.follows .mixedOrders = true) (hB : wZ6 l gs [o1, o2] = true) (hk : HLe H0 H)
  (h1 : tw P N w0 Wr l.toArray H0 o1 fr H fun fr' H' => ∃ j, I j ∧ Kn (F j) fr' ∧ HLe (HH j) H')
  (h2 : tw P N w0 Wr l.toArray H0 o2 fr H fun fr' H' => ∃ j, I j ∧ Kn (F j) fr' ∧ HLe (HH j) H')
  (hy : ∀ j, I j → nx N w0 Wr (F j) (HH j) Q .normal) : awp P N w0 Wr (.region id l.toArray true) fr H Q :=
 fun a w ha hw => kP3 (C := Sat w0 Wr H0) gs [o1, o2] (by simp) hm hB (hk _ _ _ hw.drew) fun ls hls => by
  have key : tw P N w0 Wr l.toArray H0 ls fr H fun fr' H' => ∃ j, I j ∧ Kn (F j) fr' ∧ HLe (HH j) H' := by
   rcases List.mem_cons.1 hls with rfl | hls
   ·exact h1
   ·rw [List.mem_singleton.1 hls]; exact h2
  exact key Q (fun fr' H' a w ⟨j, hj, hf, hh⟩ ha hs => hy j hj a w (ha.kn hf) (hh _ _ _ hs)) a w.drew ha hw.drew
theorem kP9 {id : Nat} {l : List Oper} {y : Code} {ι : Type} (F : ι → Fr) (HH : ι → Heap) (I : ι → Prop) (H0 : Heap) (gs : List Nat) (o1 o2 : List (Nat × Bool)) (hm : P.follows .mixedOrders = true) (hB : wZ6 l gs [o1, o2] = true) (hk : HLe H0 H)
  (h1 : tw P N w0 Wr l.toArray H0 o1 fr H fun fr' H' => ∃ j, I j ∧ Kn (F j) fr' ∧ HLe (HH j) H')
  (h2 : tw P N w0 Wr l.toArray H0 o2 fr H fun fr' H' => ∃ j, I j ∧ Kn (F j) fr' ∧ HLe (HH j) H')
  (hy : ∀ j, I j → awp P N w0 Wr y (F j) (HH j) Q) : awp P N w0 Wr (.seq (.region id l.toArray true) y) fr H Q :=
 aS (vZ4 F HH I H0 gs o1 o2 hm hB hk h1 h2 fun j hj => hy j hj)
end
theorem Sat.callA {w0 w w' : World} {Wr : List Nat} {Hc K U H' : Heap} (h : Sat w0 Wr (Hc ++ K) w) (hroU : Ro U) (h' : Sat w (wrs (Hc ++ U)) H' w') : Sat w0 Wr (H'.filter Ent.wr ++ K) w' := by
 rw [hroU.wrs] at h'
 have hs := List.pairwise_append.1 h.sep
 have hin : ∀ i ∈ wrs Hc, i ∈ Wr ∨ w0.heap.size ≤ i := fun i hi => by
  obtain ⟨e, he, hw, rfl⟩ := mem_wrs.1 hi
  exact (h.ents e (xI _ he)).2 hw
 have hout : ∀ x ∈ K, x.g ∉ wrs Hc := fun x hx hm => by
  obtain ⟨e, he, hw, hg⟩ := mem_wrs.1 hm
  exact hs.2.2 e he x hx (by simp [hw]) hg
 refine ⟨h.only.trans h'.only hin, fun e he => ?_, List.pairwise_append.2 ⟨h'.sep.sublist List.filter_sublist, hs.2.1, fun a ha b hb _ hg => ?_⟩⟩
 ·rcases List.mem_append.1 he with he | he
  ·have hm := h'.ents e (List.mem_filter.1 he).1
   refine ⟨hm.1, fun hw => ?_⟩
   rcases hm.2 hw with h1 | h1
   ·exact hin _ h1
   ·exact .inr (zM h.only.size h1)
  ·have hm := h.ents e (x0 _ he)
   exact ⟨Ent.keep hm.1 h'.only.size (h'.only.block _ (Ent.lt hm.1) (hout e he)), hm.2⟩
 ·obtain ⟨ha1, ha2⟩ := List.mem_filter.1 ha
  rcases (h'.ents a ha1).2 ha2 with h1 | h1
  ·exact hout b hb (hg ▸ h1)
  ·have := Ent.lt (h.ents b (x0 _ hb)).1
   omega
theorem jK1 {P : Program} {N : Frm} {w0 : World} {Wr : List Nat} {ops : Array Oper} {rest : List Oper} {fr : Fr} {H : Heap} {Z : Fr → Heap → Prop} {ty : Nat} {pos : String} {after : Array Edge}
  {f : FuncId} {xs : List Operand} {vs : List Value} {ts : Array TypeId} {dst : Option Nat} {R : Value → Heap → Prop} (Hc U K : Heap) (hc : Fn P f vs (Hc ++ U) R) (hx : evs fr xs = some vs) (hH : HLe (Hc ++ K) H) (hU : U.Sublist K) (hroU : Ro U) (hN : dstB N dst = true)
  (h : ∀ v H', R v H' → sx P N w0 Wr ops rest (match dst with | some d => (d, v) :: fr | none => fr) (H'.filter Ent.wr ++ K) Z) :
  sx P N w0 Wr ops (⟨dst, .call { callee := .value (.func f), args := xs.toArray, argTypes := ts }, ty, pos, after, none⟩ :: rest) fr H Z :=
 jP5 (R := fun v H2 => ∃ H', R v H' ∧ H2 = H'.filter Ent.wr ++ K) hc.1 hx hN (fun w hw => by
  have hw' := hH _ _ _ hw
  have hpre : Sat w (wrs (Hc ++ U)) (Hc ++ U) w := by
   have hsub := hw'.sub (zS hU Hc)
   exact ⟨Only.refl _ _, fun e he => ⟨(hsub.ents e he).1, fun h => .inl (mem_wrs.2 ⟨e, he, h, rfl⟩)⟩, hsub.sep⟩
  exact (hc.2 w hpre).mono fun e w' he => by
   obtain ⟨v, H', h1, h2, h3⟩ := he
   exact ⟨v, _, h1, ⟨H', h2, rfl⟩, hw'.callA hroU h3⟩) (fun v H2 hR => by obtain ⟨H', hR, rfl⟩ := hR; exact h v H' hR)
end
section
open Go.RowKit
section
variable {P : Program} {N : Frm} {w0 : World} {Wr : List Nat} {ops : Array Oper} {rest : List Oper} {fr : Fr} {H : Heap} {Z : Fr → Heap → Prop}
variable {d ty : Nat} {pos : String} {after : Array Edge}
theorem kC0 {t t' e : TypeId} {x : Operand} {g o : Nat} (ht : P.underlying t = some (.pointer e)) (hx : ev fr x = some (ptr g o)) (hN : Nat.ble (d + 1) N.n = true)
  (h : sx P N w0 Wr ops rest ((d, .bool false) :: fr) H Z) : sx P N w0 Wr ops (⟨some d, .binOp .eql t x (.const (.pointer none)) t', ty, pos, after, none⟩ :: rest) fr H Z :=
 jE9 _ hN (fun a w ha _ => by
  have e' : a.eval (.const (.pointer none)) = .pointer none := rfl
  have hq : (Op.equal t (ptr g o) (.pointer none)).run P w = .ok false w := by
   unfold Op.equal Op.maxDepth Op.equalIn
   simp [lI, run_underlying ht, ptr]
  have hg : (eqGuard .eql t x (.const (.pointer none)) (ptr g o) (.pointer none)).run P w = .ok () w := by
   unfold eqGuard
   split <;> rfl
  simp only [execOp, ha.eval hx, e', lI, binOp, ptr]
  simp only [ptr] at hq hg
  simp [hq, hg]) h
theorem wC3 {t t' k e : TypeId} {x : Operand} {m : Option Nat} (ht : P.underlying t = some (.map k e)) (hx : ev fr x = some (.map m)) (hN : Nat.ble (d + 1) N.n = true)
  (h : sx P N w0 Wr ops rest ((d, .bool m.isNone) :: fr) H Z) : sx P N w0 Wr ops (⟨some d, .binOp .eql t x (.const (.map none)) t', ty, pos, after, none⟩ :: rest) fr H Z :=
 jE9 _ hN (fun a w ha _ => by
  have e' : a.eval (.const (.map none)) = .map none := rfl
  have hq : (Op.equal t (.map m) (.map none)).run P w = .ok m.isNone w := by
   unfold Op.equal Op.maxDepth Op.equalIn
   cases m <;> simp [lI, run_underlying ht]
  have hg : (eqGuard .eql t x (.const (.map none)) (.map m) (.map none)).run P w = .ok () w := by
   unfold eqGuard
   split <;> rfl
  simp only [execOp, ha.eval hx, e', lI, hg, lQ, binOp]
  simp [hq]) h
theorem jK8 {t : TypeId} {x : Operand} {v : Value} {ds : TypeDesc} (ht : P.underlying t = some ds) (hd : (match ds with | .interface _ => false | _ => true) = true) (hx : ev fr x = some v) (hN : Nat.ble (d + 1) N.n = true)
  (h : sx P N w0 Wr ops rest ((d, .iface t v) :: fr) H Z) : sx P N w0 Wr ops (⟨some d, .makeInterface t x, ty, pos, after, none⟩ :: rest) fr H Z :=
 jE9 _ hN (fun a w ha _ => by
  simp only [execOp, Instr.makeInterface, ha.eval hx, lI, run_underlying ht, lQ]
  cases ds <;> first | rfl | simp at hd) h
theorem vD5 {κ : Type} [DecidableEq κ] {encK : κ → Value} {K T E : TypeId} (hK : KeyOk P K encK) (hT : P.underlying T = some (.map K E)) {z : Value} {w : World} (hz : (zeroValue E).run P w = .ok z w) (k : κ) (ok : Bool) :
  (Instr.lookup T (.map none) (encK k) ok).run P w = .ok (if ok then .tuple #[z, .bool false] else z) w := by
 have hc := hK.chk true k w
 obtain ⟨f1, _⟩ := jT1 (ν := Unit) (encV := fun _ => undef) hK w k [] [] rfl
 cases ok <;> simp [Instr.lookup, run_underlying hT, hc, f1 (by simp [jD8]), hz, Result.andThen]
theorem vC3 {κ : Type} [DecidableEq κ] {encK : κ → Value} {K T E : TypeId} (hK : KeyOk P K encK) (hT : P.underlying T = some (.map K E)) {z : Value} (hz : ∀ w, (zeroValue E).run P w = .ok z w) {x y : Operand} (k : κ) {ok : Bool} (v : Value)
  (hx : ev fr x = some (.map none)) (hy : ev fr y = some (encK k)) (hv : (if ok = true then Value.tuple #[z, .bool false] else z) = v) (hN : Nat.ble (d + 1) N.n = true)
  (h : sv P N w0 Wr ops rest ((d, v) :: fr) H Z) : sv P N w0 Wr ops (⟨some d, .lookup T x y ok, ty, pos, after, none⟩ :: rest) fr H Z :=
 jM0 v hN (fun a w ha hw => by
  subst hv
  have := vD5 hK hT (hz w) k ok
  simp only [execOp, ha.eval hx, ha.eval hy, lI, this, lQ]
  rfl) h
end
theorem HLe.dup {H T : Heap} (hT : T.Sublist H) (hro : Ro T) : HLe (H ++ T) H := fun _ _ _ h =>
 ⟨h.only, fun e he => (List.mem_append.1 he).elim (h.ents e) (fun he => h.ents e (hT.subset he)), List.pairwise_append.2 ⟨h.sep, h.sep.sublist hT, fun a ha b hb => vH4 h ha (hT.subset hb) (hro b hb)⟩⟩
theorem wU5 {P : Program} {f : FuncId} {vs : List Value} {v : Value} {T : Heap} {w : World} (hro : Ro T) (hS : Sat w [] T w) (h : Fn P f vs T fun u _ => u = v) : Calls P f vs.toArray w fun e w' => e = .returned v ∧ Bel w w' := by
 have h0 : wrs T = [] := by have := hro.wrs []; simpa [wrs] using this
 have := h.2 w (by rw [h0]; exact hS)
 rw [h0] at this
 exact this.mono fun e w' he => by
  obtain ⟨u, H', rfl, rfl, h3⟩ := he
  exact ⟨rfl, h3.only.bel⟩
theorem HLe.comm3 (A B C : Heap) : HLe (B ++ (A ++ C)) (A ++ (B ++ C)) := fun _ _ _ hw => hw.perm (List.perm_append_comm_assoc A B C)
end
section
open Go.RowKit
inductive EqA (P : Program) (d : Nat) (e : TypeId) (ag : Bool) (n : Nat) (xs ys : List Value) : List Nat → Bool → Prop
 | nil : EqA P d e ag n xs ys [] true
 | cons {i : Nat} {r : List Nat} {x y : Value} {b c : Bool} (hx : rdV ag n xs (i * n) = some x) (hy : rdV ag n ys (i * n) = some y) (h : EqV P d e x y b) (k : EqA P d e ag n xs ys r c) : EqA P d e ag n xs ys (i :: r) (b && c)
theorem EqV.string {P : Program} {d : Nat} {t : TypeId} {l m : List UInt8} (ht : P.underlying t = some .string) : EqV P (d + 1) t (.string (str l)) (.string (str m)) (l == m) := fun w => by
 have e : (str l == str m) = (l == m) := by
  show ((str l).data == (str m).data) = _
  rw [lR]
  simp [str]
 unfold Op.equalIn
 simp [lI, run_underlying ht, e]
section
variable {P : Program} {N : Frm} {w0 : World} {Wr : List Nat} {ops : Array Oper} {rest : List Oper} {fr : Fr} {H H0 : Heap} {Z : Fr → Heap → Prop}
variable {d ty : Nat} {pos : String} {after : Array Edge}
theorem zA6 {dst : Option Nat} {op : Op} {j t : Nat} {b : Bool} {oj : Oper} (hj : ops[j]? = some oj) (ht : oj.dst = some t) (hb : lk fr t = some (.bool b))
  (h : sv P N w0 Wr ops (⟨dst, op, ty, pos, after, none⟩ :: rest) fr H Z) : sv P N w0 Wr ops (⟨dst, op, ty, pos, after, some (j, b)⟩ :: rest) fr H Z :=
 fun K hK a ha => by
  obtain ⟨v, hv, hk⟩ := h K hK a ha
  have hy : yielded ops a.tmps j = some b := by
   have := ha.at_ t _ hb
   simp [yielded, hj, ht, this]
  refine ⟨v, fun w hw => ?_, hk⟩
  rcases hv w hw with ⟨h1, h2⟩ | ⟨h1, h2⟩
  ·exact .inl ⟨by simp [Region.wanted, hy], h2⟩
  ·simp [Region.wanted] at h1
theorem wU0 {xs : List (Nat × Bool)} (t : Nat) {b : Bool} (hb : lk fr t = some (.bool b)) (c : Bool) (e : b = c) (h : tw P N w0 Wr ops H0 xs ((t, .bool c) :: fr) H Z) : tw P N w0 Wr ops H0 xs fr H Z := by
 intro Q hQ a w ha hw
 refine h Q hQ a w ⟨ha.size, ha.defers, fun k v hv => ?_⟩ hw
 simp only [lk] at hv
 cases hbq : Nat.beq t k with
 | true =>
  rw [hbq] at hv
  obtain rfl := x7 hbq
  simp only [cond_true] at hv
  rw [← hv, ← e]
  exact ha.at_ t _ hb
 | false =>
  rw [hbq] at hv
  exact ha.at_ k v hv
end
inductive Tr where
 | nil : Tr
 | step (x : Nat × Bool) (t : Tr) : Tr
 | fork (t u : Tr) : Tr
namespace Tr
def jQ4 : Tr → List (List (Nat × Bool))
 | nil => [[]]
 | step x t => (jQ4 t).map (x :: ·)
 | fork t u => jQ4 t ++ jQ4 u
def fp : Tr → List (Nat × Bool)
 | nil => []
 | step x t => x :: fp t
 | fork t _ => fp t
def rem (j : Nat) : Tr → Tr
 | nil => nil
 | step x t => if x.1 = j then t else step x (rem j t)
 | fork t u => fork (rem j t) (rem j u)
def res (j : Nat) : Tr → Option Tr
 | nil => none
 | step x t => if x.1 = j then some t else if x.2 then (res j t).map (step x) else none
 | fork t u => (res j t).or (res j u)
def cov (A : List (List Nat)) : Nat → Tr → Bool
 | 0, _ => true
 | m + 1, t => (gsOf (fp t)).all fun j => ((gsOf (fp t)).any fun i => (A.getD j []).contains i) || match res j t with
  | some r => cov A m r
  | none => false
def kF9 (j : Nat) : Tr → Prop
 | nil => True
 | step x t => (x.1 = j → x.2 = true) ∧ kF9 j t
 | fork t u => kF9 j t ∧ kF9 j u
theorem jW0 : ∀ t : Tr, fp t ∈ jQ4 t
 | nil => by simp [fp, jQ4]
 | step x t => List.mem_map.2 ⟨_, jW0 t, rfl⟩
 | fork t _ => xI _ (jW0 t)
theorem kK3 {j : Nat} : ∀ t : Tr, (∀ p ∈ jQ4 t, ∀ x ∈ p, x.1 = j → x.2 = true) → kF9 j t
 | nil, _ => trivial
 | step x t, h => ⟨h _ (List.mem_map.2 ⟨_, jW0 t, rfl⟩) x lO, kK3 t fun p hp y hy => h _ (List.mem_map.2 ⟨_, hp, rfl⟩) y (lW _ hy)⟩
 | fork t u, h => ⟨kK3 t fun p hp => h p (xI _ hp), kK3 u fun p hp => h p (x0 _ hp)⟩
def er (j : Nat) (p : List (Nat × Bool)) : List (Nat × Bool) := p.eraseP fun x => x.1 == j
theorem wM5 {j : Nat} {x : Nat × Bool} {p : List (Nat × Bool)} (h : x.1 = j) : er j (x :: p) = p := by simp [er, h]
theorem vM5 {j : Nat} {x : Nat × Bool} {p : List (Nat × Bool)} (h : ¬ x.1 = j) : er j (x :: p) = x :: er j p := by simp [er, h]
theorem zE4 {j : Nat} {b : Bool} : ∀ {p r : List (Nat × Bool)}, (∀ x ∈ p, ¬ x.1 = j) → er j (p ++ (j, b) :: r) = p ++ r
 | [], r, _ => wM5 rfl
 | x :: p, r, h => by rw [lL, vM5 (h x lO), zE4 fun y hy => h y (lW _ hy)]; rfl
theorem kD0 {j : Nat} : ∀ t : Tr, jQ4 (rem j t) = (jQ4 t).map (er j)
 | nil => rfl
 | step x t => by
  rw [rem, jQ4, uJ]
  by_cases h : x.1 = j
  ·rw [if_pos h]
   exact (List.map_id _).symm.trans (List.map_congr_left fun p _ => (wM5 h).symm)
  ·rw [if_neg h, jQ4, kD0 t, uJ]
   exact List.map_congr_left fun p _ => (vM5 h).symm
 | fork t u => by rw [rem, jQ4, jQ4, kD0 t, kD0 u, x8]
theorem kC9 {j : Nat} : ∀ {t r : Tr}, res j t = some r → ∀ p ∈ jQ4 r, ∃ q ∈ jQ4 t, p = er j q
 | nil, _, h, _, _ => by cases h
 | step x t, r, h, p, hp => by
  rw [res] at h
  by_cases hx : x.1 = j
  ·rw [if_pos hx] at h
   obtain rfl := lV h
   exact ⟨_, List.mem_map.2 ⟨p, hp, rfl⟩, (wM5 hx).symm⟩
  ·rw [if_neg hx] at h
   split at h
   ·cases hr : res j t with
    | none => rw [hr] at h; cases h
    | some r' =>
     rw [hr] at h
     obtain rfl := lV h
     obtain ⟨p', hp', rfl⟩ := List.mem_map.1 hp
     obtain ⟨q, hq, rfl⟩ := kC9 hr p' hp'
     exact ⟨_, List.mem_map.2 ⟨q, hq, rfl⟩, (vM5 hx).symm⟩
   ·cases h
 | fork t u, r, h, p, hp => by
  rw [res] at h
  cases hr : res j t with
  | some r' =>
   rw [hr] at h
   obtain rfl := lV h
   obtain ⟨q, hq, e⟩ := kC9 hr p hp
   exact ⟨q, xI _ hq, e⟩
  | none =>
   rw [hr] at h
   obtain ⟨q, hq, e⟩ := kC9 (t := u) h p hp
   exact ⟨q, x0 _ hq, e⟩
theorem wL1 {j : Nat} : ∀ t : Tr, kF9 j t → gsOf (fp (rem j t)) = gsOf (fp t)
 | nil, _ => rfl
 | step x t, h => by
  rw [rem]
  by_cases hx : x.1 = j
  ·rw [if_pos hx]
   simp [fp, gsOf, h.1 hx]
  ·rw [if_neg hx, fp, fp]
   have := wL1 t h.2
   simp only [gsOf] at this ⊢
   rw [xL, xL]
   split
   ·rw [xN, xN, this]
   ·exact this
 | fork t _, h => wL1 t h.1
theorem kX2 {j k : Nat} (hk : ¬ j = k) : ∀ t : Tr, kF9 j t → res k (rem j t) = (res k t).map (rem j)
 | nil, _ => rfl
 | step x t, h => by
  rw [rem]
  by_cases hx : x.1 = j
  ·rw [if_pos hx, res, if_neg (fun e => hk (hx.symm.trans e)), if_pos (h.1 hx), Option.map_map]
   have : (rem j ∘ step x) = id := funext fun r => by simp [Function.comp, rem, hx]
   rw [this, Option.map_id]
   rfl
  ·rw [if_neg hx, res, res, kX2 hk t h.2]
   split
   ·rfl
   ·split
    ·rw [Option.map_map, Option.map_map]
     congr 1
     funext r
     simp [Function.comp, rem, hx]
    ·rfl
 | fork t u, h => by
  rw [rem, res, res, kX2 hk t h.1, kX2 hk u h.2]
  cases res k t <;> rfl
theorem kC6 {j k : Nat} : ∀ {t r : Tr}, kF9 j t → res k t = some r → kF9 j r
 | nil, _, _, h => by cases h
 | step x t, r, hq, h => by
  rw [res] at h
  split at h
  ·obtain rfl := lV h; exact hq.2
  ·split at h
   ·cases hr : res k t with
    | none => rw [hr] at h; cases h
    | some r' =>
     rw [hr] at h
     obtain rfl := lV h
     exact ⟨hq.1, kC6 hq.2 hr⟩
   ·cases h
 | fork t u, r, hq, h => by
  rw [res] at h
  cases hr : res k t with
  | some r' => rw [hr] at h; obtain rfl := lV h; exact kC6 hq.1 hr
  | none => rw [hr] at h; exact kC6 (t := u) hq.2 h
theorem yT3 {k : Nat} : ∀ {t : Tr}, k ∈ gsOf (fp t) → ∀ j, kF9 j t → ¬ j = k
 | t, h, j, hq, e => by
  subst e
  have h1 := yB4 h
  have : ∀ t : Tr, kF9 j t → (j, false) ∈ fp t → False := by
   intro t
   induction t with
   | nil => intro _ h; cases h
   | step x t ih =>
    intro hq h
    rcases List.mem_cons.1 h with rfl | h
    ·cases hq.1 rfl
    ·exact ih hq.2 h
   | fork t u ih1 _ => intro hq h; exact ih1 hq.1 h
  exact this t hq h1
theorem wP5 {A : List (List Nat)} {j : Nat} : ∀ (m : Nat) (t : Tr), kF9 j t → cov A m t = true → cov A m (rem j t) = true
 | 0, _, _, _ => rfl
 | m + 1, t, hq, h => by
  rw [cov] at h ⊢
  rw [wL1 t hq]
  rw [xZ] at h ⊢
  intro k hk
  have h1 := h k hk
  rw [zR] at h1 ⊢
  rcases h1 with h1 | h1
  ·exact .inl h1
  ·refine .inr ?_
   rw [kX2 (yT3 hk j hq) t hq]
   cases hr : res k t with
   | none => rw [hr] at h1; cases h1
   | some r =>
    rw [hr] at h1
    exact wP5 m r (kC6 hq hr) h1
end Tr
open Tr
section
variable {P : Program} {ops : Array Oper} {Q : Exit → Act → World → Prop} {C : World → Prop} {A : List (List Nat)}
def Wt (P : Program) (ops : Array Oper) (C : World → Prop) (Q : Exit → Act → World → Prop) : Tr → Act → World → Prop
 | .nil, a, w => QN Q .normal a w
 | .step x t, a, w => vst P ops C Q x (Wt P ops C Q t) a w
 | .fork t u, a, w => Wt P ops C Q t a w ∧ Wt P ops C Q u a w
theorem vB0 {x : Nat × Bool} {K K' : Act → World → Prop} {a : Act} {w : World} (hC : C w) (h : ∀ a w, C w → K a w → K' a w) (hh : vst P ops C Q x K a w) : vst P ops C Q x K' a w := by
 unfold vst at hh ⊢
 split
 ·rename_i hx
  rw [hx] at hh
  obtain ⟨o, v, h1, h2, h3⟩ := hh
  exact ⟨o, v, h1, h2, h _ _ hC h3⟩
 ·rename_i hx
  rw [hx] at hh
  exact wpOp_mono (fun a w ⟨hc, hk⟩ => ⟨hc, h a w hc hk⟩) hh
def Pass (ops : Array Oper) (y : Nat × Bool) : Tr → Prop
 | .nil => False
 | .step x t => x = y ∨ (¬ x.1 = y.1 ∧ (MayV ops x y ∨ (x.2 = false ∧ y.2 = false)) ∧ Pass ops y t)
 | .fork t u => Pass ops y t ∧ Pass ops y u
theorem kX9 {y : Nat × Bool} : ∀ t : Tr, (∀ p ∈ jQ4 t, ∃ p1 r, p = p1 ++ y :: r ∧ ∀ x ∈ p1, ¬ x.1 = y.1 ∧ (MayV ops x y ∨ (x.2 = false ∧ y.2 = false))) → Pass ops y t
 | .nil, h => by
  obtain ⟨p1, r, e, _⟩ := h [] (by simp [jQ4])
  have := congrArg List.length e
  simp at this
 | .step x t, h => by
  by_cases hx : x = y
  ·exact .inl hx
  ·have key : ∀ p ∈ jQ4 t, ∃ p1 r, p = p1 ++ y :: r ∧ (∀ z ∈ x :: p1, ¬ z.1 = y.1 ∧ (MayV ops z y ∨ (z.2 = false ∧ y.2 = false))) := fun p hp => by
    obtain ⟨p1, r, e, h1⟩ := h _ (List.mem_map.2 ⟨p, hp, rfl⟩)
    match p1 with
    | [] => injection e with e1 _; exact absurd e1 hx
    | z :: p2 =>
     injection e with e1 e2
     subst e1
     exact ⟨p2, r, e2, h1⟩
   obtain ⟨p1, r, _, h1⟩ := key _ (jW0 t)
   have h2 := h1 x lO
   exact .inr ⟨h2.1, h2.2, kX9 t fun p hp => by
    obtain ⟨p1, r, e, h1⟩ := key p hp
    exact ⟨p1, r, e, fun z hz => h1 z (lW _ hz)⟩⟩
 | .fork t u, h => ⟨kX9 t fun p hp => h p (xI _ hp), kX9 u fun p hp => h p (x0 _ hp)⟩
theorem kB1 (hsel : ∀ (j : Nat) (o : Oper) cs b, ops[j]? = some o → o.op ≠ .select cs b) {j : Nat} : ∀ (t : Tr) (a : Act) (w : World), C w → Pass ops (j, true) t → Wt P ops C Q t a w → vst P ops C Q (j, true) (Wt P ops C Q (rem j t)) a w
 | .nil, _, _, _, hp, _ => hp.elim
 | .step x t, a, w, hC, hp, h => by
  by_cases hx : x = (j, true)
  ·subst hx
   rw [rem, if_pos rfl]
   exact h
  ·rcases hp with hp | ⟨h1, h2, h3⟩
   ·exact absurd hp hx
   ·rw [rem, if_neg h1]
    have h4 : MayV ops x (j, true) := h2.elim id fun h => by cases h.2
    obtain ⟨oi, oj, e1, e2, e3, e4⟩ := h4
    exact kT8 (K := Wt P ops C Q (rem j t)) e1 e2 e3 (fun cs b => hsel _ _ cs b e1) (fun cs b => hsel _ _ cs b e2) e4 (vB0 hC (fun b w' hC' hb => kB1 hsel t b w' hC' h3 hb) h)
 | .fork t u, a, w, hC, hp, h => by
  obtain ⟨o, v, h1, h2, h3⟩ := kB1 hsel t a w hC hp.1 h.1
  obtain ⟨o', v', h1', h2', h3'⟩ := kB1 hsel u a w hC hp.2 h.2
  simp only at h1 h1'
  rw [h1] at h1'; obtain rfl := lV h1'
  have : v' = v := (h2' w hC).uniq (h2 w hC)
  subst this
  exact ⟨o, v', h1, h2, h3, h3'⟩
theorem kK6 (hsel : ∀ (j : Nat) (o : Oper) cs b, ops[j]? = some o → o.op ≠ .select cs b) {j : Nat} : ∀ (t r : Tr) (a : Act) (w : World), C w → Pass ops (j, false) t → res j t = some r → Wt P ops C Q t a w → vst P ops C Q (j, false) (Wt P ops C Q r) a w
 | .nil, _, _, _, _, hp, _, _ => hp.elim
 | .step x t, r, a, w, hC, hp, hr, h => by
  by_cases hx : x = (j, false)
  ·subst hx
   rw [res, if_pos rfl] at hr
   obtain rfl := lV hr
   exact h
  ·rcases hp with hp | ⟨h1, h2, h3⟩
   ·exact absurd hp hx
   ·rw [res, if_neg h1] at hr
    split at hr
    ·rename_i hx2
     cases hr' : res j t with
     | none => rw [hr'] at hr; cases hr
     | some r' =>
      rw [hr'] at hr
      obtain rfl := lV hr
      have h4 : MayV ops x (j, false) := h2.elim id fun h => by rw [hx2] at h; cases h.1
      obtain ⟨oi, oj, e1, e2, e3, e4⟩ := h4
      exact kT8 (K := Wt P ops C Q r') e1 e2 e3 (fun cs b => hsel _ _ cs b e1) (fun cs b => hsel _ _ cs b e2) e4 (vB0 hC (fun b w' hC' hb => kK6 hsel t r' b w' hC' h3 hr' hb) h)
    ·cases hr
 | .fork t u, r, a, w, hC, hp, hr, h => by
  rw [res] at hr
  cases hr' : res j t with
  | some r' =>
   rw [hr'] at hr
   obtain rfl := lV hr
   exact kK6 hsel t r' a w hC hp.1 hr' h.1
  | none =>
   rw [hr'] at hr
   exact kK6 hsel u r a w hC hp.2 hr h.2
theorem yF8 : ∀ (t : Tr) (a : Act) (w : World), (∀ p ∈ jQ4 t, p = []) → Wt P ops C Q t a w → QN Q .normal a w
 | .nil, _, _, _, h => h
 | .step x t, _, _, hp, _ => by
  have := hp _ (List.mem_map.2 ⟨_, jW0 t, rfl⟩)
  cases this
 | .fork t _, a, w, hp, h => yF8 t a w (fun p h' => hp p (xI _ h')) h.1
theorem yE8 (hA : ∀ j i, i ∈ A.getD j [] → Dep ops i j) (hsel : ∀ (j : Nat) (o : Oper) cs b, ops[j]? = some o → o.op ≠ .select cs b) (hedge : ∀ (j : Nat) (o : Oper), ops[j]? = some o → ∀ e ∈ o.after, Region.binds .any e = true → e.on < ops.size) (fl : Nat → Bool) :
  ∀ (n m : Nat) (t : Tr) (listed : Array Bool) (a : Act) (w : World), cov A m t = true → C w →
   (∀ p ∈ jQ4 t, p.length = n ∧ (gsOf p).length ≤ m ∧ Left ops (p.map Prod.fst) listed ∧ p.Pairwise (MayK ops) ∧ ∀ x ∈ p, x.2 = fl x.1) → Wt P ops C Q t a w → wpAny P .any ops (QN Q) n listed a w := by
 intro n
 induction n with
 | zero =>
  intro m t listed a w _ _ hp h
  refine ⟨List.eq_nil_iff_forall_not_mem.2 fun j hj => ?_, yF8 t a w (fun p h' => qT (hp p h').1) h⟩
  obtain ⟨hl, _, hL, _⟩ := hp _ (jW0 t)
  have e := qT hl
  obtain ⟨h0, o, ho, _⟩ := mem_ready.1 hj
  have := (hL.mem j (Array.getElem?_eq_some_iff.1 ho).1).1 h0
  rw [e] at this
  simp at this
 | succ n ih =>
  intro m t listed a w hc hC hp h
  refine ⟨fun hnil => ?_, fun j hj => ?_⟩
  ·exfalso
   obtain ⟨hl, _, hL, _⟩ := hp _ (jW0 t)
   match hq : fp t, hl with
   | x :: r, _ =>
    rw [hq] at hL
    have := hL.first hedge
    rw [hnil] at this
    cases this
  ·obtain ⟨h0, o, ho, hall⟩ := mem_ready.1 hj
   have split : ∀ p ∈ jQ4 t, ∃ p1 r, p = p1 ++ (j, fl j) :: r ∧ (∀ x ∈ p1, ¬ x.1 = j ∧ (MayV ops x (j, fl j) ∨ (x.2 = false ∧ fl j = false))) ∧ Left ops ((p1 ++ r).map Prod.fst) (listed.setIfInBounds j true) := fun p hpt => by
    obtain ⟨_, _, hL, hpw, hfl⟩ := hp p hpt
    have hdeps := hL.deps hedge hj
    have hjm := (hL.mem j (Array.getElem?_eq_some_iff.1 ho).1).1 h0
    obtain ⟨bj, hjb⟩ := kY4 hjm
    have hb : bj = fl j := hfl _ hjb
    subst hb
    obtain ⟨p1, r, rfl⟩ := List.append_of_mem hjb
    have hpp := List.pairwise_append.1 hpw
    have hnd := hL.nodup
    rw [x8, xN] at hnd
    refine ⟨p1, r, rfl, fun x hx => ⟨fun e => (List.nodup_append.1 hnd).2.2 x.1 (List.mem_map.2 ⟨x, hx, rfl⟩) j lO e, ?_⟩, ?_⟩
    ·rcases hpp.2.2 x hx (j, fl j) lO with hd | hd | hd
     ·exact absurd (List.mem_map.2 ⟨x, xI _ hx, rfl⟩) (hdeps x.1 hd)
     ·exact .inl hd
     ·exact .inr hd
    ·rw [x8]
     exact Left.step (by simpa using hL) hedge hj
   have rest : ∀ p ∈ jQ4 t, (er j p).length = n ∧ (gsOf (er j p)).length + (if fl j then 0 else 1) = (gsOf p).length ∧ Left ops ((er j p).map Prod.fst) (listed.setIfInBounds j true) ∧ (er j p).Pairwise (MayK ops) ∧ ∀ x ∈ er j p, x.2 = fl x.1 := fun p hpt => by
    obtain ⟨hl, _, _, hpw, hfl⟩ := hp p hpt
    obtain ⟨p1, r, e, h1, h2⟩ := split p hpt
    have he : er j p = p1 ++ r := by rw [e]; exact zE4 fun x hx => (h1 x hx).1
    have hsub : (er j p).Sublist p := List.eraseP_sublist
    refine ⟨?_, ?_, he ▸ h2, hpw.sublist hsub, fun x hx => hfl x (hsub.subset hx)⟩
    ·rw [he]; rw [e] at hl; simp at hl ⊢; omega
    ·rw [he, e]
     cases hf : fl j <;> simp [gsOf, zB] <;> omega
   have hpass : Pass ops (j, fl j) t := kX9 t fun p hpt => by
    obtain ⟨p1, r, e, h1, _⟩ := split p hpt
    exact ⟨p1, r, e, h1⟩
   cases hf : fl j with
   | true =>
    rw [hf] at hpass
    have hq : kF9 j t := kK3 t fun p hpt x hx e => by rw [(hp p hpt).2.2.2.2 x hx, e]; exact hf
    obtain ⟨o', v, e, hv, hk⟩ := kB1 hsel t a w hC hpass h
    simp only at e
    refine (hv w hC).wp e <| ih m (rem j t) _ _ w (wP5 m t hq hc) hC (fun p hpt => ?_) hk
    rw [kD0] at hpt
    obtain ⟨q, hq', rfl⟩ := List.mem_map.1 hpt
    obtain ⟨r1, r2, r3, r4, r5⟩ := rest q hq'
    refine ⟨r1, ?_, r3, r4, r5⟩
    have := (hp q hq').2.1
    rw [hf] at r2
    simp at r2
    omega
   | false =>
    rw [hf] at hpass
    have hj0 : j ∈ gsOf (fp t) := by
     obtain ⟨p1, r, e, _⟩ := split _ (jW0 t)
     rw [hf] at e
     exact vT2 (by rw [e]; simp)
    have hm1 : 0 < m := uH (List.length_pos_of_mem hj0) (hp _ (jW0 t)).2.1
    obtain ⟨m, rfl⟩ : ∃ k, m = k + 1 := ⟨m - 1, by omega⟩
    rw [cov, xZ] at hc
    have hc1 := hc j hj0
    rw [zR] at hc1
    rcases hc1 with hc1 | hc1
    ·obtain ⟨i, hi, hij⟩ := List.any_eq_true.1 hc1
     have hdeps := (hp _ (jW0 t)).2.2.1.deps hedge hj i (hA j i (by simpa using hij))
     exact absurd (List.mem_map.2 ⟨(i, false), yB4 hi, rfl⟩) hdeps
    ·cases hr : res j t with
     | none => rw [hr] at hc1; cases hc1
     | some r =>
      rw [hr] at hc1
      have hg := vO6 hC (kK6 hsel t r a w hC hpass hr h)
      refine wpOp_mono (fun b w' hb => ?_) hg
      refine ih m r _ b w' hc1 hb.1 (fun p hpt => ?_) hb.2
      obtain ⟨q, hq', rfl⟩ := kC9 hr p hpt
      obtain ⟨r1, r2, r3, r4, r5⟩ := rest q hq'
      refine ⟨r1, ?_, r3, r4, r5⟩
      have := (hp q hq').2.1
      rw [hf] at r2
      simp at r2
      omega
def wU3 (l : List Oper) (gs : List Nat) (t : Tr) : Bool :=
 Region.noSelect l.toArray && cov (ancs l) gs.length t && ((jQ4 t).all fun ls => ordB l (fun i => !gs.contains i) ls && Nat.beq (gsOf ls).length gs.length)
theorem kP2 {N : Frm} {id : Nat} {l : List Oper} {a : Act} {w : World} (gs : List Nat) (t : Tr) (hm : P.follows .mixedOrders = true) (hB : wU3 l gs t = true) (hC : C w.drew) (h : Wt P l.toArray C Q t a w.drew) : wq P N (.region id l.toArray true) Q a w := by
 simp only [wU3, xW, xZ] at hB
 obtain ⟨⟨hsel, hcov⟩, hall0⟩ := hB
 have hA := kH3 l
 have ok : ∀ ls ∈ jQ4 t, (Left l.toArray (ls.map Prod.fst) (Array.replicate l.toArray.size false) ∧ ls.Pairwise (MayK l.toArray) ∧ ls.length = l.length ∧ (∀ x ∈ ls, x.2 = !gs.contains x.1) ∧ (gsOf ls).length = gs.length) ∧
   (∀ (j : Nat) (o : Oper), l.toArray[j]? = some o → ∀ e ∈ o.after, Region.binds .any e = true → e.on < l.toArray.size) := fun ls hls => by
  obtain ⟨hB, hg⟩ := hall0 ls hls
  simp only [ordB, xW, decide_eq_true_eq, xZ] at hB
  obtain ⟨⟨⟨⟨hlen, hnd⟩, hext⟩, hpairs⟩, hfl⟩ := hB
  have hlen := x7 hlen
  obtain ⟨he1, he2⟩ := kD8 hext (by simp) hnd
  have hall : ∀ k, k < l.length → k ∈ ls.map Prod.fst := vH5 l.length _ hnd (by simpa using hlen) (fun x hx => by simpa using he2 x hx)
  refine ⟨⟨⟨hnd, by simp, he2, fun k hk => ?_, he1, fun j o ho hj => absurd (hall j (by simpa using (Array.getElem?_eq_some_iff.1 ho).1)) hj⟩, yS6 hA hpairs, hlen, fun x hx => by simpa using hfl x hx, x7 hg⟩, fun j o ho e he hb =>
   jW2 _ _ hext (by simp) j (hall j (by simpa using (Array.getElem?_eq_some_iff.1 ho).1)) o ho e he hb⟩
  have h1 : k ∈ ls.map Prod.fst := hall k (by simpa using hk)
  have hk' : k < l.length := by simpa using hk
  have h2 : (Array.replicate l.toArray.size false).getD k true = false := by simp [zH, hk']
  exact ⟨fun _ => h1, fun _ => h2⟩
 refine kL3 hm ?_
 have := yE8 (P := P) (Q := Q) (C := C) hA (Region.noSelect_spec hsel) (ok _ (jW0 t)).2 (fun i => !gs.contains i) l.length gs.length t (Array.replicate l.toArray.size false) a w.drew hcov hC
  (fun ls hls => ⟨(ok ls hls).1.2.2.1, Nat.le_of_eq (ok ls hls).1.2.2.2.2, (ok ls hls).1.1, (ok ls hls).1.2.1, (ok ls hls).1.2.2.2.1⟩) h
 simpa using this
end
def tt (P : Program) (N : Frm) (w0 : World) (Wr : List Nat) (ops : Array Oper) (H0 : Heap) (t : Tr) (fr : Fr) (H : Heap) (Z : Fr → Heap → Prop) : Prop :=
 ∀ (Q : Exit → Act → World → Prop), (∀ fr' H' a w, Z fr' H' → FrOk N fr' a → Sat w0 Wr H' w → Q .normal a w) → ∀ a w, FrOk N fr a → Sat w0 Wr H w → Wt P ops (Sat w0 Wr H0) Q t a w
section
variable {P : Program} {N : Frm} {w0 : World} {Wr : List Nat} {ops : Array Oper} {fr : Fr} {H H0 : Heap} {Z : Fr → Heap → Prop}
theorem kH4 (h : Z fr H) : tt P N w0 Wr ops H0 .nil fr H Z := fun _ hQ a w ha hw => ⟨rfl, hQ _ _ a w h ha hw⟩
theorem kV4 {t u : Tr} (h1 : tt P N w0 Wr ops H0 t fr H Z) (h2 : tt P N w0 Wr ops H0 u fr H Z) : tt P N w0 Wr ops H0 (.fork t u) fr H Z := fun Q hQ a w ha hw => ⟨h1 Q hQ a w ha hw, h2 Q hQ a w ha hw⟩
theorem tt_p {i : Nat} {o : Oper} {t : Tr} (ho : ops[i]? = some o) (h : sv P N w0 Wr ops [o] fr H0 fun fr' _ => tt P N w0 Wr ops H0 t fr' H Z) : tt P N w0 Wr ops H0 (.step (i, true) t) fr H Z :=
 fun Q hQ a w ha hw => by
  obtain ⟨v, hv, hk⟩ := h (fun a => Wt P ops (Sat w0 Wr H0) Q t a w) (fun fr' a ht hf => ht Q hQ a w hf hw) a ha
  exact ⟨o, v, ho, hv, hk⟩
theorem tt_g {i : Nat} {o : Oper} {t : Tr} (ho : ops[i]? = some o) (h : sx P N w0 Wr ops [o] fr H fun fr' H' => HLe H0 H' ∧ tt P N w0 Wr ops H0 t fr' H' Z) : tt P N w0 Wr ops H0 (.step (i, false) t) fr H Z :=
 fun Q hQ a w ha hw => by
  have h1 := h (QN fun _ a w => Sat w0 Wr H0 w ∧ Wt P ops (Sat w0 Wr H0) Q t a w) (fun fr' H' a w ht hf hS => ⟨rfl, ht.1 _ _ _ hS, ht.2 Q hQ a w hf hS⟩) a w ha hw
  show wpOp P ops (QN Q) i (fun a w' => Sat w0 Wr H0 w' ∧ Wt P ops (Sat w0 Wr H0) Q t a w') a w
  refine kJ3 (Q := fun _ a w => Sat w0 Wr H0 w ∧ Wt P ops (Sat w0 Wr H0) Q t a w) ho ?_
  unfold wpOp
  simp only [ho]
  unfold wpList at h1
  split
  ·rename_i hw'
   rw [if_pos hw'] at h1
   exact h1.imp (Oper.wp_mono fun a w hh => hh.2) id
  ·rename_i hw'
   rw [if_neg hw'] at h1
   exact h1.2
end
theorem kT0 {P : Program} {N : Frm} {w0 : World} {Wr : List Nat} {fr : Fr} {H : Heap} {Q : Exit → Act → World → Prop} {id : Nat} {l : List Oper} {ι : Type} (F : ι → Fr) (HH : ι → Heap) (I : ι → Prop) (H0 : Heap) (gs : List Nat) (t : Tr) (hm : P.follows .mixedOrders = true) (hB : wU3 l gs t = true) (hk : HLe H0 H)
  (h : tt P N w0 Wr l.toArray H0 t fr H fun fr' H' => ∃ j, I j ∧ Kn (F j) fr' ∧ HLe (HH j) H')
  (hy : ∀ j, I j → nx N w0 Wr (F j) (HH j) Q .normal) : awp P N w0 Wr (.region id l.toArray true) fr H Q :=
 fun a w ha hw => kP2 (C := Sat w0 Wr H0) gs t hm hB (hk _ _ _ hw.drew)
  (h Q (fun fr' H' a w ⟨j, hj, hf, hh⟩ ha hs => hy j hj a w (ha.kn hf) (hh _ _ _ hs)) a w.drew ha hw.drew)
theorem jR8 {P : Program} {N : Frm} {w0 : World} {Wr : List Nat} {fr : Fr} {H : Heap} {Q : Exit → Act → World → Prop} {id : Nat} {l : List Oper} {y : Code} {ι : Type} (F : ι → Fr) (HH : ι → Heap) (I : ι → Prop) (H0 : Heap) (gs : List Nat) (t : Tr) (hm : P.follows .mixedOrders = true) (hB : wU3 l gs t = true) (hk : HLe H0 H)
  (h : tt P N w0 Wr l.toArray H0 t fr H fun fr' H' => ∃ j, I j ∧ Kn (F j) fr' ∧ HLe (HH j) H')
  (hy : ∀ j, I j → awp P N w0 Wr y (F j) (HH j) Q) : awp P N w0 Wr (.seq (.region id l.toArray true) y) fr H Q :=
 aS (kT0 F HH I H0 gs t hm hB hk h fun j hj => hy j hj)
theorem jO1 {P : Program} {N : Frm} {w0 : World} {Wr : List Nat} {fr : Fr} {H : Heap} {Q : Exit → Act → World → Prop} {c : Code} (F : Fr) (HH : Heap)
  (hx : awp P N w0 Wr c fr H (Exit.then (fun a w => ∃ j : Unit, True ∧ FrOk N ((fun _ => F) j) a ∧ Sat w0 Wr ((fun _ => HH) j) w) Q)) (hy : nx N w0 Wr F HH Q .normal) : awp P N w0 Wr c fr H Q :=
 fun a w ha hw => kT4 (fun e a w h => by
  cases e <;> first | exact h | (obtain ⟨j, hj, h1, h2⟩ := h; exact hy a w h1 h2)) (hx a w ha hw)
end
end Go.Proofs.YtfeopecgedbfpaaGreatDoor
