/- Walks and plain laws for this claim (texts Ty, MapOwn, joined). Each theorem states its own conditions. -/
import Derived.Test.YtkojkeabelckjaaGreatDoorRows
import Derived.Test.YtkojkeabelckjaaGreatDoorJ04
import Derived.Test.YtkojkeabelckjaaGreatDoorJ01
import Derived.MapKept
import Derived.Maps.Own

section
set_option linter.all false
namespace Go.Proofs.YtkojkeabelckjaaGreatDoor
theorem mixed : Tryz.prog.follows .mixedOrders = true := by kernel_rfl
theorem tyA3 : tyAgg Tryz.prog 3 = some false := by kernel_rfl
theorem tyS3 : tySize Tryz.prog 3 = some 1 := by kernel_rfl
theorem tyZ3 : tyZero Tryz.prog 3 = some [.int .i64 0] := by kernel_rfl
theorem tyA4 : tyAgg Tryz.prog 4 = some false := by kernel_rfl
theorem tyS4 : tySize Tryz.prog 4 = some 1 := by kernel_rfl
theorem tyA5 : tyAgg Tryz.prog 5 = some false := by kernel_rfl
theorem tyS5 : tySize Tryz.prog 5 = some 1 := by kernel_rfl
theorem tyZ5 : tyZero Tryz.prog 5 = some [.int .u8 0] := by kernel_rfl
theorem tyA9 : tyAgg Tryz.prog 9 = some false := by kernel_rfl
theorem tyS9 : tySize Tryz.prog 9 = some 1 := by kernel_rfl
theorem tyZ9 : tyZero Tryz.prog 9 = some [.string ⟨#[]⟩] := by kernel_rfl
theorem tyA25 : tyAgg Tryz.prog 25 = some false := by kernel_rfl
theorem tyS25 : tySize Tryz.prog 25 = some 1 := by kernel_rfl
theorem tyZ25 : tyZero Tryz.prog 25 = some [.slice none 0 0] := by kernel_rfl
theorem tyA27 : tyAgg Tryz.prog 27 = some true := by kernel_rfl
theorem tyS27 : tySize Tryz.prog 27 = some 1 := by kernel_rfl
theorem tyZ27 : tyZero Tryz.prog 27 = some [.slice none 0 0] := by kernel_rfl
theorem tyP27 : tyPlaces Tryz.prog 27 = some [(0, 1)] := by kernel_rfl
theorem tyF27_0 : tyF Tryz.prog 27 0 = some (0, 1, false) := by kernel_rfl
theorem tyA31 : tyAgg Tryz.prog 31 = some true := by kernel_rfl
theorem tyS31 : tySize Tryz.prog 31 = some 3 := by kernel_rfl
theorem tyZ31 : tyZero Tryz.prog 31 = some [.int .i64 0, .int .u8 0, .string ⟨#[]⟩] := by kernel_rfl
theorem tyP31 : tyPlaces Tryz.prog 31 = some [(0, 1), (1, 1), (2, 1)] := by kernel_rfl
theorem tyF31_0 : tyF Tryz.prog 31 0 = some (0, 1, false) := by kernel_rfl
theorem tyF31_1 : tyF Tryz.prog 31 1 = some (1, 1, false) := by kernel_rfl
theorem tyF31_2 : tyF Tryz.prog 31 2 = some (2, 1, false) := by kernel_rfl
theorem tyA32 : tyAgg Tryz.prog 32 = some false := by kernel_rfl
theorem tyS32 : tySize Tryz.prog 32 = some 1 := by kernel_rfl
theorem tyZ32 : tyZero Tryz.prog 32 = some [.int .i64 0] := by kernel_rfl
theorem tyA35 : tyAgg Tryz.prog 35 = some false := by kernel_rfl
theorem tyS35 : tySize Tryz.prog 35 = some 1 := by kernel_rfl
theorem tyZ35 : tyZero Tryz.prog 35 = some [.slice none 0 0] := by kernel_rfl
theorem tyA45 : tyAgg Tryz.prog 45 = some false := by kernel_rfl
theorem tyS45 : tySize Tryz.prog 45 = some 1 := by kernel_rfl
theorem tyZ45 : tyZero Tryz.prog 45 = some [.int .u64 0] := by kernel_rfl
theorem tyA60 : tyAgg Tryz.prog 60 = some true := by kernel_rfl
theorem tyS60 : tySize Tryz.prog 60 = some 2 := by kernel_rfl
theorem tyZ60 : tyZero Tryz.prog 60 = some [.int .u64 0, .string ⟨#[]⟩] := by kernel_rfl
theorem tyP60 : tyPlaces Tryz.prog 60 = some [(0, 1), (1, 1)] := by kernel_rfl
theorem tyF60_0 : tyF Tryz.prog 60 0 = some (0, 1, false) := by kernel_rfl
theorem tyF60_1 : tyF Tryz.prog 60 1 = some (1, 1, false) := by kernel_rfl
theorem tyA62 : tyAgg Tryz.prog 62 = some true := by kernel_rfl
theorem tyS62 : tySize Tryz.prog 62 = some 2 := by kernel_rfl
theorem tyZ62 : tyZero Tryz.prog 62 = some [.int .u64 0, .string ⟨#[]⟩] := by kernel_rfl
theorem tyP62 : tyPlaces Tryz.prog 62 = some [(0, 1), (1, 1)] := by kernel_rfl
theorem tyF62_0 : tyF Tryz.prog 62 0 = some (0, 1, false) := by kernel_rfl
theorem tyF62_1 : tyF Tryz.prog 62 1 = some (1, 1, false) := by kernel_rfl
theorem tyA68 : tyAgg Tryz.prog 68 = some false := by kernel_rfl
theorem tyS68 : tySize Tryz.prog 68 = some 1 := by kernel_rfl
theorem tyZ68 : tyZero Tryz.prog 68 = some [.slice none 0 0] := by kernel_rfl
theorem tyA76 : tyAgg Tryz.prog 76 = some true := by kernel_rfl
theorem tyS76 : tySize Tryz.prog 76 = some 2 := by kernel_rfl
theorem tyZ76 : tyZero Tryz.prog 76 = some [.int .u64 0, .int .u64 0] := by kernel_rfl
theorem tyP76 : tyPlaces Tryz.prog 76 = some [(0, 1), (1, 1)] := by kernel_rfl
theorem tyF76_0 : tyF Tryz.prog 76 0 = some (0, 1, false) := by kernel_rfl
theorem tyF76_1 : tyF Tryz.prog 76 1 = some (1, 1, false) := by kernel_rfl
theorem tyA78 : tyAgg Tryz.prog 78 = some true := by kernel_rfl
theorem tyS78 : tySize Tryz.prog 78 = some 24 := by kernel_rfl
theorem tyZ78 : tyZero Tryz.prog 78 = some [.int .u64 0, .int .u64 0, .int .u64 0, .int .u64 0, .int .u64 0, .int .u64 0, .int .u64 0, .int .u64 0, .int .u64 0, .int .u64 0, .int .u64 0, .bool false, .int .u8 0, .int .u8 0, .int .u8 0, .int .i64 0, .int .i64 0, .int .i64 0, .int .i64 0, .int .i64 0, .int .i64 0, .int .i64 0, .int .i64 0, .int .i64 0] := by kernel_rfl
theorem tyP78 : tyPlaces Tryz.prog 78 = some [(0, 2), (2, 2), (4, 2), (6, 2), (8, 1), (9, 1), (10, 1), (11, 1), (12, 1), (13, 1), (14, 1), (15, 1), (16, 1), (17, 1), (18, 1), (19, 1), (20, 1), (21, 1), (22, 1), (23, 1)] := by kernel_rfl
theorem tyF78_0 : tyF Tryz.prog 78 0 = some (0, 2, true) := by kernel_rfl
theorem tyF78_1 : tyF Tryz.prog 78 1 = some (2, 2, true) := by kernel_rfl
theorem tyF78_2 : tyF Tryz.prog 78 2 = some (4, 2, true) := by kernel_rfl
theorem tyF78_3 : tyF Tryz.prog 78 3 = some (6, 2, true) := by kernel_rfl
theorem tyF78_4 : tyF Tryz.prog 78 4 = some (8, 1, false) := by kernel_rfl
theorem tyF78_5 : tyF Tryz.prog 78 5 = some (9, 1, false) := by kernel_rfl
theorem tyF78_6 : tyF Tryz.prog 78 6 = some (10, 1, false) := by kernel_rfl
theorem tyF78_7 : tyF Tryz.prog 78 7 = some (11, 1, false) := by kernel_rfl
theorem tyF78_8 : tyF Tryz.prog 78 8 = some (12, 1, false) := by kernel_rfl
theorem tyF78_9 : tyF Tryz.prog 78 9 = some (13, 1, false) := by kernel_rfl
theorem tyF78_10 : tyF Tryz.prog 78 10 = some (14, 1, false) := by kernel_rfl
theorem tyF78_11 : tyF Tryz.prog 78 11 = some (15, 1, false) := by kernel_rfl
theorem tyF78_12 : tyF Tryz.prog 78 12 = some (16, 1, false) := by kernel_rfl
theorem tyF78_13 : tyF Tryz.prog 78 13 = some (17, 1, false) := by kernel_rfl
theorem tyF78_14 : tyF Tryz.prog 78 14 = some (18, 1, false) := by kernel_rfl
theorem tyF78_15 : tyF Tryz.prog 78 15 = some (19, 1, false) := by kernel_rfl
theorem tyF78_16 : tyF Tryz.prog 78 16 = some (20, 1, false) := by kernel_rfl
theorem tyF78_17 : tyF Tryz.prog 78 17 = some (21, 1, false) := by kernel_rfl
theorem tyF78_18 : tyF Tryz.prog 78 18 = some (22, 1, false) := by kernel_rfl
theorem tyF78_19 : tyF Tryz.prog 78 19 = some (23, 1, false) := by kernel_rfl
theorem tyA80 : tyAgg Tryz.prog 80 = some true := by kernel_rfl
theorem tyS80 : tySize Tryz.prog 80 = some 4 := by kernel_rfl
theorem tyZ80 : tyZero Tryz.prog 80 = some [.string ⟨#[]⟩, .string ⟨#[]⟩, .string ⟨#[]⟩, .string ⟨#[]⟩] := by kernel_rfl
theorem tyA87 : tyAgg Tryz.prog 87 = some true := by kernel_rfl
theorem tyS87 : tySize Tryz.prog 87 = some 3 := by kernel_rfl
theorem tyZ87 : tyZero Tryz.prog 87 = some [.int .u64 0, .string ⟨#[]⟩, .string ⟨#[]⟩] := by kernel_rfl
theorem tyP87 : tyPlaces Tryz.prog 87 = some [(0, 1), (1, 1), (2, 1)] := by kernel_rfl
theorem tyF87_0 : tyF Tryz.prog 87 0 = some (0, 1, false) := by kernel_rfl
theorem tyF87_1 : tyF Tryz.prog 87 1 = some (1, 1, false) := by kernel_rfl
theorem tyF87_2 : tyF Tryz.prog 87 2 = some (2, 1, false) := by kernel_rfl
theorem tyA108 : tyAgg Tryz.prog 108 = some false := by kernel_rfl
theorem tyS108 : tySize Tryz.prog 108 = some 1 := by kernel_rfl
theorem tyZ108 : tyZero Tryz.prog 108 = some [.slice none 0 0] := by kernel_rfl
theorem tyA110 : tyAgg Tryz.prog 110 = some false := by kernel_rfl
theorem tyS110 : tySize Tryz.prog 110 = some 1 := by kernel_rfl
theorem tyZ110 : tyZero Tryz.prog 110 = some [.nilFunc] := by kernel_rfl
theorem tyA112 : tyAgg Tryz.prog 112 = some false := by kernel_rfl
theorem tyS112 : tySize Tryz.prog 112 = some 1 := by kernel_rfl
theorem tyA114 : tyAgg Tryz.prog 114 = some true := by kernel_rfl
theorem tyS114 : tySize Tryz.prog 114 = some 4 := by kernel_rfl
theorem tyZ114 : tyZero Tryz.prog 114 = some [.int .u64 0, .int .u64 0, .int .u32 0, .int .u32 0] := by kernel_rfl
theorem tyP114 : tyPlaces Tryz.prog 114 = some [(0, 1), (1, 1), (2, 1), (3, 1)] := by kernel_rfl
theorem tyF114_0 : tyF Tryz.prog 114 0 = some (0, 1, false) := by kernel_rfl
theorem jH0 : tyF Tryz.prog 114 1 = some (1, 1, false) := by kernel_rfl
theorem tyF114_2 : tyF Tryz.prog 114 2 = some (2, 1, false) := by kernel_rfl
theorem tyF114_3 : tyF Tryz.prog 114 3 = some (3, 1, false) := by kernel_rfl
theorem tyZ116 : tyZero Tryz.prog 116 = some [.int .u64 0, .int .u64 0, .int .u32 0, .int .u32 0] := by kernel_rfl
theorem tyP116 : tyPlaces Tryz.prog 116 = some [(0, 4)] := by kernel_rfl
theorem tyF116_0 : tyF Tryz.prog 116 0 = some (0, 4, true) := by kernel_rfl
theorem tyA117 : tyAgg Tryz.prog 117 = some false := by kernel_rfl
theorem tyS117 : tySize Tryz.prog 117 = some 1 := by kernel_rfl
theorem tyZ117 : tyZero Tryz.prog 117 = some [.pointer none] := by kernel_rfl
theorem tyA123 : tyAgg Tryz.prog 123 = some true := by kernel_rfl
theorem tyS123 : tySize Tryz.prog 123 = some 2 := by kernel_rfl
theorem tyZ123 : tyZero Tryz.prog 123 = some [.int .u64 0, .int .u32 0] := by kernel_rfl
theorem tyP123 : tyPlaces Tryz.prog 123 = some [(0, 1), (1, 1)] := by kernel_rfl
theorem tyF123_0 : tyF Tryz.prog 123 0 = some (0, 1, false) := by kernel_rfl
theorem tyF123_1 : tyF Tryz.prog 123 1 = some (1, 1, false) := by kernel_rfl
theorem tyA132 : tyAgg Tryz.prog 132 = some false := by kernel_rfl
theorem tyS132 : tySize Tryz.prog 132 = some 1 := by kernel_rfl
theorem tyA133 : tyAgg Tryz.prog 133 = some false := by kernel_rfl
theorem tyS133 : tySize Tryz.prog 133 = some 1 := by kernel_rfl
theorem tyZ133 : tyZero Tryz.prog 133 = some [.slice none 0 0] := by kernel_rfl
theorem tyA135 : tyAgg Tryz.prog 135 = some false := by kernel_rfl
theorem tyS135 : tySize Tryz.prog 135 = some 1 := by kernel_rfl
theorem tyZ135 : tyZero Tryz.prog 135 = some [.slice none 0 0] := by kernel_rfl
theorem tyA140 : tyAgg Tryz.prog 140 = some true := by kernel_rfl
theorem tyS140 : tySize Tryz.prog 140 = some 4 := by kernel_rfl
theorem tyZ140 : tyZero Tryz.prog 140 = some [.int .u64 0, .int .u64 0, .int .u64 0, .int .u64 0] := by kernel_rfl
theorem tyA141 : tyAgg Tryz.prog 141 = some true := by kernel_rfl
theorem tyS141 : tySize Tryz.prog 141 = some 8 := by kernel_rfl
theorem tyZ141 : tyZero Tryz.prog 141 = some [.int .u64 0, .int .u64 0, .int .u64 0, .int .u64 0, .int .u64 0, .int .u64 0, .int .u64 0, .int .u64 0] := by kernel_rfl
theorem tyA176 : tyAgg Tryz.prog 176 = some false := by kernel_rfl
theorem tyS176 : tySize Tryz.prog 176 = some 1 := by kernel_rfl
theorem tyZ178 : tyZero Tryz.prog 178 = some [.string ⟨#[]⟩, .int .i64 0, .int .i64 0] := by kernel_rfl
theorem tyP178 : tyPlaces Tryz.prog 178 = some [(0, 1), (1, 1), (2, 1)] := by kernel_rfl
theorem tyF178_0 : tyF Tryz.prog 178 0 = some (0, 1, false) := by kernel_rfl
theorem jE7 : tyF Tryz.prog 178 1 = some (1, 1, false) := by kernel_rfl
theorem tyF178_2 : tyF Tryz.prog 178 2 = some (2, 1, false) := by kernel_rfl
theorem tyA182 : tyAgg Tryz.prog 182 = some false := by kernel_rfl
theorem tyS182 : tySize Tryz.prog 182 = some 1 := by kernel_rfl
theorem tyA183 : tyAgg Tryz.prog 183 = some false := by kernel_rfl
theorem tyS183 : tySize Tryz.prog 183 = some 1 := by kernel_rfl
theorem tyZ185 : tyZero Tryz.prog 185 = some [.slice none 0 0, .slice none 0 0, .map none] := by kernel_rfl
theorem tyP185 : tyPlaces Tryz.prog 185 = some [(0, 1), (1, 1), (2, 1)] := by kernel_rfl
theorem tyF185_0 : tyF Tryz.prog 185 0 = some (0, 1, false) := by kernel_rfl
theorem tyF185_1 : tyF Tryz.prog 185 1 = some (1, 1, false) := by kernel_rfl
theorem tyF185_2 : tyF Tryz.prog 185 2 = some (2, 1, false) := by kernel_rfl
theorem tyZ205 : tyZero Tryz.prog 205 = some [.pointer none, .slice none 0 0] := by kernel_rfl
theorem tyF205_1 : tyF Tryz.prog 205 1 = some (1, 1, false) := by kernel_rfl
theorem tyZ213 : tyZero Tryz.prog 213 = some [.int .u64 0, .int .u32 0] := by kernel_rfl
theorem tyP213 : tyPlaces Tryz.prog 213 = some [(0, 1), (1, 1)] := by kernel_rfl
theorem tyA220 : tyAgg Tryz.prog 220 = some true := by kernel_rfl
theorem tyS220 : tySize Tryz.prog 220 = some 3 := by kernel_rfl
theorem tyZ220 : tyZero Tryz.prog 220 = some [.string ⟨#[]⟩, .int .i64 0, .int .i64 0] := by kernel_rfl
theorem tyP220 : tyPlaces Tryz.prog 220 = some [(0, 1), (1, 1), (2, 1)] := by kernel_rfl
theorem tyF220_0 : tyF Tryz.prog 220 0 = some (0, 1, false) := by kernel_rfl
theorem tyF220_1 : tyF Tryz.prog 220 1 = some (1, 1, false) := by kernel_rfl
theorem tyF220_2 : tyF Tryz.prog 220 2 = some (2, 1, false) := by kernel_rfl
theorem tyZ259 : tyZero Tryz.prog 259 = some [.string ⟨#[]⟩, .int .i64 0, .int .i64 0] := by kernel_rfl
theorem tyP259 : tyPlaces Tryz.prog 259 = some [(0, 3)] := by kernel_rfl
theorem tyF259_0 : tyF Tryz.prog 259 0 = some (0, 3, true) := by kernel_rfl
theorem tyS279 : tySize Tryz.prog 279 = some 2 := by kernel_rfl
theorem tyZ279 : tyZero Tryz.prog 279 = some [.string ⟨#[]⟩, .nilIface] := by kernel_rfl
theorem tyP279 : tyPlaces Tryz.prog 279 = some [(0, 1), (1, 1)] := by kernel_rfl
theorem tyA285 : tyAgg Tryz.prog 285 = some false := by kernel_rfl
theorem tyS285 : tySize Tryz.prog 285 = some 1 := by kernel_rfl
theorem tyZ287 : tyZero Tryz.prog 287 = some [.int .u64 0, .nilFunc] := by kernel_rfl
theorem tyP287 : tyPlaces Tryz.prog 287 = some [(0, 1), (1, 1)] := by kernel_rfl
theorem tyF287_0 : tyF Tryz.prog 287 0 = some (0, 1, false) := by kernel_rfl
theorem tyF287_1 : tyF Tryz.prog 287 1 = some (1, 1, false) := by kernel_rfl
end Go.Proofs.YtkojkeabelckjaaGreatDoor
end

section
set_option linter.all false
namespace Go.Proofs.YtkojkeabelckjaaGreatDoor
open Go.RowKit
@[go_sem] theorem bel_a1 (a : World) (o1 : Obj) : Bel a (a.alloc o1) ↔ True := ⟨fun _ => trivial, fun _ => (Bel.refl a).alloc o1⟩
@[go_sem] theorem bel_a2 (a : World) (o1 o2 : Obj) : Bel a ((a.alloc o1).alloc o2) ↔ True := ⟨fun _ => trivial, fun _ => ((Bel.refl a).alloc o1).alloc o2⟩
@[go_sem] theorem bel_a3 (a : World) (o1 o2 o3 : Obj) : Bel a (((a.alloc o1).alloc o2).alloc o3) ↔ True := ⟨fun _ => trivial, fun _ => (((Bel.refl a).alloc o1).alloc o2).alloc o3⟩
@[go_sem] theorem bel_a4 (a : World) (o1 o2 o3 o4 : Obj) : Bel a ((((a.alloc o1).alloc o2).alloc o3).alloc o4) ↔ True := ⟨fun _ => trivial, fun _ => ((((Bel.refl a).alloc o1).alloc o2).alloc o3).alloc o4⟩
section plain
variable {κ ν : Type} [DecidableEq κ]
def aget : List (κ × ν) → κ → Option ν
 | [], _ => none
 | (a, v) :: r, k => if a = k then some v else aget r k
def aput : List (κ × ν) → κ → ν → List (κ × ν)
 | [], k, v => [(k, v)]
 | (a, x) :: r, k, v => if a = k then (k, v) :: r else (a, x) :: aput r k v
def adel : List (κ × ν) → κ → List (κ × ν)
 | [], _ => []
 | (a, x) :: r, k => if a = k then r else (a, x) :: adel r k
def jE1 (M : List (κ × ν)) : List κ := M.map Prod.fst
theorem aget_none : ∀ {M : List (κ × ν)} {k : κ}, aget M k = none ↔ k ∉ jE1 M
 | [], k => by simp [aget, jE1]
 | (a, v) :: r, k => by
  have ih := aget_none (M := r) (k := k)
  unfold aget
  by_cases h : a = k
  ·simp [h, jE1]
  ·simp only [h, if_false, ih]
   simp only [jE1, List.map_cons, List.mem_cons, not_or]
   exact ⟨fun x => ⟨fun e => h e.symm, x⟩, fun x => x.2⟩
theorem aget_put : ∀ (M : List (κ × ν)) (k k' : κ) (v : ν), aget (aput M k v) k' = if k = k' then some v else aget M k'
 | [], k, k', v => by simp [aput, aget]
 | (a, x) :: r, k, k', v => by
  unfold aput
  by_cases h : a = k
  ·subst h
   simp only [if_true, aget]
   by_cases h2 : a = k' <;> simp [h2]
  ·simp only [h, if_false, aget, aget_put r k k' v]
   by_cases h2 : a = k'
   ·subst h2
    have : ¬ k = a := fun e => h e.symm
    simp [this]
   ·simp [h2]
theorem akeys_put_in : ∀ {M : List (κ × ν)} {k : κ} (v : ν), k ∈ jE1 M → jE1 (aput M k v) = jE1 M
 | [], k, v, h => by simp [jE1] at h
 | (a, x) :: r, k, v, h => by
  unfold aput
  by_cases e : a = k
  ·subst e; simp [jE1]
  ·have h2 : k ∈ jE1 r := by
    simp only [jE1, List.map_cons, List.mem_cons] at h ⊢
    rcases h with h | h
    ·exact absurd h.symm e
    ·exact h
   have ih := akeys_put_in v h2
   simp only [e, if_false, jE1, List.map_cons] at ih ⊢
   rw [ih]
theorem akeys_put_out : ∀ {M : List (κ × ν)} {k : κ} (v : ν), k ∉ jE1 M → jE1 (aput M k v) = jE1 M ++ [k]
 | [], k, v, h => by simp [aput, jE1]
 | (a, x) :: r, k, v, h => by
  have h2 : k ≠ a ∧ k ∉ jE1 r := by simpa [jE1] using h
  have ih := akeys_put_out v h2.2
  unfold aput
  simp only [show ¬ a = k from fun e => h2.1 e.symm, if_false, jE1, List.map_cons] at ih ⊢
  rw [ih]
  rfl
theorem nodup_put {M : List (κ × ν)} (h : (jE1 M).Nodup) (k : κ) (v : ν) : (jE1 (aput M k v)).Nodup := by
 by_cases hk : k ∈ jE1 M
 ·rw [akeys_put_in v hk]; exact h
 ·rw [akeys_put_out v hk, List.nodup_append]
  exact ⟨h, by simp, fun a ha b hb => by simp at hb; subst hb; exact fun e => hk (e ▸ ha)⟩
theorem at_key : ∀ (M : List (κ × ν)) (k : κ), (k ∉ jE1 M ∧ aget M k = none ∧ (∀ v, aput M k v = M ++ [(k, v)]) ∧ adel M k = M) ∨
  ∃ M1 x M2, M = M1 ++ (k, x) :: M2 ∧ k ∉ jE1 M1 ∧ aget M k = some x ∧ (∀ v, aput M k v = M1 ++ (k, v) :: M2) ∧ adel M k = M1 ++ M2
 | [], k => .inl ⟨by simp [jE1], rfl, fun _ => rfl, rfl⟩
 | (a, x) :: r, k => by
  by_cases h : a = k
  ·subst h
   exact .inr ⟨[], x, r, rfl, by simp [jE1], by simp [aget], fun v => by simp [aput], by simp [adel]⟩
  ·rcases at_key r k with ⟨h1, h2, h3, h4⟩ | ⟨M1, y, M2, rfl, h1, h2, h3, h4⟩
   ·refine .inl ⟨?_, by simp [aget, h, h2], fun v => by simp [aput, h, h3], by simp [adel, h, h4]⟩
    simp only [jE1, List.map_cons, List.mem_cons, not_or] at h1 ⊢
    exact ⟨fun e => h e.symm, h1⟩
   ·refine .inr ⟨(a, x) :: M1, y, M2, rfl, ?_, by simp [aget, h, h2], fun v => by simp [aput, h, h3], by simp [adel, h, h4]⟩
    simp only [jE1, List.map_cons, List.mem_cons, not_or] at h1 ⊢
    exact ⟨fun e => h e.symm, h1⟩
end plain
structure KeyOk (P : Program) (K : TypeId) {κ : Type} [DecidableEq κ] (encK : κ → Value) : Prop where
 eq : ∀ (a b : κ) (w : World), (Op.equal K (encK a) (encK b)).run P w = .ok (decide (a = b)) w
 chk : ∀ (e : Bool) (a : κ) (w : World), (Instr.checkKey e 10000 K (encK a)).run P w = .ok () w
 und : ∃ d, P.underlying K = some d ∧ ((∀ a b : κ, Instr.sameNow d (encK a) (encK b) = none) ∨ (∀ a b : κ, Instr.sameNow d (encK a) (encK b) = some (decide (a = b))))
 same : ∀ a : κ, Instr.sameBits 10000 (encK a) (encK a) = true
section
variable {κ ν : Type} [DecidableEq κ] {encK : κ → Value} {encV : ν → Value}
def MapIs (encK : κ → Value) (encV : ν → Value) (w : World) (b : Nat) (M : List (κ × ν)) : Prop :=
 ∃ es clock, w.heap[b]? = some (.map es clock) ∧ es.toList.map (fun e : MapEntry => (e.key, e.val)) = M.map (fun x => (encK x.1, encV x.2)) ∧ (jE1 M).Nodup
def OnlyMap (w w' : World) (b : Nat) : Prop := ∃ o, w' = { w with heap := w.heap.setIfInBounds b o }
variable {P : Program} {K : TypeId}
theorem run_findKey (h : KeyOk P K encK) (w : World) (k : κ) (es : List MapEntry) (M : List (κ × ν)) (hes : es.map (fun e : MapEntry => (e.key, e.val)) = M.map (fun x => (encK x.1, encV x.2))) :
  (k ∉ jE1 M → (Instr.findKey K (encK k) es).run P w = .ok none w) ∧
  (∀ M1 x M2, M = M1 ++ (k, x) :: M2 → k ∉ jE1 M1 → (Instr.findKey K (encK k) es).run P w = .ok (some (M1.length, encV x)) w) := by
 obtain ⟨d, hd, hn⟩ := h.und
 have ask : ∀ (M : List (κ × ν)) (es : List MapEntry) (i : Nat), es.map (fun e : MapEntry => (e.key, e.val)) = M.map (fun x => (encK x.1, encV x.2)) →
   (k ∉ jE1 M → (Instr.findAsking K (encK k) es i).run P w = .ok none w) ∧
   (∀ M1 x M2, M = M1 ++ (k, x) :: M2 → k ∉ jE1 M1 → (Instr.findAsking K (encK k) es i).run P w = .ok (some (i + M1.length, encV x)) w) := by
  intro M
  induction M with
  | nil =>
   intro es i hes
   have : es = [] := by simpa using hes
   subst this
   exact ⟨fun _ => by simp [Instr.findAsking], fun M1 x M2 e => by simp at e⟩
  | cons y M ih =>
   intro es i hes
   match es, hes with
   | e :: es, hes =>
    simp only [List.map_cons, List.cons.injEq, Prod.mk.injEq] at hes
    obtain ⟨⟨e1, e2⟩, hes⟩ := hes
    obtain ⟨ih1, ih2⟩ := ih es (i + 1) hes
    refine ⟨fun hk => ?_, fun M1 x M2 eM hk => ?_⟩
    ·have hk2 : k ≠ y.1 ∧ k ∉ jE1 M := by simpa [jE1] using hk
     simp [Instr.findAsking, e1, h.eq, hk2.1, ih1 hk2.2]
    ·rcases M1 with _ | ⟨z, M1⟩
     ·simp only [List.nil_append, List.cons.injEq] at eM
      obtain ⟨rfl, rfl⟩ := eM
      simp [Instr.findAsking, e1, e2, h.eq]
     ·simp only [List.cons_append, List.cons.injEq] at eM
      obtain ⟨rfl, rfl⟩ := eM
      have hk2 : k ≠ y.1 ∧ k ∉ jE1 M1 := by simpa [jE1] using hk
      simp [Instr.findAsking, e1, h.eq, hk2.1, ih2 M1 x M2 rfl hk2.2, Nat.add_assoc, Nat.add_comm 1]
 rcases hn with hn | hn
 case inr =>
  have now : ∀ (M : List (κ × ν)) (es : List MapEntry) (i : Nat), es.map (fun e : MapEntry => (e.key, e.val)) = M.map (fun x => (encK x.1, encV x.2)) →
    (k ∉ jE1 M → Instr.findNow d (encK k) es i = some none) ∧
    (∀ M1 x M2, M = M1 ++ (k, x) :: M2 → k ∉ jE1 M1 → Instr.findNow d (encK k) es i = some (some (i + M1.length, encV x))) := by
   intro M
   induction M with
   | nil =>
    intro es i hes
    have : es = [] := by simpa using hes
    subst this
    exact ⟨fun _ => by simp [Instr.findNow], fun M1 x M2 e => by simp at e⟩
   | cons y M ih =>
    intro es i hes
    match es, hes with
    | e :: es, hes =>
     simp only [List.map_cons, List.cons.injEq, Prod.mk.injEq] at hes
     obtain ⟨⟨e1, e2⟩, hes⟩ := hes
     obtain ⟨ih1, ih2⟩ := ih es (i + 1) hes
     refine ⟨fun hk => ?_, fun M1 x M2 eM hk => ?_⟩
     ·have hk2 : k ≠ y.1 ∧ k ∉ jE1 M := by simpa [jE1] using hk
      simp [Instr.findNow, e1, hn, hk2.1, ih1 hk2.2]
     ·rcases M1 with _ | ⟨z, M1⟩
      ·simp only [List.nil_append, List.cons.injEq] at eM
       obtain ⟨rfl, rfl⟩ := eM
       simp [Instr.findNow, e1, e2, hn]
      ·simp only [List.cons_append, List.cons.injEq] at eM
       obtain ⟨rfl, rfl⟩ := eM
       have hk2 : k ≠ y.1 ∧ k ∉ jE1 M1 := by simpa [jE1] using hk
       simp [Instr.findNow, e1, hn, hk2.1, ih2 M1 x M2 rfl hk2.2, Nat.add_assoc, Nat.add_comm 1]
  obtain ⟨n1, n2⟩ := now M es 0 hes
  exact ⟨fun hk => by simp [Instr.findKey, run_underlying hd, n1 hk], fun M1 x M2 e hk => by simp [Instr.findKey, run_underlying hd, n2 M1 x M2 e hk]⟩
 have key : (Instr.findKey K (encK k) es).run P w = (Instr.findAsking K (encK k) es 0).run P w := by
  match es, M, hes with
  | [], _, _ => simp [Instr.findKey, run_underlying hd, Instr.findNow, Instr.findAsking]
  | e :: es, y :: M, hes =>
   simp only [List.map_cons, List.cons.injEq, Prod.mk.injEq] at hes
   have : Instr.findNow d (encK k) (e :: es) 0 = none := by simp [Instr.findNow, hes.1.1, hn]
   simp [Instr.findKey, run_underlying hd, this]
 rw [key]
 have := ask M es 0 hes
 simpa using this
theorem run_look (h : KeyOk P K encK) {T E : TypeId} (hT : P.underlying T = some (.map K E)) {w : World} {b : Nat} {M : List (κ × ν)} (hm : MapIs encK encV w b M) {z : Value} (hz : (zeroValue E).run P w = .ok z w) (k : κ) (ok : Bool) :
  (Instr.lookup T (.map (some b)) (encK k) ok).run P w = .ok (if ok then .tuple #[((aget M k).map encV).getD z, .bool (aget M k).isSome] else ((aget M k).map encV).getD z) w := by
 obtain ⟨es, clock, hb, hes, _⟩ := hm
 obtain ⟨f1, f2⟩ := run_findKey h w k es.toList M hes
 rcases at_key M k with ⟨h1, h2, _, _⟩ | ⟨M1, x, M2, e, h1, h2, _, _⟩
 ·rw [h2]
  cases ok <;> simp [Instr.lookup, run_underlying hT, MapKept.run_getObj_map hb, h.chk, f1 h1, hz, Result.andThen]
 ·rw [h2]
  cases ok <;> simp [Instr.lookup, run_underlying hT, MapKept.run_getObj_map hb, h.chk, f2 M1 x M2 e h1, Result.andThen]
theorem heap_set (w : World) {b : Nat} {o : Obj} (hb : w.heap[b]? = some o) (o' : Obj) : ({ w with heap := w.heap.setIfInBounds b o' } : World).heap[b]? = some o' := by
 have := (Array.getElem?_eq_some_iff.1 hb).1
 simp [this]
theorem run_store_map (h : KeyOk P K encK) {T E : TypeId} (hT : P.underlying T = some (.map K E)) {w : World} {b : Nat} {M : List (κ × ν)} (hm : MapIs encK encV w b M) (k : κ) (v : ν) :
  ∃ w', (Instr.mapUpdate T (.map (some b)) (encK k) (encV v)).run P w = .ok () w' ∧ MapIs encK encV w' b (aput M k v) ∧ OnlyMap w w' b := by
 obtain ⟨es, clock, hb, hes, hnd⟩ := hm
 obtain ⟨f1, f2⟩ := run_findKey h w k es.toList M hes
 rcases at_key M k with ⟨h1, h2, h3, _⟩ | ⟨M1, x, M2, e, h1, h2, h3, _⟩
 ·refine ⟨_, ?_, ⟨es.push { key := encK k, val := encV v, born := clock }, clock + 1, heap_set w hb _, ?_, nodup_put hnd k v⟩, ⟨_, rfl⟩⟩
  ·simp [Instr.mapUpdate, run_underlying hT, MapKept.run_getObj_map hb, h.chk, f1 h1, MapKept.run_setObj_map _ hb, Result.andThen]
  ·rw [h3]; simp [hes]
 ·have hlen : M1.length < es.toList.length := by
   have := congrArg List.length hes
   rw [e] at this
   simp at this
   simp [this]
  have hold : ((es[M1.length]?).map (·.key)).getD (encK k) = encK k := by
   have := congrArg (fun l => l[M1.length]?) hes
   simp only [List.getElem?_map] at this
   rw [e] at this
   simp only [List.getElem?_append_right (Nat.le_refl _), Nat.sub_self, List.getElem?_cons_zero, Option.map_some, Array.getElem?_toList] at this
   cases hq : es[M1.length]? with
   | none => simp
   | some q =>
    rw [hq] at this
    simp only [Option.map_some, Option.some.injEq, Prod.mk.injEq] at this
    simp [this.1]
  refine ⟨_, ?_, ⟨es.modify M1.length fun e => { e with key := encK k, val := encV v }, clock, heap_set w hb _, ?_, nodup_put hnd k v⟩, ⟨_, rfl⟩⟩
  ·simp [Instr.mapUpdate, run_underlying hT, MapKept.run_getObj_map hb, h.chk, f2 M1 x M2 e h1, hold, Instr.keyThatStays, h.same, MapKept.run_setObj_map _ hb, Result.andThen]
  ·rw [h3]
   apply List.ext_getElem?
   intro j
   have hj := congrArg (fun l => l[j]?) hes
   simp only [List.getElem?_map, Array.getElem?_toList] at hj
   simp only [List.getElem?_map, Array.getElem?_toList, Array.getElem?_modify]
   rw [e] at hj
   by_cases hjm : M1.length = j
   ·subst hjm
    simp only [List.getElem?_append_right (Nat.le_refl _), Nat.sub_self, List.getElem?_cons_zero, Option.map_some, if_true] at hj ⊢
    cases hq : es[M1.length]? with
    | none => rw [hq] at hj; simp at hj
    | some q => simp
   ·simp only [hjm, if_false]
    rw [hj]
    congr 1
    by_cases hlt : j < M1.length
    ·rw [List.getElem?_append_left hlt, List.getElem?_append_left hlt]
    ·rw [List.getElem?_append_right (by omega), List.getElem?_append_right (by omega)]
     obtain ⟨i, hi⟩ : ∃ i, j - M1.length = i + 1 := ⟨j - M1.length - 1, by omega⟩
     rw [hi]
     rfl
theorem run_len_map {T E ty : TypeId} (hT : P.underlying T = some (.map K E)) {w : World} {b : Nat} {M : List (κ × ν)} (hm : MapIs encK encV w b M) :
  (Builtin.len_ #[T] ty #[.map (some b)]).run P w = .ok (.int .i64 (M.length : Nat)) w := by
 obtain ⟨es, clock, hb, hes, _⟩ := hm
 have e : es.size = M.length := by simpa using congrArg List.length hes
 simp [Builtin.len_, run_underlying hT, MapKept.run_getObj_map hb, goInt, Result.andThen, e]
theorem MapIs.made (encK : κ → Value) (encV : ν → Value) (w : World) : MapIs encK encV (w.alloc (.map #[] 0)) w.heap.size [] :=
 ⟨#[], 0, by show (w.heap.push _)[w.heap.size]? = _; simp, by simp, by simp [jE1]⟩
end
end Go.Proofs.YtkojkeabelckjaaGreatDoor
end
