/- Walks and plain laws for this claim (texts Base, joined). Each theorem states its own conditions. -/
import Derived.WalkKit
import Derived.WalkSpells
import Derived.WalkLawsBesides
import Derived.BigQuiet
import Derived.Deep.QuietTactic
import Derived.Deep.RegionHeld3
import Derived.Lib.Hide

set_option linter.all false
namespace Go.Proofs.YtkojkeabelckjaaGreatDoor
open Go.RowKit
def Bel (a w : World) : Prop := Below a.heap.size a w
section
variable {a b c w : World}
theorem Bel.refl (a : World) : Bel a a := Below.refl _ _
theorem Bel.size (h : Bel a w) : a.heap.size ≤ w.heap.size := Below.size h
theorem Bel.trans (h : Bel a b) (k : Bel b c) : Bel a c := Below.trans h (Below.mono k (Below.size h))
theorem Bel.drew (h : Bel a w) : Bel a w.drew := Below.drew h
theorem Bel.drewN (h : Bel a w) (n : Nat) : Bel a (w.drewN n) := by
 have k : Below a.heap.size a w := h
 exact ⟨k.os, k.tape, k.output, k.size, k.block⟩
theorem Bel.alloc (h : Bel a w) (o : Obj) : Bel a (w.alloc o) := Below.alloc h (Below.size h) o
theorem Bel.set (h : Bel a w) {p : Addr} (hp : a.heap.size ≤ p.block) (u : Value) : Bel a (w.setCell p u) := Below.setCell h hp u
theorem Bel.took (h : Bel a w) : (∀ b o, b < a.heap.size → w.cell? ⟨b, o, none⟩ = a.cell? ⟨b, o, none⟩) ∧ (∀ b o, b < a.heap.size → w.frozen? ⟨b, o, none⟩ = a.frozen? ⟨b, o, none⟩) ∧ a.heap.size ≤ w.heap.size :=
 ⟨fun b o hb => Below.cell h (p := ⟨b, o, none⟩) hb, fun b o hb => Below.frozen h (p := ⟨b, o, none⟩) hb, h.size⟩
end
@[go_sem] theorem cell_set_here (w : World) (p : Addr) (u : Value) (h : (w.cell? p).isSome = true) : (w.setCell p u).cell? p = some u := by
 obtain ⟨v, hv⟩ := Option.isSome_iff_exists.1 h
 exact World.cell?_setCell_same w p u hv
@[go_sem] theorem bel_refl (a : World) : Bel a a ↔ True := ⟨fun _ => trivial, fun _ => Bel.refl a⟩
@[go_sem] theorem bel_drew (a w : World) : Bel a w.drew ↔ Bel a w := by
 refine ⟨fun h => ?_, fun h => Bel.drew h⟩
 have k : Below a.heap.size a w.drew := h
 exact ⟨k.os, k.tape, k.output, k.size, k.block⟩
@[go_sem] theorem bel_drewN (a w : World) (n : Nat) : Bel a (w.drewN n) ↔ Bel a w := by
 refine ⟨fun h => ?_, fun h => Bel.drewN h n⟩
 have k : Below a.heap.size a (w.drewN n) := h
 exact ⟨k.os, k.tape, k.output, k.size, k.block⟩
@[go_sem] theorem bel_alloc (a w : World) (o : Obj) (h : Bel a w) : Bel a (w.alloc o) := Bel.alloc h o
def str (l : List UInt8) : ByteArray := ⟨l.toArray⟩
@[go_sem] theorem str_size (l : List UInt8) : (str l).size = l.length := by simp [str, ByteArray.size]
theorem str_data (l : List UInt8) : (str l).data.toList = l := rfl
theorem str_of (s : ByteArray) : ∃ l, s = str l := ⟨s.data.toList, rfl⟩
theorem hide {p : Prop} (h : p) : Hid p := h
end Go.Proofs.YtkojkeabelckjaaGreatDoor
