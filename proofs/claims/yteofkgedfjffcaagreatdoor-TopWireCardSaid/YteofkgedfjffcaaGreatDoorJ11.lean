/- Walks and plain laws for this claim (texts LawTFacts, joined). Each theorem states its own conditions. -/
import Derived.Test.YteofkgedfjffcaaGreatDoorRows
import Derived.JoinedOf
import Derived.MakeChecks
set_option linter.all false
namespace Go.Proofs.YteofkgedfjffcaaGreatDoor
section
namespace topWire
theorem zN7 : Tryz.pinned.checked.prog.funcNamed Rows.topWireRow.func = some 3 := by kernel_rfl
theorem zP8 : (Rows.topWireRow.inPlace == Tryz.prog.inPlace 3) = true := by kernel_rfl
theorem zP7 : (Rows.topWireRow.unfollowed == Tryz.prog.unfollowed 3) = true := by kernel_rfl
theorem zP6 : (Rows.topWireRow.recurses == Tryz.prog.recurses 3) = true := by kernel_rfl
theorem zP5 : (Rows.topWireRow.named == Tryz.prog.varsNamed 3) = true := by kernel_rfl
theorem zP4 : (Rows.topWireRow.plainKeys == Tryz.prog.plainKeys) = true := by kernel_rfl
theorem zP3 : (Rows.topWireRow.lifted == Tryz.prog.liftsFinal) = true := by kernel_rfl
theorem zP2 : Tryz.prog.stopsHeard = true := by kernel_rfl
theorem zP1 : Tryz.prog.mayEnter = true := by kernel_rfl
theorem zN6 : joinedFacts Tryz.pinned.checked.prog 3 Tryz.f3 Rows.topWireSpec Rows.topWireRow = true := by
  show joinedFacts Tryz.prog 3 Tryz.f3 Rows.topWireSpec Rows.topWireRow = true
  unfold joinedFacts
  rw [zP8, zP7, zP6, zP5, zP4, zP3, zP2, zP1]
  kernel_rfl
theorem zN5 : Tryz.f3.isInstance Tryz.pinned.checked.prog Rows.topWireRow.origin Rows.topWireRow.targs := of_decide_eq_true (by kernel_rfl)
theorem zN4 : Tryz.f3.isWrapper Tryz.pinned.checked.prog Rows.topWireRow.wrapper Rows.topWireRow.mainSum := by unfold Func.isWrapper; first | (rw [if_pos (by decide +kernel)]; kernel_rfl) | (rw [if_neg (by decide +kernel)]; exact ⟨rfl, rfl⟩)
end topWire
end
end Go.Proofs.YteofkgedfjffcaaGreatDoor
