/-
  DERIVED. GIVEN WITH THE SEED: THE CARDS: each row of YtkojkeabelckjaaGreatDoorRows.lean that lists a variable, with what it lists TIED to the program's text (the seventh form; the later family's looks); each row that meets fmt, with fmt's text TOLD by the authors' own Lean function (tested against real Go, not proved from fmt's source: count such statements apart). THE CARD IS WHAT COUNTS. Prove the row's statement (the work); the ties are given (YtkojkeabelckjaaGreatDoorTie.lean); close each card by the builder's one call (the guide's Derived/Test/ToyasCard.lean, 'card_holds'). Laid BY PROGRAM, IN A SANDBOX (cutbox-door.mjs). By AI agents, Wed Nov 11 2026. No macro, syntax, notation, axiom, sorry.
-/
import Derived.Test.YtkojkeabelckjaaGreatDoorRows
import GoSem.ClaimSeven
namespace Go.Proofs.YtkojkeabelckjaaGreatDoor
namespace Rows

/-- THE TIED CARD OF 'gazetteertop.TopPatches'. -/
def topPatchesCard : Claim7 := { stood := { row := topPatchesRow, standIns := [], harness := (true, "f734b2585bb2c688d76b7159ae58455cf1d6421c88760c03f332d604594a78e2"), looks := true }, kinds := [], alts := [], laidByText := true, laidKinds := [.data, .data, .data, .data, .sentinel, .sentinel, .pinned], laidTests := true, laidLooks := .later }
def TopPatchesCardSaid : Prop := Claim7.holds Tryz.pinned (.plain (OpenSpec.ofChange topPatchesSpec)) topPatchesCard

/-- THE TIED CARD OF 'gazetteertop.TopDescend'. -/
def topDescendCard : Claim7 := { stood := { row := topDescendRow, standIns := [], harness := (true, "f734b2585bb2c688d76b7159ae58455cf1d6421c88760c03f332d604594a78e2"), looks := true }, kinds := [], alts := [], laidByText := true, laidKinds := [.data, .data, .data, .data, .sentinel, .sentinel, .pinned], laidTests := true, laidLooks := .later }
def TopDescendCardSaid : Prop := Claim7.holds Tryz.pinned (.plain (OpenSpec.ofChange topDescendSpec)) topDescendCard

/-- THE SECOND FORM's CARD OF 'gazetteertop.TopPatches'. -/
def topPatchesUptoCard : Claim7 := { stood := { row := topPatchesUptoRow, standIns := [], harness := (true, "f734b2585bb2c688d76b7159ae58455cf1d6421c88760c03f332d604594a78e2"), looks := true }, kinds := [], alts := [], laidByText := true, laidKinds := [.data, .data, .data, .data, .sentinel, .sentinel, .pinned], laidTests := true, laidLooks := .later }
def TopPatchesUptoCardSaid : Prop := Claim7.holds Tryz.pinned (.plain (OpenSpec.upto topPatchesSpec)) topPatchesUptoCard

/-- THE SECOND FORM's CARD OF 'gazetteertop.TopDescend'. -/
def topDescendUptoCard : Claim7 := { stood := { row := topDescendUptoRow, standIns := [], harness := (true, "f734b2585bb2c688d76b7159ae58455cf1d6421c88760c03f332d604594a78e2"), looks := true }, kinds := [], alts := [], laidByText := true, laidKinds := [.data, .data, .data, .data, .sentinel, .sentinel, .pinned], laidTests := true, laidLooks := .later }
def TopDescendUptoCardSaid : Prop := Claim7.holds Tryz.pinned (.plain (OpenSpec.upto topDescendSpec)) topDescendUptoCard
end Rows
end Go.Proofs.YtkojkeabelckjaaGreatDoor
