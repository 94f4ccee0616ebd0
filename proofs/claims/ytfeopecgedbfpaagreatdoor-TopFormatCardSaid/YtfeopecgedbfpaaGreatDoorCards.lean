/-
  DERIVED. GIVEN WITH THE SEED: THE CARDS: each row of YtfeopecgedbfpaaGreatDoorRows.lean that lists a variable, with what it lists TIED to the program's text (the seventh form; the later family's looks); each row that meets fmt, with fmt's text TOLD by the authors' own Lean function (tested against real Go, not proved from fmt's source: count such statements apart). THE CARD IS WHAT COUNTS. Prove the row's statement (the work); the ties are given (YtfeopecgedbfpaaGreatDoorTie.lean); close each card by the builder's one call (the guide's Derived/Test/ToyasCard.lean, 'card_holds'). Laid BY PROGRAM, IN A SANDBOX (cutbox-door.mjs). By AI agents, Wed Nov 11 2026. No macro, syntax, notation, axiom, sorry.
-/
import Derived.Test.YtfeopecgedbfpaaGreatDoorRows
import GoSem.ClaimSeven
namespace Go.Proofs.YtfeopecgedbfpaaGreatDoor
namespace Rows

/-- THE TIED CARD OF 'gazetteertop.TopFormat'. -/
def topFormatCard : Claim7 := { stood := { row := topFormatRow, standIns := [], harness := (true, "15a9b1f416df73eea0254ef9e30f766e04ba825584003012e5eed079c6ac909b"), looks := true }, kinds := [], alts := [], laidByText := true, laidKinds := [.data, .data, .data, .data, .sentinel, .sentinel, .pinned], laidTests := true, laidLooks := .later }
def TopFormatCardSaid : Prop := Claim7.holds Tryz.pinned (.plain (OpenSpec.ofChange topFormatSpec)) topFormatCard

/-- THE SECOND FORM's CARD OF 'gazetteertop.TopFormat'. -/
def topFormatUptoCard : Claim7 := { stood := { row := topFormatUptoRow, standIns := [], harness := (true, "15a9b1f416df73eea0254ef9e30f766e04ba825584003012e5eed079c6ac909b"), looks := true }, kinds := [], alts := [], laidByText := true, laidKinds := [.data, .data, .data, .data, .sentinel, .sentinel, .pinned], laidTests := true, laidLooks := .later }
def TopFormatUptoCardSaid : Prop := Claim7.holds Tryz.pinned (.plain (OpenSpec.upto topFormatSpec)) topFormatUptoCard
end Rows
end Go.Proofs.YtfeopecgedbfpaaGreatDoor
