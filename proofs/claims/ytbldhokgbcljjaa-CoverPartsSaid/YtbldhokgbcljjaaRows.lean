/-
  No cell of these rows narrows 'for every input' (looked for: loops, veiled, ifaces, maps, wideKeys, modest, calm, conditions, laid).
  DERIVED. THE GIVEN ROWS OF THIS SEAT. 10 by the template 'for every input the law returns true; each argument reads behind the call as it read before'; 0 by the template 'total and deterministic' (their statements: YtbldhokgbcljjaaTotals.lean).
  GIVEN WITH THE SEED: the statements are not yours to turn. If you find one false, say at which input.
  Laid BY PROGRAM, IN A SANDBOX (cutbox-rows.mjs): the forced cells as the released guide's own fill.sh prints them over the translation 3acff6e3ccf61166… (all of the seat's roots in one cut). By AI agents, Wed Nov 11 2026. No macro, syntax, notation, axiom, sorry.
-/
import Derived.Test.YtbldhokgbcljjaaChecked
import GoSem.Claim
import GoSem.ClaimJoined
import GoSem.ClaimMapViews
import Derived.JoinedTies
import Derived.KernelRfl
namespace Go.Proofs.Ytbldhokgbcljjaa
/- THE CELL 'sum', in the pinned program and in every row, IS THE sha256 OF THE DUMP (.gsa) THAT YtbldhokgbcljjaaProg.lean LOADS. Nothing in Lean hashes anything: it is a label: what it is worth is what the hold of that sum in a sandbox is worth. -/
noncomputable def Try.pinned : Pinned := { name := "ytbldhokgbcljjaa", sum := "3acff6e3ccf6116608397c8be4376d151d5eeb6c0468200dd3ab323baadf534f", checked := Try.checked }
namespace Rows
def none {H : Type} : Left H := { results := [], args := [] }

/-- 'gazetteerlaw43.MaskTells': WHATEVER THE INPUT: true; the input reads as it did. -/
def maskTellsSpec : ChangeSpec := { name := "maskTells", fn := fun _ => fun
  | [d1, d2, d3] => { results := [.lit (.bool true)], args := [d1, d2, d3] }
  | _ => none }
def maskTellsRow : OpenClaim := { program := "ytbldhokgbcljjaa", sum := "3acff6e3ccf6116608397c8be4376d151d5eeb6c0468200dd3ab323baadf534f", func := "gazetteer/gazetteerlaw43.MaskTells", spec := "maskTells", unfollowed := true, recurses := true, apart := false }
def MaskTellsSaid : Prop := maskTellsRow.holds Try.pinned (OpenSpec.ofChange maskTellsSpec)

/-- ITS FALSE NEIGHBOUR: 'it returns false'. Refute it at one input. -/
def maskTellsWrong : ChangeSpec := { name := "maskTells", fn := fun _ => fun
  | [d1, d2, d3] => { results := [.lit (.bool false)], args := [d1, d2, d3] }
  | _ => none }
def MaskTellsWrongFalsely : Prop := maskTellsRow.holds Try.pinned (OpenSpec.ofChange maskTellsWrong)

/-- 'gazetteerlaw43.MaskMoves': WHATEVER THE INPUT: true; the input reads as it did. -/
def maskMovesSpec : ChangeSpec := { name := "maskMoves", fn := fun _ => fun
  | [d] => { results := [.lit (.bool true)], args := [d] }
  | _ => none }
def maskMovesRow : OpenClaim := { program := "ytbldhokgbcljjaa", sum := "3acff6e3ccf6116608397c8be4376d151d5eeb6c0468200dd3ab323baadf534f", func := "gazetteer/gazetteerlaw43.MaskMoves", spec := "maskMoves", unfollowed := true, recurses := true, apart := false }
def MaskMovesSaid : Prop := maskMovesRow.holds Try.pinned (OpenSpec.ofChange maskMovesSpec)

/-- ITS FALSE NEIGHBOUR: 'it returns false'. Refute it at one input. -/
def maskMovesWrong : ChangeSpec := { name := "maskMoves", fn := fun _ => fun
  | [d] => { results := [.lit (.bool false)], args := [d] }
  | _ => none }
def MaskMovesWrongFalsely : Prop := maskMovesRow.holds Try.pinned (OpenSpec.ofChange maskMovesWrong)

/-- 'gazetteerlaw43.MaskPoint': WHATEVER THE INPUT: true; the input reads as it did. -/
def maskPointSpec : ChangeSpec := { name := "maskPoint", fn := fun _ => fun
  | [d1, d2, d3] => { results := [.lit (.bool true)], args := [d1, d2, d3] }
  | _ => none }
def maskPointRow : OpenClaim := { program := "ytbldhokgbcljjaa", sum := "3acff6e3ccf6116608397c8be4376d151d5eeb6c0468200dd3ab323baadf534f", func := "gazetteer/gazetteerlaw43.MaskPoint", spec := "maskPoint", unfollowed := true, recurses := true, apart := false }
def MaskPointSaid : Prop := maskPointRow.holds Try.pinned (OpenSpec.ofChange maskPointSpec)

/-- ITS FALSE NEIGHBOUR: 'it returns false'. Refute it at one input. -/
def maskPointWrong : ChangeSpec := { name := "maskPoint", fn := fun _ => fun
  | [d1, d2, d3] => { results := [.lit (.bool false)], args := [d1, d2, d3] }
  | _ => none }
def MaskPointWrongFalsely : Prop := maskPointRow.holds Try.pinned (OpenSpec.ofChange maskPointWrong)

/-- 'gazetteerlaw43.MaskLaws': WHATEVER THE INPUT: true; the input reads as it did. -/
def maskLawsSpec : ChangeSpec := { name := "maskLaws", fn := fun _ => fun
  | [d1, d2] => { results := [.lit (.bool true)], args := [d1, d2] }
  | _ => none }
def maskLawsRow : OpenClaim := { program := "ytbldhokgbcljjaa", sum := "3acff6e3ccf6116608397c8be4376d151d5eeb6c0468200dd3ab323baadf534f", func := "gazetteer/gazetteerlaw43.MaskLaws", spec := "maskLaws", unfollowed := true, recurses := true, apart := false }
def MaskLawsSaid : Prop := maskLawsRow.holds Try.pinned (OpenSpec.ofChange maskLawsSpec)

/-- ITS FALSE NEIGHBOUR: 'it returns false'. Refute it at one input. -/
def maskLawsWrong : ChangeSpec := { name := "maskLaws", fn := fun _ => fun
  | [d1, d2] => { results := [.lit (.bool false)], args := [d1, d2] }
  | _ => none }
def MaskLawsWrongFalsely : Prop := maskLawsRow.holds Try.pinned (OpenSpec.ofChange maskLawsWrong)

/-- 'gazetteerlaw43.MaskTiles': WHATEVER THE INPUT: true; the input reads as it did. -/
def maskTilesSpec : ChangeSpec := { name := "maskTiles", fn := fun _ => fun
  | [d1, d2] => { results := [.lit (.bool true)], args := [d1, d2] }
  | _ => none }
def maskTilesRow : OpenClaim := { program := "ytbldhokgbcljjaa", sum := "3acff6e3ccf6116608397c8be4376d151d5eeb6c0468200dd3ab323baadf534f", func := "gazetteer/gazetteerlaw43.MaskTiles", spec := "maskTiles", unfollowed := true, recurses := true, apart := false }
def MaskTilesSaid : Prop := maskTilesRow.holds Try.pinned (OpenSpec.ofChange maskTilesSpec)

/-- ITS FALSE NEIGHBOUR: 'it returns false'. Refute it at one input. -/
def maskTilesWrong : ChangeSpec := { name := "maskTiles", fn := fun _ => fun
  | [d1, d2] => { results := [.lit (.bool false)], args := [d1, d2] }
  | _ => none }
def MaskTilesWrongFalsely : Prop := maskTilesRow.holds Try.pinned (OpenSpec.ofChange maskTilesWrong)

/-- 'gazetteerlaw05.CoverLists': WHATEVER THE INPUT: true; the input reads as it did. -/
def coverListsSpec : ChangeSpec := { name := "coverLists", fn := fun _ => fun
  | [d1, d2, d3] => { results := [.lit (.bool true)], args := [d1, d2, d3] }
  | _ => none }
def coverListsRow : OpenClaim := { program := "ytbldhokgbcljjaa", sum := "3acff6e3ccf6116608397c8be4376d151d5eeb6c0468200dd3ab323baadf534f", func := "gazetteer/gazetteerlaw05.CoverLists", spec := "coverLists", unfollowed := true, recurses := true, apart := false }
def CoverListsSaid : Prop := coverListsRow.holds Try.pinned (OpenSpec.ofChange coverListsSpec)

/-- ITS FALSE NEIGHBOUR: 'it returns false'. Refute it at one input. -/
def coverListsWrong : ChangeSpec := { name := "coverLists", fn := fun _ => fun
  | [d1, d2, d3] => { results := [.lit (.bool false)], args := [d1, d2, d3] }
  | _ => none }
def CoverListsWrongFalsely : Prop := coverListsRow.holds Try.pinned (OpenSpec.ofChange coverListsWrong)

/-- 'gazetteerlaw05.CoverUnion': WHATEVER THE INPUT: true; the input reads as it did. -/
def coverUnionSpec : ChangeSpec := { name := "coverUnion", fn := fun _ => fun
  | [d1, d2, d3] => { results := [.lit (.bool true)], args := [d1, d2, d3] }
  | _ => none }
def coverUnionRow : OpenClaim := { program := "ytbldhokgbcljjaa", sum := "3acff6e3ccf6116608397c8be4376d151d5eeb6c0468200dd3ab323baadf534f", func := "gazetteer/gazetteerlaw05.CoverUnion", spec := "coverUnion", unfollowed := true, recurses := true, apart := false }
def CoverUnionSaid : Prop := coverUnionRow.holds Try.pinned (OpenSpec.ofChange coverUnionSpec)

/-- ITS FALSE NEIGHBOUR: 'it returns false'. Refute it at one input. -/
def coverUnionWrong : ChangeSpec := { name := "coverUnion", fn := fun _ => fun
  | [d1, d2, d3] => { results := [.lit (.bool false)], args := [d1, d2, d3] }
  | _ => none }
def CoverUnionWrongFalsely : Prop := coverUnionRow.holds Try.pinned (OpenSpec.ofChange coverUnionWrong)

/-- 'gazetteerlaw05.CoverParts': WHATEVER THE INPUT: true; the input reads as it did. -/
def coverPartsSpec : ChangeSpec := { name := "coverParts", fn := fun _ => fun
  | [d1, d2] => { results := [.lit (.bool true)], args := [d1, d2] }
  | _ => none }
def coverPartsRow : OpenClaim := { program := "ytbldhokgbcljjaa", sum := "3acff6e3ccf6116608397c8be4376d151d5eeb6c0468200dd3ab323baadf534f", func := "gazetteer/gazetteerlaw05.CoverParts", spec := "coverParts", unfollowed := true, recurses := true, apart := false }
def CoverPartsSaid : Prop := coverPartsRow.holds Try.pinned (OpenSpec.ofChange coverPartsSpec)

/-- ITS FALSE NEIGHBOUR: 'it returns false'. Refute it at one input. -/
def coverPartsWrong : ChangeSpec := { name := "coverParts", fn := fun _ => fun
  | [d1, d2] => { results := [.lit (.bool false)], args := [d1, d2] }
  | _ => none }
def CoverPartsWrongFalsely : Prop := coverPartsRow.holds Try.pinned (OpenSpec.ofChange coverPartsWrong)

/-- 'gazetteerlaw05.CoverTells': WHATEVER THE INPUT: true; the input reads as it did. -/
def coverTellsSpec : ChangeSpec := { name := "coverTells", fn := fun _ => fun
  | [d1, d2, d3] => { results := [.lit (.bool true)], args := [d1, d2, d3] }
  | _ => none }
def coverTellsRow : OpenClaim := { program := "ytbldhokgbcljjaa", sum := "3acff6e3ccf6116608397c8be4376d151d5eeb6c0468200dd3ab323baadf534f", func := "gazetteer/gazetteerlaw05.CoverTells", spec := "coverTells", unfollowed := true, recurses := true, apart := false }
def CoverTellsSaid : Prop := coverTellsRow.holds Try.pinned (OpenSpec.ofChange coverTellsSpec)

/-- ITS FALSE NEIGHBOUR: 'it returns false'. Refute it at one input. -/
def coverTellsWrong : ChangeSpec := { name := "coverTells", fn := fun _ => fun
  | [d1, d2, d3] => { results := [.lit (.bool false)], args := [d1, d2, d3] }
  | _ => none }
def CoverTellsWrongFalsely : Prop := coverTellsRow.holds Try.pinned (OpenSpec.ofChange coverTellsWrong)

/-- 'gazetteerlaw05.CoverJust': WHATEVER THE INPUT: true; the input reads as it did. -/
def coverJustSpec : ChangeSpec := { name := "coverJust", fn := fun _ => fun
  | [d1, d2] => { results := [.lit (.bool true)], args := [d1, d2] }
  | _ => none }
def coverJustRow : OpenClaim := { program := "ytbldhokgbcljjaa", sum := "3acff6e3ccf6116608397c8be4376d151d5eeb6c0468200dd3ab323baadf534f", func := "gazetteer/gazetteerlaw05.CoverJust", spec := "coverJust", unfollowed := true, recurses := true, apart := false }
def CoverJustSaid : Prop := coverJustRow.holds Try.pinned (OpenSpec.ofChange coverJustSpec)

/-- ITS FALSE NEIGHBOUR: 'it returns false'. Refute it at one input. -/
def coverJustWrong : ChangeSpec := { name := "coverJust", fn := fun _ => fun
  | [d1, d2] => { results := [.lit (.bool false)], args := [d1, d2] }
  | _ => none }
def CoverJustWrongFalsely : Prop := coverJustRow.holds Try.pinned (OpenSpec.ofChange coverJustWrong)

/- THE SECOND FORM. 'bulk': how many values and letters a reading holds, each counted each time it is reached (what is shared counts as often as it is met; a slice's spare places count too). A statement '..UptoSaid' is the law's where the arguments, and the package variables that the reading takes, are together of bulk at most 1048576: NARROWER than '..Said'. Prove '..Said' where nothing that the law and all that it calls make is longer than what came in: it says more and counts as full. Else prove '..UptoSaid'. A law counts once. -/
mutual
def uptoBulk {H : Type} : DataW H → Nat
  | .lit (.string bytes) => bytes.length + 1
  | .lit _ => 1
  | .nil => 1
  | .ptr d => uptoBulk d + 1
  | .slice elems spare => uptoBulkAll elems + uptoBulkAll spare + 1
  | .agg parts => uptoBulkAll parts + 1
  | .iface _ d => uptoBulk d + 1
  | .map entries => uptoBulkEntries entries + 1
  | .held _ => 1
def uptoBulkAll {H : Type} : List (DataW H) → Nat
  | [] => 0
  | d :: r => uptoBulk d + uptoBulkAll r
def uptoBulkEntries {H : Type} : List (Lit × DataW H) → Nat
  | [] => 0
  | x :: r => uptoBulkEntry x + uptoBulkEntries r
def uptoBulkEntry {H : Type} : Lit × DataW H → Nat
  | (.string bytes, d) => bytes.length + uptoBulk d + 1
  | (_, d) => uptoBulk d + 1
 end
def uptoSmall : (H : Type) → List (DataW H) → Bool := fun _ ds => decide (uptoBulkAll ds ≤ 1048576)
def OpenSpec.upto (s : _root_.Go.ChangeSpec) : _root_.Go.OpenSpec := { _root_.Go.OpenSpec.ofChange s with cond := some uptoSmall }

/-- 'gazetteerlaw43.MaskTells', WHERE WHAT IT READS IS OF BULK AT MOST 1048576: true; the input reads as it did. -/
def maskTellsUptoRow : OpenClaim := { program := "ytbldhokgbcljjaa", sum := "3acff6e3ccf6116608397c8be4376d151d5eeb6c0468200dd3ab323baadf534f", func := "gazetteer/gazetteerlaw43.MaskTells", spec := "maskTells", unfollowed := true, recurses := true, apart := false, narrowed := true }
def MaskTellsUptoSaid : Prop := maskTellsUptoRow.holds Try.pinned (OpenSpec.upto maskTellsSpec)

/-- 'gazetteerlaw43.MaskMoves', WHERE WHAT IT READS IS OF BULK AT MOST 1048576: true; the input reads as it did. -/
def maskMovesUptoRow : OpenClaim := { program := "ytbldhokgbcljjaa", sum := "3acff6e3ccf6116608397c8be4376d151d5eeb6c0468200dd3ab323baadf534f", func := "gazetteer/gazetteerlaw43.MaskMoves", spec := "maskMoves", unfollowed := true, recurses := true, apart := false, narrowed := true }
def MaskMovesUptoSaid : Prop := maskMovesUptoRow.holds Try.pinned (OpenSpec.upto maskMovesSpec)

/-- 'gazetteerlaw43.MaskPoint', WHERE WHAT IT READS IS OF BULK AT MOST 1048576: true; the input reads as it did. -/
def maskPointUptoRow : OpenClaim := { program := "ytbldhokgbcljjaa", sum := "3acff6e3ccf6116608397c8be4376d151d5eeb6c0468200dd3ab323baadf534f", func := "gazetteer/gazetteerlaw43.MaskPoint", spec := "maskPoint", unfollowed := true, recurses := true, apart := false, narrowed := true }
def MaskPointUptoSaid : Prop := maskPointUptoRow.holds Try.pinned (OpenSpec.upto maskPointSpec)

/-- 'gazetteerlaw43.MaskLaws', WHERE WHAT IT READS IS OF BULK AT MOST 1048576: true; the input reads as it did. -/
def maskLawsUptoRow : OpenClaim := { program := "ytbldhokgbcljjaa", sum := "3acff6e3ccf6116608397c8be4376d151d5eeb6c0468200dd3ab323baadf534f", func := "gazetteer/gazetteerlaw43.MaskLaws", spec := "maskLaws", unfollowed := true, recurses := true, apart := false, narrowed := true }
def MaskLawsUptoSaid : Prop := maskLawsUptoRow.holds Try.pinned (OpenSpec.upto maskLawsSpec)

/-- 'gazetteerlaw43.MaskTiles', WHERE WHAT IT READS IS OF BULK AT MOST 1048576: true; the input reads as it did. -/
def maskTilesUptoRow : OpenClaim := { program := "ytbldhokgbcljjaa", sum := "3acff6e3ccf6116608397c8be4376d151d5eeb6c0468200dd3ab323baadf534f", func := "gazetteer/gazetteerlaw43.MaskTiles", spec := "maskTiles", unfollowed := true, recurses := true, apart := false, narrowed := true }
def MaskTilesUptoSaid : Prop := maskTilesUptoRow.holds Try.pinned (OpenSpec.upto maskTilesSpec)

/-- 'gazetteerlaw05.CoverLists', WHERE WHAT IT READS IS OF BULK AT MOST 1048576: true; the input reads as it did. -/
def coverListsUptoRow : OpenClaim := { program := "ytbldhokgbcljjaa", sum := "3acff6e3ccf6116608397c8be4376d151d5eeb6c0468200dd3ab323baadf534f", func := "gazetteer/gazetteerlaw05.CoverLists", spec := "coverLists", unfollowed := true, recurses := true, apart := false, narrowed := true }
def CoverListsUptoSaid : Prop := coverListsUptoRow.holds Try.pinned (OpenSpec.upto coverListsSpec)

/-- 'gazetteerlaw05.CoverUnion', WHERE WHAT IT READS IS OF BULK AT MOST 1048576: true; the input reads as it did. -/
def coverUnionUptoRow : OpenClaim := { program := "ytbldhokgbcljjaa", sum := "3acff6e3ccf6116608397c8be4376d151d5eeb6c0468200dd3ab323baadf534f", func := "gazetteer/gazetteerlaw05.CoverUnion", spec := "coverUnion", unfollowed := true, recurses := true, apart := false, narrowed := true }
def CoverUnionUptoSaid : Prop := coverUnionUptoRow.holds Try.pinned (OpenSpec.upto coverUnionSpec)

/-- 'gazetteerlaw05.CoverParts', WHERE WHAT IT READS IS OF BULK AT MOST 1048576: true; the input reads as it did. -/
def coverPartsUptoRow : OpenClaim := { program := "ytbldhokgbcljjaa", sum := "3acff6e3ccf6116608397c8be4376d151d5eeb6c0468200dd3ab323baadf534f", func := "gazetteer/gazetteerlaw05.CoverParts", spec := "coverParts", unfollowed := true, recurses := true, apart := false, narrowed := true }
def CoverPartsUptoSaid : Prop := coverPartsUptoRow.holds Try.pinned (OpenSpec.upto coverPartsSpec)

/-- 'gazetteerlaw05.CoverTells', WHERE WHAT IT READS IS OF BULK AT MOST 1048576: true; the input reads as it did. -/
def coverTellsUptoRow : OpenClaim := { program := "ytbldhokgbcljjaa", sum := "3acff6e3ccf6116608397c8be4376d151d5eeb6c0468200dd3ab323baadf534f", func := "gazetteer/gazetteerlaw05.CoverTells", spec := "coverTells", unfollowed := true, recurses := true, apart := false, narrowed := true }
def CoverTellsUptoSaid : Prop := coverTellsUptoRow.holds Try.pinned (OpenSpec.upto coverTellsSpec)

/-- 'gazetteerlaw05.CoverJust', WHERE WHAT IT READS IS OF BULK AT MOST 1048576: true; the input reads as it did. -/
def coverJustUptoRow : OpenClaim := { program := "ytbldhokgbcljjaa", sum := "3acff6e3ccf6116608397c8be4376d151d5eeb6c0468200dd3ab323baadf534f", func := "gazetteer/gazetteerlaw05.CoverJust", spec := "coverJust", unfollowed := true, recurses := true, apart := false, narrowed := true }
def CoverJustUptoSaid : Prop := coverJustUptoRow.holds Try.pinned (OpenSpec.upto coverJustSpec)

end Rows
end Go.Proofs.Ytbldhokgbcljjaa
