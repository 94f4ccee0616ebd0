/-
  No cell of these rows narrows 'for every input' (looked for: loops, veiled, ifaces, maps, wideKeys, modest, calm, conditions, laid).
  DERIVED. THE GIVEN ROWS OF THIS SEAT. 5 by the template 'for every input the law returns true; each argument reads behind the call as it read before'; 0 by the template 'total and deterministic' (their statements: YtmebmkkllhnmlaaTotals.lean).
  GIVEN WITH THE SEED: the statements are not yours to turn. If you find one false, say at which input.
  Laid BY PROGRAM, IN A SANDBOX (cutbox-rows.mjs): the forced cells as the released guide's own fill.sh prints them over the translation d3b04f7e3cd6b349… (all of the seat's roots in one cut). By AI agents, Wed Nov 11 2026. No macro, syntax, notation, axiom, sorry.
-/
import Derived.Test.YtmebmkkllhnmlaaChecked
import GoSem.Claim
import GoSem.ClaimJoined
import GoSem.ClaimMapViews
import Derived.JoinedTies
import Derived.KernelRfl
namespace Go.Proofs.Ytmebmkkllhnmlaa
/- THE CELL 'sum', in the pinned program and in every row, IS THE sha256 OF THE DUMP (.gsa) THAT YtmebmkkllhnmlaaProg.lean LOADS. Nothing in Lean hashes anything: it is a label: what it is worth is what the hold of that sum in a sandbox is worth. -/
noncomputable def Try.pinned : Pinned := { name := "ytmebmkkllhnmlaa", sum := "d3b04f7e3cd6b3493f434a5d3f8ece3b8bb6bc18fb94ac60a7eac8cd6c1b0278", checked := Try.checked }
namespace Rows
def none {H : Type} : Left H := { results := [], args := [] }

/-- 'gazetteerlaw44.ExtentTells': WHATEVER THE INPUT: true; the input reads as it did. -/
def extentTellsSpec : ChangeSpec := { name := "extentTells", fn := fun _ => fun
  | [d1, d2, d3] => { results := [.lit (.bool true)], args := [d1, d2, d3] }
  | _ => none }
def extentTellsRow : OpenClaim := { program := "ytmebmkkllhnmlaa", sum := "d3b04f7e3cd6b3493f434a5d3f8ece3b8bb6bc18fb94ac60a7eac8cd6c1b0278", func := "gazetteer/gazetteerlaw44.ExtentTells", spec := "extentTells", unfollowed := true, recurses := true, plainKeys := false, apart := false }
def ExtentTellsSaid : Prop := extentTellsRow.holds Try.pinned (OpenSpec.ofChange extentTellsSpec)

/-- ITS FALSE NEIGHBOUR: 'it returns false'. Refute it at one input. -/
def extentTellsWrong : ChangeSpec := { name := "extentTells", fn := fun _ => fun
  | [d1, d2, d3] => { results := [.lit (.bool false)], args := [d1, d2, d3] }
  | _ => none }
def ExtentTellsWrongFalsely : Prop := extentTellsRow.holds Try.pinned (OpenSpec.ofChange extentTellsWrong)

/-- 'gazetteerlaw44.ExtentHoles': WHATEVER THE INPUT: true; the input reads as it did. -/
def extentHolesSpec : ChangeSpec := { name := "extentHoles", fn := fun _ => fun
  | [d1, d2, d3] => { results := [.lit (.bool true)], args := [d1, d2, d3] }
  | _ => none }
def extentHolesRow : OpenClaim := { program := "ytmebmkkllhnmlaa", sum := "d3b04f7e3cd6b3493f434a5d3f8ece3b8bb6bc18fb94ac60a7eac8cd6c1b0278", func := "gazetteer/gazetteerlaw44.ExtentHoles", spec := "extentHoles", unfollowed := true, recurses := true, plainKeys := false, apart := false }
def ExtentHolesSaid : Prop := extentHolesRow.holds Try.pinned (OpenSpec.ofChange extentHolesSpec)

/-- ITS FALSE NEIGHBOUR: 'it returns false'. Refute it at one input. -/
def extentHolesWrong : ChangeSpec := { name := "extentHoles", fn := fun _ => fun
  | [d1, d2, d3] => { results := [.lit (.bool false)], args := [d1, d2, d3] }
  | _ => none }
def ExtentHolesWrongFalsely : Prop := extentHolesRow.holds Try.pinned (OpenSpec.ofChange extentHolesWrong)

/-- 'gazetteerlaw44.ExtentHole': WHATEVER THE INPUT: true; the input reads as it did. -/
def extentHoleSpec : ChangeSpec := { name := "extentHole", fn := fun _ => fun
  | [d1, d2, d3] => { results := [.lit (.bool true)], args := [d1, d2, d3] }
  | _ => none }
def extentHoleRow : OpenClaim := { program := "ytmebmkkllhnmlaa", sum := "d3b04f7e3cd6b3493f434a5d3f8ece3b8bb6bc18fb94ac60a7eac8cd6c1b0278", func := "gazetteer/gazetteerlaw44.ExtentHole", spec := "extentHole", unfollowed := true, recurses := true, plainKeys := false, apart := false }
def ExtentHoleSaid : Prop := extentHoleRow.holds Try.pinned (OpenSpec.ofChange extentHoleSpec)

/-- ITS FALSE NEIGHBOUR: 'it returns false'. Refute it at one input. -/
def extentHoleWrong : ChangeSpec := { name := "extentHole", fn := fun _ => fun
  | [d1, d2, d3] => { results := [.lit (.bool false)], args := [d1, d2, d3] }
  | _ => none }
def ExtentHoleWrongFalsely : Prop := extentHoleRow.holds Try.pinned (OpenSpec.ofChange extentHoleWrong)

/-- 'gazetteerlaw44.ExtentAbove': WHATEVER THE INPUT: true; the input reads as it did. -/
def extentAboveSpec : ChangeSpec := { name := "extentAbove", fn := fun _ => fun
  | [d1, d2] => { results := [.lit (.bool true)], args := [d1, d2] }
  | _ => none }
def extentAboveRow : OpenClaim := { program := "ytmebmkkllhnmlaa", sum := "d3b04f7e3cd6b3493f434a5d3f8ece3b8bb6bc18fb94ac60a7eac8cd6c1b0278", func := "gazetteer/gazetteerlaw44.ExtentAbove", spec := "extentAbove", unfollowed := true, recurses := true, plainKeys := false, apart := false }
def ExtentAboveSaid : Prop := extentAboveRow.holds Try.pinned (OpenSpec.ofChange extentAboveSpec)

/-- ITS FALSE NEIGHBOUR: 'it returns false'. Refute it at one input. -/
def extentAboveWrong : ChangeSpec := { name := "extentAbove", fn := fun _ => fun
  | [d1, d2] => { results := [.lit (.bool false)], args := [d1, d2] }
  | _ => none }
def ExtentAboveWrongFalsely : Prop := extentAboveRow.holds Try.pinned (OpenSpec.ofChange extentAboveWrong)

/-- 'gazetteerlaw44.ExtentLeast': WHATEVER THE INPUT: true; the input reads as it did. -/
def extentLeastSpec : ChangeSpec := { name := "extentLeast", fn := fun _ => fun
  | [d1, d2, d3] => { results := [.lit (.bool true)], args := [d1, d2, d3] }
  | _ => none }
def extentLeastRow : OpenClaim := { program := "ytmebmkkllhnmlaa", sum := "d3b04f7e3cd6b3493f434a5d3f8ece3b8bb6bc18fb94ac60a7eac8cd6c1b0278", func := "gazetteer/gazetteerlaw44.ExtentLeast", spec := "extentLeast", unfollowed := true, recurses := true, plainKeys := false, apart := false }
def ExtentLeastSaid : Prop := extentLeastRow.holds Try.pinned (OpenSpec.ofChange extentLeastSpec)

/-- ITS FALSE NEIGHBOUR: 'it returns false'. Refute it at one input. -/
def extentLeastWrong : ChangeSpec := { name := "extentLeast", fn := fun _ => fun
  | [d1, d2, d3] => { results := [.lit (.bool false)], args := [d1, d2, d3] }
  | _ => none }
def ExtentLeastWrongFalsely : Prop := extentLeastRow.holds Try.pinned (OpenSpec.ofChange extentLeastWrong)

/- THE SECOND FORM. 'bulk': how many values and letters a reading holds, each counted each time it is reached (what is shared counts as often as it is met; a slice's spare places count too). A statement '..UptoSaid' is the law's where the arguments, and the package variables that the reading takes, are together of bulk at most 1048576: NARROWER than '..Said'. Prove '..Said' where nothing that the law and all that it calls make is longer than what came in: it says more and counts as full. Else prove '..UptoSaid'. A law counts once. -/
mutual
def uptoBulk {H : Type} : DataW H → Nat
  | .lit (.string bytes) => bytes.length + 1
  | .lit _ => 1
  | .nil => 1
  | .ptr d => uptoBulk d + 1
  | .slice elems spare => uptoBulkAll elems + uptoBulkAll spare + 1
  | .agg parts => uptoBulkAll parts + 1
  | .iface _ d => uptoBulk d + 1
  | .map entries => uptoBulkEntries entries + 1
  | .held _ => 1
def uptoBulkAll {H : Type} : List (DataW H) → Nat
  | [] => 0
  | d :: r => uptoBulk d + uptoBulkAll r
def uptoBulkEntries {H : Type} : List (Lit × DataW H) → Nat
  | [] => 0
  | x :: r => uptoBulkEntry x + uptoBulkEntries r
def uptoBulkEntry {H : Type} : Lit × DataW H → Nat
  | (.string bytes, d) => bytes.length + uptoBulk d + 1
  | (_, d) => uptoBulk d + 1
 end
def uptoSmall : (H : Type) → List (DataW H) → Bool := fun _ ds => decide (uptoBulkAll ds ≤ 1048576)
def OpenSpec.upto (s : _root_.Go.ChangeSpec) : _root_.Go.OpenSpec := { _root_.Go.OpenSpec.ofChange s with cond := some uptoSmall }

/-- 'gazetteerlaw44.ExtentTells', WHERE WHAT IT READS IS OF BULK AT MOST 1048576: true; the input reads as it did. -/
def extentTellsUptoRow : OpenClaim := { program := "ytmebmkkllhnmlaa", sum := "d3b04f7e3cd6b3493f434a5d3f8ece3b8bb6bc18fb94ac60a7eac8cd6c1b0278", func := "gazetteer/gazetteerlaw44.ExtentTells", spec := "extentTells", unfollowed := true, recurses := true, plainKeys := false, apart := false, narrowed := true }
def ExtentTellsUptoSaid : Prop := extentTellsUptoRow.holds Try.pinned (OpenSpec.upto extentTellsSpec)

/-- 'gazetteerlaw44.ExtentHoles', WHERE WHAT IT READS IS OF BULK AT MOST 1048576: true; the input reads as it did. -/
def extentHolesUptoRow : OpenClaim := { program := "ytmebmkkllhnmlaa", sum := "d3b04f7e3cd6b3493f434a5d3f8ece3b8bb6bc18fb94ac60a7eac8cd6c1b0278", func := "gazetteer/gazetteerlaw44.ExtentHoles", spec := "extentHoles", unfollowed := true, recurses := true, plainKeys := false, apart := false, narrowed := true }
def ExtentHolesUptoSaid : Prop := extentHolesUptoRow.holds Try.pinned (OpenSpec.upto extentHolesSpec)

/-- 'gazetteerlaw44.ExtentHole', WHERE WHAT IT READS IS OF BULK AT MOST 1048576: true; the input reads as it did. -/
def extentHoleUptoRow : OpenClaim := { program := "ytmebmkkllhnmlaa", sum := "d3b04f7e3cd6b3493f434a5d3f8ece3b8bb6bc18fb94ac60a7eac8cd6c1b0278", func := "gazetteer/gazetteerlaw44.ExtentHole", spec := "extentHole", unfollowed := true, recurses := true, plainKeys := false, apart := false, narrowed := true }
def ExtentHoleUptoSaid : Prop := extentHoleUptoRow.holds Try.pinned (OpenSpec.upto extentHoleSpec)

/-- 'gazetteerlaw44.ExtentAbove', WHERE WHAT IT READS IS OF BULK AT MOST 1048576: true; the input reads as it did. -/
def extentAboveUptoRow : OpenClaim := { program := "ytmebmkkllhnmlaa", sum := "d3b04f7e3cd6b3493f434a5d3f8ece3b8bb6bc18fb94ac60a7eac8cd6c1b0278", func := "gazetteer/gazetteerlaw44.ExtentAbove", spec := "extentAbove", unfollowed := true, recurses := true, plainKeys := false, apart := false, narrowed := true }
def ExtentAboveUptoSaid : Prop := extentAboveUptoRow.holds Try.pinned (OpenSpec.upto extentAboveSpec)

/-- 'gazetteerlaw44.ExtentLeast', WHERE WHAT IT READS IS OF BULK AT MOST 1048576: true; the input reads as it did. -/
def extentLeastUptoRow : OpenClaim := { program := "ytmebmkkllhnmlaa", sum := "d3b04f7e3cd6b3493f434a5d3f8ece3b8bb6bc18fb94ac60a7eac8cd6c1b0278", func := "gazetteer/gazetteerlaw44.ExtentLeast", spec := "extentLeast", unfollowed := true, recurses := true, plainKeys := false, apart := false, narrowed := true }
def ExtentLeastUptoSaid : Prop := extentLeastUptoRow.holds Try.pinned (OpenSpec.upto extentLeastSpec)

end Rows
end Go.Proofs.Ytmebmkkllhnmlaa
