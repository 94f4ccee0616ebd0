/-
  No cell of these rows narrows 'for every input' (looked for: loops, veiled, ifaces, maps, wideKeys, modest, calm, conditions, laid).
  DERIVED. THE GIVEN ROWS OF THIS SEAT. 5 by the template 'for every input the law returns true; each argument reads behind the call as it read before'; 0 by the template 'total and deterministic' (their statements: YtllclbbjfnipoaaTotals.lean).
  GIVEN WITH THE SEED: the statements are not yours to turn. If you find one false, say at which input.
  Laid BY PROGRAM, IN A SANDBOX (cutbox-rows.mjs): the forced cells as the released guide's own fill.sh prints them over the translation 81920af8c4b24db0… (all of the seat's roots in one cut). By AI agents, Wed Nov 11 2026. No macro, syntax, notation, axiom, sorry.
-/
import Derived.Test.YtllclbbjfnipoaaChecked
import GoSem.Claim
import GoSem.ClaimJoined
import GoSem.ClaimMapViews
import Derived.JoinedTies
import Derived.KernelRfl
namespace Go.Proofs.Ytllclbbjfnipoaa
/- THE CELL 'sum', in the pinned program and in every row, IS THE sha256 OF THE DUMP (.gsa) THAT YtllclbbjfnipoaaProg.lean LOADS. Nothing in Lean hashes anything: it is a label: what it is worth is what the hold of that sum in a sandbox is worth. -/
noncomputable def Try.pinned : Pinned := { name := "ytllclbbjfnipoaa", sum := "81920af8c4b24db0ef5c98f99ac27b943fd71f70f0e27bd1370bbdfc9eb2f5c7", checked := Try.checked }
namespace Rows
def none {H : Type} : Left H := { results := [], args := [] }

/-- 'gazetteerlaw12.ChartDoes': WHATEVER THE INPUT: true; the input reads as it did. -/
def chartDoesSpec : ChangeSpec := { name := "chartDoes", fn := fun _ => fun
  | [d1, d2] => { results := [.lit (.bool true)], args := [d1, d2] }
  | _ => none }
def chartDoesRow : OpenClaim := { program := "ytllclbbjfnipoaa", sum := "81920af8c4b24db0ef5c98f99ac27b943fd71f70f0e27bd1370bbdfc9eb2f5c7", func := "gazetteer/gazetteerlaw12.ChartDoes", spec := "chartDoes", unfollowed := true, recurses := true, apart := false }
def ChartDoesSaid : Prop := chartDoesRow.holds Try.pinned (OpenSpec.ofChange chartDoesSpec)

/-- ITS FALSE NEIGHBOUR: 'it returns false'. Refute it at one input. -/
def chartDoesWrong : ChangeSpec := { name := "chartDoes", fn := fun _ => fun
  | [d1, d2] => { results := [.lit (.bool false)], args := [d1, d2] }
  | _ => none }
def ChartDoesWrongFalsely : Prop := chartDoesRow.holds Try.pinned (OpenSpec.ofChange chartDoesWrong)

/-- 'gazetteerlaw12.ChartMakes': WHATEVER THE INPUT: true; the input reads as it did. -/
def chartMakesSpec : ChangeSpec := { name := "chartMakes", fn := fun _ => fun
  | [d1, d2] => { results := [.lit (.bool true)], args := [d1, d2] }
  | _ => none }
def chartMakesRow : OpenClaim := { program := "ytllclbbjfnipoaa", sum := "81920af8c4b24db0ef5c98f99ac27b943fd71f70f0e27bd1370bbdfc9eb2f5c7", func := "gazetteer/gazetteerlaw12.ChartMakes", spec := "chartMakes", unfollowed := true, recurses := true, apart := false }
def ChartMakesSaid : Prop := chartMakesRow.holds Try.pinned (OpenSpec.ofChange chartMakesSpec)

/-- ITS FALSE NEIGHBOUR: 'it returns false'. Refute it at one input. -/
def chartMakesWrong : ChangeSpec := { name := "chartMakes", fn := fun _ => fun
  | [d1, d2] => { results := [.lit (.bool false)], args := [d1, d2] }
  | _ => none }
def ChartMakesWrongFalsely : Prop := chartMakesRow.holds Try.pinned (OpenSpec.ofChange chartMakesWrong)

/-- 'gazetteerlaw12.ChartOrder': WHATEVER THE INPUT: true; the input reads as it did. -/
def chartOrderSpec : ChangeSpec := { name := "chartOrder", fn := fun _ => fun
  | [d1, d2] => { results := [.lit (.bool true)], args := [d1, d2] }
  | _ => none }
def chartOrderRow : OpenClaim := { program := "ytllclbbjfnipoaa", sum := "81920af8c4b24db0ef5c98f99ac27b943fd71f70f0e27bd1370bbdfc9eb2f5c7", func := "gazetteer/gazetteerlaw12.ChartOrder", spec := "chartOrder", unfollowed := true, recurses := true, apart := false }
def ChartOrderSaid : Prop := chartOrderRow.holds Try.pinned (OpenSpec.ofChange chartOrderSpec)

/-- ITS FALSE NEIGHBOUR: 'it returns false'. Refute it at one input. -/
def chartOrderWrong : ChangeSpec := { name := "chartOrder", fn := fun _ => fun
  | [d1, d2] => { results := [.lit (.bool false)], args := [d1, d2] }
  | _ => none }
def ChartOrderWrongFalsely : Prop := chartOrderRow.holds Try.pinned (OpenSpec.ofChange chartOrderWrong)

/-- 'gazetteerlaw12.ChartEach': WHATEVER THE INPUT: true; the input reads as it did. -/
def chartEachSpec : ChangeSpec := { name := "chartEach", fn := fun _ => fun
  | [d1, d2, d3] => { results := [.lit (.bool true)], args := [d1, d2, d3] }
  | _ => none }
def chartEachRow : OpenClaim := { program := "ytllclbbjfnipoaa", sum := "81920af8c4b24db0ef5c98f99ac27b943fd71f70f0e27bd1370bbdfc9eb2f5c7", func := "gazetteer/gazetteerlaw12.ChartEach", spec := "chartEach", unfollowed := true, recurses := true, apart := false }
def ChartEachSaid : Prop := chartEachRow.holds Try.pinned (OpenSpec.ofChange chartEachSpec)

/-- ITS FALSE NEIGHBOUR: 'it returns false'. Refute it at one input. -/
def chartEachWrong : ChangeSpec := { name := "chartEach", fn := fun _ => fun
  | [d1, d2, d3] => { results := [.lit (.bool false)], args := [d1, d2, d3] }
  | _ => none }
def ChartEachWrongFalsely : Prop := chartEachRow.holds Try.pinned (OpenSpec.ofChange chartEachWrong)

/-- 'gazetteerlaw12.ChartBounds': WHATEVER THE INPUT: true; the input reads as it did. -/
def chartBoundsSpec : ChangeSpec := { name := "chartBounds", fn := fun _ => fun
  | [d1, d2] => { results := [.lit (.bool true)], args := [d1, d2] }
  | _ => none }
def chartBoundsRow : OpenClaim := { program := "ytllclbbjfnipoaa", sum := "81920af8c4b24db0ef5c98f99ac27b943fd71f70f0e27bd1370bbdfc9eb2f5c7", func := "gazetteer/gazetteerlaw12.ChartBounds", spec := "chartBounds", inPlace := ["internal/abi.NoEscape", "internal/bytealg.MakeNoZero"], unfollowed := true, recurses := true, apart := false }
def ChartBoundsSaid : Prop := chartBoundsRow.holds Try.pinned (OpenSpec.ofChange chartBoundsSpec)

/-- ITS FALSE NEIGHBOUR: 'it returns false'. Refute it at one input. -/
def chartBoundsWrong : ChangeSpec := { name := "chartBounds", fn := fun _ => fun
  | [d1, d2] => { results := [.lit (.bool false)], args := [d1, d2] }
  | _ => none }
def ChartBoundsWrongFalsely : Prop := chartBoundsRow.holds Try.pinned (OpenSpec.ofChange chartBoundsWrong)

/- THE SECOND FORM. 'bulk': how many values and letters a reading holds, each counted each time it is reached (what is shared counts as often as it is met; a slice's spare places count too). A statement '..UptoSaid' is the law's where the arguments, and the package variables that the reading takes, are together of bulk at most 1048576: NARROWER than '..Said'. Prove '..Said' where nothing that the law and all that it calls make is longer than what came in: it says more and counts as full. Else prove '..UptoSaid'. A law counts once. -/
mutual
def uptoBulk {H : Type} : DataW H → Nat
  | .lit (.string bytes) => bytes.length + 1
  | .lit _ => 1
  | .nil => 1
  | .ptr d => uptoBulk d + 1
  | .slice elems spare => uptoBulkAll elems + uptoBulkAll spare + 1
  | .agg parts => uptoBulkAll parts + 1
  | .iface _ d => uptoBulk d + 1
  | .map entries => uptoBulkEntries entries + 1
  | .held _ => 1
def uptoBulkAll {H : Type} : List (DataW H) → Nat
  | [] => 0
  | d :: r => uptoBulk d + uptoBulkAll r
def uptoBulkEntries {H : Type} : List (Lit × DataW H) → Nat
  | [] => 0
  | x :: r => uptoBulkEntry x + uptoBulkEntries r
def uptoBulkEntry {H : Type} : Lit × DataW H → Nat
  | (.string bytes, d) => bytes.length + uptoBulk d + 1
  | (_, d) => uptoBulk d + 1
 end
def uptoSmall : (H : Type) → List (DataW H) → Bool := fun _ ds => decide (uptoBulkAll ds ≤ 1048576)
def OpenSpec.upto (s : _root_.Go.ChangeSpec) : _root_.Go.OpenSpec := { _root_.Go.OpenSpec.ofChange s with cond := some uptoSmall }

/-- 'gazetteerlaw12.ChartDoes', WHERE WHAT IT READS IS OF BULK AT MOST 1048576: true; the input reads as it did. -/
def chartDoesUptoRow : OpenClaim := { program := "ytllclbbjfnipoaa", sum := "81920af8c4b24db0ef5c98f99ac27b943fd71f70f0e27bd1370bbdfc9eb2f5c7", func := "gazetteer/gazetteerlaw12.ChartDoes", spec := "chartDoes", unfollowed := true, recurses := true, apart := false, narrowed := true }
def ChartDoesUptoSaid : Prop := chartDoesUptoRow.holds Try.pinned (OpenSpec.upto chartDoesSpec)

/-- 'gazetteerlaw12.ChartMakes', WHERE WHAT IT READS IS OF BULK AT MOST 1048576: true; the input reads as it did. -/
def chartMakesUptoRow : OpenClaim := { program := "ytllclbbjfnipoaa", sum := "81920af8c4b24db0ef5c98f99ac27b943fd71f70f0e27bd1370bbdfc9eb2f5c7", func := "gazetteer/gazetteerlaw12.ChartMakes", spec := "chartMakes", unfollowed := true, recurses := true, apart := false, narrowed := true }
def ChartMakesUptoSaid : Prop := chartMakesUptoRow.holds Try.pinned (OpenSpec.upto chartMakesSpec)

/-- 'gazetteerlaw12.ChartOrder', WHERE WHAT IT READS IS OF BULK AT MOST 1048576: true; the input reads as it did. -/
def chartOrderUptoRow : OpenClaim := { program := "ytllclbbjfnipoaa", sum := "81920af8c4b24db0ef5c98f99ac27b943fd71f70f0e27bd1370bbdfc9eb2f5c7", func := "gazetteer/gazetteerlaw12.ChartOrder", spec := "chartOrder", unfollowed := true, recurses := true, apart := false, narrowed := true }
def ChartOrderUptoSaid : Prop := chartOrderUptoRow.holds Try.pinned (OpenSpec.upto chartOrderSpec)

/-- 'gazetteerlaw12.ChartEach', WHERE WHAT IT READS IS OF BULK AT MOST 1048576: true; the input reads as it did. -/
def chartEachUptoRow : OpenClaim := { program := "ytllclbbjfnipoaa", sum := "81920af8c4b24db0ef5c98f99ac27b943fd71f70f0e27bd1370bbdfc9eb2f5c7", func := "gazetteer/gazetteerlaw12.ChartEach", spec := "chartEach", unfollowed := true, recurses := true, apart := false, narrowed := true }
def ChartEachUptoSaid : Prop := chartEachUptoRow.holds Try.pinned (OpenSpec.upto chartEachSpec)

/-- 'gazetteerlaw12.ChartBounds', WHERE WHAT IT READS IS OF BULK AT MOST 1048576: true; the input reads as it did. -/
def chartBoundsUptoRow : OpenClaim := { program := "ytllclbbjfnipoaa", sum := "81920af8c4b24db0ef5c98f99ac27b943fd71f70f0e27bd1370bbdfc9eb2f5c7", func := "gazetteer/gazetteerlaw12.ChartBounds", spec := "chartBounds", inPlace := ["internal/abi.NoEscape", "internal/bytealg.MakeNoZero"], unfollowed := true, recurses := true, apart := false, narrowed := true }
def ChartBoundsUptoSaid : Prop := chartBoundsUptoRow.holds Try.pinned (OpenSpec.upto chartBoundsSpec)

end Rows
end Go.Proofs.Ytllclbbjfnipoaa
