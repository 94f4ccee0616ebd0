/-
  No cell of these rows narrows 'for every input' (looked for: loops, veiled, ifaces, maps, wideKeys, modest, calm, conditions, laid).
  DERIVED. THE GIVEN ROWS OF THIS SEAT. 5 by the template 'for every input the law returns true; each argument reads behind the call as it read before'; 0 by the template 'total and deterministic' (their statements: YtnnmbmgfjbiejaaTotals.lean).
  GIVEN WITH THE SEED: the statements are not yours to turn. If you find one false, say at which input.
  Laid BY PROGRAM, IN A SANDBOX (cutbox-rows.mjs): the forced cells as the released guide's own fill.sh prints them over the translation d57729636e24d70f… (all of the seat's roots in one cut). By AI agents, Wed Nov 11 2026. No macro, syntax, notation, axiom, sorry.
-/
import Derived.Test.YtnnmbmgfjbiejaaChecked
import GoSem.Claim
import GoSem.ClaimJoined
import GoSem.ClaimMapViews
import Derived.JoinedTies
import Derived.KernelRfl
namespace Go.Proofs.Ytnnmbmgfjbiejaa
/- THE CELL 'sum', in the pinned program and in every row, IS THE sha256 OF THE DUMP (.gsa) THAT YtnnmbmgfjbiejaaProg.lean LOADS. Nothing in Lean hashes anything: it is a label: what it is worth is what the hold of that sum in a sandbox is worth. -/
noncomputable def Try.pinned : Pinned := { name := "ytnnmbmgfjbiejaa", sum := "d57729636e24d70f99f92e01adecda5f2e917088540d53f3918e60fd39b1b3af", checked := Try.checked }
namespace Rows
def none {H : Type} : Left H := { results := [], args := [] }

/-- 'gazetteerlaw01.LittlePuts': WHATEVER THE INPUT: true; the input reads as it did. -/
def littlePutsSpec : ChangeSpec := { name := "littlePuts", fn := fun _ => fun
  | [d1, d2, d3] => { results := [.lit (.bool true)], args := [d1, d2, d3] }
  | _ => none }
def littlePutsRow : OpenClaim := { program := "ytnnmbmgfjbiejaa", sum := "d57729636e24d70f99f92e01adecda5f2e917088540d53f3918e60fd39b1b3af", func := "gazetteer/gazetteerlaw01.LittlePuts", spec := "littlePuts", unfollowed := true, recurses := true, apart := false }
def LittlePutsSaid : Prop := littlePutsRow.holds Try.pinned (OpenSpec.ofChange littlePutsSpec)

/-- ITS FALSE NEIGHBOUR: 'it returns false'. Refute it at one input. -/
def littlePutsWrong : ChangeSpec := { name := "littlePuts", fn := fun _ => fun
  | [d1, d2, d3] => { results := [.lit (.bool false)], args := [d1, d2, d3] }
  | _ => none }
def LittlePutsWrongFalsely : Prop := littlePutsRow.holds Try.pinned (OpenSpec.ofChange littlePutsWrong)

/-- 'gazetteerlaw01.LittleTakes': WHATEVER THE INPUT: true; the input reads as it did. -/
def littleTakesSpec : ChangeSpec := { name := "littleTakes", fn := fun _ => fun
  | [d1, d2] => { results := [.lit (.bool true)], args := [d1, d2] }
  | _ => none }
def littleTakesRow : OpenClaim := { program := "ytnnmbmgfjbiejaa", sum := "d57729636e24d70f99f92e01adecda5f2e917088540d53f3918e60fd39b1b3af", func := "gazetteer/gazetteerlaw01.LittleTakes", spec := "littleTakes", unfollowed := true, recurses := true, apart := false }
def LittleTakesSaid : Prop := littleTakesRow.holds Try.pinned (OpenSpec.ofChange littleTakesSpec)

/-- ITS FALSE NEIGHBOUR: 'it returns false'. Refute it at one input. -/
def littleTakesWrong : ChangeSpec := { name := "littleTakes", fn := fun _ => fun
  | [d1, d2] => { results := [.lit (.bool false)], args := [d1, d2] }
  | _ => none }
def LittleTakesWrongFalsely : Prop := littleTakesRow.holds Try.pinned (OpenSpec.ofChange littleTakesWrong)

/-- 'gazetteerlaw01.LittleSigns': WHATEVER THE INPUT: true; the input reads as it did. -/
def littleSignsSpec : ChangeSpec := { name := "littleSigns", fn := fun _ => fun
  | [d1, d2, d3] => { results := [.lit (.bool true)], args := [d1, d2, d3] }
  | _ => none }
def littleSignsRow : OpenClaim := { program := "ytnnmbmgfjbiejaa", sum := "d57729636e24d70f99f92e01adecda5f2e917088540d53f3918e60fd39b1b3af", func := "gazetteer/gazetteerlaw01.LittleSigns", spec := "littleSigns", unfollowed := true, recurses := true, apart := false }
def LittleSignsSaid : Prop := littleSignsRow.holds Try.pinned (OpenSpec.ofChange littleSignsSpec)

/-- ITS FALSE NEIGHBOUR: 'it returns false'. Refute it at one input. -/
def littleSignsWrong : ChangeSpec := { name := "littleSigns", fn := fun _ => fun
  | [d1, d2, d3] => { results := [.lit (.bool false)], args := [d1, d2, d3] }
  | _ => none }
def LittleSignsWrongFalsely : Prop := littleSignsRow.holds Try.pinned (OpenSpec.ofChange littleSignsWrong)

/-- 'gazetteerlaw01.LittleBack': WHATEVER THE INPUT: true; the input reads as it did. -/
def littleBackSpec : ChangeSpec := { name := "littleBack", fn := fun _ => fun
  | [d1, d2] => { results := [.lit (.bool true)], args := [d1, d2] }
  | _ => none }
def littleBackRow : OpenClaim := { program := "ytnnmbmgfjbiejaa", sum := "d57729636e24d70f99f92e01adecda5f2e917088540d53f3918e60fd39b1b3af", func := "gazetteer/gazetteerlaw01.LittleBack", spec := "littleBack", unfollowed := true, recurses := true, apart := false }
def LittleBackSaid : Prop := littleBackRow.holds Try.pinned (OpenSpec.ofChange littleBackSpec)

/-- ITS FALSE NEIGHBOUR: 'it returns false'. Refute it at one input. -/
def littleBackWrong : ChangeSpec := { name := "littleBack", fn := fun _ => fun
  | [d1, d2] => { results := [.lit (.bool false)], args := [d1, d2] }
  | _ => none }
def LittleBackWrongFalsely : Prop := littleBackRow.holds Try.pinned (OpenSpec.ofChange littleBackWrong)

/-- 'gazetteerlaw01.LittleTurns': WHATEVER THE INPUT: true; the input reads as it did. -/
def littleTurnsSpec : ChangeSpec := { name := "littleTurns", fn := fun _ => fun
  | [d1, d2, d3] => { results := [.lit (.bool true)], args := [d1, d2, d3] }
  | _ => none }
def littleTurnsRow : OpenClaim := { program := "ytnnmbmgfjbiejaa", sum := "d57729636e24d70f99f92e01adecda5f2e917088540d53f3918e60fd39b1b3af", func := "gazetteer/gazetteerlaw01.LittleTurns", spec := "littleTurns", unfollowed := true, recurses := true, apart := false }
def LittleTurnsSaid : Prop := littleTurnsRow.holds Try.pinned (OpenSpec.ofChange littleTurnsSpec)

/-- ITS FALSE NEIGHBOUR: 'it returns false'. Refute it at one input. -/
def littleTurnsWrong : ChangeSpec := { name := "littleTurns", fn := fun _ => fun
  | [d1, d2, d3] => { results := [.lit (.bool false)], args := [d1, d2, d3] }
  | _ => none }
def LittleTurnsWrongFalsely : Prop := littleTurnsRow.holds Try.pinned (OpenSpec.ofChange littleTurnsWrong)

/- THE SECOND FORM. 'bulk': how many values and letters a reading holds, each counted each time it is reached (what is shared counts as often as it is met; a slice's spare places count too). A statement '..UptoSaid' is the law's where the arguments, and the package variables that the reading takes, are together of bulk at most 1048576: NARROWER than '..Said'. Prove '..Said' where nothing that the law and all that it calls make is longer than what came in: it says more and counts as full. Else prove '..UptoSaid'. A law counts once. -/
mutual
def uptoBulk {H : Type} : DataW H → Nat
  | .lit (.string bytes) => bytes.length + 1
  | .lit _ => 1
  | .nil => 1
  | .ptr d => uptoBulk d + 1
  | .slice elems spare => uptoBulkAll elems + uptoBulkAll spare + 1
  | .agg parts => uptoBulkAll parts + 1
  | .iface _ d => uptoBulk d + 1
  | .map entries => uptoBulkEntries entries + 1
  | .held _ => 1
def uptoBulkAll {H : Type} : List (DataW H) → Nat
  | [] => 0
  | d :: r => uptoBulk d + uptoBulkAll r
def uptoBulkEntries {H : Type} : List (Lit × DataW H) → Nat
  | [] => 0
  | x :: r => uptoBulkEntry x + uptoBulkEntries r
def uptoBulkEntry {H : Type} : Lit × DataW H → Nat
  | (.string bytes, d) => bytes.length + uptoBulk d + 1
  | (_, d) => uptoBulk d + 1
 end
def uptoSmall : (H : Type) → List (DataW H) → Bool := fun _ ds => decide (uptoBulkAll ds ≤ 1048576)
def OpenSpec.upto (s : _root_.Go.ChangeSpec) : _root_.Go.OpenSpec := { _root_.Go.OpenSpec.ofChange s with cond := some uptoSmall }

/-- 'gazetteerlaw01.LittlePuts', WHERE WHAT IT READS IS OF BULK AT MOST 1048576: true; the input reads as it did. -/
def littlePutsUptoRow : OpenClaim := { program := "ytnnmbmgfjbiejaa", sum := "d57729636e24d70f99f92e01adecda5f2e917088540d53f3918e60fd39b1b3af", func := "gazetteer/gazetteerlaw01.LittlePuts", spec := "littlePuts", unfollowed := true, recurses := true, apart := false, narrowed := true }
def LittlePutsUptoSaid : Prop := littlePutsUptoRow.holds Try.pinned (OpenSpec.upto littlePutsSpec)

/-- 'gazetteerlaw01.LittleTakes', WHERE WHAT IT READS IS OF BULK AT MOST 1048576: true; the input reads as it did. -/
def littleTakesUptoRow : OpenClaim := { program := "ytnnmbmgfjbiejaa", sum := "d57729636e24d70f99f92e01adecda5f2e917088540d53f3918e60fd39b1b3af", func := "gazetteer/gazetteerlaw01.LittleTakes", spec := "littleTakes", unfollowed := true, recurses := true, apart := false, narrowed := true }
def LittleTakesUptoSaid : Prop := littleTakesUptoRow.holds Try.pinned (OpenSpec.upto littleTakesSpec)

/-- 'gazetteerlaw01.LittleSigns', WHERE WHAT IT READS IS OF BULK AT MOST 1048576: true; the input reads as it did. -/
def littleSignsUptoRow : OpenClaim := { program := "ytnnmbmgfjbiejaa", sum := "d57729636e24d70f99f92e01adecda5f2e917088540d53f3918e60fd39b1b3af", func := "gazetteer/gazetteerlaw01.LittleSigns", spec := "littleSigns", unfollowed := true, recurses := true, apart := false, narrowed := true }
def LittleSignsUptoSaid : Prop := littleSignsUptoRow.holds Try.pinned (OpenSpec.upto littleSignsSpec)

/-- 'gazetteerlaw01.LittleBack', WHERE WHAT IT READS IS OF BULK AT MOST 1048576: true; the input reads as it did. -/
def littleBackUptoRow : OpenClaim := { program := "ytnnmbmgfjbiejaa", sum := "d57729636e24d70f99f92e01adecda5f2e917088540d53f3918e60fd39b1b3af", func := "gazetteer/gazetteerlaw01.LittleBack", spec := "littleBack", unfollowed := true, recurses := true, apart := false, narrowed := true }
def LittleBackUptoSaid : Prop := littleBackUptoRow.holds Try.pinned (OpenSpec.upto littleBackSpec)

/-- 'gazetteerlaw01.LittleTurns', WHERE WHAT IT READS IS OF BULK AT MOST 1048576: true; the input reads as it did. -/
def littleTurnsUptoRow : OpenClaim := { program := "ytnnmbmgfjbiejaa", sum := "d57729636e24d70f99f92e01adecda5f2e917088540d53f3918e60fd39b1b3af", func := "gazetteer/gazetteerlaw01.LittleTurns", spec := "littleTurns", unfollowed := true, recurses := true, apart := false, narrowed := true }
def LittleTurnsUptoSaid : Prop := littleTurnsUptoRow.holds Try.pinned (OpenSpec.upto littleTurnsSpec)

end Rows
end Go.Proofs.Ytnnmbmgfjbiejaa
