/-
  No cell of these rows narrows 'for every input' (looked for: loops, veiled, ifaces, maps, wideKeys, modest, calm, conditions, laid).
  DERIVED. THE GIVEN ROWS OF THIS SEAT. 4 by the template 'for every input the law returns true; each argument reads behind the call as it read before'; 0 by the template 'total and deterministic' (their statements: YtoadkdlhbmmdlaaTotals.lean).
  GIVEN WITH THE SEED: the statements are not yours to turn. If you find one false, say at which input.
  Laid BY PROGRAM, IN A SANDBOX (cutbox-rows.mjs): the forced cells as the released guide's own fill.sh prints them over the translation 143441fd65520edb… (all of the seat's roots in one cut). By AI agents, Wed Nov 11 2026. No macro, syntax, notation, axiom, sorry.
-/
import Derived.Test.YtoadkdlhbmmdlaaChecked
import GoSem.Claim
import GoSem.ClaimJoined
import GoSem.ClaimMapViews
import Derived.JoinedTies
import Derived.KernelRfl
namespace Go.Proofs.Ytoadkdlhbmmdlaa
/- THE CELL 'sum', in the pinned program and in every row, IS THE sha256 OF THE DUMP (.gsa) THAT YtoadkdlhbmmdlaaProg.lean LOADS. Nothing in Lean hashes anything: it is a label: what it is worth is what the hold of that sum in a sandbox is worth. -/
noncomputable def Try.pinned : Pinned := { name := "ytoadkdlhbmmdlaa", sum := "143441fd65520edb62cae64ab8b6196370c7abdb937a350f28ea6dbd4561c972", checked := Try.checked }
namespace Rows
def none {H : Type} : Left H := { results := [], args := [] }

/-- 'gazetteerlaw31.LruRoom': WHATEVER THE INPUT: true; the input reads as it did. -/
def lruRoomSpec : ChangeSpec := { name := "lruRoom", fn := fun _ => fun
  | [d1, d2] => { results := [.lit (.bool true)], args := [d1, d2] }
  | _ => none }
def lruRoomRow : OpenClaim := { program := "ytoadkdlhbmmdlaa", sum := "143441fd65520edb62cae64ab8b6196370c7abdb937a350f28ea6dbd4561c972", func := "gazetteer/gazetteerlaw31.LruRoom", spec := "lruRoom", plainKeys := false, apart := false }
def LruRoomSaid : Prop := lruRoomRow.holds Try.pinned (OpenSpec.ofChange lruRoomSpec)

/-- ITS FALSE NEIGHBOUR: 'it returns false'. Refute it at one input. -/
def lruRoomWrong : ChangeSpec := { name := "lruRoom", fn := fun _ => fun
  | [d1, d2] => { results := [.lit (.bool false)], args := [d1, d2] }
  | _ => none }
def LruRoomWrongFalsely : Prop := lruRoomRow.holds Try.pinned (OpenSpec.ofChange lruRoomWrong)

/-- 'gazetteerlaw31.LruKeeps': WHATEVER THE INPUT: true; the input reads as it did. -/
def lruKeepsSpec : ChangeSpec := { name := "lruKeeps", fn := fun _ => fun
  | [d1, d2] => { results := [.lit (.bool true)], args := [d1, d2] }
  | _ => none }
def lruKeepsRow : OpenClaim := { program := "ytoadkdlhbmmdlaa", sum := "143441fd65520edb62cae64ab8b6196370c7abdb937a350f28ea6dbd4561c972", func := "gazetteer/gazetteerlaw31.LruKeeps", spec := "lruKeeps", plainKeys := false, apart := false }
def LruKeepsSaid : Prop := lruKeepsRow.holds Try.pinned (OpenSpec.ofChange lruKeepsSpec)

/-- ITS FALSE NEIGHBOUR: 'it returns false'. Refute it at one input. -/
def lruKeepsWrong : ChangeSpec := { name := "lruKeeps", fn := fun _ => fun
  | [d1, d2] => { results := [.lit (.bool false)], args := [d1, d2] }
  | _ => none }
def LruKeepsWrongFalsely : Prop := lruKeepsRow.holds Try.pinned (OpenSpec.ofChange lruKeepsWrong)

/-- 'gazetteerlaw31.LruForks': WHATEVER THE INPUT: true; the input reads as it did. -/
def lruForksSpec : ChangeSpec := { name := "lruForks", fn := fun _ => fun
  | [d1, d2, d3] => { results := [.lit (.bool true)], args := [d1, d2, d3] }
  | _ => none }
def lruForksRow : OpenClaim := { program := "ytoadkdlhbmmdlaa", sum := "143441fd65520edb62cae64ab8b6196370c7abdb937a350f28ea6dbd4561c972", func := "gazetteer/gazetteerlaw31.LruForks", spec := "lruForks", inPlace := ["maps.clone"], plainKeys := false, apart := false }
def LruForksSaid : Prop := lruForksRow.holds Try.pinned (OpenSpec.ofChange lruForksSpec)

/-- ITS FALSE NEIGHBOUR: 'it returns false'. Refute it at one input. -/
def lruForksWrong : ChangeSpec := { name := "lruForks", fn := fun _ => fun
  | [d1, d2, d3] => { results := [.lit (.bool false)], args := [d1, d2, d3] }
  | _ => none }
def LruForksWrongFalsely : Prop := lruForksRow.holds Try.pinned (OpenSpec.ofChange lruForksWrong)

/-- 'gazetteerlaw31.LruNobody': WHATEVER THE INPUT: true; the input reads as it did. -/
def lruNobodySpec : ChangeSpec := { name := "lruNobody", fn := fun _ => fun
  | [d1, d2] => { results := [.lit (.bool true)], args := [d1, d2] }
  | _ => none }
def lruNobodyRow : OpenClaim := { program := "ytoadkdlhbmmdlaa", sum := "143441fd65520edb62cae64ab8b6196370c7abdb937a350f28ea6dbd4561c972", func := "gazetteer/gazetteerlaw31.LruNobody", spec := "lruNobody", inPlace := ["maps.clone"], plainKeys := false, apart := false }
def LruNobodySaid : Prop := lruNobodyRow.holds Try.pinned (OpenSpec.ofChange lruNobodySpec)

/-- ITS FALSE NEIGHBOUR: 'it returns false'. Refute it at one input. -/
def lruNobodyWrong : ChangeSpec := { name := "lruNobody", fn := fun _ => fun
  | [d1, d2] => { results := [.lit (.bool false)], args := [d1, d2] }
  | _ => none }
def LruNobodyWrongFalsely : Prop := lruNobodyRow.holds Try.pinned (OpenSpec.ofChange lruNobodyWrong)

/- THE SECOND FORM. 'bulk': how many values and letters a reading holds, each counted each time it is reached (what is shared counts as often as it is met; a slice's spare places count too). A statement '..UptoSaid' is the law's where the arguments, and the package variables that the reading takes, are together of bulk at most 1048576: NARROWER than '..Said'. Prove '..Said' where nothing that the law and all that it calls make is longer than what came in: it says more and counts as full. Else prove '..UptoSaid'. A law counts once. -/
mutual
def uptoBulk {H : Type} : DataW H → Nat
  | .lit (.string bytes) => bytes.length + 1
  | .lit _ => 1
  | .nil => 1
  | .ptr d => uptoBulk d + 1
  | .slice elems spare => uptoBulkAll elems + uptoBulkAll spare + 1
  | .agg parts => uptoBulkAll parts + 1
  | .iface _ d => uptoBulk d + 1
  | .map entries => uptoBulkEntries entries + 1
  | .held _ => 1
def uptoBulkAll {H : Type} : List (DataW H) → Nat
  | [] => 0
  | d :: r => uptoBulk d + uptoBulkAll r
def uptoBulkEntries {H : Type} : List (Lit × DataW H) → Nat
  | [] => 0
  | x :: r => uptoBulkEntry x + uptoBulkEntries r
def uptoBulkEntry {H : Type} : Lit × DataW H → Nat
  | (.string bytes, d) => bytes.length + uptoBulk d + 1
  | (_, d) => uptoBulk d + 1
 end
def uptoSmall : (H : Type) → List (DataW H) → Bool := fun _ ds => decide (uptoBulkAll ds ≤ 1048576)
def OpenSpec.upto (s : _root_.Go.ChangeSpec) : _root_.Go.OpenSpec := { _root_.Go.OpenSpec.ofChange s with cond := some uptoSmall }

/-- 'gazetteerlaw31.LruRoom', WHERE WHAT IT READS IS OF BULK AT MOST 1048576: true; the input reads as it did. -/
def lruRoomUptoRow : OpenClaim := { program := "ytoadkdlhbmmdlaa", sum := "143441fd65520edb62cae64ab8b6196370c7abdb937a350f28ea6dbd4561c972", func := "gazetteer/gazetteerlaw31.LruRoom", spec := "lruRoom", plainKeys := false, apart := false, narrowed := true }
def LruRoomUptoSaid : Prop := lruRoomUptoRow.holds Try.pinned (OpenSpec.upto lruRoomSpec)

/-- 'gazetteerlaw31.LruKeeps', WHERE WHAT IT READS IS OF BULK AT MOST 1048576: true; the input reads as it did. -/
def lruKeepsUptoRow : OpenClaim := { program := "ytoadkdlhbmmdlaa", sum := "143441fd65520edb62cae64ab8b6196370c7abdb937a350f28ea6dbd4561c972", func := "gazetteer/gazetteerlaw31.LruKeeps", spec := "lruKeeps", plainKeys := false, apart := false, narrowed := true }
def LruKeepsUptoSaid : Prop := lruKeepsUptoRow.holds Try.pinned (OpenSpec.upto lruKeepsSpec)

/-- 'gazetteerlaw31.LruForks', WHERE WHAT IT READS IS OF BULK AT MOST 1048576: true; the input reads as it did. -/
def lruForksUptoRow : OpenClaim := { program := "ytoadkdlhbmmdlaa", sum := "143441fd65520edb62cae64ab8b6196370c7abdb937a350f28ea6dbd4561c972", func := "gazetteer/gazetteerlaw31.LruForks", spec := "lruForks", inPlace := ["maps.clone"], plainKeys := false, apart := false, narrowed := true }
def LruForksUptoSaid : Prop := lruForksUptoRow.holds Try.pinned (OpenSpec.upto lruForksSpec)

/-- 'gazetteerlaw31.LruNobody', WHERE WHAT IT READS IS OF BULK AT MOST 1048576: true; the input reads as it did. -/
def lruNobodyUptoRow : OpenClaim := { program := "ytoadkdlhbmmdlaa", sum := "143441fd65520edb62cae64ab8b6196370c7abdb937a350f28ea6dbd4561c972", func := "gazetteer/gazetteerlaw31.LruNobody", spec := "lruNobody", inPlace := ["maps.clone"], plainKeys := false, apart := false, narrowed := true }
def LruNobodyUptoSaid : Prop := lruNobodyUptoRow.holds Try.pinned (OpenSpec.upto lruNobodySpec)

end Rows
end Go.Proofs.Ytoadkdlhbmmdlaa
