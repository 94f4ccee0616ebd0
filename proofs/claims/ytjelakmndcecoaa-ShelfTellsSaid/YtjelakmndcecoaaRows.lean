/-
  No cell of these rows narrows 'for every input' (looked for: loops, veiled, ifaces, maps, wideKeys, modest, calm, conditions, laid).
  DERIVED. THE GIVEN ROWS OF THIS SEAT. 3 by the template 'for every input the law returns true; each argument reads behind the call as it read before'; 0 by the template 'total and deterministic' (their statements: YtjelakmndcecoaaTotals.lean).
  GIVEN WITH THE SEED: the statements are not yours to turn. If you find one false, say at which input.
  Laid BY PROGRAM, IN A SANDBOX (cutbox-rows.mjs): the forced cells as the released guide's own fill.sh prints them over the translation df1833139214a1ad… (all of the seat's roots in one cut). By AI agents, Wed Nov 11 2026. No macro, syntax, notation, axiom, sorry.
-/
import Derived.Test.YtjelakmndcecoaaChecked
import GoSem.Claim
import GoSem.ClaimJoined
import GoSem.ClaimMapViews
import Derived.JoinedTies
import Derived.KernelRfl
namespace Go.Proofs.Ytjelakmndcecoaa
/- THE CELL 'sum', in the pinned program and in every row, IS THE sha256 OF THE DUMP (.gsa) THAT YtjelakmndcecoaaProg.lean LOADS. Nothing in Lean hashes anything: it is a label: what it is worth is what the hold of that sum in a sandbox is worth. -/
noncomputable def Try.pinned : Pinned := { name := "ytjelakmndcecoaa", sum := "df1833139214a1ad40eb709138203e7af6dc13629b4552e8c10b4bd8e987c77e", checked := Try.checked }
namespace Rows
def none {H : Type} : Left H := { results := [], args := [] }

/-- 'gazetteerlaw32.ShelfKeeps': WHATEVER THE INPUT: true; the input reads as it did. -/
def shelfKeepsSpec : ChangeSpec := { name := "shelfKeeps", fn := fun _ => fun
  | [d1, d2] => { results := [.lit (.bool true)], args := [d1, d2] }
  | _ => none }
def shelfKeepsRow : OpenClaim := { program := "ytjelakmndcecoaa", sum := "df1833139214a1ad40eb709138203e7af6dc13629b4552e8c10b4bd8e987c77e", func := "gazetteer/gazetteerlaw32.ShelfKeeps", spec := "shelfKeeps", plainKeys := false, apart := false }
def ShelfKeepsSaid : Prop := shelfKeepsRow.holds Try.pinned (OpenSpec.ofChange shelfKeepsSpec)

/-- ITS FALSE NEIGHBOUR: 'it returns false'. Refute it at one input. -/
def shelfKeepsWrong : ChangeSpec := { name := "shelfKeeps", fn := fun _ => fun
  | [d1, d2] => { results := [.lit (.bool false)], args := [d1, d2] }
  | _ => none }
def ShelfKeepsWrongFalsely : Prop := shelfKeepsRow.holds Try.pinned (OpenSpec.ofChange shelfKeepsWrong)

/-- 'gazetteerlaw32.ShelfTells': WHATEVER THE INPUT: true; the input reads as it did. -/
def shelfTellsSpec : ChangeSpec := { name := "shelfTells", fn := fun _ => fun
  | [d1, d2] => { results := [.lit (.bool true)], args := [d1, d2] }
  | _ => none }
def shelfTellsRow : OpenClaim := { program := "ytjelakmndcecoaa", sum := "df1833139214a1ad40eb709138203e7af6dc13629b4552e8c10b4bd8e987c77e", func := "gazetteer/gazetteerlaw32.ShelfTells", spec := "shelfTells", plainKeys := false, apart := false }
def ShelfTellsSaid : Prop := shelfTellsRow.holds Try.pinned (OpenSpec.ofChange shelfTellsSpec)

/-- ITS FALSE NEIGHBOUR: 'it returns false'. Refute it at one input. -/
def shelfTellsWrong : ChangeSpec := { name := "shelfTells", fn := fun _ => fun
  | [d1, d2] => { results := [.lit (.bool false)], args := [d1, d2] }
  | _ => none }
def ShelfTellsWrongFalsely : Prop := shelfTellsRow.holds Try.pinned (OpenSpec.ofChange shelfTellsWrong)

/-- 'gazetteerlaw32.ShelfForks': WHATEVER THE INPUT: true; the input reads as it did. -/
def shelfForksSpec : ChangeSpec := { name := "shelfForks", fn := fun _ => fun
  | [d1, d2, d3] => { results := [.lit (.bool true)], args := [d1, d2, d3] }
  | _ => none }
def shelfForksRow : OpenClaim := { program := "ytjelakmndcecoaa", sum := "df1833139214a1ad40eb709138203e7af6dc13629b4552e8c10b4bd8e987c77e", func := "gazetteer/gazetteerlaw32.ShelfForks", spec := "shelfForks", inPlace := ["maps.clone"], plainKeys := false, apart := false }
def ShelfForksSaid : Prop := shelfForksRow.holds Try.pinned (OpenSpec.ofChange shelfForksSpec)

/-- ITS FALSE NEIGHBOUR: 'it returns false'. Refute it at one input. -/
def shelfForksWrong : ChangeSpec := { name := "shelfForks", fn := fun _ => fun
  | [d1, d2, d3] => { results := [.lit (.bool false)], args := [d1, d2, d3] }
  | _ => none }
def ShelfForksWrongFalsely : Prop := shelfForksRow.holds Try.pinned (OpenSpec.ofChange shelfForksWrong)

/- THE SECOND FORM. 'bulk': how many values and letters a reading holds, each counted each time it is reached (what is shared counts as often as it is met; a slice's spare places count too). A statement '..UptoSaid' is the law's where the arguments, and the package variables that the reading takes, are together of bulk at most 1048576: NARROWER than '..Said'. Prove '..Said' where nothing that the law and all that it calls make is longer than what came in: it says more and counts as full. Else prove '..UptoSaid'. A law counts once. -/
mutual
def uptoBulk {H : Type} : DataW H → Nat
  | .lit (.string bytes) => bytes.length + 1
  | .lit _ => 1
  | .nil => 1
  | .ptr d => uptoBulk d + 1
  | .slice elems spare => uptoBulkAll elems + uptoBulkAll spare + 1
  | .agg parts => uptoBulkAll parts + 1
  | .iface _ d => uptoBulk d + 1
  | .map entries => uptoBulkEntries entries + 1
  | .held _ => 1
def uptoBulkAll {H : Type} : List (DataW H) → Nat
  | [] => 0
  | d :: r => uptoBulk d + uptoBulkAll r
def uptoBulkEntries {H : Type} : List (Lit × DataW H) → Nat
  | [] => 0
  | x :: r => uptoBulkEntry x + uptoBulkEntries r
def uptoBulkEntry {H : Type} : Lit × DataW H → Nat
  | (.string bytes, d) => bytes.length + uptoBulk d + 1
  | (_, d) => uptoBulk d + 1
 end
def uptoSmall : (H : Type) → List (DataW H) → Bool := fun _ ds => decide (uptoBulkAll ds ≤ 1048576)
def OpenSpec.upto (s : _root_.Go.ChangeSpec) : _root_.Go.OpenSpec := { _root_.Go.OpenSpec.ofChange s with cond := some uptoSmall }

/-- 'gazetteerlaw32.ShelfKeeps', WHERE WHAT IT READS IS OF BULK AT MOST 1048576: true; the input reads as it did. -/
def shelfKeepsUptoRow : OpenClaim := { program := "ytjelakmndcecoaa", sum := "df1833139214a1ad40eb709138203e7af6dc13629b4552e8c10b4bd8e987c77e", func := "gazetteer/gazetteerlaw32.ShelfKeeps", spec := "shelfKeeps", plainKeys := false, apart := false, narrowed := true }
def ShelfKeepsUptoSaid : Prop := shelfKeepsUptoRow.holds Try.pinned (OpenSpec.upto shelfKeepsSpec)

/-- 'gazetteerlaw32.ShelfTells', WHERE WHAT IT READS IS OF BULK AT MOST 1048576: true; the input reads as it did. -/
def shelfTellsUptoRow : OpenClaim := { program := "ytjelakmndcecoaa", sum := "df1833139214a1ad40eb709138203e7af6dc13629b4552e8c10b4bd8e987c77e", func := "gazetteer/gazetteerlaw32.ShelfTells", spec := "shelfTells", plainKeys := false, apart := false, narrowed := true }
def ShelfTellsUptoSaid : Prop := shelfTellsUptoRow.holds Try.pinned (OpenSpec.upto shelfTellsSpec)

/-- 'gazetteerlaw32.ShelfForks', WHERE WHAT IT READS IS OF BULK AT MOST 1048576: true; the input reads as it did. -/
def shelfForksUptoRow : OpenClaim := { program := "ytjelakmndcecoaa", sum := "df1833139214a1ad40eb709138203e7af6dc13629b4552e8c10b4bd8e987c77e", func := "gazetteer/gazetteerlaw32.ShelfForks", spec := "shelfForks", inPlace := ["maps.clone"], plainKeys := false, apart := false, narrowed := true }
def ShelfForksUptoSaid : Prop := shelfForksUptoRow.holds Try.pinned (OpenSpec.upto shelfForksSpec)

end Rows
end Go.Proofs.Ytjelakmndcecoaa
