/- How a struct of plain fields reads, parts within parts. No conditions. How a slice of structs of plain fields reads. No conditions. How an array of plain things reads. No conditions. -/
import Derived.Test.YtahmhcmfeloclaaGreatGop1
import Derived.Test.YtahmhcmfeloclaaGreatGsx4
import Derived.Deep.Slices
namespace Go.Proofs.YtahmhcmfeloclaaGreat
open Go.RowKit Go.ChangeShapes Go.WideShapes Go.ChangeAt Go.Joins
set_option linter.unusedVariables false
set_option linter.unusedSimpArgs false
def Scal : TypeDesc → Value → Prop
  | .bool, v => ∃ b, v = .bool b
  | .int k, v => ∃ n, v = .int k n ∧ (Lit.int k n).wf = true
  | .string, v => ∃ l, v = .string (str l) ∧ l.length ≤ maxLen
  | _, _ => False
def leavesF (lv : TypeId → Option (List TypeDesc)) (sz : TypeId → Nat) : Nat → List Field → Option (List TypeDesc)
  | _, [] => some []
  | off, f :: r => match lv f.type, leavesF lv sz (off + sz f.type) r with
    | some a, some b => bif Nat.beq f.offset off && Nat.beq a.length (sz f.type) then some (a ++ b) else none
    | _, _ => none
/-- What stands in each cell. -/
def leaves (P : Program) : Nat → TypeId → Option (List TypeDesc)
  | 0, _ => none
  | n + 1, t => match P.underlying t with
    | some .bool => some [.bool]
    | some (.int k) => some [.int k]
    | some .string => some [.string]
    | some (.struct fs) => match leavesF (leaves P n) P.cellsOf 0 fs.toList with
      | some L => bif Nat.beq L.length (P.cellsOf t) then some L else none
      | none => none
    | _ => none
inductive Alike : List TypeDesc → List Value → Prop
  | nil : Alike [] []
  | cons {d : TypeDesc} {v : Value} {L : List TypeDesc} {cs : List Value} (h : Scal d v) (t : Alike L cs) : Alike (d :: L) (v :: cs)
theorem Alike.append : ∀ {L M : List TypeDesc} {a b : List Value}, Alike L a → Alike M b → Alike (L ++ M) (a ++ b)
  | [], _, _, _, .nil, h => h
  | _ :: _, _, _, _, .cons h t, k => .cons h (t.append k)
section
variable {H : Type} {enc : TypeId × Value → H} {P : Program} {w : World} {base : Nat} {spare : Nat → Bool} {held : Bool}
end
end Go.Proofs.YtahmhcmfeloclaaGreat

namespace Go.Proofs.YtahmhcmfeloclaaGreat
open Go.RowKit Go.ChangeShapes Go.WideShapes Go.ChangeAt Go.Joins
set_option linter.unusedVariables false
set_option linter.unusedSimpArgs false
theorem Alike.length {L : List TypeDesc} {cs : List Value} (h : Alike L cs) : cs.length = L.length := by
  induction h with
  | nil => rfl
  | cons _ _ ih => simp [ih]
section
variable {H : Type} {enc : TypeId × Value → H} {P : Program} {w : World}
end
end Go.Proofs.YtahmhcmfeloclaaGreat

namespace Go.Proofs.YtahmhcmfeloclaaGreat
open Go.RowKit Go.ChangeShapes Go.WideShapes Go.ChangeAt Go.Joins
set_option linter.unusedVariables false
set_option linter.unusedSimpArgs false
section
variable {H : Type} {enc : TypeId × Value → H} {P : Program} {w : World} {base : Nat} {spare : Nat → Bool} {held : Bool}
end
end Go.Proofs.YtahmhcmfeloclaaGreat
