/- The small logic's steps on parts of slices: a head without room, a tail, an append onto what is full. No conditions. -/
import Derived.Test.YtjelakmndcecoaaSxZ
namespace Go.Proofs.Ytjelakmndcecoaa
open Go.RowKit
set_option linter.unusedVariables false
set_option linter.unusedSimpArgs false
set_option linter.unusedSectionVars false
/-- A slice that came in: what is known of its address. -/
structure SlIn (A : Option Addr) (n c : Nat) : Prop where
  ok : SlOk A n
  cap : n ≤ c
  none : A = Option.none → c = 0
theorem SlIn.arg {A : Option Addr} {n c : Nat} (h : SlIn A n c) : ArgOk A n := h.ok.arg
theorem SlIn.nil {A : Option Addr} {n c : Nat} (h : SlIn A n c) (ha : A = Option.none) : n = 0 := by
  rcases h.ok with ⟨_, h0⟩ | ⟨g, o, h0⟩
  · exact h0
  · rw [ha] at h0; cases h0
/-- A tail's address. -/
def TailA (A : Option Addr) (k size : Nat) (A' : Option Addr) (m : Nat) : Prop := (A = Option.none → A' = Option.none) ∧ (∀ g o, A = some ⟨g, o, Option.none⟩ → ∃ o', A' = some ⟨g, o', Option.none⟩ ∧ (0 < m → o' = o + k * size))
section
variable {P : Program} {N : Frm} {w0 w : World} {Wr : List Nat} {ops : Array Oper} {rest : List Oper} {fr : Fr} {H : Heap} {Z : Fr → Heap → Prop} {d ty : Nat} {pos : String} {after : Array Edge}
end
end Go.Proofs.Ytjelakmndcecoaa
