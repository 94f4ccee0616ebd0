/- Intervals in memory. No conditions. -/
import Derived.Test.YtbldhokgbcljjaaTy
import Derived.Test.YtbldhokgbcljjaaGsx5
import Derived.Test.YtbldhokgbcljjaaGop2
import Derived.Test.YtbldhokgbcljjaaSxZ
import Derived.Test.YtbldhokgbcljjaaSxX
import Derived.Test.YtbldhokgbcljjaaSxS
import Derived.Test.YtbldhokgbcljjaaMk2
namespace Go.Proofs.Ytbldhokgbcljjaa
open Go.RowKit
set_option linter.unusedVariables false
set_option linter.unusedSimpArgs false
abbrev Sp.cells (e : Sp) : List Value := [uq e.a, uq e.b]
abbrev Sp.val (e : Sp) : Value := .agg e.cells.toArray
abbrev scells (L : List Sp) : List Value := L.flatMap Sp.cells
theorem spn_len (e : Sp) : e.cells.length = 2 := rfl
theorem scells_len (L : List Sp) : (scells L).length = L.length * 2 := fm_len spn_len L
theorem scells_all {L : List Sp} {i : Nat} {x : Sp} (h : L[i]? = some x) : rdV true 2 (scells L) (i * 2) = some x.val := fm_rd spn_len h
theorem scells_a {L : List Sp} {i : Nat} {x : Sp} (h : L[i]? = some x) : rdV false 1 (scells L) (i * 2) = some (uq x.a) := by have := fm_rd1 (j := 0) spn_len h rfl; simpa using this
theorem scells_b {L : List Sp} {i : Nat} {x : Sp} (h : L[i]? = some x) : rdV false 1 (scells L) (i * 2 + 1) = some (uq x.b) := fm_rd1 (j := 1) spn_len h rfl
theorem scells_one (L : List Sp) : (scells L).all Value.oneCell' = true := List.all_eq_true.2 fun v hv => by
  obtain ⟨e, _, he⟩ := List.mem_flatMap.1 hv
  simp only [Sp.cells, List.mem_cons, List.not_mem_nil, or_false] at he
  rcases he with rfl | rfl <;> rfl
theorem scells_take {L : List Sp} {k : Nat} {x : Sp} (h : L[k]? = some x) : scells (L.take (k + 1)) = scells (L.take k) ++ x.cells := fm_take h
theorem scells_app (a b : List Sp) : scells (a ++ b) = scells a ++ scells b := List.flatMap_append
theorem scells_drop {L : List Sp} {i : Nat} : (scells L).drop (i * 2) = scells (L.drop i) := fm_drop spn_len L i
theorem scells_setb {L : List Sp} {k : Nat} {e : Sp} (h : L[k]? = some e) (y : Nat) : (scells L).set (k * 2 + 1) (uq y) = scells (L.set k { e with b := y }) := fm_set (x := e) (y := { e with b := y }) (j := 1) spn_len rfl (by omega) h
theorem scells_seta {L : List Sp} {k : Nat} {e : Sp} (h : L[k]? = some e) (y : Nat) : (scells L).set (k * 2) (uq y) = scells (L.set k { e with a := y }) := by have := fm_set (x := e) (y := { e with a := y }) (j := 0) (v := uq y) spn_len rfl (by omega) h; simpa using this
theorem elemSp : ElemOk Try.prog 24 43 2 16 := ElemOk.mk_ (z := .agg #[uq 0, uq 0]) Try.underlying24 (by kernel_rfl) rfl (by omega)
theorem elemSpR : ElemOk Try.prog 22 75 2 16 := ElemOk.mk_ (z := .agg #[uq 0, uq 0]) Try.underlying22 (by kernel_rfl) rfl (by omega)
/-- The numbers are ones of 64 bits. -/
def SpsOk (L : List Sp) : Prop := ∀ s ∈ L, s.a < 18446744073709551616 ∧ s.b < 18446744073709551616
def spq (x y : Sp) : Bool := (x.a == y.a) && (x.b == y.b)
theorem spq_iff {x y : Sp} : spq x y = true ↔ x = y := by
  cases x; cases y
  simp [spq]
end Go.Proofs.Ytbldhokgbcljjaa
