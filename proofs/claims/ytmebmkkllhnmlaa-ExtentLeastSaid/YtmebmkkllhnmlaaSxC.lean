/- The small logic: calls that hand back a row of their own or what came in; parts of what is only read. No conditions but of lengths. -/
import Derived.Test.YtmebmkkllhnmlaaSxP
import Derived.Test.YtmebmkkllhnmlaaSxS
namespace Go.Proofs.Ytmebmkkllhnmlaa
open Go.RowKit
set_option linter.unusedVariables false
set_option linter.unusedSimpArgs false
set_option linter.unusedSectionVars false
section
variable {P : Program} {N : Frm} {w0 w : World} {Wr : List Nat} {ops : Array Oper} {rest : List Oper} {fr : Fr} {H : Heap} {Z : Fr → Heap → Prop} {d ty : Nat} {pos : String} {after : Array Edge}
/-- A call that hands back a row of its own, if p, or what is there; it is only read from here on. -/
theorem sx_callRow {f : FuncId} {xs : List Operand} {vs : List Value} {ts : Array TypeId} {e : TypeId} {size n n1 n2 c : Nat} {A : Option Addr} {ys zs : List Value} {p : Prop} (mk : Value → Value) (U : Heap)
    (hc : Fn P f vs U fun v H' => ∃ u, v = mk u ∧ ((p ∧ RowOk u n ∧ H' = rowE u e size ys) ∨ (¬ p ∧ u = .slice A n1 c ∧ H' = []))) (hx : evs fr xs = some vs) (hU : U.Sublist H) (hroU : Ro U) (hN : Nat.ble (d + 1) N.n = true)
    (hnew : p → n = n2 ∧ ys = zs) (hold : ¬ p → n1 = n2 ∧ SlIn A n1 c ∧ (roE A zs).Sublist H)
    (h : ∀ A' c', SlIn A' n2 c' → sx P N w0 Wr ops rest ((d, mk (.slice A' n2 c')) :: fr) (roE A' zs ++ H) Z) :
    sx P N w0 Wr ops (⟨some d, .call { callee := .value (.func f), args := xs.toArray, argTypes := ts }, ty, pos, after, none⟩ :: rest) fr H Z :=
  sx_callU U hc hx hU hroU hN (by
    rintro v H' ⟨u, rfl, ⟨hp, hv, rfl⟩ | ⟨hp, rfl, rfl⟩⟩
    · obtain ⟨rfl, rfl⟩ := hnew hp
      rw [rowE_flt]
      have hn : ∀ A c, u = .slice A n c → A = none → c = 0 := fun A c hv2 ha => by
        rcases hv with ⟨h1, _⟩ | ⟨g, c', h1⟩
        · rw [h1] at hv2; injection hv2 with _ _ h3; exact h3.symm
        · rw [h1] at hv2; injection hv2 with h2 _ _; rw [ha] at h2; cases h2
      obtain ⟨A', c', rfl, hA, hle⟩ := hv.ro
      refine sx_pure (fun w hw => row_cap hv (fun x hx => List.mem_append_left _ hx) hw) (fun hcap => ?_)
      exact sx_heap (roE A' ys ++ H) (hle [] H _ _ _) (h A' c' ⟨hA, hcap.1, hn A' c' rfl⟩)
    · obtain ⟨rfl, hA, hs⟩ := hold hp
      exact sx_heap (roE A zs ++ H) ((HLe.swap _ _).trans (HLe.dup hs (Ro.roE _ _))) (h A c hA))
end
/-- Operations that are no calls of functions. -/
def detB2 (ops : Array Oper) (j : Nat) : Bool := detB ops j || match ops[j]? with
  | some o => match o.op with
    | .call c => match c.callee with
      | .builtin .append => true
      | _ => false
    | .makeSlice .. => true
    | .makeMap .. => true
    | .store .. => true
    | _ => false
  | none => false
def manyB2 (l : List Oper) (gs : List Nat) (S : List (List (Nat × Bool))) : Bool :=
  Region.noSelect l.toArray && covB (ancs l) (detB2 l.toArray) gs.length (S.map gsOf) && (S.all fun ls => ordB l (fun i => !gs.contains i) ls && Nat.beq (gsOf ls).length gs.length)
section
variable {P : Program} {Q : Exit → Act → World → Prop} {C : World → Prop}
end
end Go.Proofs.Ytmebmkkllhnmlaa
