/- The small logic: a text's bytes appended to a row of bytes. No conditions but of lengths. -/
import Derived.Test.YtjelakmndcecoaaSxX
import Derived.Lib.AppendStr
namespace Go.Proofs.Ytjelakmndcecoaa
open Go.RowKit Go.Lib
set_option linter.unusedVariables false
set_option linter.unusedSimpArgs false
set_option linter.unusedSectionVars false
section
variable {P : Program} {N : Frm} {w0 w : World} {Wr : List Nat} {ops : Array Oper} {rest : List Oper} {fr : Fr} {H : Heap} {Z : Fr → Heap → Prop} {d ty : Nat} {pos : String} {after : Array Edge}
theorem Sat.callV {w' : World} {H' : Heap} (hw : Sat w0 Wr H w) (h3 : Sat w [] H' w') : Sat w0 Wr (H'.filter Ent.wr ++ H) w' := by
  have hH := hw.bel h3.only.bel
  have hfr : ∀ e ∈ H'.filter Ent.wr, w.heap.size ≤ e.g := fun e he => by
    obtain ⟨h1, h2⟩ := List.mem_filter.1 he
    rcases (h3.ents e h1).2 h2 with h | h
    · cases h
    · exact h
  refine ⟨hH.only, fun e he => ?_, List.pairwise_append.2 ⟨h3.sep.sublist (List.filter_sublist), hw.sep, fun a ha b hb _ => ?_⟩⟩
  · rcases List.mem_append.1 he with he | he
    · exact ⟨(h3.ents e (List.mem_filter.1 he).1).1, fun _ => .inr (Nat.le_trans hw.only.size (hfr e he))⟩
    · exact hH.ents e he
  · have h1 := hfr a ha
    have h2 := Ent.lt (hw.ents b hb).1
    omega
/-- A call that only reads what a view of the memory tells, and makes memory. -/
theorem sx_callVU {f : FuncId} {xs : List Operand} {vs : List Value} {ts : Array TypeId} {dst : Option Nat} {R : Value → Heap → Prop} (U : Heap) (hc : Fn P f vs U R) (hx : evs fr xs = some vs) (hU : HLe U H) (hroU : Ro U) (hN : dstB N dst = true)
    (h : ∀ v H', R v H' → sx P N w0 Wr ops rest (match dst with | some d => (d, v) :: fr | none => fr) (H'.filter Ent.wr ++ H) Z) :
    sx P N w0 Wr ops (⟨dst, .call { callee := .value (.func f), args := xs.toArray, argTypes := ts }, ty, pos, after, none⟩ :: rest) fr H Z :=
  sx_callW (R := fun u H2 => ∃ H', R u H' ∧ H2 = H'.filter Ent.wr ++ H) hc.1 hx hN (fun w hw => by
    have hpre : Sat w (wrs U) U w := (hU _ _ _ hw).base
    exact (hc.2 w hpre).mono fun e w' he => by
      obtain ⟨u, H', h1, h2, h3⟩ := he
      have h0 : wrs U = [] := by have := hroU.wrs []; simpa [wrs] using this
      rw [h0] at h3
      exact ⟨u, _, h1, ⟨H', h2, rfl⟩, hw.callV h3⟩) (fun u H2 hR => by obtain ⟨H', hR, rfl⟩ := hR; exact h u H' hR)
end
theorem row_view {A : Option Addr} {n c : Nat} (hle : ∀ (X Y : Heap) (t : TypeId) (size : Nat) (xs : List Value), HLe (X ++ (roE A xs ++ Y)) (X ++ (rowE (.slice A n c) t size xs ++ Y))) (X : Heap) (t : TypeId) (size : Nat) (xs : List Value) : HLe (roE A xs) (X ++ rowE (.slice A n c) t size xs) := by
  have h := hle X [] t size xs
  simp only [List.append_nil] at h
  exact (HLe.sub (List.sublist_append_right X _)).trans h
end Go.Proofs.Ytjelakmndcecoaa
