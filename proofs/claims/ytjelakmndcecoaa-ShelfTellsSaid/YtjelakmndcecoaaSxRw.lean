/- The small logic: cells of rows of one's own stored, cleared; calls of plain functions' values. No conditions. -/
import Derived.Test.YtjelakmndcecoaaSxP
namespace Go.Proofs.Ytjelakmndcecoaa
open Go.RowKit
set_option linter.unusedVariables false
set_option linter.unusedSimpArgs false
set_option linter.unusedSectionVars false
set_option maxRecDepth 100000
/-- One cell of a row of one's own is stored. -/
theorem sx_storeRw {P : Program} {N : Frm} {w0 : World} {Wr : List Nat} {ops : Array Oper} {rest : List Oper} {fr : Fr} {H : Heap} {Z : Fr → Heap → Prop} {ty : Nat} {pos : String} {after : Array Edge}
    (i : Nat) {t : TypeId} {x y : Operand} {g o size n c : Nat} {e : TypeId} {xs ys : List Value} {v : Value} (hx : ev fr x = some (ptr g o)) (hy : ev fr y = some v) (hH : H[i]? = some (.ob g (RowP e size n c xs))) (hn : tySize P t = some 1) (h1 : v.oneCell' = true)
    (hlen : o < n * size) (hys : xs.set o v = ys) {H2 : Heap} (hs : H.set i (.ob g (RowP e size n c ys)) = H2)
    (h : sx P N w0 Wr ops rest fr H2 Z) : sx P N w0 Wr ops (⟨none, .store t x y, ty, pos, after, none⟩ :: rest) fr H Z :=
  sx_do (fun a w ha hw => by
    subst hs
    subst hys
    obtain ⟨ob, hg, cur, rfl, h2, h3, h4, h5, h6⟩ := hw.mem hH
    have hnc : n * size ≤ c * size := Nat.mul_le_mul_right size h2
    have ho : o < cur.size := by omega
    have hc : w.cell? ⟨g, o, none⟩ = some cur[o] := by rw [cell_of_row w g o cur e _ hg]; simp [ho]
    have hf : w.frozen? ⟨g, o, none⟩ = false := by simp [World.frozen?, hg]
    have hst : (store ⟨g, o, none⟩ v).run P w = .ok () (w.setCell ⟨g, o, none⟩ v) := by
      cases v <;> first | (simp [Value.oneCell'] at h1; done) | simp [store, Sem.run, hc, hf]
    refine ⟨w.setCell ⟨g, o, none⟩ v, ?_, hw.turn hH rfl rfl (Only.setCell w g o _) ?_⟩
    · have hsz : v.cells = #[v] := by cases v <;> first | rfl | (simp [Value.oneCell'] at h1)
      have ha0 : Addr.add ⟨g, o, none⟩ 0 = ⟨g, o, none⟩ := rfl
      simp [execOp, Instr.storeAt, ha.eval hx, ha.eval hy, ptr, Instr.sureAddr, Sem.run_bind, Sem.run_pure, Result.andThen_ok, storeVar, run_sizeOf hn, hsz, storeCells, ha0]
      simp only [store] at hst ⊢
      rw [hst]
      rfl
    · refine ⟨.cells (cur.set! o v) e (0, 0), ?_, cur.set! o v, rfl, h2, h3, by simpa using h4, ?_, by rw [List.length_set]; exact h6⟩
      · simp [World.setCell, Array.getElem?_modify, hg]
      · have : (cur.set! o v).toList = cur.toList.set o v := by simp
        rw [this, List.take_set, h5]) h
section
variable {P : Program} {N : Frm} {w0 : World} {Wr : List Nat} {ops : Array Oper} {rest : List Oper} {fr : Fr} {H : Heap} {Z : Fr → Heap → Prop} {d ty : Nat} {pos : String} {after : Array Edge}
end
section
variable {P : Program} {N : Frm} {w0 : World} {Wr : List Nat} {ops : Array Oper} {rest : List Oper} {fr : Fr} {H : Heap} {Z : Fr → Heap → Prop} {d ty : Nat} {pos : String} {after : Array Edge}
end
end Go.Proofs.Ytjelakmndcecoaa
