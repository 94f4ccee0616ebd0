/- The small logic: slices of three bounds, empty rows, slices compared with nil, calls of a function's value that only reads. No conditions but of lengths. -/
import Derived.Test.YtjelakmndcecoaaGsx5
namespace Go.Proofs.Ytjelakmndcecoaa
open Go.RowKit
set_option linter.unusedVariables false
set_option linter.unusedSimpArgs false
set_option linter.unusedSectionVars false
section
variable {P : Program} {N : Frm} {w0 w : World} {Wr : List Nat} {ops : Array Oper} {rest : List Oper} {fr : Fr} {H : Heap} {Z : Fr → Heap → Prop} {d ty : Nat} {pos : String} {after : Array Edge}
/-- A slice compared with nil. -/
theorem sx_sliceEqNil {t t' e : TypeId} {x : Operand} {A : Option Addr} {n c : Nat} (ht : P.underlying t = some (.slice e)) (hx : ev fr x = some (.slice A n c)) (hN : Nat.ble (d + 1) N.n = true)
    (h : sx P N w0 Wr ops rest ((d, .bool A.isNone) :: fr) H Z) : sx P N w0 Wr ops (⟨some d, .binOp .eql t x (.const (.slice none 0 0)) t', ty, pos, after, none⟩ :: rest) fr H Z :=
  sx_val _ hN (fun a w ha _ => by
    have e' : a.eval (.const (.slice none 0 0)) = .slice none 0 0 := rfl
    have hq : (Op.equal t (.slice A n c) (.slice none 0 0)).run P w = .ok A.isNone w := by
      unfold Op.equal Op.maxDepth Op.equalIn
      cases A <;> simp [Sem.run_bind, run_underlying ht]
    have hg : (eqGuard .eql t x (.const (.slice none 0 0)) (.slice A n c) (.slice none 0 0)).run P w = .ok () w := by
      unfold eqGuard
      split <;> rfl
    simp only [execOp, ha.eval hx, e', Sem.run_bind, hg, Result.andThen_ok, binOp]
    simp [hq]) h
/-- An empty row. -/
theorem sx_buildSlice0 {t e n : Nat} (ht : P.underlying t = some (.slice e)) (hs : tySize P e = some n) (hN : Nat.ble (d + 1) N.n = true)
    (h : ∀ g, sx P N w0 Wr ops rest ((d, .slice (some ⟨g, 0, none⟩) 0 0) :: fr) (.own g e [] :: H) Z) : sx P N w0 Wr ops (⟨some d, .buildSlice t 0 #[], ty, pos, after, none⟩ :: rest) fr H Z := by
  refine sx_make (R := fun v H' => ∃ g, v = .slice (some ⟨g, 0, none⟩) 0 0 ∧ H' = .own g e [] :: H) hN (fun a w ha hw => ?_) (fun v H' hR => by obtain ⟨g, rfl, rfl⟩ := hR; exact h g)
  refine ⟨_, w.alloc (.cells #[] e), _, ?_, ⟨w.heap.size, rfl, rfl⟩, hw.alloc [] e⟩
  simp [execOp, Instr.buildSlice, Sem.run_bind, run_underlying ht, run_sizeOf hs, Instr.fill, newRow, newObj, show Array.range 0 = #[] from rfl]
  rfl
/-- What is read of an argument. -/
theorem rd_arg {A : Option Addr} {n size : Nat} {xs : List Value} {T : Heap} (hA : ArgOk A n) (hT : 0 < n → T = roE A xs) (hl : xs.length = n * size) (hnil : A = none → n = 0) (hle : HLe T H) (hw : Sat w0 Wr H w) : Rd w size A n xs := by
  refine ⟨hl, hnil, fun hn => ?_⟩
  obtain ⟨g, o, rfl⟩ := hA hn
  obtain rfl := hT hn
  have h := ((hle _ _ _ hw).ents (.ro g o xs) List.mem_cons_self).1
  exact ⟨g, o, rfl, h.1, h.2⟩
end
/-- A part of what is only read is only read. -/
theorem HLe.view {g o k : Nat} {xs ys : List Value} {H : Heap} (hm : Ent.ro g o xs ∈ H) (hys : ∀ j u, ys[j]? = some u → xs[k + j]? = some u) : HLe (.ro g (o + k) ys :: H) H := fun w0 Wr w h => by
  have hh := (h.ents _ hm).1
  refine ⟨h.only, fun e he => ?_, List.Pairwise.cons (fun b hb hw => ?_) h.sep⟩
  · rcases List.mem_cons.1 he with rfl | he
    · exact ⟨⟨hh.1, fun j u hu => by rw [Nat.add_assoc]; exact hh.2 (k + j) u (hys j u hu)⟩, fun hw => by cases hw⟩
    · exact h.ents e he
  · have hbw : b.wr = true := by simpa [Ent.wr] using hw
    obtain ⟨i, hi⟩ := List.mem_iff_getElem?.1 hm
    obtain ⟨j, hj⟩ := List.mem_iff_getElem?.1 hb
    have hne : i ≠ j := fun e => by
      rw [e, hj] at hi
      rw [Option.some.inj hi] at hbw
      cases hbw
    have hp := h.sep
    rw [Sep, List.pairwise_iff_getElem] at hp
    obtain ⟨hi1, hi2⟩ := List.getElem?_eq_some_iff.1 hi
    obtain ⟨hj1, hj2⟩ := List.getElem?_eq_some_iff.1 hj
    rcases Nat.lt_or_gt_of_ne hne with hlt | hlt
    · have := hp i j hi1 hj1 hlt (by rw [hi2, hj2]; simp [hbw])
      rw [hi2, hj2] at this
      exact this
    · have := hp j i hj1 hi1 hlt (by rw [hi2, hj2]; simp [hbw])
      rw [hi2, hj2] at this
      exact this.symm
end Go.Proofs.Ytjelakmndcecoaa
