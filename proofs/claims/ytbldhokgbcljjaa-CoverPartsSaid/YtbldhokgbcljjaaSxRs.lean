/- A piece of a row, to be read; rows of tiles. No conditions. -/
import Derived.Test.YtbldhokgbcljjaaSxRw
namespace Go.Proofs.Ytbldhokgbcljjaa
open Go.RowKit
set_option linter.unusedVariables false
set_option linter.unusedSimpArgs false
section
variable {P : Program} {N : Frm} {w0 w : World} {Wr : List Nat} {ops : Array Oper} {rest : List Oper} {fr : Fr} {H : Heap} {Z : Fr → Heap → Prop} {d ty : Nat} {pos : String} {after : Array Edge}
theorem sx_sliceRd {t e n m i j : Nat} {v : Value} {xs : List Value} {x : Operand} {lo hi : Option Operand} (ht : P.underlying t = some (.slice e)) (hs : tySize P e = some n) (hx : ev fr x = some v) (hv : RowOk v m) (e' : TypeId) (hH : ∀ y ∈ rowE v e' n xs, y ∈ H) (hlen : xs.length = m * n) (hl : bnd fr 0 lo = some (i : Int)) (hh : bnd fr (m : Int) hi = some (j : Int)) (h1 : i ≤ j) (h2 : j ≤ m) (hN : Nat.ble (d + 1) N.n = true)
    (h : ∀ A' c', (∀ w, Sat w0 Wr H w → Rd w n A' (j - i) ((xs.drop (i * n)).take ((j - i) * n))) → sx P N w0 Wr ops rest ((d, .slice A' (j - i) c') :: fr) H Z) : sx P N w0 Wr ops (⟨some d, .slice t x lo hi none, ty, pos, after, none⟩ :: rest) fr H Z := by
  have hlt : ((xs.drop (i * n)).take ((j - i) * n)).length = (j - i) * n := by
    rw [List.length_take, List.length_drop, hlen, ← Nat.sub_mul]
    exact Nat.min_eq_left (Nat.mul_le_mul_right n (by omega))
  rcases hv with ⟨rfl, rfl⟩ | ⟨g, c, rfl⟩
  · obtain rfl : i = 0 := by omega
    obtain rfl : j = 0 := by omega
    exact sx_val (.slice none 0 0) hN (fun a w ha _ => by
      have hb := sliceBounds_ok (P := P) (isS := true) (len := 0) (cap := 0) (w := w) ha hl hh (by omega) (by omega) (by omega)
      simp only [execOp, Instr.sliceAt, Instr.slice, ha.eval hx, Sem.run_bind, run_underlying ht, Result.andThen_ok, Option.map_none, hb, Sem.run_pure, run_sizeOf hs]
      simp) (h none 0 fun w _ => ⟨hlt, fun _ => rfl, fun h => absurd h (by omega)⟩)
  · refine sx_val (.slice (some ⟨g, (if c = i then 0 else 0 + i * n), none⟩) (j - i) (c - i)) hN (fun a w ha hw => ?_) (h _ _ fun w hw => ⟨hlt, fun h => (by cases h), fun hlt' => ⟨g, _, rfl, ?_, ?_⟩⟩)
    · obtain ⟨ob, _, cur, _, hc, _⟩ := (hw.ents _ (hH _ List.mem_cons_self)).1
      have hb := sliceBounds_ok (P := P) (isS := true) (len := m) (cap := c) (w := w) ha hl hh (by omega) (by omega) (by omega)
      simp only [execOp, Instr.sliceAt, Instr.slice, ha.eval hx, Sem.run_bind, run_underlying ht, Result.andThen_ok, Option.map_none, hb, Sem.run_pure, run_sizeOf hs, Option.map_some, addr_add]
      by_cases hc : c = i <;> simp [hc]
    · exact Ent.lt (hw.ents _ (hH _ List.mem_cons_self)).1
    · intro k u hu
      obtain ⟨ob, _, cur, _, hc, _⟩ := (hw.ents _ (hH _ List.mem_cons_self)).1
      obtain ⟨q, hq⟩ := List.mem_iff_getElem?.1 (hH _ List.mem_cons_self)
      obtain ⟨g', o', hA, _, hcell⟩ := (rd_row hq hw).2.2 (show 0 < m by omega)
      injection hA with hA
      injection hA with e1 e2 _
      subst e1
      subst e2
      rw [if_neg (by omega), Nat.add_assoc]
      refine hcell _ u ?_
      rw [List.getElem?_take] at hu
      split at hu
      · rwa [List.getElem?_drop] at hu
      · cases hu
end
end Go.Proofs.Ytbldhokgbcljjaa
