/- How a slice of structs of plain fields reads. No conditions. -/
import Derived.Test.YtfffhnefjaomnaaOpen3
import Derived.Test.YtfffhnefjaomnaaSxL
import Derived.Deep.Slices
namespace Go.Proofs.Ytfffhnefjaomnaa
open Go.RowKit Go.ChangeShapes Go.WideShapes Go.ChangeAt Go.Joins
set_option linter.unusedVariables false
set_option linter.unusedSimpArgs false
theorem Alike.length {L : List TypeDesc} {cs : List Value} (h : Alike L cs) : cs.length = L.length := by
  induction h with
  | nil => rfl
  | cons _ _ ih => simp [ih]
section
variable {H : Type} {enc : TypeId × Value → H} {P : Program} {w : World}
theorem open_rows {t e : TypeId} {L : List TypeDesc} (m : Nat) {b0 : Nat} {r : Reach} {v : Value} {d : DataW H} {p : List MemPlace} (ht : P.underlying t = some (.slice e)) (hL : leaves P m e = some L) (hC : P.cellsOf e = L.length) (hC0 : 0 < L.length)
    (hv : Value.okWide P w r b0 t v) (h : DataW.Trod enc P w 0 (fun _ => true) true t v d p) :
    ∃ A n c, ∃ rows : List (List Value), v = .slice A n c ∧ rows.length = n ∧ n ≤ maxLen ∧ (∀ x ∈ rows, Alike L x) ∧ Rd w L.length A n rows.flatten := by
  obtain ⟨a0, len0, cap0, rfl⟩ := okWide_slice ht hv
  obtain ⟨fuel, hf⟩ := h
  rcases Go.Deep.open_slice ht hf with ⟨hcs, _⟩ | ⟨a, len, cap, m', n', D, Pl, hcs, _, hl, hm, hmm, _, hi⟩
  · simp [Value.cells] at hcs
    obtain ⟨rfl, rfl, rfl⟩ := hcs
    exact ⟨none, 0, 0, [], rfl, rfl, Nat.zero_le _, by simp, ⟨by simp, fun _ => rfl, fun h => absurd h (by omega)⟩⟩
  · simp [Value.cells] at hcs
    obtain ⟨rfl, rfl, rfl⟩ := hcs
    simp only [if_true] at hmm
    subst hmm
    have hch : ∀ i, ∃ cs' : List Value, cs'.length = L.length ∧ (i < len0 → Alike L cs' ∧ ∀ k, k < L.length → w.cell? (a.add (i * L.length + k)) = cs'[k]?) := fun i => by
      by_cases hlt : i < len0
      · obtain ⟨cs', h1, h2⟩ := hi i (by omega)
        obtain ⟨_, h3, h4⟩ := World.cells?_some h1
        have h5 := leaves_ok m n' e L cs' _ hL h2
        refine ⟨cs', h5.length, fun _ => ⟨h5, fun k hk => ?_⟩⟩
        have := h4 k (by rw [hC]; exact hk)
        rw [← hC]
        rw [Go.Deep.add_add] at this
        exact this
      · exact ⟨List.replicate L.length undef, by simp, fun h => absurd h hlt⟩
    obtain ⟨f, hf'⟩ := Classical.axiomOfChoice hch
    have hfl : ∀ i, (f i).length = L.length := fun i => (hf' i).1
    have hcell : ∀ i k, i < len0 → k < L.length → w.cell? (a.add (i * L.length + k)) = (f i)[k]? := fun i k hi hk => ((hf' i).2 hi).2 k hk
    have hflat : ((List.range len0).map f).flatten = (List.range len0).flatMap f := (List.flatMap_def ..).symm
    refine ⟨some a, len0, _, (List.range len0).map f, rfl, by simp, by omega, fun x hx => ?_, ?_⟩
    · obtain ⟨i, hi', rfl⟩ := List.mem_map.1 hx
      exact ((hf' i).2 (List.mem_range.1 hi')).1
    · rw [hflat]
      refine ⟨by rw [fm_len hfl]; simp, by simp, fun hn => ?_⟩
      have h0 := hcell 0 0 hn hC0
      have hsome : w.cell? (a.add (0 * L.length + 0)) = some ((f 0)[0]'(by rw [hfl]; exact hC0)) := by rw [h0]; exact List.getElem?_eq_getElem _
      have hs : a.spot = none := by
        have := World.cell?_spot hsome
        unfold Addr.add at this
        simpa using this
      have hlt : a.block < w.heap.size := by
        have := World.lt_of_cell hsome
        unfold Addr.add at this
        simpa using this
      obtain ⟨g, o, sp⟩ := a
      simp only at hs hlt
      subst hs
      refine ⟨g, o, rfl, hlt, fun j u hu => ?_⟩
      have hj : j < len0 * L.length := by
        have := (List.getElem?_eq_some_iff.1 hu).1
        rw [fm_len hfl] at this
        simpa using this
      have hi0 : j / L.length < len0 := Nat.div_lt_of_lt_mul (by rw [Nat.mul_comm]; exact hj)
      have hk0 : j % L.length < L.length := Nat.mod_lt _ hC0
      have hjj : j / L.length * L.length + j % L.length = j := by rw [Nat.mul_comm]; exact Nat.div_add_mod j L.length
      have h1 := hcell _ _ hi0 hk0
      rw [hjj, add_plain _ _ rfl] at h1
      simp only at h1
      rw [h1]
      have h2 := fm_at hfl (L := List.range len0) (i := j / L.length) (x := j / L.length) (by rw [List.getElem?_range hi0])
      rw [← h2, List.getElem?_take_of_lt hk0, List.getElem?_drop, hjj]
      exact hu
end
/-- Rows of one kind, as a list of things. -/
theorem rows_as {α : Type} {f : α → List Value} {ok : α → Prop} {L : List TypeDesc} (h : ∀ r, Alike L r → ∃ x, ok x ∧ r = f x) : ∀ rows : List (List Value), (∀ r ∈ rows, Alike L r) → ∃ M : List α, rows.flatten = M.flatMap f ∧ M.length = rows.length ∧ ∀ x ∈ M, ok x
  | [], _ => ⟨[], rfl, rfl, by simp⟩
  | r :: rows, hr => by
    obtain ⟨x, h1, rfl⟩ := h r (hr r List.mem_cons_self)
    obtain ⟨M, h2, h3, h4⟩ := rows_as h rows (fun r hr' => hr r (List.mem_cons_of_mem _ hr'))
    refine ⟨x :: M, by simp [h2], by simp [h3], fun y hy => ?_⟩
    rcases List.mem_cons.1 hy with rfl | hy
    · exact h1
    · exact h4 y hy
theorem arg_ok {w : World} {size n : Nat} {A : Option Addr} {xs : List Value} (h : Rd w size A n xs) : ArgOk A n := fun hn => by
  obtain ⟨g, o, h1, _⟩ := h.2.2 hn
  exact ⟨g, o, h1⟩
/-- What is read of an argument, as memory. -/
theorem arg_sat {w : World} {size n : Nat} {A : Option Addr} {xs : List Value} (h : Rd w size A n xs) (hn : 0 < n) : Sat w [] (roE A xs) w := by
  obtain ⟨g, o, rfl, h1, h2⟩ := h.2.2 hn
  exact ⟨Only.refl _ _, fun e he => by rw [List.mem_singleton.1 he]; exact ⟨⟨h1, h2⟩, fun h => by cases h⟩, List.pairwise_singleton _ _⟩
end Go.Proofs.Ytfffhnefjaomnaa
