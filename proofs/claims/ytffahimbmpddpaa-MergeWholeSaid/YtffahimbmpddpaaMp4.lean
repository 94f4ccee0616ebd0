/- The entries of a chart tell it, each tile once, and its texts: plain laws. -/
import Derived.Test.YtffahimbmpddpaaMp3
namespace Go.Proofs.Ytffahimbmpddpaa.V
open Go.RowKit
set_option linter.unusedVariables false
set_option linter.unusedSimpArgs false
/-- What is known of a chart's entries. -/
structure WhOk (C : List It) (R : List En) (D : List UInt8) : Prop where
  eq : rowsS C = (R, tsS C)
  fl : (tsS C).flatten = D
  ts : TsOk (tsS C)
  tm : ∀ t, t ∈ tsS C ↔ ∃ x ∈ C, x.tx = t
  gr : GrOk (unitsQ C) R
  no : R.length ≤ 2048
  dl : D.length ≤ 134217728
theorem wh_ok {C : List It} (h : ChOk C) : WhOk C (rowsS C).1 (rowsS C).2.flatten := by
  have hne : ∀ x ∈ C, x.tx ≠ [] := fun x hx => (h.tx x hx).1
  have hr := rows_is hne
  have hrs := rows_ok h C.length (Nat.le_refl _)
  rw [List.take_length] at hrs
  have hlen := h.len
  obtain ⟨h1, h2⟩ := tsS_ok hne C.length (Nat.le_refl _)
  rw [List.take_length] at h1 h2
  have h22 : (rowsS C).2 = tsS C := by rw [hr]
  have hfl := hrs.fl
  have hno := hrs.no
  refine ⟨by rw [hr], by rw [h22], h1, h2, ?_, by omega, by omega⟩
  rw [hr]
  rw [h22] at hfl
  have := gr_fold (unitsQ C) [] [] GrOk.nil (fun u hu => ?_) ?_ ?_
  · simpa using this
  · obtain ⟨x, hx, rfl⟩ := List.mem_map.1 hu
    obtain ⟨x1, x2⟩ := h.tx x hx
    have x3 := h.lt x hx
    obtain ⟨c1, c2, c3⟩ := addC_mem h1.nd ((h2 x.tx).2 ⟨x, hx, rfl⟩)
    have hpos := List.length_pos_iff.2 x1
    refine ⟨rfl, chk_mk (by show (addC (tsS C) x.tx).2 ≠ 0; omega) (by show x.id + max 1 1 ≤ _; omega) (by show (addC (tsS C) x.tx).1 + (addC (tsS C) x.tx).2 ≤ _; omega), by show x.id < _; omega, by show (addC (tsS C) x.tx).1 < _; omega, by show (addC (tsS C) x.tx).2 < _; omega, by show 1 < _; omega⟩
  · rw [List.nil_append]
    exact List.pairwise_map.2 h.rise
  · simp only [List.nil_append, unitsQ, List.length_map]
    omega
section
variable {C : List It} {R : List En} {D : List UInt8}
theorem WhOk.ent (h : WhOk C R D) {e : En} (he : e ∈ R) : ∃ x ∈ C, (addC (tsS C) x.tx).1 = e.off ∧ (addC (tsS C) x.tx).2 = e.len ∧ x.id = e.id := by
  have hr := (h.gr.ok e he).1
  have hu : ({ e with id := e.id + 0, run := 1 } : En) ∈ unitsQ C := by
    rw [← h.gr.ex]
    exact List.mem_flatMap.2 ⟨e, he, expE_mem.2 ⟨0, hr, rfl⟩⟩
  obtain ⟨x, hx, hxe⟩ := List.mem_map.1 hu
  refine ⟨x, hx, congrArg En.off hxe, congrArg En.len hxe, ?_⟩
  have := congrArg En.id hxe
  simpa [enOf] using this
theorem WhOk.it (h : WhOk C R D) {x : It} (hx : x ∈ C) : ∃ e ∈ R, ∃ k, k < e.run ∧ x.id = e.id + k ∧ (addC (tsS C) x.tx).1 = e.off ∧ (addC (tsS C) x.tx).2 = e.len := by
  have hu : enOf (tsS C) x ∈ unitsQ C := List.mem_map.2 ⟨x, hx, rfl⟩
  rw [← h.gr.ex] at hu
  obtain ⟨e, he, hm⟩ := List.mem_flatMap.1 hu
  obtain ⟨k, hk, hke⟩ := expE_mem.1 hm
  exact ⟨e, he, k, hk, congrArg En.id hke, congrArg En.off hke, congrArg En.len hke⟩
theorem WhOk.pos (h : WhOk C R D) {x : It} (hx : x ∈ C) : (D.drop (addC (tsS C) x.tx).1).take (addC (tsS C) x.tx).2 = x.tx ∧ (addC (tsS C) x.tx).1 + (addC (tsS C) x.tx).2 ≤ D.length ∧ (addC (tsS C) x.tx).2 = x.tx.length := by
  have := addC_mem h.ts.nd ((h.tm x.tx).2 ⟨x, hx, rfl⟩)
  rwa [h.fl] at this
theorem WhOk.ens (h : WhOk C R D) : EnsOk R := fun e he => (h.gr.ok e he).2.2
theorem WhOk.exl (h : WhOk C R D) : (R.flatMap expE).length = C.length := by rw [h.gr.ex]; simp [unitsQ]
theorem WhOk.row (h : WhOk C R D) : rowC R = 0 := by
  unfold rowC
  have := h.no
  rw [if_neg (by omega)]
  exact rowQ_gr R 0 h.gr.ok h.gr.sep (fun _ _ => Nat.zero_le _)
theorem WhOk.least (h : WhOk C R D) : leastQ R = true := by
  unfold leastQ
  rw [if_pos h.row]
  exact leastR_gr R none h.gr.ok h.gr.sep (fun _ _ hx => by cases hx)
theorem WhOk.cnt (h : WhOk C R D) : cntQ R = C.length := by
  have := cnt_gr R 0 (fun e he => (h.gr.ok e he).2.1)
  rw [h.exl, Nat.zero_add] at this
  exact this
theorem WhOk.nxt (h : WhOk C R D) {e : En} (he : e ∈ R) : e.off + e.len ≤ D.length ∧ e.next = e.off + e.len := by
  obtain ⟨x, hx, h1, h2, _⟩ := h.ent he
  have h3 := (h.pos hx).2.1
  have h4 := h.dl
  rw [h1, h2] at h3
  exact ⟨h3, by unfold En.next; omega⟩
theorem WhOk.end_ (h : WhOk C R D) : endQ R = D.length := by
  refine Nat.le_antisymm (end_le R 0 D.length (Nat.zero_le _) fun e he => by have := h.nxt he; omega) ?_
  by_cases h0 : tsS C = []
  · have : D = [] := by rw [← h.fl, h0]; rfl
    rw [this]
    exact Nat.zero_le _
  · obtain ⟨X, t, hX⟩ := list_snoc (tsS C) h0
    obtain ⟨x, hx, hxt⟩ := (h.tm t).1 (by rw [hX]; simp)
    obtain ⟨e, he, _, _, _, h1, h2⟩ := h.it hx
    have hc : addC (tsS C) x.tx = (X.flatten.length, t.length) := by
      unfold addC
      rw [hxt, fdQ_at (tsS C) 0 X.length t h.ts.nd (by rw [hX]; simp), Nat.zero_add, hX]
      simp
    have hD : D.length = X.flatten.length + t.length := by rw [← h.fl, hX]; simp
    have h3 := (end_ge R 0).2 e he (h.gr.ok e he).2.1
    rw [(h.nxt he).2, ← h1, ← h2, hc] at h3
    rw [hD]
    exact h3
theorem WhOk.cts (h : WhOk C R D) : (cstM R).length = (tsS C).length := by
  obtain ⟨h1, h2⟩ := cst_keys R [] List.nodup_nil
  rw [← cst_len]
  have hk : ∀ k, k ∈ akeys (cstM R) ↔ ∃ x ∈ C, addC (tsS C) x.tx = k := fun k => by
    rw [show cstM R = R.foldl cst1 [] from rfl, h2]
    constructor
    · rintro (h3 | ⟨e, he, _, h3⟩)
      · simp [akeys] at h3
      · obtain ⟨x, hx, h4, h5, _⟩ := h.ent he
        exact ⟨x, hx, by rw [← h3, ← h4, ← h5]⟩
    · rintro ⟨x, hx, h3⟩
      obtain ⟨e, he, _, _, _, h4, h5⟩ := h.it hx
      have := h.gr.ok e he
      exact .inr ⟨e, he, ⟨this.2.1, this.1⟩, by rw [← h3, ← h4, ← h5]⟩
  refine Nat.le_antisymm ?_ ?_
  · have := len_le_sub (akeys (cstM R)) ((tsS C).map (addC (tsS C))) h1 (fun k hk2 => by
      obtain ⟨x, hx, h3⟩ := (hk k).1 hk2
      exact List.mem_map.2 ⟨x.tx, (h.tm _).2 ⟨x, hx, rfl⟩, h3⟩)
    rwa [List.length_map] at this
  · have := len_le_sub (tsS C) ((akeys (cstM R)).map fun k => (D.drop k.1).take k.2) h.ts.nd (fun t ht => by
      obtain ⟨x, hx, rfl⟩ := (h.tm t).1 ht
      exact List.mem_map.2 ⟨_, (hk _).2 ⟨x, hx, rfl⟩, (h.pos hx).1⟩)
    rwa [List.length_map] at this
theorem WhOk.back (h : WhOk C R D) (hok : ChOk C) : mbQ R D = (0, C) := by
  unfold mbQ
  rw [if_pos h.row]
  have hl := hok.len
  rw [mbR_gr D R 0 [] (fun e he => by
    obtain ⟨x, hx, h1, h2, _⟩ := h.ent he
    have h3 := (h.pos hx).2.2
    have h4 := (hok.tx x hx).2
    exact ⟨(h.gr.ok e he).1, (h.nxt he).1, by omega⟩) (by rw [h.exl]; omega), its_all, h.gr.ex, List.nil_append]
  congr 1
  unfold unitsQ
  rw [List.map_map]
  have : ∀ x ∈ C, ((fun u : En => (⟨u.id, txOf u D⟩ : It)) ∘ enOf (tsS C)) x = x := fun x hx => by
    show (⟨x.id, (D.drop (addC (tsS C) x.tx).1).take (addC (tsS C) x.tx).2⟩ : It) = x
    rw [(h.pos hx).1]
  rw [List.map_congr_left this, List.map_id']
end
end Go.Proofs.Ytffahimbmpddpaa.V
