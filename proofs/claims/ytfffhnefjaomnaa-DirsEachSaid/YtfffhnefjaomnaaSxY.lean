/- The small logic: rows that are made at once, and what is read of rows that may be written. No conditions but of lengths. -/
import Derived.Test.YtfffhnefjaomnaaSxG
namespace Go.Proofs.Ytfffhnefjaomnaa
open Go.RowKit
set_option linter.unusedVariables false
set_option linter.unusedSimpArgs false
set_option linter.unusedSectionVars false
section
variable {P : Program} {N : Frm} {w0 : World} {Wr : List Nat} {ops : Array Oper} {rest : List Oper} {fr : Fr} {H : Heap} {Z : Fr → Heap → Prop} {d ty : Nat} {pos : String} {after : Array Edge}
/-- A call that only reads what a view of the memory tells, and hands back a value. -/
theorem sx_callV {f : FuncId} {xs : List Operand} {vs : List Value} {ts : Array TypeId} {v : Value} (U : Heap) (hc : Fn P f vs U fun u _ => u = v) (hx : evs fr xs = some vs) (hU : HLe U H) (hroU : Ro U) (hN : Nat.ble (d + 1) N.n = true)
    (h : sx P N w0 Wr ops rest ((d, v) :: fr) H Z) :
    sx P N w0 Wr ops (⟨some d, .call { callee := .value (.func f), args := xs.toArray, argTypes := ts }, ty, pos, after, none⟩ :: rest) fr H Z :=
  sx_callW (R := fun u H' => u = v ∧ H' = H) hc.1 hx hN (fun w hw => by
    have hu := hU _ _ _ hw
    have hpre : Sat w (wrs U) U w := hu.base
    exact (hc.2 w hpre).mono fun e w' he => by
      obtain ⟨u, H', h1, h2, h3⟩ := he
      have h0 : wrs U = [] := by have := hroU.wrs []; simpa [wrs] using this
      rw [h0] at h3
      exact ⟨u, H, h1, ⟨h2, rfl⟩, hw.bel h3.only.bel⟩) (fun u H' hR => by obtain ⟨rfl, rfl⟩ := hR; exact h)
/-- A function value is not nil. -/
theorem sx_funcNeNil {t t' : TypeId} {x : Operand} {tg : Go.Fn} {as bs : Array Value} {ps rs : Array TypeId} {va : Bool} (ht : P.underlying t = some (.func ps rs va)) (hx : ev fr x = some (.func tg as bs)) (hN : Nat.ble (d + 1) N.n = true)
    (h : sx P N w0 Wr ops rest ((d, .bool true) :: fr) H Z) : sx P N w0 Wr ops (⟨some d, .binOp .neq t x (.const .nilFunc) t', ty, pos, after, none⟩ :: rest) fr H Z :=
  sx_val _ hN (fun a w ha _ => by
    have e' : a.eval (.const .nilFunc) = .nilFunc := rfl
    have hq : (Op.equal t (.func tg as bs) .nilFunc).run P w = .ok false w := by
      unfold Op.equal Op.maxDepth Op.equalIn
      simp [Sem.run_bind, run_underlying ht]
    have hg : (eqGuard .neq t x (.const .nilFunc) (.func tg as bs) .nilFunc).run P w = .ok () w := by
      unfold eqGuard
      split <;> rfl
    simp only [execOp, ha.eval hx, e', Sem.run_bind, hg, Result.andThen_ok, binOp]
    simp [hq]) h
theorem sx_funcEqNil {t t' : TypeId} {x : Operand} {tg : Go.Fn} {as bs : Array Value} {ps rs : Array TypeId} {va : Bool} (ht : P.underlying t = some (.func ps rs va)) (hx : ev fr x = some (.func tg as bs)) (hN : Nat.ble (d + 1) N.n = true)
    (h : sx P N w0 Wr ops rest ((d, .bool false) :: fr) H Z) : sx P N w0 Wr ops (⟨some d, .binOp .eql t x (.const .nilFunc) t', ty, pos, after, none⟩ :: rest) fr H Z :=
  sx_val _ hN (fun a w ha _ => by
    have e' : a.eval (.const .nilFunc) = .nilFunc := rfl
    have hq : (Op.equal t (.func tg as bs) .nilFunc).run P w = .ok false w := by
      unfold Op.equal Op.maxDepth Op.equalIn
      simp [Sem.run_bind, run_underlying ht]
    have hg : (eqGuard .eql t x (.const .nilFunc) (.func tg as bs) .nilFunc).run P w = .ok () w := by
      unfold eqGuard
      split <;> rfl
    simp only [execOp, ha.eval hx, e', Sem.run_bind, hg, Result.andThen_ok, binOp]
    simp [hq]) h
theorem madeCells_eq (zs : List Value) (n : Nat) : madeCells zs.toArray (n * zs.length) = (List.replicate n zs).flatten.toArray := by
  apply Array.ext'
  simp only [madeCells, Array.toList_map, Array.toList_range]
  induction n with
  | zero => simp
  | succ n ih =>
    have hz : zs.length = 0 ∨ 0 < zs.length := by omega
    rcases hz with hz | hz
    · have : zs = [] := List.length_eq_zero_iff.1 hz
      subst this
      simp
    rw [List.replicate_succ', List.flatten_append, ← ih, Nat.succ_mul, List.range_add, List.map_append]
    congr 1
    simp only [List.flatten_cons, List.flatten_nil, List.append_nil, List.map_map]
    refine List.ext_getElem (by simp) fun i h1 h2 => ?_
    have hi : i < zs.length := h2
    simp [Nat.mul_add_mod_of_lt hi, Nat.mod_eq_of_lt hi, hi, Nat.mul_comm n]
/-- A row of zeros that is made at once. -/
theorem sx_makeSlice {t e size bytes n : Nat} {x y : Operand} {kl kc : IntKind} {zs : List Value} {z : Value} (ht : P.underlying t = some (.slice e)) (hi : (P.info? e).map (fun i => (i.zero, i.size, i.bytes)) = some (some z, size, bytes)) (hz : z.cells.toList = zs) (hs : zs.length = size)
    (hx : ev fr x = some (.int kl (n : Int))) (hy : ev fr y = some (.int kc (n : Int))) (hby : bytes * n ≤ 281474976710656) (hn : n ≤ maxLen) (hN : Nat.ble (d + 1) N.n = true)
    (h : ∀ g, sx P N w0 Wr ops rest ((d, .slice (some ⟨g, 0, none⟩) n n) :: fr) (.own g e (List.replicate n zs).flatten :: H) Z) :
    sx P N w0 Wr ops (⟨some d, .makeSlice t x y, ty, pos, after, none⟩ :: rest) fr H Z := by
  refine sx_make (R := fun v H' => ∃ g, v = .slice (some ⟨g, 0, none⟩) n n ∧ H' = .own g e (List.replicate n zs).flatten :: H) hN (fun a w ha hw => ?_) (fun v H' hR => by obtain ⟨g, rfl, rfl⟩ := hR; exact h g)
  obtain ⟨i, h1, h2⟩ := Option.map_eq_some_iff.1 hi
  obtain ⟨h3, h4, h5⟩ : i.zero = some z ∧ i.size = size ∧ i.bytes = bytes := by simpa using h2
  have hn' : (n : Int) ≤ 9223372036854775807 := by have : n ≤ 9223372036854775807 := hn; omega
  have hb : (i.bytes : Int) * (n : Int) ≤ 281474976710656 := by
    rw [h5]
    have : ((bytes * n : Nat) : Int) ≤ 281474976710656 := by omega
    rwa [Int.natCast_mul] at this
  have hr := run_make (P := P) w t e i z ht h1 h3 kl kc (n : Int) (n : Int) (by omega) (Int.le_refl _) hb hn'
  have hc : z.cells = zs.toArray := by rw [← hz]
  rw [Int.toNat_natCast, h4, ← hs, hc, madeCells_eq] at hr
  exact ⟨_, _, _, by simp only [execOp, ha.eval hx, ha.eval hy, Sem.run_bind, hr]; rfl, ⟨_, rfl, rfl⟩, hw.alloc _ _⟩
end
theorem fm_set {α : Type} {f : α → List Value} {n : Nat} (hf : ∀ x, (f x).length = n) {v : Value} {x y : α} {j : Nat} (hy : f y = (f x).set j v) (hj : j < n) : ∀ {L : List α} {i : Nat}, L[i]? = some x → (L.flatMap f).set (i * n + j) v = (L.set i y).flatMap f
  | [], i, h => by simp at h
  | z :: r, 0, h => by
    obtain rfl : z = x := by simpa using h
    simp only [Nat.zero_mul, Nat.zero_add, List.flatMap_cons, List.set_cons_zero, hy]
    rw [List.set_append_left _ _ (by rw [hf]; exact hj)]
  | z :: r, i + 1, h => by
    simp only [List.flatMap_cons, List.set_cons_succ]
    rw [List.set_append_right _ _ (by rw [hf, Nat.succ_mul]; omega), hf, show (i + 1) * n + j - n = i * n + j by rw [Nat.succ_mul]; omega, fm_set hf hy hj (by simpa using h)]
theorem ble_of {a b : Nat} (h : a ≤ b) : Nat.ble a b = true := Nat.ble_eq_true_of_le h
/-- Known cells of a row are a row. -/
theorem HLe.ownRow {g : Nat} {t : TypeId} {size n : Nat} {cs : List Value} (A B : Heap) (hl : cs.length = n * size) (hn : n ≤ maxLen) : HLe (A ++ .ob g (RowP t size n n cs) :: B) (A ++ .own g t cs :: B) := fun w0 Wr w h => by
  have hm := h.ents (.own g t cs) (by simp)
  have hro : (Ent.ob g (RowP t size n n cs)).holds w := ⟨_, hm.1, cs.toArray, rfl, Nat.le_refl _, hn, by simp [hl], by simp [← hl], hl⟩
  refine ⟨h.only, fun e he => ?_, ?_⟩
  · rcases List.mem_append.1 he with he | he
    · exact h.ents e (List.mem_append_left _ he)
    · rcases List.mem_cons.1 he with rfl | he
      · exact ⟨hro, fun _ => hm.2 rfl⟩
      · exact h.ents e (List.mem_append_right _ (List.mem_cons_of_mem _ he))
  · have hs := h.sep
    simp only [Sep, List.pairwise_append, List.pairwise_cons] at hs ⊢
    obtain ⟨h1, ⟨h2, h3⟩, h4⟩ := hs
    refine ⟨h1, ⟨fun b hb _ => h2 b hb (by simp [Ent.wr]), h3⟩, fun a ha b hb => ?_⟩
    rcases List.mem_cons.1 hb with rfl | hb
    · intro hw
      exact h4 a ha (.own g t cs) List.mem_cons_self (by simp [Ent.wr])
    · exact h4 a ha b (List.mem_cons_of_mem _ hb)
/-- A row may be only read. -/
theorem HLe.rowRo {g : Nat} {t : TypeId} {size n c : Nat} {cs : List Value} (A B : Heap) : HLe (A ++ .ro g 0 cs :: B) (A ++ .ob g (RowP t size n c cs) :: B) := fun w0 Wr w h => by
  have hm := h.ents (.ob g (RowP t size n c cs)) (by simp)
  obtain ⟨o, ho, cur, rfl, h1, h2, h3, h4, h5⟩ := hm.1
  have hro : (Ent.ro g 0 cs).holds w := ⟨(Array.getElem?_eq_some_iff.1 ho).1, fun j u hu => by
    have hj : j < n * size := by rw [← h5]; exact (List.getElem?_eq_some_iff.1 hu).1
    rw [← h4, List.getElem?_take, if_pos hj] at hu
    rw [Nat.zero_add]
    simp only [World.cell?, ho]
    simpa using hu⟩
  refine ⟨h.only, fun e he => ?_, ?_⟩
  · rcases List.mem_append.1 he with he | he
    · exact h.ents e (List.mem_append_left _ he)
    · rcases List.mem_cons.1 he with rfl | he
      · exact ⟨hro, fun hh => by cases hh⟩
      · exact h.ents e (List.mem_append_right _ (List.mem_cons_of_mem _ he))
  · have hs := h.sep
    simp only [Sep, List.pairwise_append, List.pairwise_cons] at hs ⊢
    obtain ⟨h1, ⟨h2, h3⟩, h4⟩ := hs
    refine ⟨h1, ⟨fun b hb hw => h2 b hb (by simp [Ent.wr]), h3⟩, fun a ha b hb => ?_⟩
    rcases List.mem_cons.1 hb with rfl | hb
    · intro hw
      exact h4 a ha (.ob g (RowP t size n c cs)) List.mem_cons_self (by simp [Ent.wr])
    · exact h4 a ha b (List.mem_cons_of_mem _ hb)
/-- A row of one's own may be only read. -/
theorem RowOk.ro {v : Value} {n : Nat} (h : RowOk v n) : ∃ A c, v = .slice A n c ∧ SlOk A n ∧ ∀ (X Y : Heap) (t : TypeId) (size : Nat) (xs : List Value), HLe (X ++ (roE A xs ++ Y)) (X ++ (rowE (.slice A n c) t size xs ++ Y)) := by
  rcases h with ⟨rfl, rfl⟩ | ⟨g, c, rfl⟩
  · exact ⟨none, 0, rfl, .inl ⟨rfl, rfl⟩, fun X Y t size xs => HLe.refl _⟩
  · exact ⟨_, c, rfl, .inr ⟨g, 0, rfl⟩, fun X Y t size xs => HLe.rowRo X Y⟩
end Go.Proofs.Ytfffhnefjaomnaa
