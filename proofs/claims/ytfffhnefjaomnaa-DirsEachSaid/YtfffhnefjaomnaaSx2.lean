/- The steps of single operations of the small logic. No conditions. -/
import Derived.Test.YtfffhnefjaomnaaSx
namespace Go.Proofs.Ytfffhnefjaomnaa
open Go.RowKit
set_option linter.unusedVariables false
set_option linter.unusedSimpArgs false
set_option linter.unusedSectionVars false
/-- Facts of a type: has it parts, and how many cells. -/
def tyAgg (P : Program) (t : TypeId) : Option Bool := (P.underlying t).map fun | .struct _ | .array _ _ => true | _ => false
def tySize (P : Program) (t : TypeId) : Option Nat := (P.info? t).map (·.size)
def tyZero (P : Program) (t : TypeId) : Option (List Value) := ((P.info? t).bind (·.zero)).map (fun v => v.cells.toList)
def ptr (g o : Nat) : Value := .pointer (some ⟨g, o, none⟩)
abbrev uq (x : Nat) : Value := .int .u64 (x : Int)
abbrev ub (x : Nat) : Value := .int .u8 (x : Int)
abbrev iq (x : Int) : Value := .int .i64 x
/-- The cells of a struct's field: where it begins, and its size (0 is not taken). -/
def tyField (P : Program) (s i : Nat) : Option (Nat × Nat × Bool) :=
  match P.underlying s with
  | some (.struct fs) => (fs[i]?).bind fun f => (tySize P f.type).bind fun n => (tyAgg P f.type).bind fun b => if n = 0 then none else some (f.offset, n, b)
  | _ => none

section
variable {P : Program} {w : World} {t : TypeId}
theorem run_isAgg {b : Bool} (h : tyAgg P t = some b) : (isAgg t).run P w = .ok b w := by
  unfold tyAgg at h
  cases hu : P.underlying t with
  | none => simp [hu] at h
  | some d =>
    simp only [hu, Option.map_some, Option.some.injEq] at h
    unfold isAgg
    simp only [Sem.run_bind, run_underlying hu, Result.andThen_ok]
    subst h
    cases d <;> rfl
theorem run_sizeOf {n : Nat} (h : tySize P t = some n) : (sizeOf t).run P w = .ok n w := by
  unfold tySize at h
  cases hu : P.info? t with
  | none => simp [hu] at h
  | some d =>
    simp only [hu, Option.map_some, Option.some.injEq] at h
    subst h
    simp [sizeOf, typeInfo, hu]
theorem run_zero {cs : List Value} (h : tyZero P t = some cs) : ∃ v, (zeroValue t).run P w = .ok v w ∧ v.cells = cs.toArray := by
  unfold tyZero at h
  cases hu : P.info? t with
  | none => simp [hu] at h
  | some d =>
    cases hz : d.zero with
    | none => simp [hu, hz] at h
    | some v =>
      simp only [hu, Option.bind_some, hz, Option.map_some, Option.some.injEq] at h
      exact ⟨v, by simp [zeroValue, typeInfo, hu, hz], by rw [← h]⟩
/-- Cells that are read one behind the other. -/
theorem run_loadCells (a : Addr) : ∀ (n i : Nat) (acc : Array Value) (vs : List Value), vs.length = n → (∀ j u, vs[j]? = some u → w.cell? (a.add (i + j)) = some u) →
    (loadCellsFrom a i n acc).run P w = .ok (acc ++ vs.toArray) w
  | 0, i, acc, vs, hl, _ => by
    obtain rfl := List.eq_nil_of_length_eq_zero hl
    simp [loadCellsFrom]
  | n + 1, i, acc, vs, hl, h => by
    match vs, hl with
    | v :: vs, hl =>
      have h0 : w.cell? (a.add i) = some v := h 0 v rfl
      have ih := run_loadCells a n (i + 1) (acc.push v) vs (by simpa using hl) (fun j u hu => by
        have := h (j + 1) u (by simpa using hu)
        rwa [show i + 1 + j = i + (j + 1) by omega])
      unfold loadCellsFrom
      simp only [load, Sem.run_bind, Sem.run, h0, Result.andThen_ok, ih]
      simp
theorem run_storeCells : ∀ (vs : List Value) (g o i : Nat) (cs : List Value) (w : World), (Ent.own g t cs).holds w → o + i + vs.length ≤ cs.length → (∀ v ∈ vs, v.oneCell' = true) →
    ∃ w', (storeCells ⟨g, o, none⟩ vs i).run P w = .ok () w' ∧ Only [g] w w' ∧ (Ent.own g t (cs.take (o + i) ++ vs ++ cs.drop (o + i + vs.length))).holds w'
  | [], g, o, i, cs, w, h, _, _ => ⟨w, by simp [storeCells], Only.refl _ _, by simpa using h⟩
  | v :: vs, g, o, i, cs, w, h, hl, h1 => by
    have hl' : o + i < cs.length := by simp only [List.length_cons] at hl; omega
    have ha : Addr.add ⟨g, o, none⟩ i = ⟨g, o + i, none⟩ := by unfold Addr.add; split <;> simp_all
    obtain ⟨w2, h2, h3, h4⟩ := run_storeCells vs g o (i + 1) (cs.set (o + i) v) _ (Ent.setCell h (o + i) v) (by simp only [List.length_cons, List.length_set] at hl ⊢; omega) (fun x hx => h1 x (List.mem_cons_of_mem _ hx))
    refine ⟨w2, ?_, (Only.setCell w g (o + i) v).trans h3 (by simp), ?_⟩
    · unfold storeCells
      have hc : w.cell? ⟨g, o + i, none⟩ = some cs[o + i] := by rw [Ent.cell h]; simp [hl']
      have hf := Ent.free h (o + i)
      have hv := h1 v List.mem_cons_self
      have hs : (store ⟨g, o + i, none⟩ v).run P w = .ok () (w.setCell ⟨g, o + i, none⟩ v) := by
        cases v <;> first | (simp [store, Sem.run, hc, hf]; done) | (simp [Value.oneCell'] at hv)
      simp only [ha, Sem.run_bind, hs, Result.andThen_ok, h2]
    · have e : (cs.set (o + i) v).take (o + (i + 1)) ++ vs ++ (cs.set (o + i) v).drop (o + (i + 1) + vs.length) = cs.take (o + i) ++ (v :: vs) ++ cs.drop (o + i + (v :: vs).length) := by
        have e1 : (cs.set (o + i) v).take (o + (i + 1)) = cs.take (o + i) ++ [v] := by
          rw [← Nat.add_assoc, List.take_succ_eq_append_getElem (by simpa using hl'), List.take_set_of_le (Nat.le_refl _)]
          simp
        have e2 : (cs.set (o + i) v).drop (o + (i + 1) + vs.length) = cs.drop (o + i + (v :: vs).length) := by
          rw [List.drop_set_of_lt (by omega)]
          simp only [List.length_cons]
          congr 1
          omega
        rw [e1, e2]
        simp
      rw [← e]
      exact h4
end

section
variable {P : Program} {N : Frm} {w0 : World} {Wr : List Nat} {ops : Array Oper} {rest : List Oper} {fr : Fr} {H : Heap} {Z : Fr → Heap → Prop}
variable {d ty : Nat} {pos : String} {after : Array Edge}
theorem sx_move {x : Operand} {v : Value} (hx : ev fr x = some v) (hN : Nat.ble (d + 1) N.n = true) (h : sx P N w0 Wr ops rest ((d, v) :: fr) H Z) : sx P N w0 Wr ops (⟨some d, .move x, ty, pos, after, none⟩ :: rest) fr H Z :=
  sx_val v hN (fun a w ha _ => by rw [← ha.eval hx]; rfl) h
theorem sx_assign {x : Operand} {v : Value} (hx : ev fr x = some v) (hN : Nat.ble (d + 1) N.n = true) (h : sx P N w0 Wr ops rest ((d, v) :: fr) H Z) : sx P N w0 Wr ops (⟨some d, .assign x, ty, pos, after, none⟩ :: rest) fr H Z :=
  sx_val v hN (fun a w ha _ => by rw [← ha.eval hx]; rfl) h
theorem sx_nilCheck {x : Operand} {g o : Nat} (hx : ev fr x = some (ptr g o)) (hN : Nat.ble (d + 1) N.n = true) (h : sx P N w0 Wr ops rest ((d, ptr g o) :: fr) H Z) : sx P N w0 Wr ops (⟨some d, .nilCheck x, ty, pos, after, none⟩ :: rest) fr H Z :=
  sx_val _ hN (fun a w ha _ => by simp only [execOp, ha.eval hx, ptr]; rfl) h
theorem sx_alloc {t : TypeId} {cs : List Value} (hz : tyZero P t = some cs) (hN : Nat.ble (d + 1) N.n = true) (h : ∀ g, sx P N w0 Wr ops rest ((d, ptr g 0) :: fr) (.own g t cs :: H) Z) :
    sx P N w0 Wr ops (⟨some d, .alloc t, ty, pos, after, none⟩ :: rest) fr H Z := by
  refine sx_make (R := fun v H' => ∃ g, v = ptr g 0 ∧ H' = .own g t cs :: H) hN (fun a w ha hw => ?_) (fun v H' hR => by obtain ⟨g, rfl, rfl⟩ := hR; exact h g)
  obtain ⟨v, h1, h2⟩ := run_zero (w := w) hz
  refine ⟨ptr w.heap.size 0, w.alloc (.cells cs.toArray t), _, ?_, ⟨_, rfl, rfl⟩, hw.alloc cs t⟩
  simp only [execOp, Instr.alloc, Sem.run_bind, h1, Result.andThen_ok, newVar, newRow, newObj, h2]
  rfl
theorem sx_box {t : TypeId} {x : Operand} {v : Value} {cs : List Value} (hx : ev fr x = some v) (hz : v.cells.toList = cs) (hN : Nat.ble (d + 1) N.n = true) (h : ∀ g, sx P N w0 Wr ops rest ((d, ptr g 0) :: fr) (.own g t cs :: H) Z) :
    sx P N w0 Wr ops (⟨some d, .box t x, ty, pos, after, none⟩ :: rest) fr H Z := by
  refine sx_make (R := fun v H' => ∃ g, v = ptr g 0 ∧ H' = .own g t cs :: H) hN (fun a w ha hw => ?_) (fun v H' hR => by obtain ⟨g, rfl, rfl⟩ := hR; exact h g)
  refine ⟨ptr w.heap.size 0, w.alloc (.cells cs.toArray t), _, ?_, ⟨_, rfl, rfl⟩, hw.alloc cs t⟩
  subst hz
  simp only [execOp, Instr.box, ha.eval hx, newVar, newRow, newObj]
  rfl
/-- The value of a variable of so many cells. -/
def rdV (agg : Bool) (n : Nat) (cs : List Value) (o : Nat) : Option Value := bif agg then (bif Nat.ble (o + n) cs.length then some (.agg ((cs.drop o).take n).toArray) else none) else cs[o]?
theorem run_loadVar {t : TypeId} {agg : Bool} {n g o : Nat} {cs : List Value} {v : Value} {w : World} (ht : tyAgg P t = some agg) (hn : tySize P t = some n) (hv : rdV agg n cs o = some v)
    (hc : ∀ (j : Nat) u, cs[j]? = some u → w.cell? ⟨g, j, none⟩ = some u) : (loadVar t ⟨g, o, none⟩).run P w = .ok v w := by
  unfold loadVar
  simp only [Sem.run_bind, run_isAgg ht, Result.andThen_ok]
  cases agg with
  | false =>
    have := hc o v hv
    simp [load, Sem.run, this]
  | true =>
    simp only [rdV, cond_true] at hv
    cases hb : Nat.ble (o + n) cs.length with
    | false => rw [hb] at hv; cases hv
    | true =>
      rw [hb] at hv
      obtain rfl := Option.some.inj hv
      have hle := Nat.le_of_ble_eq_true hb
      simp only [if_true, Sem.run_bind, run_sizeOf hn, Result.andThen_ok, loadCells]
      rw [run_loadCells (P := P) ⟨g, o, none⟩ n 0 #[] ((cs.drop o).take n) (by simp; omega) (fun j u hu => by
        have e : Addr.add ⟨g, o, none⟩ (0 + j) = ⟨g, o + j, none⟩ := by unfold Addr.add; split <;> simp_all
        rw [e]
        refine hc _ _ ?_
        rw [List.getElem?_take] at hu
        split at hu
        · rw [← hu, List.getElem?_drop]
        · cases hu)]
      simp
/-- A load of what one has oneself: the i-th entry. -/
theorem sx_load (i : Nat) {t : TypeId} {x : Operand} {g o : Nat} {e : TypeId} {cs : List Value} {agg : Bool} {n : Nat} {v : Value} (hx : ev fr x = some (ptr g o)) (hH : H[i]? = some (.own g e cs)) (ht : tyAgg P t = some agg) (hn : tySize P t = some n) (hv : rdV agg n cs o = some v) (hN : Nat.ble (d + 1) N.n = true)
    (h : sx P N w0 Wr ops rest ((d, v) :: fr) H Z) : sx P N w0 Wr ops (⟨some d, .load t x, ty, pos, after, none⟩ :: rest) fr H Z :=
  sx_val v hN (fun a w ha hw => by
    have hc := Ent.cell (hw.mem hH)
    simp only [execOp, Instr.loadAt, ha.eval hx, ptr, Instr.sureAddr, Sem.run_bind, Sem.run_pure, Result.andThen_ok]
    rw [run_loadVar ht hn hv (fun j u hu => (hc j).trans hu)]
    rfl) h
/-- The same, for a struct or an array. -/
theorem sx_loadA (i : Nat) {t : TypeId} {x : Operand} {g o : Nat} {e : TypeId} {cs cs' : List Value} {n : Nat} (hx : ev fr x = some (ptr g o)) (hH : H[i]? = some (.own g e cs)) (ht : tyAgg P t = some true) (hn : tySize P t = some n) (hle : Nat.ble (o + n) cs.length = true) (hv : (cs.drop o).take n = cs') (hN : Nat.ble (d + 1) N.n = true)
    (h : sx P N w0 Wr ops rest ((d, .agg cs'.toArray) :: fr) H Z) : sx P N w0 Wr ops (⟨some d, .load t x, ty, pos, after, none⟩ :: rest) fr H Z :=
  sx_load i hx hH ht hn (by subst hv; simp [rdV, hle]) hN h
/-- A load of what is only read: the i-th entry; the place within it. -/
theorem sx_loadRo (i : Nat) {t : TypeId} {x : Operand} {g o o' : Nat} {cs : List Value} {agg : Bool} {n : Nat} {v : Value} (hx : ev fr x = some (ptr g o)) (hH : H[i]? = some (.ro g o' cs)) (k : Nat) (ho : o = o' + k) (ht : tyAgg P t = some agg) (hn : tySize P t = some n) (hv : rdV agg n cs k = some v) (hN : Nat.ble (d + 1) N.n = true)
    (h : sx P N w0 Wr ops rest ((d, v) :: fr) H Z) : sx P N w0 Wr ops (⟨some d, .load t x, ty, pos, after, none⟩ :: rest) fr H Z :=
  sx_val v hN (fun a w ha hw => by
    subst ho
    have hc := (hw.mem hH).2
    simp only [execOp, Instr.loadAt, ha.eval hx, ptr, Instr.sureAddr, Sem.run_bind, Sem.run_pure, Result.andThen_ok]
    have : (loadVar t ⟨g, o' + k, none⟩).run P w = .ok v w := by
      unfold loadVar
      simp only [Sem.run_bind, run_isAgg ht, Result.andThen_ok]
      cases agg with
      | false => simp [load, Sem.run, hc k v hv]
      | true =>
        simp only [rdV, cond_true] at hv
        cases hb : Nat.ble (k + n) cs.length with
        | false => rw [hb] at hv; cases hv
        | true =>
          rw [hb] at hv
          obtain rfl := Option.some.inj hv
          have hle := Nat.le_of_ble_eq_true hb
          simp only [if_true, Sem.run_bind, run_sizeOf hn, Result.andThen_ok, loadCells]
          rw [run_loadCells (P := P) ⟨g, o' + k, none⟩ n 0 #[] ((cs.drop k).take n) (by simp; omega) (fun j u hu => by
            have e : Addr.add ⟨g, o' + k, none⟩ (0 + j) = ⟨g, o' + (k + j), none⟩ := by unfold Addr.add; split <;> simp_all <;> omega
            rw [e]
            refine hc _ _ ?_
            rw [List.getElem?_take] at hu
            split at hu
            · rw [← hu, List.getElem?_drop]
            · cases hu)]
          simp
    rw [this]
    rfl) h
/-- What a store leaves of cells. -/
def wrV (cs : List Value) (o : Nat) (vs : List Value) : List Value := cs.take o ++ vs ++ cs.drop (o + vs.length)
theorem sx_store (i : Nat) {t : TypeId} {x y : Operand} {g o : Nat} {e : TypeId} {cs cs' vs : List Value} {n : Nat} {v : Value} (hx : ev fr x = some (ptr g o)) (hy : ev fr y = some v) (hH : H[i]? = some (.own g e cs)) (hn : tySize P t = some n) (hvs : v.cells.toList = vs) (h1 : vs.all Value.oneCell' = true) (hl : vs.length = n)
    (hlen : Nat.ble (o + n) cs.length = true) (hcs : wrV cs o vs = cs') {H2 : Heap} (hs : H.set i (.own g e cs') = H2)
    (h : sx P N w0 Wr ops rest fr H2 Z) : sx P N w0 Wr ops (⟨none, .store t x y, ty, pos, after, none⟩ :: rest) fr H Z :=
  sx_do (fun a w ha hw => by
    have hm := hw.mem hH
    subst hs
    subst hcs
    subst hl
    obtain ⟨w', h2, h3, h4⟩ := run_storeCells (P := P) vs g o 0 cs w hm (by have := Nat.le_of_ble_eq_true hlen; omega) (fun u hu => List.all_eq_true.1 h1 u hu)
    refine ⟨w', ?_, hw.turn hH rfl rfl h3 (by simpa [wrV] using h4)⟩
    have hsz : v.cells.size = vs.length := by rw [← hvs]; simp
    simp only [execOp, Instr.storeAt, ha.eval hx, ha.eval hy, ptr, Instr.sureAddr, Sem.run_bind, Sem.run_pure, Result.andThen_ok, storeVar, run_sizeOf hn, hsz, hvs, h2]
    simp [Sem.run_bind, h2]) h
/-- The same, of one cell. -/
theorem sx_store1 (i : Nat) {t : TypeId} {x y : Operand} {g o : Nat} {e : TypeId} {cs cs' : List Value} {v : Value} (hx : ev fr x = some (ptr g o)) (hy : ev fr y = some v) (hH : H[i]? = some (.own g e cs)) (hn : tySize P t = some 1) (h1 : v.oneCell' = true)
    (hlen : Nat.ble (o + 1) cs.length = true) (hcs : cs.set o v = cs') {H2 : Heap} (hs : H.set i (.own g e cs') = H2)
    (h : sx P N w0 Wr ops rest fr H2 Z) : sx P N w0 Wr ops (⟨none, .store t x y, ty, pos, after, none⟩ :: rest) fr H Z := by
  have hc : v.cells.toList = [v] := by cases v <;> first | rfl | (simp [Value.oneCell'] at h1)
  have hl := Nat.le_of_ble_eq_true hlen
  refine sx_store i hx hy hH hn hc (by simp [h1]) rfl hlen ?_ hs h
  rw [← hcs, List.set_eq_take_append_cons_drop, if_pos (by omega)]
  simp [wrV]
theorem sx_fieldAddr {s i : Nat} {x : Operand} {g o off n o' : Nat} {b : Bool} (hx : ev fr x = some (ptr g o)) (hf : tyField P s i = some (off, n, b)) (ho : o + off = o') (hN : Nat.ble (d + 1) N.n = true)
    (h : sx P N w0 Wr ops rest ((d, ptr g o') :: fr) H Z) : sx P N w0 Wr ops (⟨some d, .fieldAddr s x i, ty, pos, after, none⟩ :: rest) fr H Z :=
  sx_val _ hN (fun a w ha _ => by
    subst ho
    unfold tyField at hf
    cases hu : P.underlying s with
    | none => simp [hu] at hf
    | some dd =>
      cases dd <;> simp only [hu] at hf <;> try cases hf
      rename_i fs
      cases hi : fs[i]? with
      | none => simp [hi] at hf
      | some f =>
        simp only [hi, Option.bind_some] at hf
        cases hs : tySize P f.type with
        | none => simp [hs] at hf
        | some m =>
          cases hb : tyAgg P f.type with
          | none => simp [hs, hb] at hf
          | some bb =>
            simp only [hs, hb, Option.bind_some] at hf
            split at hf
            · cases hf
            · rename_i hm
              simp only [Option.some.injEq, Prod.mk.injEq] at hf
              obtain ⟨rfl, rfl, rfl⟩ := hf
              have e : Addr.add ⟨g, o, none⟩ f.offset = ⟨g, o + f.offset, none⟩ := by unfold Addr.add; split <;> simp_all
              simp only [execOp, Instr.fieldAt, ha.eval hx, ptr, Sem.run_bind, run_underlying hu, Result.andThen_ok, hi, Instr.sureAddr, Sem.run_pure, fieldPlace, run_sizeOf hs, hm, if_false, e]) h
end
end Go.Proofs.Ytfffhnefjaomnaa
