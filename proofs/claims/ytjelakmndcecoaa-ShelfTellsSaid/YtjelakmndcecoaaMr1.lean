/- Maps whose entries are gone through: what a map's object is, its steps, and those of a range. No conditions. -/
import Derived.Test.YtjelakmndcecoaaGsx4
import Derived.Maps.RangeRun
namespace Go.Proofs.Ytjelakmndcecoaa
open Go.RowKit
set_option linter.unusedVariables false
set_option linter.unusedSimpArgs false
set_option linter.unusedSectionVars false
/-- Each entry has a stamp of its own, below the clock. -/
def Stamped (es : Array MapEntry) (clock : Nat) : Prop := (∀ e ∈ es.toList, e.born < clock) ∧ (es.toList.map (·.born)).Nodup
section
variable {κ ν : Type} [DecidableEq κ] (encK : κ → Value) (encV : ν → Value)
/-- A map that reads as M, each key once, its entries stamped. -/
def MapW (M : List (κ × ν)) (o : Obj) : Prop :=
  ∃ es clock, o = .map es clock ∧ es.toList.map (fun e : MapEntry => (e.key, e.val)) = M.map (fun x => (encK x.1, encV x.2)) ∧ (akeys M).Nodup ∧ Stamped es clock
abbrev mapW (b : Nat) (M : List (κ × ν)) : Ent := .ob b (MapW encK encV M)
variable {encK encV} {b : Nat} {M : List (κ × ν)} {w w' : World}
theorem mapW_is (h : (mapW encK encV b M).holds w) : MapIs encK encV w b M := by
  obtain ⟨o, h1, es, clock, rfl, h2, h3, _⟩ := h
  exact ⟨es, clock, h1, h2, h3⟩
variable {P : Program} {K : TypeId}
theorem run_store_w (h : KeyOk P K encK) {T E : TypeId} (hT : P.underlying T = some (.map K E)) (hm : (mapW encK encV b M).holds w) (k : κ) (v : ν) :
    ∃ w', (Instr.mapUpdate T (.map (some b)) (encK k) (encV v)).run P w = .ok () w' ∧ (mapW encK encV b (aput M k v)).holds w' ∧ OnlyMap w w' b := by
  obtain ⟨o, hb, es, clock, rfl, hes, hnd, hst, hsn⟩ := hm
  obtain ⟨f1, f2⟩ := run_findKey h w k es.toList M hes
  rcases at_key M k with ⟨h1, h2, h3, _⟩ | ⟨M1, x, M2, e, h1, h2, h3, _⟩
  · refine ⟨_, ?_, ⟨_, heap_set w hb _, es.push { key := encK k, val := encV v, born := clock }, clock + 1, rfl, ?_, nodup_put hnd k v, ?_, ?_⟩, ⟨_, rfl⟩⟩
    · simp [Instr.mapUpdate, run_underlying hT, MapKept.run_getObj_map hb, h.chk, f1 h1, MapKept.run_setObj_map _ hb, Result.andThen]
    · rw [h3]; simp [hes]
    · intro e he
      simp only [Array.toList_push, List.mem_append, List.mem_singleton] at he
      rcases he with he | rfl
      · have := hst e he; omega
      · exact Nat.lt_succ_self _
    · simp only [Array.toList_push, List.map_append, List.map_cons, List.map_nil]
      refine List.nodup_append.2 ⟨hsn, by simp, fun a ha c hc => ?_⟩
      obtain ⟨e, he, rfl⟩ := List.mem_map.1 ha
      have := hst e he
      simp only [List.mem_singleton] at hc
      omega
  · have hlen : M1.length < es.toList.length := by
      have := congrArg List.length hes
      rw [e] at this
      simp at this
      simp [this]
    have hold : ((es[M1.length]?).map (·.key)).getD (encK k) = encK k := by
      have := congrArg (fun l => l[M1.length]?) hes
      simp only [List.getElem?_map] at this
      rw [e] at this
      simp only [List.getElem?_append_right (Nat.le_refl _), Nat.sub_self, List.getElem?_cons_zero, Option.map_some, Array.getElem?_toList] at this
      cases hq : es[M1.length]? with
      | none => simp
      | some q =>
        rw [hq] at this
        simp only [Option.map_some, Option.some.injEq, Prod.mk.injEq] at this
        simp [this.1]
    have hborn : (es.modify M1.length fun e => { e with key := encK k, val := encV v }).toList.map (·.born) = es.toList.map (·.born) := by
      apply List.ext_getElem?
      intro j
      simp only [List.getElem?_map, Array.getElem?_toList, Array.getElem?_modify]
      by_cases hjm : M1.length = j
      · subst hjm
        cases hq : es[M1.length]? <;> simp
      · simp [hjm]
    refine ⟨_, ?_, ⟨_, heap_set w hb _, es.modify M1.length fun e => { e with key := encK k, val := encV v }, clock, rfl, ?_, nodup_put hnd k v, ?_, by rw [hborn]; exact hsn⟩, ⟨_, rfl⟩⟩
    · simp [Instr.mapUpdate, run_underlying hT, MapKept.run_getObj_map hb, h.chk, f2 M1 x M2 e h1, hold, Instr.keyThatStays, h.same, MapKept.run_setObj_map _ hb, Result.andThen]
    · rw [h3]
      apply List.ext_getElem?
      intro j
      have hj := congrArg (fun l => l[j]?) hes
      simp only [List.getElem?_map, Array.getElem?_toList] at hj
      simp only [List.getElem?_map, Array.getElem?_toList, Array.getElem?_modify]
      rw [e] at hj
      by_cases hjm : M1.length = j
      · subst hjm
        simp only [List.getElem?_append_right (Nat.le_refl _), Nat.sub_self, List.getElem?_cons_zero, Option.map_some, if_true] at hj ⊢
        cases hq : es[M1.length]? with
        | none => rw [hq] at hj; simp at hj
        | some q => simp
      · simp only [hjm, if_false]
        rw [hj]
        congr 1
        by_cases hlt : j < M1.length
        · rw [List.getElem?_append_left hlt, List.getElem?_append_left hlt]
        · rw [List.getElem?_append_right (by omega), List.getElem?_append_right (by omega)]
          obtain ⟨i, hi⟩ : ∃ i, j - M1.length = i + 1 := ⟨j - M1.length - 1, by omega⟩
          rw [hi]
          rfl
    · intro e he
      have : e.born ∈ es.toList.map (·.born) := by rw [← hborn]; exact List.mem_map_of_mem he
      obtain ⟨e2, he2, h9⟩ := List.mem_map.1 this
      rw [← h9]
      exact hst e2 he2
theorem run_delete_w (h : KeyOk P K encK) {T E ty : TypeId} (hT : P.underlying T = some (.map K E)) (hm : (mapW encK encV b M).holds w) (k : κ) :
    ∃ w', (Builtin.delete_ #[T, K] ty #[.map (some b), encK k]).run P w = .ok (.tuple #[]) w' ∧ (mapW encK encV b (adel M k)).holds w' ∧ OnlyMap w w' b := by
  obtain ⟨o, hb, es, clock, rfl, hes, hnd, hst, hsn⟩ := hm
  obtain ⟨f1, f2⟩ := run_findKey h w k es.toList M hes
  rcases at_key M k with ⟨h1, h2, _, h3⟩ | ⟨M1, x, M2, e, h1, h2, _, h3⟩
  · refine ⟨_, ?_, ⟨_, heap_set w hb _, es, clock, rfl, by rw [h3]; exact hes, nodup_del hnd k, hst, hsn⟩, ⟨_, rfl⟩⟩
    simp [Builtin.delete_, run_underlying hT, MapKept.run_getObj_map hb, h.chk, f1 h1, MapKept.run_setObj_map _ hb, Result.andThen]
  · have this : (es.eraseIdxIfInBounds M1.length).toList = es.toList.eraseIdx M1.length := by simp
    refine ⟨_, ?_, ⟨_, heap_set w hb _, es.eraseIdxIfInBounds M1.length, clock, rfl, ?_, nodup_del hnd k, ?_, ?_⟩, ⟨_, rfl⟩⟩
    · simp [Builtin.delete_, run_underlying hT, MapKept.run_getObj_map hb, h.chk, f2 M1 x M2 e h1, MapKept.run_setObj_map _ hb, Result.andThen]
    · rw [h3]
      rw [e] at hes
      rw [this, ChangeMaps.map_eraseIdx, hes]
      simp [List.eraseIdx_append_of_length_le]
    · intro e he
      rw [this] at he
      exact hst e ((List.eraseIdx_sublist _ _).subset he)
    · rw [this]
      exact hsn.sublist ((List.eraseIdx_sublist _ _).map _)
theorem run_clear_w {T E ty : TypeId} (hT : P.underlying T = some (.map K E)) (hm : (mapW encK encV b M).holds w) :
    ∃ w', (Builtin.clear_ #[T] ty #[.map (some b)]).run P w = .ok (.tuple #[]) w' ∧ (mapW encK encV b []).holds w' ∧ OnlyMap w w' b := by
  obtain ⟨o, hb, es, clock, rfl, hes, hnd, hst⟩ := hm
  refine ⟨_, ?_, ⟨_, heap_set w hb _, #[], clock, rfl, rfl, List.nodup_nil, by simp [Stamped]⟩, ⟨_, rfl⟩⟩
  simp [Builtin.clear_, run_underlying hT, MapKept.run_getObj_map hb, MapKept.run_setObj_map _ hb, Result.andThen]
end
/-- A map's object as it is, and an iterator over it. -/
abbrev mapX (b : Nat) (es : Array MapEntry) (clock : Nat) : Ent := .ob b fun o => o = .map es clock
abbrev iterE (r b clock : Nat) (seen : Array Nat) : Ent := .ob r fun o => o = .mapIter (some b) clock seen clock
section
variable {P : Program} {N : Frm} {w0 : World} {Wr : List Nat} {ops : Array Oper} {rest : List Oper} {fr : Fr} {H : Heap} {Z : Fr → Heap → Prop}
variable {d ty : Nat} {pos : String} {after : Array Edge}
variable {κ ν : Type} [DecidableEq κ] {encK : κ → Value} {encV : ν → Value} {K T E : TypeId}
theorem sx_lookupW (i : Nat) (hK : KeyOk P K encK) (hT : P.underlying T = some (.map K E)) {z : Value} (hz : ∀ w, (zeroValue E).run P w = .ok z w) {x y : Operand} {b : Nat} {M : List (κ × ν)} (k : κ) {ok : Bool} (v : Value)
    (hx : ev fr x = some (.map (some b))) (hy : ev fr y = some (encK k)) (hH : H[i]? = some (mapW encK encV b M)) (hv : (if ok = true then Value.tuple #[((aget M k).map encV).getD z, .bool (aget M k).isSome] else ((aget M k).map encV).getD z) = v) (hN : Nat.ble (d + 1) N.n = true)
    (h : sx P N w0 Wr ops rest ((d, v) :: fr) H Z) : sx P N w0 Wr ops (⟨some d, .lookup T x y ok, ty, pos, after, none⟩ :: rest) fr H Z :=
  sx_val v hN (fun a w ha hw => by
    subst hv
    have := run_look hK hT (mapW_is (hw.mem hH)) (hz w) k ok
    simp only [execOp, ha.eval hx, ha.eval hy, Sem.run_bind, this, Result.andThen_ok]
    rfl) h
theorem sx_mapUpdateW (i : Nat) (hK : KeyOk P K encK) (hT : P.underlying T = some (.map K E)) {x y u : Operand} {b : Nat} {M : List (κ × ν)} (k : κ) (v : ν)
    (hx : ev fr x = some (.map (some b))) (hy : ev fr y = some (encK k)) (hu : ev fr u = some (encV v)) (hH : H[i]? = some (mapW encK encV b M)) {H2 : Heap} (hs : H.set i (mapW encK encV b (aput M k v)) = H2)
    (h : sx P N w0 Wr ops rest fr H2 Z) : sx P N w0 Wr ops (⟨none, .mapUpdate T x y u, ty, pos, after, none⟩ :: rest) fr H Z :=
  sx_do (fun a w ha hw => by
    subst hs
    obtain ⟨w', h1, h2, h3⟩ := run_store_w hK hT (hw.mem hH) k v
    refine ⟨w', ?_, hw.turn hH rfl rfl h3.only h2⟩
    simp only [execOp, ha.eval hx, ha.eval hy, ha.eval hu, Sem.run_bind, h1, Result.andThen_ok]
    rfl) h
theorem sx_deleteW (i : Nat) (hK : KeyOk P K encK) (hT : P.underlying T = some (.map K E)) {x y : Operand} {b : Nat} {M : List (κ × ν)} (k : κ)
    (hx : ev fr x = some (.map (some b))) (hy : ev fr y = some (encK k)) (hH : H[i]? = some (mapW encK encV b M)) {H2 : Heap} (hs : H.set i (mapW encK encV b (adel M k)) = H2)
    (h : sx P N w0 Wr ops rest fr H2 Z) : sx P N w0 Wr ops (⟨none, .call { callee := .builtin .delete, args := #[x, y], argTypes := #[T, K] }, ty, pos, after, none⟩ :: rest) fr H Z :=
  sx_doV (v := .tuple #[]) (fun a w ha hw => by
    subst hs
    obtain ⟨w', h1, h2, h3⟩ := run_delete_w (ty := ty) hK hT (hw.mem hH) k
    refine ⟨w', ?_, hw.turn hH rfl rfl h3.only h2⟩
    have e1 := ha.eval hx
    have e2 := ha.eval hy
    simp [execOp, resolve, invoke, builtin, e1, e2, Sem.run_bind, h1]) h
theorem sx_clearW (i : Nat) (hT : P.underlying T = some (.map K E)) {x : Operand} {b : Nat} {M : List (κ × ν)}
    (hx : ev fr x = some (.map (some b))) (hH : H[i]? = some (mapW encK encV b M)) {H2 : Heap} (hs : H.set i (mapW encK encV b []) = H2)
    (h : sx P N w0 Wr ops rest fr H2 Z) : sx P N w0 Wr ops (⟨none, .call { callee := .builtin .clear, args := #[x], argTypes := #[T] }, ty, pos, after, none⟩ :: rest) fr H Z :=
  sx_doV (v := .tuple #[]) (fun a w ha hw => by
    subst hs
    obtain ⟨w', h1, h2, h3⟩ := run_clear_w (ty := ty) hT (hw.mem hH)
    refine ⟨w', ?_, hw.turn hH rfl rfl h3.only h2⟩
    have e1 := ha.eval hx
    simp [execOp, resolve, invoke, builtin, e1, Sem.run_bind, h1]) h
theorem sx_makeMapW {t : TypeId} (hN : Nat.ble (d + 1) N.n = true) (encK : κ → Value) (encV : ν → Value)
    (h : ∀ b, sx P N w0 Wr ops rest ((d, .map (some b)) :: fr) (mapW encK encV b [] :: H) Z) : sx P N w0 Wr ops (⟨some d, .makeMap t none, ty, pos, after, none⟩ :: rest) fr H Z := by
  refine sx_make (R := fun v H' => ∃ b, v = .map (some b) ∧ H' = mapW encK encV b [] :: H) hN (fun a w ha hw => ?_) (fun v H' hR => by obtain ⟨b, rfl, rfl⟩ := hR; exact h b)
  refine ⟨.map (some w.heap.size), w.alloc (.map #[] 0), _, ?_, ⟨w.heap.size, rfl, rfl⟩, hw.allocOb (.map #[] 0) (MapW encK encV []) ⟨#[], 0, rfl, rfl, List.nodup_nil, by simp [Stamped]⟩⟩
  simp [execOp, Instr.makeMap]
/-- 'range m': the iterator, and the map's object as it is. -/
theorem sx_rangeW (i : Nat) (hT : P.underlying T = some (.map K E)) {x : Operand} {b : Nat} {M : List (κ × ν)}
    (hx : ev fr x = some (.map (some b))) (hH : H[i]? = some (mapW encK encV b M)) (hN : Nat.ble (d + 1) N.n = true)
    (h : ∀ r es clock, es.toList.map (fun e : MapEntry => (e.key, e.val)) = M.map (fun x => (encK x.1, encV x.2)) → (akeys M).Nodup → Stamped es clock → sx P N w0 Wr ops rest ((d, ptr r 0) :: fr) (iterE r b clock #[] :: H.set i (mapX b es clock)) Z) :
    sx P N w0 Wr ops (⟨some d, .range T x, ty, pos, after, none⟩ :: rest) fr H Z := by
  refine sx_make (R := fun v H' => ∃ r es clock, v = ptr r 0 ∧ es.toList.map (fun e : MapEntry => (e.key, e.val)) = M.map (fun x => (encK x.1, encV x.2)) ∧ (akeys M).Nodup ∧ Stamped es clock ∧ H' = iterE r b clock #[] :: H.set i (mapX b es clock)) hN (fun a w ha hw => ?_)
    (fun v H' hR => by obtain ⟨r, es, clock, rfl, h1, h2, h3, rfl⟩ := hR; exact h r es clock h1 h2 h3)
  obtain ⟨o, hb, es, clock, rfl, hes, hnd, hst⟩ := hw.mem hH
  refine ⟨ptr w.heap.size 0, w.alloc (.mapIter (some b) clock #[] clock), _, ?_, ⟨w.heap.size, es, clock, rfl, hes, hnd, hst, rfl⟩, (hw.turn hH rfl (e' := mapX b es clock) rfl (Only.refl _ _) ⟨_, hb, rfl⟩).allocOb (.mapIter (some b) clock #[] clock) _ rfl⟩
  have := run_range_map (P := P) w T K E b es clock hT hb
  simp only [execOp, ha.eval hx, Sem.run_bind, this, Result.andThen_ok]
  rfl
theorem setBlock_only (w : World) (r : Nat) (o : Obj) : Only [r] w (ChangeMaps.setBlock w r o) := by
  refine ⟨rfl, rfl, rfl, by simp [ChangeMaps.setBlock], fun i _ hn => ?_⟩
  have : r ≠ i := fun e => hn (by simp [e])
  simp [ChangeMaps.setBlock, Array.getElem?_setIfInBounds_ne this]
/-- 'next': nothing is left; or one of the entries that are. -/
theorem sx_nextW (i j : Nat) {x : Operand} {r b clock : Nat} {es : Array MapEntry} {seen : Array Nat} (hx : ev fr x = some (ptr r 0)) (hi : H[i]? = some (mapX b es clock)) (hj : H[j]? = some (iterE r b clock seen)) (hst : Stamped es clock) (hN : Nat.ble (d + 1) N.n = true)
    (h : ∀ bb more H', (bb = false → (leftOf es seen).size = 0 ∧ H' = H) → (bb = true → ∃ e ∈ (leftOf es seen).toList, H' = H.set j (iterE r b clock (seen.push e.born))) → sx P N w0 Wr ops rest ((d, .tuple (Value.bool bb :: more).toArray) :: fr) H' Z) :
    sx P N w0 Wr ops (⟨some d, .next x false, ty, pos, after, none⟩ :: rest) fr H Z := by
  refine sx_make (R := fun v H' => ∃ bb more, v = .tuple (Value.bool bb :: more).toArray ∧ (bb = false → (leftOf es seen).size = 0 ∧ H' = H) ∧ (bb = true → ∃ e ∈ (leftOf es seen).toList, H' = H.set j (iterE r b clock (seen.push e.born)))) hN (fun a w ha hw => ?_)
    (fun v H' hR => by obtain ⟨bb, more, rfl, h1, h2⟩ := hR; exact h bb more H' h1 h2)
  obtain ⟨o, hb, rfl⟩ := hw.mem hi
  obtain ⟨o, hr, rfl⟩ := hw.mem hj
  rcases run_next_at (P := P) w ty r b clock clock seen es clock hr hb hst.1 (Nat.le_refl _) with ⟨h1, h2⟩ | ⟨e, he, w1, hw1, h2⟩
  · refine ⟨_, w, H, ?_, ⟨false, [], rfl, fun _ => ⟨h1, rfl⟩, fun h => by cases h⟩, hw⟩
    have h2 : (Instr.next (ptr r 0) false ty).run P w = _ := h2
    simp only [execOp, ha.eval hx, Sem.run_bind, h2, Result.andThen_ok]
    rfl
  · have hr1 : w1.heap[r]? = some (.mapIter (some b) clock seen clock) := by rcases hw1 with rfl | rfl <;> exact hr
    have hs1 : Sat w0 Wr H w1 := by rcases hw1 with rfl | rfl; exact hw; exact hw.drew
    refine ⟨_, _, H.set j (iterE r b clock (seen.push e.born)), ?_, ⟨true, [e.key, e.val], rfl, ⟨fun h => by (cases h), fun _ => ⟨e, he, rfl⟩⟩⟩, hs1.turn hj rfl rfl (setBlock_only w1 r (.mapIter (some b) clock (seen.push e.born) clock)) ⟨_, heap_set w1 hr1 _, rfl⟩⟩
    have h2 : (Instr.next (ptr r 0) false ty).run P w = _ := h2
    simp only [execOp, ha.eval hx, Sem.run_bind, h2, Result.andThen_ok]
    rfl
/-- 'entry': what 'next' handed out. -/
theorem sx_entryW (i j : Nat) {x : Operand} {r b clock : Nat} {es : Array MapEntry} {seen : Array Nat} {e : MapEntry} (hx : ev fr x = some (ptr r 0)) (hi : H[i]? = some (mapX b es clock)) (hj : H[j]? = some (iterE r b clock (seen.push e.born))) (he : e ∈ es.toList) (hst : Stamped es clock) (hN : Nat.ble (d + 1) N.n = true)
    (h : sx P N w0 Wr ops rest ((d, .tuple [e.key, e.val].toArray) :: fr) H Z) :
    sx P N w0 Wr ops (⟨some d, .entry x, ty, pos, after, none⟩ :: rest) fr H Z :=
  sx_val _ hN (fun a w ha hw => by
    obtain ⟨o, hb, rfl⟩ := hw.mem hi
    obtain ⟨o, hr, rfl⟩ := hw.mem hj
    have := run_entry_at (P := P) w r b clock seen es clock e hr hb he hst.2
    have this : (Instr.entry (ptr r 0)).run P w = _ := this
    simp only [execOp, ha.eval hx, Sem.run_bind, this, Result.andThen_ok]
    rfl) h
/-- What is left to go through is still there at the end. -/
theorem mapX_W {r b clock : Nat} {es : Array MapEntry} {M : List (κ × ν)} (h1 : es.toList.map (fun e : MapEntry => (e.key, e.val)) = M.map (fun x => (encK x.1, encV x.2))) (h2 : (akeys M).Nodup) (h3 : Stamped es clock) : HLe (mapW encK encV b M :: H) (mapX b es clock :: H) := fun w0 Wr w h => by
  have := h.turn (i := 0) rfl rfl (e' := mapW encK encV b M) rfl (Only.refl _ _) (by obtain ⟨o, hb, rfl⟩ := h.mem (i := 0) rfl; exact ⟨_, hb, es, clock, rfl, h1, h2, h3⟩)
  exact this
end
end Go.Proofs.Ytjelakmndcecoaa
