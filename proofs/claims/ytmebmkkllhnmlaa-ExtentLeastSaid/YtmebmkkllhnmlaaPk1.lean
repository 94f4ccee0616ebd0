/- The small logic's steps on maps whose entries are changed in place ('m[k]++'). No conditions. -/
import Derived.Test.YtmebmkkllhnmlaaGsx5
import Derived.Test.YtmebmkkllhnmlaaMapOwn
namespace Go.Proofs.Ytmebmkkllhnmlaa
open Go.RowKit
set_option linter.unusedVariables false
set_option linter.unusedSimpArgs false
set_option linter.unusedSectionVars false
theorem findIdx_b {l : List MapEntry} (hn : (l.map (·.born)).Nodup) {j : Nat} {e0 : MapEntry} (h : l[j]? = some e0) : l.findIdx? (fun e => ((e.born : Nat) : Int) == ((e0.born : Nat) : Int)) = some j := by
  induction l generalizing j with
  | nil => simp at h
  | cons a r ih =>
    simp only [List.map_cons, List.nodup_cons] at hn
    cases j with
    | zero =>
      simp only [List.getElem?_cons_zero, Option.some.injEq] at h
      subst h
      simp [List.findIdx?_cons]
    | succ j =>
      simp only [List.getElem?_cons_succ] at h
      have hne : a.born ≠ e0.born := fun e1 => hn.1 (List.mem_map.2 ⟨e0, List.mem_of_getElem? h, e1.symm⟩)
      have hb : (((a.born : Nat) : Int) == ((e0.born : Nat) : Int)) = false := by
        simp only [beq_eq_false_iff_ne, ne_eq, Int.natCast_inj]
        exact hne
      rw [List.findIdx?_cons, hb]
      simp [ih hn.2 h]
section
variable {κ ν : Type} [DecidableEq κ] (encK : κ → Value) (encV : ν → Value)
/-- The entries of a map: what they read as; each was born at its own time. -/
structure EsOk (es : Array MapEntry) (clock : Nat) (M : List (κ × ν)) : Prop where
  rd : es.toList.map (fun e : MapEntry => (e.key, e.val)) = M.map (fun x => (encK x.1, encV x.2))
  nd : (akeys M).Nodup
  lt : ∀ e ∈ es.toList, e.born < clock
  bn : (es.toList.map (·.born)).Nodup
def MapSP (M : List (κ × ν)) (o : Obj) : Prop := ∃ es clock, o = .map es clock ∧ EsOk encK encV es clock M
def MapRP (M1 : List (κ × ν)) (k : κ) (x : ν) (M2 : List (κ × ν)) (st : Nat) (o : Obj) : Prop :=
  ∃ es clock e0, o = .map es clock ∧ EsOk encK encV es clock (M1 ++ (k, x) :: M2) ∧ es.toList[M1.length]? = some e0 ∧ e0.born = st
abbrev mapS (b : Nat) (M : List (κ × ν)) : Ent := .ob b (MapSP encK encV M)
variable {encK encV} {b : Nat} {M : List (κ × ν)} {w w' : World}
theorem mapS_is (h : (mapS encK encV b M).holds w) : MapIs encK encV w b M := by
  obtain ⟨o, h1, es, clock, rfl, h2⟩ := h
  exact ⟨es, clock, h1, h2.rd, h2.nd⟩
variable {P : Program} {K T E : TypeId}
theorem run_mapEntry (h : KeyOk P K encK) (hT : P.underlying T = some (.map K E)) (hm : (mapS encK encV b M).holds w) {z : Value} (hz : (zeroValue E).run P w = .ok z w) {zv : ν} (hzv : encV zv = z) (k : κ) :
    ∃ w' M1 x M2 st, (Instr.mapEntry T (.map (some b)) (encK k)).run P w = .ok (.tuple #[((aget M k).map encV).getD z, goInt (st : Nat)]) w' ∧ (Ent.ob b (MapRP encK encV M1 k x M2 st)).holds w' ∧ OnlyMap w w' b ∧
      M1 ++ (k, x) :: M2 = aput M k ((aget M k).getD zv) ∧ k ∉ akeys M1 ∧ encV x = ((aget M k).map encV).getD z ∧ ∀ v, aput M k v = M1 ++ (k, v) :: M2 := by
  obtain ⟨o, hb, es, clock, rfl, ⟨hes, hnd, hlt, hbn⟩⟩ := hm
  obtain ⟨f1, f2⟩ := run_findKey h w k es.toList M hes
  rcases at_key M k with ⟨h1, h2, h3, _⟩ | ⟨M1, x, M2, e, h1, h2, h3, _⟩
  · have hl : es.toList.length = M.length := by simpa using congrArg List.length hes
    refine ⟨_, M, zv, [], clock, ?_, ⟨_, heap_set w hb _, es.push { key := encK k, val := z, born := clock }, clock + 1, { key := encK k, val := z, born := clock }, rfl, ⟨?_, ?_, ?_, ?_⟩, ?_, rfl⟩, ⟨_, rfl⟩, ?_, h1, ?_, h3⟩
    · simp [Instr.mapEntry, run_underlying hT, MapKept.run_getObj_map hb, h.chk, f1 h1, hz, h2, MapKept.run_setObj_map _ hb, Result.andThen]
    · simp [hes, hzv]
    · rw [← h3]; exact nodup_put hnd k zv
    · intro y hy
      rw [Array.toList_push] at hy
      rcases List.mem_append.1 hy with hy | hy
      · have := hlt y hy; omega
      · rw [List.mem_singleton.1 hy]; exact Nat.lt_succ_self _
    · simp only [Array.toList_push, List.map_append, List.map_cons, List.map_nil]
      refine List.nodup_append.2 ⟨hbn, by simp, fun a ha c hc e1 => ?_⟩
      simp only [List.mem_singleton] at hc
      obtain ⟨y, hy, rfl⟩ := List.mem_map.1 ha
      have := hlt y hy
      omega
    · rw [Array.toList_push, ← hl]; simp
    · rw [h2, h3]; rfl
    · rw [h2, hzv]; rfl
  · have hlen : M1.length < es.toList.length := by
      have := congrArg List.length hes
      rw [e] at this
      simp at this
      simp [this]
    have hold : es.toList[M1.length]? = some es.toList[M1.length] := List.getElem?_eq_getElem hlen
    obtain ⟨e0, he0⟩ : ∃ e0, es.toList[M1.length] = e0 := ⟨_, rfl⟩
    rw [he0] at hold
    have hkv : e0.key = encK k ∧ e0.val = encV x := by
      have := congrArg (fun l => l[M1.length]?) hes
      simp only [List.getElem?_map] at this
      rw [e, hold] at this
      simp only [List.getElem?_append_right (Nat.le_refl _), Nat.sub_self, List.getElem?_cons_zero, Option.map_some, Option.some.injEq, Prod.mk.injEq] at this
      exact this
    have hj : es[M1.length]? = some e0 := by simpa using hold
    have hsame : es.modify M1.length (fun e => { e with key := encK k }) = es := by
      apply Array.ext'
      rw [Array.toList_modify]
      apply List.ext_getElem?
      intro j
      rw [List.getElem?_modify]
      by_cases hjm : M1.length = j
      · subst hjm
        rw [hold]
        simp only [if_true]
        rw [← hkv.1]
        rfl
      · simp [hjm]
    refine ⟨_, M1, x, M2, e0.born, ?_, ⟨_, heap_set w hb _, es, clock, e0, rfl, ⟨?_, ?_, hlt, hbn⟩, hold, rfl⟩, ⟨_, rfl⟩, ?_, h1, ?_, h3⟩
    · simp [Instr.mapEntry, run_underlying hT, MapKept.run_getObj_map hb, h.chk, f2 M1 x M2 e h1, hj, hkv.1, h2, Instr.keyThatStays, h.same, hsame, MapKept.run_setObj_map _ hb, Result.andThen]
    · rw [← e]; exact hes
    · rw [← e]; exact hnd
    · rw [h2, h3]; rfl
    · rw [h2]; rfl
theorem run_entryStore {M1 M2 : List (κ × ν)} {k : κ} {x v : ν} {st : Nat} (hm : (Ent.ob b (MapRP encK encV M1 k x M2 st)).holds w) :
    ∃ w', (Instr.entryStore T (.map (some b)) (goInt (st : Nat)) (encV v)).run P w = .ok () w' ∧ (mapS encK encV b (M1 ++ (k, v) :: M2)).holds w' ∧ OnlyMap w w' b := by
  obtain ⟨o, hb, es, clock, e0, rfl, ⟨hes, hnd, hlt, hbn⟩, hj, hst⟩ := hm
  have hidx : es.findIdx? (fun e => ((e.born : Nat) : Int) == ((st : Nat) : Int)) = some M1.length := by
    have := findIdx_b hbn hj
    rw [hst] at this
    cases es
    simpa using this
  refine ⟨_, ?_, ⟨_, heap_set w hb _, es.modify M1.length (fun e => { e with val := encV v }), clock, rfl, ⟨?_, ?_, ?_, ?_⟩⟩, ⟨_, rfl⟩⟩
  · simp [Instr.entryStore, MapKept.run_getObj_map hb, asInt, asIntOf, goInt, hidx, MapKept.run_setObj_map _ hb, Result.andThen]
  · apply List.ext_getElem?
    intro j
    have hj2 := congrArg (fun l => l[j]?) hes
    simp only [List.getElem?_map, Array.getElem?_toList] at hj2
    simp only [List.getElem?_map, Array.getElem?_toList, Array.getElem?_modify]
    by_cases hjm : M1.length = j
    · subst hjm
      simp only [List.getElem?_append_right (Nat.le_refl _), Nat.sub_self, List.getElem?_cons_zero, Option.map_some, if_true] at hj2 ⊢
      have hj3 : es[M1.length]? = some e0 := by simpa using hj
      rw [hj3] at hj2 ⊢
      simp only [Option.map_some, Option.some.injEq, Prod.mk.injEq] at hj2
      rw [← hj2.1]
      rfl
    · simp only [hjm, if_false]
      rw [hj2]
      congr 1
      by_cases hlt2 : j < M1.length
      · rw [List.getElem?_append_left hlt2, List.getElem?_append_left hlt2]
      · rw [List.getElem?_append_right (by omega), List.getElem?_append_right (by omega)]
        obtain ⟨i, hi⟩ : ∃ i, j - M1.length = i + 1 := ⟨j - M1.length - 1, by omega⟩
        rw [hi]
        rfl
  · have : akeys (M1 ++ (k, v) :: M2) = akeys (M1 ++ (k, x) :: M2) := by simp [akeys]
    rw [this]; exact hnd
  · intro y hy
    rw [Array.toList_modify] at hy
    obtain ⟨j, hj2⟩ := List.mem_iff_getElem?.1 hy
    rw [List.getElem?_modify] at hj2
    cases hq : es.toList[j]? with
    | none => rw [hq] at hj2; simp at hj2
    | some q =>
      rw [hq] at hj2
      have := hlt q (List.mem_of_getElem? hq)
      have hj3 : (if M1.length = j then ({ q with val := encV v } : MapEntry) else q) = y := Option.some.inj hj2
      subst hj3
      split <;> exact this
  · have : (es.modify M1.length (fun e => { e with val := encV v })).toList.map (·.born) = es.toList.map (·.born) := by
      rw [Array.toList_modify]
      apply List.ext_getElem?
      intro j
      rw [List.getElem?_map, List.getElem?_modify, List.getElem?_map]
      cases es.toList[j]? with
      | none => simp
      | some q => simp only [Option.map_some]; split <;> rfl
    rw [this]; exact hbn
end
section
variable {P : Program} {N : Frm} {w0 : World} {Wr : List Nat} {ops : Array Oper} {rest : List Oper} {fr : Fr} {H : Heap} {Z : Fr → Heap → Prop} {d ty : Nat} {pos : String} {after : Array Edge}
variable {κ ν : Type} [DecidableEq κ] {encK : κ → Value} {encV : ν → Value} {K T E : TypeId}
theorem mapR_is {b : Nat} {M1 M2 : List (κ × ν)} {k : κ} {x : ν} {st : Nat} {w : World} (h : (Ent.ob b (MapRP encK encV M1 k x M2 st)).holds w) : MapIs encK encV w b (M1 ++ (k, x) :: M2) := by
  obtain ⟨o, h1, es, clock, e0, rfl, h2, _⟩ := h
  exact ⟨es, clock, h1, h2.rd, h2.nd⟩
theorem sx_lookupS (i : Nat) (hK : KeyOk P K encK) (hT : P.underlying T = some (.map K E)) {z : Value} (hz : ∀ w, (zeroValue E).run P w = .ok z w) {x y : Operand} {b : Nat} {M : List (κ × ν)} (k : κ) {ok : Bool} (v : Value)
    (hx : ev fr x = some (.map (some b))) (hy : ev fr y = some (encK k)) (hH : H[i]? = some (mapS encK encV b M)) (hv : (if ok = true then Value.tuple #[((aget M k).map encV).getD z, .bool (aget M k).isSome] else ((aget M k).map encV).getD z) = v) (hN : Nat.ble (d + 1) N.n = true)
    (h : sx P N w0 Wr ops rest ((d, v) :: fr) H Z) : sx P N w0 Wr ops (⟨some d, .lookup T x y ok, ty, pos, after, none⟩ :: rest) fr H Z :=
  sx_val v hN (fun a w ha hw => by
    subst hv
    have := run_look hK hT (mapS_is (hw.mem hH)) (hz w) k ok
    simp only [execOp, ha.eval hx, ha.eval hy, Sem.run_bind, this, Result.andThen_ok]
    rfl) h
theorem sx_lookupR (i : Nat) (hK : KeyOk P K encK) (hT : P.underlying T = some (.map K E)) {z : Value} (hz : ∀ w, (zeroValue E).run P w = .ok z w) {x y : Operand} {b : Nat} {M1 M2 : List (κ × ν)} {u : ν} {st : Nat} (k : κ) (v : Value)
    (hx : ev fr x = some (.map (some b))) (hy : ev fr y = some (encK k)) (hH : H[i]? = some (.ob b (MapRP encK encV M1 k u M2 st))) (hk : k ∉ akeys M1) (hv : encV u = v) (hN : Nat.ble (d + 1) N.n = true)
    (h : sx P N w0 Wr ops rest ((d, v) :: fr) H Z) : sx P N w0 Wr ops (⟨some d, .lookup T x y false, ty, pos, after, none⟩ :: rest) fr H Z :=
  sx_val v hN (fun a w ha hw => by
    subst hv
    have := run_look hK hT (mapR_is (hw.mem hH)) (hz w) k false
    have hg : aget (M1 ++ (k, u) :: M2) k = some u := by
      rcases at_key (M1 ++ (k, u) :: M2) k with ⟨h1, _⟩ | ⟨N1, y, N2, e, h1, h2, _⟩
      · exact absurd (by simp [akeys]) h1
      · rw [h2]
        clear this
        have : ∀ (M1 N1 : List (κ × ν)), M1 ++ (k, u) :: M2 = N1 ++ (k, y) :: N2 → k ∉ akeys M1 → k ∉ akeys N1 → u = y := by
          intro M1
          induction M1 with
          | nil =>
            intro N1 e h1 h2
            cases N1 with
            | nil => simp at e; exact e.1
            | cons a r => simp at e; exact absurd (by rw [← e.1]; simp [akeys]) h2
          | cons a r ih =>
            intro N1 e h1 h2
            cases N1 with
            | nil => simp at e; exact absurd (by rw [e.1]; simp [akeys]) h1
            | cons a' r' =>
              simp only [List.cons_append, List.cons.injEq] at e
              simp only [akeys, List.map_cons, List.mem_cons, not_or] at h1 h2
              exact ih r' e.2 h1.2 h2.2
        rw [this M1 N1 e hk h1]
    rw [hg] at this
    simp only [execOp, ha.eval hx, ha.eval hy, Sem.run_bind, this, Result.andThen_ok]
    rfl) h
theorem sx_makeMapS {t : TypeId} (hN : Nat.ble (d + 1) N.n = true) (encK : κ → Value) (encV : ν → Value)
    (h : ∀ b, sx P N w0 Wr ops rest ((d, .map (some b)) :: fr) (mapS encK encV b [] :: H) Z) : sx P N w0 Wr ops (⟨some d, .makeMap t none, ty, pos, after, none⟩ :: rest) fr H Z := by
  refine sx_make (R := fun v H' => ∃ b, v = .map (some b) ∧ H' = mapS encK encV b [] :: H) hN (fun a w ha hw => ?_) (fun v H' hR => by obtain ⟨b, rfl, rfl⟩ := hR; exact h b)
  refine ⟨.map (some w.heap.size), w.alloc (.map #[] 0), _, ?_, ⟨w.heap.size, rfl, rfl⟩, hw.fresh ?_ ((Bel.refl w).alloc _) (Nat.le_refl _)⟩
  · simp [execOp, Instr.makeMap]
  · exact ⟨_, by show (w.heap.push _)[w.heap.size]? = _; simp, #[], 0, rfl, ⟨by simp, by simp [akeys], by simp, by simp⟩⟩
theorem sx_mapEntry (i : Nat) (hK : KeyOk P K encK) (hT : P.underlying T = some (.map K E)) {z : Value} (hz : ∀ w, (zeroValue E).run P w = .ok z w) {zv : ν} (hzv : encV zv = z) {x y : Operand} {b : Nat} {M : List (κ × ν)} (k : κ)
    (hx : ev fr x = some (.map (some b))) (hy : ev fr y = some (encK k)) (hH : H[i]? = some (mapS encK encV b M)) (hN : Nat.ble (d + 1) N.n = true)
    (h : ∀ (M1 : List (κ × ν)) (u : ν) (M2 : List (κ × ν)) (st : Nat), k ∉ akeys M1 → encV u = ((aget M k).map encV).getD z → (∀ v, aput M k v = M1 ++ (k, v) :: M2) →
      sx P N w0 Wr ops rest ((d, .tuple #[((aget M k).map encV).getD z, goInt (st : Nat)]) :: fr) (H.set i (.ob b (MapRP encK encV M1 k u M2 st))) Z) : sx P N w0 Wr ops (⟨some d, .mapEntry T x y, ty, pos, after, none⟩ :: rest) fr H Z := by
  refine sx_make (R := fun v H' => ∃ (M1 : List (κ × ν)) (u : ν) (M2 : List (κ × ν)) (st : Nat), (k ∉ akeys M1 ∧ encV u = ((aget M k).map encV).getD z ∧ ∀ v, aput M k v = M1 ++ (k, v) :: M2) ∧ v = .tuple #[((aget M k).map encV).getD z, goInt (st : Nat)] ∧ H' = H.set i (.ob b (MapRP encK encV M1 k u M2 st))) hN (fun a w ha hw => ?_) (fun v H' hR => by
    obtain ⟨M1, u, M2, st, ⟨h1, h2, h3⟩, rfl, rfl⟩ := hR
    exact h M1 u M2 st h1 h2 h3)
  obtain ⟨w', M1, u, M2, st, h1, h2, h3, _, h5, h6, h7⟩ := run_mapEntry hK hT (hw.mem hH) (hz w) hzv k
  refine ⟨_, w', _, ?_, ⟨M1, u, M2, st, ⟨h5, h6, h7⟩, rfl, rfl⟩, hw.turn hH rfl rfl h3.only h2⟩
  simp only [execOp, ha.eval hx, ha.eval hy, Sem.run_bind, h1, Result.andThen_ok]
  rfl
theorem sx_entryStore (i : Nat) {x s y : Operand} {b : Nat} {M1 M2 : List (κ × ν)} {k : κ} {u v : ν} {st : Nat} (hx : ev fr x = some (.map (some b))) (hs : ev fr s = some (goInt (st : Nat))) (hy : ev fr y = some (encV v)) (hH : H[i]? = some (.ob b (MapRP encK encV M1 k u M2 st)))
    {H2 : Heap} (hH2 : H.set i (mapS encK encV b (M1 ++ (k, v) :: M2)) = H2)
    (h : sx P N w0 Wr ops rest fr H2 Z) : sx P N w0 Wr ops (⟨none, .entryStore T x s y, ty, pos, after, none⟩ :: rest) fr H Z :=
  sx_do (fun a w ha hw => by
    subst hH2
    obtain ⟨w', h1, h2, h3⟩ := run_entryStore (P := P) (T := T) (v := v) (hw.mem hH)
    refine ⟨w', ?_, hw.turn hH rfl rfl h3.only h2⟩
    simp only [execOp, ha.eval hx, ha.eval hs, ha.eval hy, Sem.run_bind, h1, Result.andThen_ok]
    rfl) h
end
end Go.Proofs.Ytmebmkkllhnmlaa
