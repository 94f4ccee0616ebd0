/- A map in memory that reads as a list of pairs, each key once: what a lookup, a store, a delete and len do to it. No program in sight; the key's type comes in as a bundle of facts. No conditions. -/
import Derived.Test.YtjelakmndcecoaaBase
import Derived.MapKept
import Derived.Maps.Own
namespace Go.Proofs.Ytjelakmndcecoaa
open Go.RowKit
set_option linter.unusedVariables false
set_option linter.unusedSimpArgs false
set_option linter.unusedSectionVars false

@[go_sem] theorem bel_a1 (a : World) (o1 : Obj) : Bel a (a.alloc o1) ↔ True := ⟨fun _ => trivial, fun _ => (Bel.refl a).alloc o1⟩
@[go_sem] theorem bel_a2 (a : World) (o1 o2 : Obj) : Bel a ((a.alloc o1).alloc o2) ↔ True := ⟨fun _ => trivial, fun _ => ((Bel.refl a).alloc o1).alloc o2⟩
@[go_sem] theorem bel_a3 (a : World) (o1 o2 o3 : Obj) : Bel a (((a.alloc o1).alloc o2).alloc o3) ↔ True := ⟨fun _ => trivial, fun _ => (((Bel.refl a).alloc o1).alloc o2).alloc o3⟩
@[go_sem] theorem bel_a4 (a : World) (o1 o2 o3 o4 : Obj) : Bel a ((((a.alloc o1).alloc o2).alloc o3).alloc o4) ↔ True := ⟨fun _ => trivial, fun _ => ((((Bel.refl a).alloc o1).alloc o2).alloc o3).alloc o4⟩
section plain
variable {κ ν : Type} [DecidableEq κ]
def aget : List (κ × ν) → κ → Option ν
  | [], _ => none
  | (a, v) :: r, k => if a = k then some v else aget r k
def aput : List (κ × ν) → κ → ν → List (κ × ν)
  | [], k, v => [(k, v)]
  | (a, x) :: r, k, v => if a = k then (k, v) :: r else (a, x) :: aput r k v
def adel : List (κ × ν) → κ → List (κ × ν)
  | [], _ => []
  | (a, x) :: r, k => if a = k then r else (a, x) :: adel r k
def akeys (M : List (κ × ν)) : List κ := M.map Prod.fst
theorem aget_none : ∀ {M : List (κ × ν)} {k : κ}, aget M k = none ↔ k ∉ akeys M
  | [], k => by simp [aget, akeys]
  | (a, v) :: r, k => by
    have ih := aget_none (M := r) (k := k)
    unfold aget
    by_cases h : a = k
    · simp [h, akeys]
    · simp only [h, if_false, ih]
      simp only [akeys, List.map_cons, List.mem_cons, not_or]
      exact ⟨fun x => ⟨fun e => h e.symm, x⟩, fun x => x.2⟩
theorem aget_put : ∀ (M : List (κ × ν)) (k k' : κ) (v : ν), aget (aput M k v) k' = if k = k' then some v else aget M k'
  | [], k, k', v => by simp [aput, aget]
  | (a, x) :: r, k, k', v => by
    unfold aput
    by_cases h : a = k
    · subst h
      simp only [if_true, aget]
      by_cases h2 : a = k' <;> simp [h2]
    · simp only [h, if_false, aget, aget_put r k k' v]
      by_cases h2 : a = k'
      · subst h2
        have : ¬ k = a := fun e => h e.symm
        simp [this]
      · simp [h2]
theorem akeys_put_in : ∀ {M : List (κ × ν)} {k : κ} (v : ν), k ∈ akeys M → akeys (aput M k v) = akeys M
  | [], k, v, h => by simp [akeys] at h
  | (a, x) :: r, k, v, h => by
    unfold aput
    by_cases e : a = k
    · subst e; simp [akeys]
    · have h2 : k ∈ akeys r := by
        simp only [akeys, List.map_cons, List.mem_cons] at h ⊢
        rcases h with h | h
        · exact absurd h.symm e
        · exact h
      have ih := akeys_put_in v h2
      simp only [e, if_false, akeys, List.map_cons] at ih ⊢
      rw [ih]
theorem akeys_put_out : ∀ {M : List (κ × ν)} {k : κ} (v : ν), k ∉ akeys M → akeys (aput M k v) = akeys M ++ [k]
  | [], k, v, h => by simp [aput, akeys]
  | (a, x) :: r, k, v, h => by
    have h2 : k ≠ a ∧ k ∉ akeys r := by simpa [akeys] using h
    have ih := akeys_put_out v h2.2
    unfold aput
    simp only [show ¬ a = k from fun e => h2.1 e.symm, if_false, akeys, List.map_cons] at ih ⊢
    rw [ih]
    rfl
theorem nodup_put {M : List (κ × ν)} (h : (akeys M).Nodup) (k : κ) (v : ν) : (akeys (aput M k v)).Nodup := by
  by_cases hk : k ∈ akeys M
  · rw [akeys_put_in v hk]; exact h
  · rw [akeys_put_out v hk, List.nodup_append]
    exact ⟨h, by simp, fun a ha b hb => by simp at hb; subst hb; exact fun e => hk (e ▸ ha)⟩
theorem akeys_del : ∀ (M : List (κ × ν)) (k : κ), akeys (adel M k) = (akeys M).erase k
  | [], k => by simp [adel, akeys]
  | (a, x) :: r, k => by
    have ih := akeys_del r k
    unfold adel
    by_cases h : a = k
    · subst h; simp [akeys]
    · simp only [h, if_false]
      simp only [akeys, List.map_cons] at ih ⊢
      rw [List.erase_cons_tail (by simpa using h), ih]
theorem nodup_del {M : List (κ × ν)} (h : (akeys M).Nodup) (k : κ) : (akeys (adel M k)).Nodup := by
  rw [akeys_del]
  exact h.erase _
theorem aget_del : ∀ {M : List (κ × ν)} (h : (akeys M).Nodup) (k k' : κ), aget (adel M k) k' = if k = k' then none else aget M k'
  | [], _, k, k' => by simp [adel, aget]
  | (a, x) :: r, h, k, k' => by
    have h2 : a ∉ akeys r ∧ (akeys r).Nodup := by simpa [akeys] using h
    unfold adel
    by_cases e : a = k
    · subst e
      simp only [if_true, aget]
      by_cases e2 : a = k'
      · subst e2
        simp only [if_true]
        exact aget_none.2 h2.1
      · simp [e2]
    · simp only [e, if_false, aget, aget_del h2.2 k k']
      by_cases e2 : a = k'
      · subst e2
        have : ¬ k = a := fun x => e x.symm
        simp [this]
      · simp [e2]
theorem length_put_in {M : List (κ × ν)} {k : κ} (v : ν) (h : k ∈ akeys M) : (aput M k v).length = M.length := by
  have := congrArg List.length (akeys_put_in v h)
  simpa [akeys] using this
theorem length_put_out {M : List (κ × ν)} {k : κ} (v : ν) (h : k ∉ akeys M) : (aput M k v).length = M.length + 1 := by
  have := congrArg List.length (akeys_put_out v h)
  simpa [akeys] using this
theorem length_del_in {M : List (κ × ν)} {k : κ} (h : k ∈ akeys M) : (adel M k).length = M.length - 1 := by
  have := congrArg List.length (akeys_del M k)
  rw [List.length_erase_of_mem h] at this
  simpa [akeys] using this
/-- Where a key stands. -/
theorem at_key : ∀ (M : List (κ × ν)) (k : κ), (k ∉ akeys M ∧ aget M k = none ∧ (∀ v, aput M k v = M ++ [(k, v)]) ∧ adel M k = M) ∨
    ∃ M1 x M2, M = M1 ++ (k, x) :: M2 ∧ k ∉ akeys M1 ∧ aget M k = some x ∧ (∀ v, aput M k v = M1 ++ (k, v) :: M2) ∧ adel M k = M1 ++ M2
  | [], k => .inl ⟨by simp [akeys], rfl, fun _ => rfl, rfl⟩
  | (a, x) :: r, k => by
    by_cases h : a = k
    · subst h
      exact .inr ⟨[], x, r, rfl, by simp [akeys], by simp [aget], fun v => by simp [aput], by simp [adel]⟩
    · rcases at_key r k with ⟨h1, h2, h3, h4⟩ | ⟨M1, y, M2, rfl, h1, h2, h3, h4⟩
      · refine .inl ⟨?_, by simp [aget, h, h2], fun v => by simp [aput, h, h3], by simp [adel, h, h4]⟩
        simp only [akeys, List.map_cons, List.mem_cons, not_or] at h1 ⊢
        exact ⟨fun e => h e.symm, h1⟩
      · refine .inr ⟨(a, x) :: M1, y, M2, rfl, ?_, by simp [aget, h, h2], fun v => by simp [aput, h, h3], by simp [adel, h, h4]⟩
        simp only [akeys, List.map_cons, List.mem_cons, not_or] at h1 ⊢
        exact ⟨fun e => h e.symm, h1⟩
end plain

/-- What is asked of a key's type and of how its values are held. -/
structure KeyOk (P : Program) (K : TypeId) {κ : Type} [DecidableEq κ] (encK : κ → Value) : Prop where
  eq : ∀ (a b : κ) (w : World), (Op.equal K (encK a) (encK b)).run P w = .ok (decide (a = b)) w
  chk : ∀ (e : Bool) (a : κ) (w : World), (Instr.checkKey e 10000 K (encK a)).run P w = .ok () w
  und : ∃ d, P.underlying K = some d ∧ ((∀ a b : κ, Instr.sameNow d (encK a) (encK b) = none) ∨ (∀ a b : κ, Instr.sameNow d (encK a) (encK b) = some (decide (a = b))))
  same : ∀ a : κ, Instr.sameBits 10000 (encK a) (encK a) = true

section
variable {κ ν : Type} [DecidableEq κ] {encK : κ → Value} {encV : ν → Value}
/-- Block b is a map that reads as M, each key once. -/
def MapIs (encK : κ → Value) (encV : ν → Value) (w : World) (b : Nat) (M : List (κ × ν)) : Prop :=
  ∃ es clock, w.heap[b]? = some (.map es clock) ∧ es.toList.map (fun e : MapEntry => (e.key, e.val)) = M.map (fun x => (encK x.1, encV x.2)) ∧ (akeys M).Nodup
/-- One map's block was written, nothing else. -/
def OnlyMap (w w' : World) (b : Nat) : Prop := ∃ o, w' = { w with heap := w.heap.setIfInBounds b o }

variable {P : Program} {K : TypeId}
theorem run_findKey (h : KeyOk P K encK) (w : World) (k : κ) (es : List MapEntry) (M : List (κ × ν)) (hes : es.map (fun e : MapEntry => (e.key, e.val)) = M.map (fun x => (encK x.1, encV x.2))) :
    (k ∉ akeys M → (Instr.findKey K (encK k) es).run P w = .ok none w) ∧
    (∀ M1 x M2, M = M1 ++ (k, x) :: M2 → k ∉ akeys M1 → (Instr.findKey K (encK k) es).run P w = .ok (some (M1.length, encV x)) w) := by
  obtain ⟨d, hd, hn⟩ := h.und
  have ask : ∀ (M : List (κ × ν)) (es : List MapEntry) (i : Nat), es.map (fun e : MapEntry => (e.key, e.val)) = M.map (fun x => (encK x.1, encV x.2)) →
      (k ∉ akeys M → (Instr.findAsking K (encK k) es i).run P w = .ok none w) ∧
      (∀ M1 x M2, M = M1 ++ (k, x) :: M2 → k ∉ akeys M1 → (Instr.findAsking K (encK k) es i).run P w = .ok (some (i + M1.length, encV x)) w) := by
    intro M
    induction M with
    | nil =>
      intro es i hes
      have : es = [] := by simpa using hes
      subst this
      exact ⟨fun _ => by simp [Instr.findAsking], fun M1 x M2 e => by simp at e⟩
    | cons y M ih =>
      intro es i hes
      match es, hes with
      | e :: es, hes =>
        simp only [List.map_cons, List.cons.injEq, Prod.mk.injEq] at hes
        obtain ⟨⟨e1, e2⟩, hes⟩ := hes
        obtain ⟨ih1, ih2⟩ := ih es (i + 1) hes
        refine ⟨fun hk => ?_, fun M1 x M2 eM hk => ?_⟩
        · have hk2 : k ≠ y.1 ∧ k ∉ akeys M := by simpa [akeys] using hk
          simp [Instr.findAsking, e1, h.eq, hk2.1, ih1 hk2.2]
        · rcases M1 with _ | ⟨z, M1⟩
          · simp only [List.nil_append, List.cons.injEq] at eM
            obtain ⟨rfl, rfl⟩ := eM
            simp [Instr.findAsking, e1, e2, h.eq]
          · simp only [List.cons_append, List.cons.injEq] at eM
            obtain ⟨rfl, rfl⟩ := eM
            have hk2 : k ≠ y.1 ∧ k ∉ akeys M1 := by simpa [akeys] using hk
            simp [Instr.findAsking, e1, h.eq, hk2.1, ih2 M1 x M2 rfl hk2.2, Nat.add_assoc, Nat.add_comm 1]
  rcases hn with hn | hn
  case inr =>
    have now : ∀ (M : List (κ × ν)) (es : List MapEntry) (i : Nat), es.map (fun e : MapEntry => (e.key, e.val)) = M.map (fun x => (encK x.1, encV x.2)) →
        (k ∉ akeys M → Instr.findNow d (encK k) es i = some none) ∧
        (∀ M1 x M2, M = M1 ++ (k, x) :: M2 → k ∉ akeys M1 → Instr.findNow d (encK k) es i = some (some (i + M1.length, encV x))) := by
      intro M
      induction M with
      | nil =>
        intro es i hes
        have : es = [] := by simpa using hes
        subst this
        exact ⟨fun _ => by simp [Instr.findNow], fun M1 x M2 e => by simp at e⟩
      | cons y M ih =>
        intro es i hes
        match es, hes with
        | e :: es, hes =>
          simp only [List.map_cons, List.cons.injEq, Prod.mk.injEq] at hes
          obtain ⟨⟨e1, e2⟩, hes⟩ := hes
          obtain ⟨ih1, ih2⟩ := ih es (i + 1) hes
          refine ⟨fun hk => ?_, fun M1 x M2 eM hk => ?_⟩
          · have hk2 : k ≠ y.1 ∧ k ∉ akeys M := by simpa [akeys] using hk
            simp [Instr.findNow, e1, hn, hk2.1, ih1 hk2.2]
          · rcases M1 with _ | ⟨z, M1⟩
            · simp only [List.nil_append, List.cons.injEq] at eM
              obtain ⟨rfl, rfl⟩ := eM
              simp [Instr.findNow, e1, e2, hn]
            · simp only [List.cons_append, List.cons.injEq] at eM
              obtain ⟨rfl, rfl⟩ := eM
              have hk2 : k ≠ y.1 ∧ k ∉ akeys M1 := by simpa [akeys] using hk
              simp [Instr.findNow, e1, hn, hk2.1, ih2 M1 x M2 rfl hk2.2, Nat.add_assoc, Nat.add_comm 1]
    obtain ⟨n1, n2⟩ := now M es 0 hes
    exact ⟨fun hk => by simp [Instr.findKey, run_underlying hd, n1 hk], fun M1 x M2 e hk => by simp [Instr.findKey, run_underlying hd, n2 M1 x M2 e hk]⟩
  have key : (Instr.findKey K (encK k) es).run P w = (Instr.findAsking K (encK k) es 0).run P w := by
    match es, M, hes with
    | [], _, _ => simp [Instr.findKey, run_underlying hd, Instr.findNow, Instr.findAsking]
    | e :: es, y :: M, hes =>
      simp only [List.map_cons, List.cons.injEq, Prod.mk.injEq] at hes
      have : Instr.findNow d (encK k) (e :: es) 0 = none := by simp [Instr.findNow, hes.1.1, hn]
      simp [Instr.findKey, run_underlying hd, this]
  rw [key]
  have := ask M es 0 hes
  simpa using this

/-- 'm[k]', 'v, ok := m[k]'. -/
theorem run_look (h : KeyOk P K encK) {T E : TypeId} (hT : P.underlying T = some (.map K E)) {w : World} {b : Nat} {M : List (κ × ν)} (hm : MapIs encK encV w b M) {z : Value} (hz : (zeroValue E).run P w = .ok z w) (k : κ) (ok : Bool) :
    (Instr.lookup T (.map (some b)) (encK k) ok).run P w = .ok (if ok then .tuple #[((aget M k).map encV).getD z, .bool (aget M k).isSome] else ((aget M k).map encV).getD z) w := by
  obtain ⟨es, clock, hb, hes, _⟩ := hm
  obtain ⟨f1, f2⟩ := run_findKey h w k es.toList M hes
  rcases at_key M k with ⟨h1, h2, _, _⟩ | ⟨M1, x, M2, e, h1, h2, _, _⟩
  · rw [h2]
    cases ok <;> simp [Instr.lookup, run_underlying hT, MapKept.run_getObj_map hb, h.chk, f1 h1, hz, Result.andThen]
  · rw [h2]
    cases ok <;> simp [Instr.lookup, run_underlying hT, MapKept.run_getObj_map hb, h.chk, f2 M1 x M2 e h1, Result.andThen]
theorem heap_set (w : World) {b : Nat} {o : Obj} (hb : w.heap[b]? = some o) (o' : Obj) : ({ w with heap := w.heap.setIfInBounds b o' } : World).heap[b]? = some o' := by
  have := (Array.getElem?_eq_some_iff.1 hb).1
  simp [this]
/-- 'm[k] = v'. -/
theorem run_store_map (h : KeyOk P K encK) {T E : TypeId} (hT : P.underlying T = some (.map K E)) {w : World} {b : Nat} {M : List (κ × ν)} (hm : MapIs encK encV w b M) (k : κ) (v : ν) :
    ∃ w', (Instr.mapUpdate T (.map (some b)) (encK k) (encV v)).run P w = .ok () w' ∧ MapIs encK encV w' b (aput M k v) ∧ OnlyMap w w' b := by
  obtain ⟨es, clock, hb, hes, hnd⟩ := hm
  obtain ⟨f1, f2⟩ := run_findKey h w k es.toList M hes
  rcases at_key M k with ⟨h1, h2, h3, _⟩ | ⟨M1, x, M2, e, h1, h2, h3, _⟩
  · refine ⟨_, ?_, ⟨es.push { key := encK k, val := encV v, born := clock }, clock + 1, heap_set w hb _, ?_, nodup_put hnd k v⟩, ⟨_, rfl⟩⟩
    · simp [Instr.mapUpdate, run_underlying hT, MapKept.run_getObj_map hb, h.chk, f1 h1, MapKept.run_setObj_map _ hb, Result.andThen]
    · rw [h3]; simp [hes]
  · have hlen : M1.length < es.toList.length := by
      have := congrArg List.length hes
      rw [e] at this
      simp at this
      simp [this]
    have hold : ((es[M1.length]?).map (·.key)).getD (encK k) = encK k := by
      have := congrArg (fun l => l[M1.length]?) hes
      simp only [List.getElem?_map] at this
      rw [e] at this
      simp only [List.getElem?_append_right (Nat.le_refl _), Nat.sub_self, List.getElem?_cons_zero, Option.map_some, Array.getElem?_toList] at this
      cases hq : es[M1.length]? with
      | none => simp
      | some q =>
        rw [hq] at this
        simp only [Option.map_some, Option.some.injEq, Prod.mk.injEq] at this
        simp [this.1]
    refine ⟨_, ?_, ⟨es.modify M1.length fun e => { e with key := encK k, val := encV v }, clock, heap_set w hb _, ?_, nodup_put hnd k v⟩, ⟨_, rfl⟩⟩
    · simp [Instr.mapUpdate, run_underlying hT, MapKept.run_getObj_map hb, h.chk, f2 M1 x M2 e h1, hold, Instr.keyThatStays, h.same, MapKept.run_setObj_map _ hb, Result.andThen]
    · rw [h3]
      apply List.ext_getElem?
      intro j
      have hj := congrArg (fun l => l[j]?) hes
      simp only [List.getElem?_map, Array.getElem?_toList] at hj
      simp only [List.getElem?_map, Array.getElem?_toList, Array.getElem?_modify]
      rw [e] at hj
      by_cases hjm : M1.length = j
      · subst hjm
        simp only [List.getElem?_append_right (Nat.le_refl _), Nat.sub_self, List.getElem?_cons_zero, Option.map_some, if_true] at hj ⊢
        cases hq : es[M1.length]? with
        | none => rw [hq] at hj; simp at hj
        | some q => simp
      · simp only [hjm, if_false]
        rw [hj]
        congr 1
        by_cases hlt : j < M1.length
        · rw [List.getElem?_append_left hlt, List.getElem?_append_left hlt]
        · rw [List.getElem?_append_right (by omega), List.getElem?_append_right (by omega)]
          obtain ⟨i, hi⟩ : ∃ i, j - M1.length = i + 1 := ⟨j - M1.length - 1, by omega⟩
          rw [hi]
          rfl
/-- 'delete(m, k)'. -/
theorem run_delete_map (h : KeyOk P K encK) {T E ty : TypeId} (hT : P.underlying T = some (.map K E)) {w : World} {b : Nat} {M : List (κ × ν)} (hm : MapIs encK encV w b M) (k : κ) :
    ∃ w', (Builtin.delete_ #[T, K] ty #[.map (some b), encK k]).run P w = .ok (.tuple #[]) w' ∧ MapIs encK encV w' b (adel M k) ∧ OnlyMap w w' b := by
  obtain ⟨es, clock, hb, hes, hnd⟩ := hm
  obtain ⟨f1, f2⟩ := run_findKey h w k es.toList M hes
  rcases at_key M k with ⟨h1, h2, _, h3⟩ | ⟨M1, x, M2, e, h1, h2, _, h3⟩
  · refine ⟨_, ?_, ⟨es, clock, heap_set w hb _, by rw [h3]; exact hes, nodup_del hnd k⟩, ⟨_, rfl⟩⟩
    simp [Builtin.delete_, run_underlying hT, MapKept.run_getObj_map hb, h.chk, f1 h1, MapKept.run_setObj_map _ hb, Result.andThen]
  · refine ⟨_, ?_, ⟨es.eraseIdxIfInBounds M1.length, clock, heap_set w hb _, ?_, nodup_del hnd k⟩, ⟨_, rfl⟩⟩
    · simp [Builtin.delete_, run_underlying hT, MapKept.run_getObj_map hb, h.chk, f2 M1 x M2 e h1, MapKept.run_setObj_map _ hb, Result.andThen]
    · rw [h3]
      rw [e] at hes
      have : (es.eraseIdxIfInBounds M1.length).toList = es.toList.eraseIdx M1.length := by simp
      rw [this, ChangeMaps.map_eraseIdx, hes]
      simp [List.eraseIdx_append_of_length_le]
/-- 'len(m)'. -/
theorem run_len_map {T E ty : TypeId} (hT : P.underlying T = some (.map K E)) {w : World} {b : Nat} {M : List (κ × ν)} (hm : MapIs encK encV w b M) :
    (Builtin.len_ #[T] ty #[.map (some b)]).run P w = .ok (.int .i64 (M.length : Nat)) w := by
  obtain ⟨es, clock, hb, hes, _⟩ := hm
  have e : es.size = M.length := by simpa using congrArg List.length hes
  simp [Builtin.len_, run_underlying hT, MapKept.run_getObj_map hb, goInt, Result.andThen, e]
/-- 'make(map[K]V)', a literal without entries. -/
theorem MapIs.made (encK : κ → Value) (encV : ν → Value) (w : World) : MapIs encK encV (w.alloc (.map #[] 0)) w.heap.size [] :=
  ⟨#[], 0, by show (w.heap.push _)[w.heap.size]? = _; simp, by simp, by simp [akeys]⟩
theorem MapIs.lt {w : World} {b : Nat} {M : List (κ × ν)} (h : MapIs encK encV w b M) : b < w.heap.size := by
  obtain ⟨es, clock, hb, _⟩ := h
  exact (Array.getElem?_eq_some_iff.1 hb).1
theorem MapIs.bel {w w' : World} {b : Nat} {M : List (κ × ν)} (h : MapIs encK encV w b M) (hb : Bel w w') : MapIs encK encV w' b M := by
  have hlt := h.lt
  obtain ⟨es, clock, h1, h2⟩ := h
  exact ⟨es, clock, (Below.block hb b hlt).trans h1, h2⟩
theorem MapIs.far {w : World} {b : Nat} {M : List (κ × ν)} (h : MapIs encK encV w b M) {p : Addr} (hp : b ≠ p.block) (u : Value) : MapIs encK encV (w.setCell p u) b M := by
  obtain ⟨es, clock, h1, h2⟩ := h
  exact ⟨es, clock, (Below.heap_setCell w p u b hp).trans h1, h2⟩
/-- What a map's write leaves as it was. -/
theorem OnlyMap.cell {w w' : World} {b : Nat} (h : OnlyMap w w' b) {g : Nat} (o : Nat) (hg : g ≠ b) : w'.cell? ⟨g, o, none⟩ = w.cell? ⟨g, o, none⟩ := by
  obtain ⟨x, rfl⟩ := h
  simp [World.cell?, Array.getElem?_setIfInBounds_ne (Ne.symm hg)]
theorem OnlyMap.frozen {w w' : World} {b : Nat} (h : OnlyMap w w' b) {g : Nat} (o : Nat) (hg : g ≠ b) : w'.frozen? ⟨g, o, none⟩ = w.frozen? ⟨g, o, none⟩ := by
  obtain ⟨x, rfl⟩ := h
  simp [World.frozen?, Array.getElem?_setIfInBounds_ne (Ne.symm hg)]
theorem OnlyMap.size {w w' : World} {b : Nat} (h : OnlyMap w w' b) : w'.heap.size = w.heap.size := by
  obtain ⟨x, rfl⟩ := h
  simp
theorem OnlyMap.bel {a w w' : World} {b : Nat} (h : OnlyMap w w' b) (ha : Bel a w) (hb : a.heap.size ≤ b) : Bel a w' := by
  obtain ⟨x, rfl⟩ := h
  have k : Below a.heap.size a w := ha
  exact ⟨k.os, k.tape, k.output, by simpa using k.size, fun i hi => by
    show (w.heap.setIfInBounds b x)[i]? = _
    rw [Array.getElem?_setIfInBounds_ne (by omega)]
    exact k.block i hi⟩
end
end Go.Proofs.Ytjelakmndcecoaa
