/- The small logic's steps for function values, scopes and labels, loops that leave marks. No conditions. -/
import Derived.Test.YtfffhnefjaomnaaSxJ
import Derived.Scope
namespace Go.Proofs.Ytfffhnefjaomnaa
open Go.RowKit
set_option linter.unusedVariables false
set_option linter.unusedSimpArgs false
set_option linter.unusedSectionVars false
section
variable {P : Program} {N : Frm} {w0 : World} {Wr : List Nat} {ops : Array Oper} {rest : List Oper} {fr : Fr} {H : Heap} {Z : Fr → Heap → Prop}
variable {d ty : Nat} {pos : String} {after : Array Edge}
theorem sx_makeFunc {f : FuncId} {xs : List Operand} {vs : List Value} (hx : evs fr xs = some vs) (hN : Nat.ble (d + 1) N.n = true)
    (h : sx P N w0 Wr ops rest ((d, .func (.func f) #[] vs.toArray) :: fr) H Z) : sx P N w0 Wr ops (⟨some d, .makeFunc (.func f) #[] xs.toArray, ty, pos, after, none⟩ :: rest) fr H Z :=
  sx_val _ hN (fun a w ha hw => by
    have := ha.evals hx
    subst this
    simp [execOp, Instr.makeFunc, Sem.run_bind, Sem.run_pure]) h
theorem run_callF {f : FuncId} {caps : List Value} {vs : List Value} (hE : Enters P f) {x : Operand} {xs : List Operand} {ts : Array TypeId} {ρ : Operand → Value} (hx : xs.map ρ = vs) (hf : ρ x = .func (.func f) #[] caps.toArray) {dst : Option Nat} {w : World} :
    (execOp ρ ⟨dst, .call { callee := .value x, args := xs.toArray, argTypes := ts }, ty, pos, after, none⟩).run P w = .ok (.enter f (vs ++ caps).toArray) w := by
  obtain ⟨fn, h1, h2, h3⟩ := hE
  subst hx
  have h2' : ¬ (fn.name = "runtime.NumGoroutine") := by simpa using h2
  have h3' : ¬ (fn.body = none) := by intro e; rw [e] at h3; cases h3
  simp [execOp, resolve, hf, Deferred.ofValue, invoke, callFunc, h1, h2', h3', program, Sem.run_bind, Sem.run_pure, Sem.run]
/-- A call of a function's value. -/
theorem sx_callFW {f : FuncId} {caps : List Value} {x : Operand} {xs : List Operand} {vs : List Value} {ts : Array TypeId} {dst : Option Nat} {R : Value → Heap → Prop} (hE : Enters P f) (hf : ev fr x = some (.func (.func f) #[] caps.toArray)) (hx : evs fr xs = some vs) (hN : dstB N dst = true)
    (hc : ∀ w, Sat w0 Wr H w → Calls P f (vs ++ caps).toArray w fun e w' => ∃ v H', e = .returned v ∧ R v H' ∧ Sat w0 Wr H' w')
    (h : ∀ v H', R v H' → sx P N w0 Wr ops rest (match dst with | some d => (d, v) :: fr | none => fr) H' Z) :
    sx P N w0 Wr ops (⟨dst, .call { callee := .value x, args := xs.toArray, argTypes := ts }, ty, pos, after, none⟩ :: rest) fr H Z :=
  sx_op rfl fun a w K Q ha hw hK => by
    unfold Oper.wp
    rw [run_callF hE (ha.evals hx) (ha.eval hf)]
    refine (hc w hw).mono fun e w' he => ?_
    obtain ⟨v, H', rfl, hR, hS⟩ := he
    cases dst with
    | none => exact hK v w' fr H' (h v H' hR) (ha.skip _) hS
    | some d => exact hK v w' _ H' (h v H' hR) (ha.put hN v) hS
theorem sx_callFK {f : FuncId} {caps : List Value} {x : Operand} {xs : List Operand} {vs : List Value} {ts : Array TypeId} {dst : Option Nat} {Hc : Heap} {R : Value → Heap → Prop} (idxs ks : List Nat) (hc : Fn P f (vs ++ caps) Hc R) (hf : ev fr x = some (.func (.func f) #[] caps.toArray)) (hx : evs fr xs = some vs) (hp : pick idxs H = Hc) (hn : (idxs ++ ks).Nodup) (hN : dstB N dst = true)
    (h : ∀ v H', R v H' → sx P N w0 Wr ops rest (match dst with | some d => (d, v) :: fr | none => fr) (H'.filter Ent.wr ++ pick ks H) Z) :
    sx P N w0 Wr ops (⟨dst, .call { callee := .value x, args := xs.toArray, argTypes := ts }, ty, pos, after, none⟩ :: rest) fr H Z :=
  sx_callFW (R := fun v H2 => ∃ H', R v H' ∧ H2 = H'.filter Ent.wr ++ pick ks H) hc.1 hf hx hN (fun w hw => by
    subst hp
    exact (hc.2 w (hw.pick idxs (List.nodup_append.1 hn).1).base).mono fun e w' he => by
      obtain ⟨v, H', h1, h2, h3⟩ := he
      exact ⟨v, _, h1, ⟨H', h2, rfl⟩, hw.callK hn h3⟩) (fun v H2 hR => by obtain ⟨H', hR, rfl⟩ := hR; exact h v H' hR)
end
theorem rowE_wrs (v : Value) (e : TypeId) (size : Nat) (xs : List Value) : Wrs (rowE v e size xs) := fun x hx => by
  unfold rowE at hx
  split at hx
  · rw [List.mem_singleton.1 hx]; rfl
  · cases hx
theorem rowE_flt (v : Value) (e : TypeId) (size : Nat) (xs : List Value) : (rowE v e size xs).filter Ent.wr = rowE v e size xs := (rowE_wrs v e size xs).filter
section
variable {P : Program} {N : Frm} {w0 : World} {Wr : List Nat} {ops : Array Oper} {rest : List Oper} {fr : Fr} {H : Heap} {Z : Fr → Heap → Prop}
variable {d ty : Nat} {pos : String} {after : Array Edge}
/-- A call that takes a part of memory; the rest stays. -/
theorem sx_callO {f : FuncId} {xs : List Operand} {vs : List Value} {ts : Array TypeId} {dst : Option Nat} {R : Value → Heap → Prop} (Hc K : Heap) (hc : Fn P f vs Hc R) (hx : evs fr xs = some vs) (hH : HLe (Hc ++ K) H) (hN : dstB N dst = true)
    (h : ∀ v H', R v H' → sx P N w0 Wr ops rest (match dst with | some d => (d, v) :: fr | none => fr) (H'.filter Ent.wr ++ K) Z) :
    sx P N w0 Wr ops (⟨dst, .call { callee := .value (.func f), args := xs.toArray, argTypes := ts }, ty, pos, after, none⟩ :: rest) fr H Z :=
  sx_callA Hc [] K (by rw [List.append_nil]; exact hc) hx hH (List.nil_sublist _) Ro.nil hN h
theorem sx_max {t t' : TypeId} {x y : Operand} {k : IntKind} {m n : Int} (hx : ev fr x = some (.int k m)) (hy : ev fr y = some (.int k n)) (r : Int) (hr : max m n = r) (hN : Nat.ble (d + 1) N.n = true)
    (h : sx P N w0 Wr ops rest ((d, .int k r) :: fr) H Z) : sx P N w0 Wr ops (⟨some d, .call { callee := .builtin .max, args := #[x, y], argTypes := #[t, t'] }, ty, pos, after, none⟩ :: rest) fr H Z :=
  sx_val _ hN (fun a w ha _ => by
    subst hr
    have e1 := ha.eval hx
    have e2 := ha.eval hy
    simp [execOp, resolve, invoke, builtin, e1, e2, Sem.run_bind, Builtin.max_, Builtin.max2]
    try (rw [Int.max_def]; split <;> split <;> simp_all <;> omega)) h
theorem sx_min {t t' : TypeId} {x y : Operand} {k : IntKind} {m n : Int} (hx : ev fr x = some (.int k m)) (hy : ev fr y = some (.int k n)) (r : Int) (hr : min m n = r) (hN : Nat.ble (d + 1) N.n = true)
    (h : sx P N w0 Wr ops rest ((d, .int k r) :: fr) H Z) : sx P N w0 Wr ops (⟨some d, .call { callee := .builtin .min, args := #[x, y], argTypes := #[t, t'] }, ty, pos, after, none⟩ :: rest) fr H Z :=
  sx_val _ hN (fun a w ha _ => by
    subst hr
    have e1 := ha.eval hx
    have e2 := ha.eval hy
    simp [execOp, resolve, invoke, builtin, e1, e2, Sem.run_bind, Builtin.min_, Builtin.min2]
    try (rw [Int.min_def]; split <;> split <;> simp_all <;> omega)) h
end
/-- A block of one's own may be taken as one that is only read. -/
theorem HLe.toRo {g : Nat} {t : TypeId} {cs : List Value} (A B : Heap) : HLe (A ++ .ro g 0 cs :: B) (A ++ .own g t cs :: B) := fun w0 Wr w h => by
  have hm := h.ents (.own g t cs) (by simp)
  have hro : (Ent.ro g 0 cs).holds w := ⟨Ent.lt hm.1, fun j u hu => by rw [Nat.zero_add, Ent.cell hm.1]; exact hu⟩
  refine ⟨h.only, fun e he => ?_, ?_⟩
  · rcases List.mem_append.1 he with he | he
    · exact h.ents e (List.mem_append_left _ he)
    · rcases List.mem_cons.1 he with rfl | he
      · exact ⟨hro, fun hh => by cases hh⟩
      · exact h.ents e (List.mem_append_right _ (List.mem_cons_of_mem _ he))
  · have hs := List.pairwise_append.1 h.sep
    have hs2 := List.pairwise_cons.1 hs.2.1
    refine List.pairwise_append.2 ⟨hs.1, List.Pairwise.cons (fun b hb hh => hs2.1 b hb (by simp [Ent.wr])) hs2.2, fun a ha b hb hh => ?_⟩
    rcases List.mem_cons.1 hb with rfl | hb
    · exact hs.2.2 a ha (.own g t cs) List.mem_cons_self (by simp [Ent.wr])
    · exact hs.2.2 a ha b (List.mem_cons_of_mem _ hb) hh
section
variable {P : Program} {N : Frm} {n : Nat} {ds : List Nat} {w0 : World} {Wr : List Nat} {fr : Fr} {H : Heap} {Q : Exit → Act → World → Prop}
theorem nx_normalM {R : Option Nat} {ds ds' : List Nat} {y : Code} (h : awp P ⟨n, R, ds'⟩ w0 Wr y fr H Q) : nx ⟨n, R, ds'⟩ w0 Wr fr H (Exit.then (wq P ⟨n, R, ds⟩ y Q) Q) .normal := h
theorem awp_label {l : Nat} (h : nx N w0 Wr fr H Q .normal) : awp P N w0 Wr (.label l) fr H Q := fun a w ha hw _ => wpIn_label (h a w ha hw)
theorem awp_scope {c : Code} (h : awp P ⟨n, none, ds⟩ w0 Wr c fr H (Exit.noGoto Q)) : awp P ⟨n, none, ds⟩ w0 Wr (.scope c) fr H Q := fun a w ha hw _ => wpIn_wide.2 (wp_scope_straight (wq_none (h a w ha hw)))
theorem nx_scope_normal (h : nx N w0 Wr fr H Q .normal) : nx N w0 Wr fr H (Exit.noGoto Q) .normal := h
theorem nx_scope_ret (h : nx N w0 Wr fr H Q .ret) : nx N w0 Wr fr H (Exit.noGoto Q) .ret := h
theorem nx_scope_exit {id : Nat} (h : nx N w0 Wr fr H Q (.exit id)) : nx N w0 Wr fr H (Exit.noGoto Q) (.exit id) := h
/-- A loop whose rounds leave marks. -/
theorem awp_loopM {body : Code} {ι : Type} (D : ι → List Nat) (F : ι → Fr) (HH : ι → Heap) (I : ι → Prop) (μ : ι → Nat) (i0 : ι) (h0 : I i0) (hD : D i0 = ds) (hF : Kn (F i0) fr) (hH : HLe (HH i0) H)
    (round : ∀ i, I i → awp P ⟨n, none, D i⟩ w0 Wr body (F i) (HH i) (Exit.then (fun a w => ∃ j, I j ∧ μ j < μ i ∧ FrOk ⟨n, none, D j⟩ (F j) a ∧ Sat w0 Wr (HH j) w) Q)) : awp P ⟨n, none, ds⟩ w0 Wr (.loop body) fr H Q :=
  fun a w ha hw => wq_loop (N := ⟨n, none, ds⟩) (fun i => ⟨n, none, D i⟩) F HH I μ i0 h0 (fun i hI a w hf hs => round i hI a w hf hs) (hD ▸ ha.kn hF) (hH _ _ _ hw)
theorem nx_roundM {ι : Type} {D : ι → List Nat} {F : ι → Fr} {HH : ι → Heap} {I : ι → Prop} {μ : ι → Nat} {i : ι} (j : ι) (hI : I j) (hμ : μ j < μ i) (hD : D j = ds) (hF : Kn (F j) fr) (hH : HLe (HH j) H) :
    nx ⟨n, none, ds⟩ w0 Wr fr H (Exit.then (fun a w => ∃ j, I j ∧ μ j < μ i ∧ FrOk ⟨n, none, D j⟩ (F j) a ∧ Sat w0 Wr (HH j) w) Q) .normal :=
  fun a w ha hw => ⟨j, hI, hμ, hD ▸ ha.kn hF, hH _ _ _ hw⟩
end
end Go.Proofs.Ytfffhnefjaomnaa
