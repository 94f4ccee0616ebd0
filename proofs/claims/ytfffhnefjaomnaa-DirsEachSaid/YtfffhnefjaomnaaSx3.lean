/- The steps of control and of calls of the small logic. No conditions. -/
import Derived.Test.YtfffhnefjaomnaaSxF
namespace Go.Proofs.Ytfffhnefjaomnaa
open Go.RowKit
set_option linter.unusedVariables false
set_option linter.unusedSimpArgs false
set_option linter.unusedSectionVars false
def wrs (H : Heap) : List Nat := (H.filter Ent.wr).map Ent.g
def Enters (P : Program) (f : FuncId) : Prop := ∃ fn, P.funcs[f]? = some fn ∧ (fn.name == "runtime.NumGoroutine") = false ∧ fn.body.isNone = false
/-- Called with these, and with this in memory, a function hands back what R says, and leaves in memory what R says. -/
def Fn (P : Program) (f : FuncId) (args : List Value) (H : Heap) (R : Value → Heap → Prop) : Prop :=
  Enters P f ∧ ∀ w, Sat w (wrs H) H w → Calls P f args.toArray w fun e w' => ∃ v H', e = .returned v ∧ R v H' ∧ Sat w (wrs H) H' w'
def awp (P : Program) (N : Frm) (w0 : World) (Wr : List Nat) (c : Code) (fr : Fr) (H : Heap) (Q : Exit → Act → World → Prop) : Prop :=
  ∀ a w, FrOk N fr a → Sat w0 Wr H w → wq P N c Q a w
def nx (N : Frm) (w0 : World) (Wr : List Nat) (fr : Fr) (H : Heap) (Q : Exit → Act → World → Prop) (e : Exit) : Prop :=
  ∀ a w, FrOk N fr a → Sat w0 Wr H w → Q e a w
def pick (idxs : List Nat) (H : Heap) : Heap := idxs.filterMap (H[·]?)
/-- What is known of memory is known in another order, or in part. -/
def HLe (H' H : Heap) : Prop := ∀ w0 Wr w, Sat w0 Wr H w → Sat w0 Wr H' w
theorem HLe.refl (H : Heap) : HLe H H := fun _ _ _ h => h
theorem pick_mem {idxs : List Nat} {H : Heap} {e : Ent} (h : e ∈ pick idxs H) : ∃ i ∈ idxs, H[i]? = some e := by
  simpa [pick, List.mem_filterMap] using h
theorem Sep.at_ {H : Heap} (h : Sep H) {i j : Nat} {a b : Ent} (hij : i ≠ j) (hi : H[i]? = some a) (hj : H[j]? = some b) : a.apart b := by
  obtain ⟨hi1, hi2⟩ := List.getElem?_eq_some_iff.1 hi
  obtain ⟨hj1, hj2⟩ := List.getElem?_eq_some_iff.1 hj
  rcases Nat.lt_or_gt_of_ne hij with hlt | hlt
  · have := List.pairwise_iff_getElem.1 h i j hi1 hj1 hlt
    rwa [hi2, hj2] at this
  · have := List.pairwise_iff_getElem.1 h j i hj1 hi1 hlt
    rw [hi2, hj2] at this
    exact fun hb => (this (by rw [Bool.or_comm]; exact hb)).symm
theorem sep_pick {H : Heap} (h : Sep H) : ∀ {idxs : List Nat}, idxs.Nodup → Sep (pick idxs H)
  | [], _ => List.Pairwise.nil
  | i :: r, hn => by
    have hn' := List.nodup_cons.1 hn
    have ih := sep_pick h hn'.2
    unfold pick at ih ⊢
    rw [List.filterMap_cons]
    cases hi : H[i]? with
    | none => exact ih
    | some e =>
      refine List.Pairwise.cons (fun x hx => ?_) ih
      obtain ⟨j, hj, hjx⟩ := pick_mem hx
      exact h.at_ (fun e => hn'.1 (by subst e; exact hj)) hi hjx
theorem Sat.pick {w0 w : World} {Wr : List Nat} {H : Heap} (h : Sat w0 Wr H w) (idxs : List Nat) (hn : idxs.Nodup) : Sat w0 Wr (pick idxs H) w :=
  ⟨h.only, fun e he => by obtain ⟨i, _, hi⟩ := pick_mem he; exact h.ents e (List.mem_of_getElem? hi), sep_pick h.sep hn⟩
theorem HLe.pick {H H' : Heap} (idxs : List Nat) (hn : idxs.Nodup) (he : pick idxs H = H') : HLe H' H := fun _ _ _ h => he ▸ h.pick idxs hn
theorem mem_wrs {H : Heap} {g : Nat} : g ∈ wrs H ↔ ∃ e ∈ H, e.wr = true ∧ e.g = g := by
  simp [wrs, List.mem_filter, and_assoc]
/-- What a call of a part of memory leaves of the rest. -/
def keepOf (idxs : List Nat) (H : Heap) : Heap := (H.zipIdx.filter fun p => !p.1.wr || !idxs.contains p.2).map Prod.fst
theorem keep_mem {idxs : List Nat} {H : Heap} {e : Ent} (h : e ∈ keepOf idxs H) : ∃ i, H[i]? = some e ∧ (e.wr = true → i ∉ idxs) := by
  simp only [keepOf, List.mem_map, List.mem_filter] at h
  obtain ⟨⟨x, i⟩, ⟨hx, hc⟩, rfl⟩ := h
  refine ⟨i, List.mem_zipIdx_iff_getElem?.1 hx, fun hw => ?_⟩
  simp only [hw, Bool.not_true, Bool.false_or, Bool.not_eq_true', List.contains_eq_mem, decide_eq_false_iff_not] at hc
  exact hc
theorem keep_sub (idxs : List Nat) (H : Heap) : (keepOf idxs H).Sublist H := by
  have : ((H.zipIdx.filter fun p => !p.1.wr || !idxs.contains p.2).map Prod.fst).Sublist (H.zipIdx.map Prod.fst) := List.Sublist.map _ List.filter_sublist
  simpa [keepOf, List.zipIdx_map_fst] using this
theorem Sat.call {w0 w w' : World} {Wr : List Nat} {H H' : Heap} {idxs : List Nat} (h : Sat w0 Wr H w) (hn : idxs.Nodup) (h' : Sat w (wrs (Go.Proofs.Ytfffhnefjaomnaa.pick idxs H)) H' w') :
    Sat w0 Wr (H'.filter Ent.wr ++ keepOf idxs H) w' := by
  have hin : ∀ i ∈ wrs (Go.Proofs.Ytfffhnefjaomnaa.pick idxs H), i ∈ Wr ∨ w0.heap.size ≤ i := fun i hi => by
    obtain ⟨e, he, hw, rfl⟩ := mem_wrs.1 hi
    obtain ⟨j, _, hj⟩ := pick_mem he
    exact (h.ents e (List.mem_of_getElem? hj)).2 hw
  have hout : ∀ x ∈ keepOf idxs H, x.g ∉ wrs (Go.Proofs.Ytfffhnefjaomnaa.pick idxs H) := fun x hx hm => by
    obtain ⟨e, he, hw, hg⟩ := mem_wrs.1 hm
    obtain ⟨j, hj, hje⟩ := pick_mem he
    obtain ⟨i, hi, hiw⟩ := keep_mem hx
    by_cases hij : j = i
    · subst hij
      have : e = x := Option.some.inj (hje.symm.trans hi)
      subst this
      exact hiw hw hj
    · exact h.sep.at_ hij hje hi (by simp [hw]) hg
  have hk : ∀ x ∈ keepOf idxs H, x ∈ H := fun x hx => (keep_sub idxs H).subset hx
  refine ⟨h.only.trans h'.only hin, ?_, ?_⟩
  · intro e he
    rcases List.mem_append.1 he with he | he
    · have hm := h'.ents e (List.mem_filter.1 he).1
      refine ⟨hm.1, fun hw => ?_⟩
      rcases hm.2 hw with h1 | h1
      · exact hin _ h1
      · exact .inr (Nat.le_trans h.only.size h1)
    · have hm := h.ents e (hk e he)
      exact ⟨Ent.keep hm.1 h'.only.size (h'.only.block _ (Ent.lt hm.1) (hout e he)), hm.2⟩
  · refine List.pairwise_append.2 ⟨h'.sep.sublist List.filter_sublist, h.sep.sublist (keep_sub idxs H), fun e he x hx _ => ?_⟩
    obtain ⟨he1, he2⟩ := List.mem_filter.1 he
    rcases (h'.ents e he1).2 he2 with h1 | h1
    · exact fun hg => hout x hx (hg ▸ h1)
    · have := Ent.lt (h.ents x (hk x hx)).1
      omega

def evs (fr : Fr) : List Operand → Option (List Value)
  | [] => some []
  | x :: r => (ev fr x).bind fun v => (evs fr r).bind fun vs => some (v :: vs)
theorem FrOk.evals {N : Frm} {fr : Fr} {a : Act} (h : FrOk N fr a) : ∀ {xs : List Operand} {vs : List Value}, evs fr xs = some vs → xs.map a.eval = vs
  | [], vs, hx => by obtain rfl := Option.some.inj hx; rfl
  | x :: r, vs, hx => by
    simp only [evs] at hx
    cases h1 : ev fr x with
    | none => simp [h1] at hx
    | some v =>
      cases h2 : evs fr r with
      | none => simp [h1, h2] at hx
      | some us =>
        simp only [h1, h2, Option.bind_some, Option.some.injEq] at hx
        subst hx
        simp [h.eval h1, h.evals h2]
section
variable {P : Program} {N : Frm} {w0 : World} {Wr : List Nat} {ops : Array Oper} {rest : List Oper} {fr : Fr} {H : Heap} {Z : Fr → Heap → Prop} {Q : Exit → Act → World → Prop}
variable {d ty : Nat} {pos : String} {after : Array Edge}
theorem run_call {f : FuncId} {vs : List Value} (hE : Enters P f) {xs : List Operand} {ts : Array TypeId} {ρ : Operand → Value} (hx : xs.map ρ = vs) (hf : ρ (.func f) = .func (.func f) #[] #[]) {dst : Option Nat} {w : World} :
    (execOp ρ ⟨dst, .call { callee := .value (.func f), args := xs.toArray, argTypes := ts }, ty, pos, after, none⟩).run P w = .ok (.enter f vs.toArray) w := by
  obtain ⟨fn, h1, h2, h3⟩ := hE
  subst hx
  have h2' : ¬ (fn.name = "runtime.NumGoroutine") := by simpa using h2
  have h3' : ¬ (fn.body = none) := by intro e; rw [e] at h3; cases h3
  simp [execOp, resolve, hf, Deferred.ofValue, invoke, callFunc, h1, h2', h3', program, Sem.run_bind, Sem.run_pure, Sem.run]
def dstB (N : Frm) : Option Nat → Bool
  | some d => Nat.ble (d + 1) N.n
  | none => true
/-- A call, by whatever is known of it in the world at hand. -/
theorem sx_callW {f : FuncId} {xs : List Operand} {vs : List Value} {ts : Array TypeId} {dst : Option Nat} {R : Value → Heap → Prop} (hE : Enters P f) (hx : evs fr xs = some vs) (hN : dstB N dst = true)
    (hc : ∀ w, Sat w0 Wr H w → Calls P f vs.toArray w fun e w' => ∃ v H', e = .returned v ∧ R v H' ∧ Sat w0 Wr H' w')
    (h : ∀ v H', R v H' → sx P N w0 Wr ops rest (match dst with | some d => (d, v) :: fr | none => fr) H' Z) :
    sx P N w0 Wr ops (⟨dst, .call { callee := .value (.func f), args := xs.toArray, argTypes := ts }, ty, pos, after, none⟩ :: rest) fr H Z :=
  sx_op rfl fun a w K Q ha hw hK => by
    unfold Oper.wp
    rw [run_call hE (ha.evals hx) rfl]
    refine (hc w hw).mono fun e w' he => ?_
    obtain ⟨v, H', rfl, hR, hS⟩ := he
    cases dst with
    | none => exact hK v w' fr H' (h v H' hR) (ha.skip _) hS
    | some d => exact hK v w' _ H' (h v H' hR) (ha.put hN v) hS
/-- A call of a function that turns nothing that stood; what it reads is known. -/
theorem sx_call0 {f : FuncId} {xs : List Operand} {vs : List Value} {ts : Array TypeId} {v : Value} (hE : Enters P f) (hx : evs fr xs = some vs) (hN : Nat.ble (d + 1) N.n = true)
    (hc : ∀ w, Sat w0 Wr H w → Calls P f vs.toArray w fun e w' => e = .returned v ∧ Bel w w')
    (h : sx P N w0 Wr ops rest ((d, v) :: fr) H Z) :
    sx P N w0 Wr ops (⟨some d, .call { callee := .value (.func f), args := xs.toArray, argTypes := ts }, ty, pos, after, none⟩ :: rest) fr H Z :=
  sx_callW (R := fun u H' => u = v ∧ H' = H) hE hx hN (fun w hw => (hc w hw).mono fun e w' he => ⟨v, H, he.1, ⟨rfl, rfl⟩, hw.bel he.2⟩) (fun u H' hR => by obtain ⟨rfl, rfl⟩ := hR; exact h)
/-- A call by a function's own law: the entries that it takes. -/
theorem sx_call {f : FuncId} {xs : List Operand} {vs : List Value} {ts : Array TypeId} {dst : Option Nat} {Hc : Heap} {R : Value → Heap → Prop} (idxs : List Nat) (hc : Fn P f vs Hc R) (hx : evs fr xs = some vs) (hp : pick idxs H = Hc) (hn : idxs.Nodup) (hN : dstB N dst = true)
    (h : ∀ v H', R v H' → sx P N w0 Wr ops rest (match dst with | some d => (d, v) :: fr | none => fr) (H'.filter Ent.wr ++ keepOf idxs H) Z) :
    sx P N w0 Wr ops (⟨dst, .call { callee := .value (.func f), args := xs.toArray, argTypes := ts }, ty, pos, after, none⟩ :: rest) fr H Z :=
  sx_callW (R := fun v H2 => ∃ H', R v H' ∧ H2 = H'.filter Ent.wr ++ keepOf idxs H) hc.1 hx hN (fun w hw => by
    subst hp
    have hw' := hw.pick idxs hn
    have hpre : Sat w (wrs (pick idxs H)) (pick idxs H) w := ⟨Only.refl _ _, fun e he => ⟨(hw'.ents e he).1, fun h => .inl (mem_wrs.2 ⟨e, he, h, rfl⟩)⟩, hw'.sep⟩
    exact (hc.2 w hpre).mono fun e w' he => by
      obtain ⟨v, H', h1, h2, h3⟩ := he
      exact ⟨v, _, h1, ⟨H', h2, rfl⟩, hw.call hn h3⟩) (fun v H2 hR => by obtain ⟨H', hR, rfl⟩ := hR; exact h v H' hR)
theorem Sat.callK {w w' : World} {H' : Heap} {idxs ks : List Nat} (h : Sat w0 Wr H w) (hn : (idxs ++ ks).Nodup) (h' : Sat w (wrs (Go.Proofs.Ytfffhnefjaomnaa.pick idxs H)) H' w') :
    Sat w0 Wr (H'.filter Ent.wr ++ Go.Proofs.Ytfffhnefjaomnaa.pick ks H) w' := by
  have hn' := List.nodup_append.1 hn
  have hc := h.call hn'.1 h'
  have hin : ∀ x ∈ Go.Proofs.Ytfffhnefjaomnaa.pick ks H, x ∈ keepOf idxs H := fun x hx => by
    obtain ⟨i, hi, hix⟩ := pick_mem hx
    simp only [keepOf, List.mem_map, List.mem_filter]
    refine ⟨(x, i), ⟨List.mem_zipIdx_iff_getElem?.2 hix, ?_⟩, rfl⟩
    have : i ∉ idxs := fun hm => hn'.2.2 i hm i hi rfl
    simp [this]
  have hp := List.pairwise_append.1 hc.sep
  refine ⟨hc.only, fun e he => ?_, List.pairwise_append.2 ⟨hp.1, sep_pick h.sep hn'.2.1, fun a ha b hb => hp.2.2 a ha b (hin b hb)⟩⟩
  rcases List.mem_append.1 he with he | he
  · exact hc.ents e (List.mem_append_left _ he)
  · exact hc.ents e (List.mem_append_right _ (hin e he))
/-- The same, and what is kept is told. -/
theorem sx_callK {f : FuncId} {xs : List Operand} {vs : List Value} {ts : Array TypeId} {dst : Option Nat} {Hc : Heap} {R : Value → Heap → Prop} (idxs ks : List Nat) (hc : Fn P f vs Hc R) (hx : evs fr xs = some vs) (hp : pick idxs H = Hc) (hn : (idxs ++ ks).Nodup) (hN : dstB N dst = true)
    (h : ∀ v H', R v H' → sx P N w0 Wr ops rest (match dst with | some d => (d, v) :: fr | none => fr) (H'.filter Ent.wr ++ pick ks H) Z) :
    sx P N w0 Wr ops (⟨dst, .call { callee := .value (.func f), args := xs.toArray, argTypes := ts }, ty, pos, after, none⟩ :: rest) fr H Z :=
  sx_callW (R := fun v H2 => ∃ H', R v H' ∧ H2 = H'.filter Ent.wr ++ pick ks H) hc.1 hx hN (fun w hw => by
    subst hp
    have hw' := hw.pick idxs (List.nodup_append.1 hn).1
    have hpre : Sat w (wrs (pick idxs H)) (pick idxs H) w := ⟨Only.refl _ _, fun e he => ⟨(hw'.ents e he).1, fun h => .inl (mem_wrs.2 ⟨e, he, h, rfl⟩)⟩, hw'.sep⟩
    exact (hc.2 w hpre).mono fun e w' he => by
      obtain ⟨v, H', h1, h2, h3⟩ := he
      exact ⟨v, _, h1, ⟨H', h2, rfl⟩, hw.callK hn h3⟩) (fun v H2 hR => by obtain ⟨H', hR, rfl⟩ := hR; exact h v H' hR)
theorem sx_norm {l : List Oper} {H' : Heap} (e : H = H') (h : sx P N w0 Wr ops l fr H' Z) : sx P N w0 Wr ops l fr H Z := e ▸ h
theorem keep_nil (H : Heap) : keepOf [] H = H := by
  have : (H.zipIdx.filter fun p => !p.1.wr || !([] : List Nat).contains p.2) = H.zipIdx := List.filter_eq_self.2 (fun p _ => by simp)
  unfold keepOf
  rw [this, List.zipIdx_map_fst]
/-- A call of a function that takes values alone. -/
theorem sx_callP {f : FuncId} {xs : List Operand} {vs : List Value} {ts : Array TypeId} {v : Value} (hc : Fn P f vs [] fun u _ => u = v) (hx : evs fr xs = some vs) (hN : Nat.ble (d + 1) N.n = true)
    (h : sx P N w0 Wr ops rest ((d, v) :: fr) H Z) :
    sx P N w0 Wr ops (⟨some d, .call { callee := .value (.func f), args := xs.toArray, argTypes := ts }, ty, pos, after, none⟩ :: rest) fr H Z :=
  sx_call [] hc hx rfl List.nodup_nil hN fun u H' hu => by
    subst hu
    rw [keep_nil]
    exact sx_drop H (List.sublist_append_right _ _) h
end

section
variable {P : Program} {N : Frm} {w0 : World} {Wr : List Nat} {fr : Fr} {H : Heap} {Q : Exit → Act → World → Prop}
theorem awp_region {id : Nat} {l : List Oper} (h : ∀ Z : Fr → Heap → Prop, (∀ fr H, nx N w0 Wr fr H Q .normal → Z fr H) → sx P N w0 Wr l.toArray l fr H Z) : awp P N w0 Wr (.region id l.toArray false) fr H Q :=
  fun a w ha hw => wq_lit (h (fun fr H => nx N w0 Wr fr H Q .normal) (fun _ _ h => h) (QN Q) (fun fr' H' a w hz hf hs => ⟨rfl, hz a w hf hs⟩) a w ha hw)
theorem awp_seq {x y : Code} (h : awp P N w0 Wr x fr H (Exit.then (wq P N y Q) Q)) : awp P N w0 Wr (.seq x y) fr H Q := fun a w ha hw => wq_seq (h a w ha hw)
theorem awp_seq_region {id : Nat} {l : List Oper} {y : Code} (h : ∀ Z : Fr → Heap → Prop, (∀ fr H, awp P N w0 Wr y fr H Q → Z fr H) → sx P N w0 Wr l.toArray l fr H Z) : awp P N w0 Wr (.seq (.region id l.toArray false) y) fr H Q :=
  awp_seq (awp_region fun Z hZ => h Z fun fr H hy => hZ fr H hy)
theorem awp_cond {c : Operand} {x y : Code} {b : Bool} (hc : ev fr c = some (.bool b)) (ht : b = true → awp P N w0 Wr x fr H Q) (hf : b = false → awp P N w0 Wr y fr H Q) : awp P N w0 Wr (.cond c x y) fr H Q :=
  fun a w ha hw => wq_cond_split (ha.eval hc) (fun h => ht h a w ha hw) (fun h => hf h a w ha hw)
theorem awp_block {id : Nat} {c : Code} (h : awp P N w0 Wr c fr H (Exit.inBlock id Q)) : awp P N w0 Wr (.block id c) fr H Q := fun a w ha hw => wq_block (h a w ha hw)
theorem awp_exit {id : Nat} (h : nx N w0 Wr fr H Q (.exit id)) : awp P N w0 Wr (.exit id) fr H Q := fun a w ha hw => wq_exit (h a w ha hw)
theorem awp_ret (h : nx N w0 Wr fr H Q .ret) : awp P N w0 Wr .ret fr H Q := fun a w ha hw => wq_ret (h a w ha hw)
theorem awp_skip (h : nx N w0 Wr fr H Q .normal) : awp P N w0 Wr .skip fr H Q := fun a w ha hw => wq_skip (h a w ha hw)
theorem awp_forget {c : Code} (fr' : Fr) (hk : Kn fr' fr) (h : awp P N w0 Wr c fr' H Q) : awp P N w0 Wr c fr H Q := fun a w ha hw => h a w (ha.kn hk) hw
theorem awp_heap {c : Code} (H' : Heap) (hk : HLe H' H) (h : awp P N w0 Wr c fr H' Q) : awp P N w0 Wr c fr H Q := fun a w ha hw => h a w ha (hk _ _ _ hw)
theorem nx_forget {e : Exit} (fr' : Fr) (hk : Kn fr' fr) (h : nx N w0 Wr fr' H Q e) : nx N w0 Wr fr H Q e := fun a w ha hw => h a w (ha.kn hk) hw
theorem nx_normal {y : Code} (h : awp P N w0 Wr y fr H Q) : nx N w0 Wr fr H (Exit.then (wq P N y Q) Q) .normal := h
theorem nx_then_ret {K : Act → World → Prop} (h : nx N w0 Wr fr H Q .ret) : nx N w0 Wr fr H (Exit.then K Q) .ret := h
theorem nx_then_exit {K : Act → World → Prop} {i : Nat} (h : nx N w0 Wr fr H Q (.exit i)) : nx N w0 Wr fr H (Exit.then K Q) (.exit i) := h
theorem nx_block_ret {id : Nat} (h : nx N w0 Wr fr H Q .ret) : nx N w0 Wr fr H (Exit.inBlock id Q) .ret := h
theorem nx_block_normal {id : Nat} (h : nx N w0 Wr fr H Q .normal) : nx N w0 Wr fr H (Exit.inBlock id Q) .normal := h
theorem nx_block_exit {id : Nat} (h : nx N w0 Wr fr H Q .normal) : nx N w0 Wr fr H (Exit.inBlock id Q) (.exit id) := fun a w ha hw => by
  simp only [Exit.inBlock, if_true]; exact h a w ha hw
theorem nx_block_other {id i : Nat} (hi : Nat.beq i id = false) (h : nx N w0 Wr fr H Q (.exit i)) : nx N w0 Wr fr H (Exit.inBlock id Q) (.exit i) := fun a w ha hw => by
  have hne : ¬ i = id := fun e => by subst e; rw [Nat.beq_refl] at hi; cases hi
  simp only [Exit.inBlock, hne, if_false]; exact h a w ha hw
/-- A loop: a family of heads, and a measure. -/
theorem awp_loop {body : Code} {ι : Type} (F : ι → Fr) (HH : ι → Heap) (I : ι → Prop) (μ : ι → Nat) (i0 : ι) (h0 : I i0) (hF : Kn (F i0) fr) (hH : HLe (HH i0) H)
    (round : ∀ i, I i → awp P N w0 Wr body (F i) (HH i) (Exit.then (fun a w => ∃ j, I j ∧ μ j < μ i ∧ FrOk N (F j) a ∧ Sat w0 Wr (HH j) w) Q)) : awp P N w0 Wr (.loop body) fr H Q :=
  fun a w ha hw => wq_loop (fun _ => N) F HH I μ i0 h0 (fun i hI a w hf hs => round i hI a w hf hs) (ha.kn hF) (hH _ _ _ hw)
/-- A round's end: the next head. -/
theorem nx_round {ι : Type} {F : ι → Fr} {HH : ι → Heap} {I : ι → Prop} {μ : ι → Nat} {i : ι} (j : ι) (hI : I j) (hμ : μ j < μ i) (hF : Kn (F j) fr) (hH : HLe (HH j) H) :
    nx N w0 Wr fr H (Exit.then (fun a w => ∃ j, I j ∧ μ j < μ i ∧ FrOk N (F j) a ∧ Sat w0 Wr (HH j) w) Q) .normal :=
  fun a w ha hw => ⟨j, hI, hμ, ha.kn hF, hH _ _ _ hw⟩
/-- A cut: what holds behind a piece, however it is left: one family for its normal end. -/
theorem awp_cut {x y : Code} {ι : Type} (F : ι → Fr) (HH : ι → Heap) (I : ι → Prop)
    (hx : awp P N w0 Wr x fr H (Exit.then (fun a w => ∃ j, I j ∧ FrOk N (F j) a ∧ Sat w0 Wr (HH j) w) Q)) (hy : ∀ j, I j → awp P N w0 Wr y (F j) (HH j) Q) : awp P N w0 Wr (.seq x y) fr H Q :=
  awp_seq fun a w ha hw => wq_mono (fun e a w h => by
    cases e <;> first | exact h | (obtain ⟨j, hj, h1, h2⟩ := h; exact hy j hj a w h1 h2)) (hx a w ha hw)
theorem nx_cut {ι : Type} {F : ι → Fr} {HH : ι → Heap} {I : ι → Prop} (j : ι) (hI : I j) (hF : Kn (F j) fr) (hH : HLe (HH j) H) :
    nx N w0 Wr fr H (Exit.then (fun a w => ∃ j, I j ∧ FrOk N (F j) a ∧ Sat w0 Wr (HH j) w) Q) .normal :=
  fun a w ha hw => ⟨j, hI, ha.kn hF, hH _ _ _ hw⟩
def enumFr : Nat → List Value → Fr
  | _, [] => []
  | i, v :: r => (i, v) :: enumFr (i + 1) r
theorem lk_enum : ∀ (vs : List Value) (i t : Nat) (v : Value), lk (enumFr i vs) t = some v → ∃ k, t = i + k ∧ vs[k]? = some v
  | [], _, _, _, h => by cases h
  | u :: r, i, t, v, h => by
    simp only [enumFr, lk] at h
    cases hb : Nat.beq i t with
    | true => rw [hb] at h; exact ⟨0, (Nat.eq_of_beq_eq_true hb).symm, h⟩
    | false =>
      rw [hb] at h
      obtain ⟨k, hk, hv⟩ := lk_enum r (i + 1) t v h
      exact ⟨k + 1, by omega, by simpa using hv⟩
/-- What a function hands back. -/
def FnPost (w0 : World) (Wr : List Nat) (R : Value → Heap → Prop) (e : Ending) (w' : World) : Prop := ∃ v H', e = .returned v ∧ R v H' ∧ Sat w0 Wr H' w'
theorem Fn.enter {N : Nat} {f : FuncId} {fn : Func} {c : Code} {args : List Value} {R : Value → Heap → Prop} (hf : P.funcs[f]? = some fn) (hb : fn.body = some c) (hn : (fn.name == "runtime.NumGoroutine") = false) (hN : args.length + (fn.ntmps - args.length) = N)
    (h : ∀ w0, awp P ⟨N, none, []⟩ w0 (wrs H) c (enumFr 0 args) H (bodyPost P fn (FnPost w0 (wrs H) R))) : Fn P f args H R := by
  refine ⟨⟨fn, hf, hn, by simp [hb]⟩, fun w hw => calls_of_wp hf hb (wq_none (h w _ w ⟨?_, rfl, ?_⟩ hw))⟩
  · simp [← hN]
  · intro t v ht
    obtain ⟨k, rfl, hk⟩ := lk_enum args 0 t v ht
    have hl : k < args.length := (List.getElem?_eq_some_iff.1 hk).1
    simp only [Nat.zero_add]
    rw [Array.getElem?_append_left (by simpa using hl)]
    simpa using hk
def ResOk (P : Program) (fr : Fr) (H : Heap) : ResultVar → Value → Prop
  | .tmp t, v => lk fr t = some v
  | .cell a t, v => ∃ (i g o : Nat) (e : TypeId) (cs : List Value) (agg : Bool) (n : Nat), lk fr a = some (ptr g o) ∧ H[i]? = some (Ent.own g e cs) ∧ tyAgg P t = some agg ∧ tySize P t = some n ∧ rdV agg n cs o = some v
theorem ResOk.cell {a t : Nat} (i : Nat) {g o : Nat} {e : TypeId} {cs : List Value} {agg : Bool} {n : Nat} {v : Value} (h1 : lk fr a = some (ptr g o)) (h2 : H[i]? = some (.own g e cs)) (h3 : tyAgg P t = some agg) (h4 : tySize P t = some n) (h5 : rdV agg n cs o = some v) : ResOk P fr H (.cell a t) v :=
  ⟨i, g, o, e, cs, agg, n, h1, h2, h3, h4, h5⟩
theorem ResOk.run {r : ResultVar} {v : Value} {a : Act} {w : World} (h : ResOk P fr H r v) (ha : FrOk N fr a) (hw : Sat w0 Wr H w) :
    (match r with | .tmp t => (pure (a.tmps.getD t undef) : Sem Value) | .cell b t => do loadVar t (← asAddr (a.tmps.getD b undef))).run P w = .ok v w := by
  cases r with
  | tmp t =>
    have := ha.at_ t v h
    simp [Array.getD_eq_getD_getElem?, this]
  | cell b t =>
    obtain ⟨i, g, o, e, cs, agg, n, h1, h2, h3, h4, h5⟩ := h
    have hb := ha.at_ b _ h1
    have hc := Ent.cell (hw.mem h2)
    simp only [Array.getD_eq_getD_getElem?, hb, Option.getD_some, ptr, asAddr, Sem.run_bind, Sem.run_pure, Result.andThen_ok]
    exact run_loadVar h3 h4 h5 (fun j u hu => (hc j).trans hu)
variable {n : Nat} {ro : Option Nat}
def resRun (tmps : Array Value) : ResultVar → Sem Value
  | .tmp t => pure (tmps.getD t undef)
  | .cell a t => do loadVar t (← asAddr (tmps.getD a undef))
theorem ResOk.run' {r : ResultVar} {v : Value} {a : Act} {w : World} (h : ResOk P fr H r v) (ha : FrOk N fr a) (hw : Sat w0 Wr H w) : (resRun a.tmps r).run P w = .ok v w := by
  have := h.run ha hw
  cases r <;> exact this
theorem results_eq (fn : Func) (tmps : Array Value) : results fn tmps = (do let vs ← fn.results.mapM (resRun tmps); pure (if h : vs.size = 1 then vs[0] else .tuple vs)) := by
  unfold results
  congr 1
theorem nx_ret0 {fn : Func} {R : Value → Heap → Prop} (hr : fn.results = #[]) (hR : R (.tuple #[]) H) : nx ⟨n, ro, []⟩ w0 Wr fr H (bodyPost P fn (FnPost w0 Wr R)) .ret :=
  fun a w ha hw => ⟨ha.defers, _, results_none hr _ _ _, _, H, rfl, hR, hw⟩
theorem nx_end0 {fn : Func} {R : Value → Heap → Prop} (hr : fn.results = #[]) (hR : R (.tuple #[]) H) : nx ⟨n, ro, []⟩ w0 Wr fr H (bodyPost P fn (FnPost w0 Wr R)) .normal :=
  fun a w ha hw => ⟨ha.defers, _, results_none hr _ _ _, _, H, rfl, hR, hw⟩
theorem nx_ret1 {fn : Func} {R : Value → Heap → Prop} {r : ResultVar} {v : Value} (hr : fn.results = #[r]) (h1 : ResOk P fr H r v) (hR : R v H) : nx ⟨n, ro, []⟩ w0 Wr fr H (bodyPost P fn (FnPost w0 Wr R)) .ret :=
  fun a w ha hw => ⟨ha.defers, v, by
    have := h1.run' ha hw
    rw [results_eq]
    simp [hr, Sem.run_bind, this], v, H, rfl, hR, hw⟩
theorem nx_ret2 {fn : Func} {R : Value → Heap → Prop} {r s : ResultVar} {v u : Value} (hr : fn.results = #[r, s]) (h1 : ResOk P fr H r v) (h2 : ResOk P fr H s u) (hR : R (.tuple #[v, u]) H) : nx ⟨n, ro, []⟩ w0 Wr fr H (bodyPost P fn (FnPost w0 Wr R)) .ret :=
  fun a w ha hw => ⟨ha.defers, _, by
    have e1 := h1.run' ha hw
    have e2 := h2.run' ha hw
    rw [results_eq]
    simp [hr, Sem.run_bind, e1, e2], _, H, rfl, hR, hw⟩
theorem nx_heap {e : Exit} (HH : Heap) (hk : HLe HH H) (h : nx N w0 Wr fr HH Q e) : nx N w0 Wr fr H Q e := fun a w ha hw => h a w ha (hk _ _ _ hw)
/-- The same, and less is said of memory. -/
theorem nx_ret0h {fn : Func} {R : Value → Heap → Prop} (HH : Heap) (hr : fn.results = #[]) (hk : HLe HH H) (hR : R (.tuple #[]) HH) : nx ⟨n, ro, []⟩ w0 Wr fr H (bodyPost P fn (FnPost w0 Wr R)) .ret :=
  fun a w ha hw => ⟨ha.defers, _, results_none hr _ _ _, _, HH, rfl, hR, hk _ _ _ hw⟩
theorem nx_end0h {fn : Func} {R : Value → Heap → Prop} (HH : Heap) (hr : fn.results = #[]) (hk : HLe HH H) (hR : R (.tuple #[]) HH) : nx ⟨n, ro, []⟩ w0 Wr fr H (bodyPost P fn (FnPost w0 Wr R)) .normal :=
  fun a w ha hw => ⟨ha.defers, _, results_none hr _ _ _, _, HH, rfl, hR, hk _ _ _ hw⟩
theorem nx_ret1h {fn : Func} {R : Value → Heap → Prop} {r : ResultVar} {v : Value} (HH : Heap) (hr : fn.results = #[r]) (h1 : ResOk P fr H r v) (hk : HLe HH H) (hR : R v HH) : nx ⟨n, ro, []⟩ w0 Wr fr H (bodyPost P fn (FnPost w0 Wr R)) .ret :=
  fun a w ha hw => ⟨ha.defers, v, by
    have := h1.run' ha hw
    rw [results_eq]
    simp [hr, Sem.run_bind, this], v, HH, rfl, hR, hk _ _ _ hw⟩
theorem nx_ret2h {fn : Func} {R : Value → Heap → Prop} {r s : ResultVar} {v u : Value} (HH : Heap) (hr : fn.results = #[r, s]) (h1 : ResOk P fr H r v) (h2 : ResOk P fr H s u) (hk : HLe HH H) (hR : R (.tuple #[v, u]) HH) : nx ⟨n, ro, []⟩ w0 Wr fr H (bodyPost P fn (FnPost w0 Wr R)) .ret :=
  fun a w ha hw => ⟨ha.defers, _, by
    have e1 := h1.run' ha hw
    have e2 := h2.run' ha hw
    rw [results_eq]
    simp [hr, Sem.run_bind, e1, e2], _, HH, rfl, hR, hk _ _ _ hw⟩
theorem nx_ret3 {fn : Func} {R : Value → Heap → Prop} {r s t : ResultVar} {v u x : Value} (hr : fn.results = #[r, s, t]) (h1 : ResOk P fr H r v) (h2 : ResOk P fr H s u) (h3 : ResOk P fr H t x) (hR : R (.tuple #[v, u, x]) H) : nx ⟨n, ro, []⟩ w0 Wr fr H (bodyPost P fn (FnPost w0 Wr R)) .ret :=
  fun a w ha hw => ⟨ha.defers, _, by
    have e1 := h1.run' ha hw
    have e2 := h2.run' ha hw
    have e3 := h3.run' ha hw
    rw [results_eq]
    simp [hr, Sem.run_bind, e1, e2, e3], _, H, rfl, hR, hw⟩
end
end Go.Proofs.Ytfffhnefjaomnaa
