/- The small logic's steps for functions that are ranged over: a yield's call, the statement itself, the marks that a function bears. No conditions. -/
import Derived.Test.YtfffhnefjaomnaaSxN
namespace Go.Proofs.Ytfffhnefjaomnaa
open Go.RowKit
set_option linter.unusedVariables false
set_option linter.unusedSimpArgs false
set_option linter.unusedSectionVars false
/-- All of it may be written. -/
def Wrs (T : Heap) : Prop := ∀ e ∈ T, e.wr = true
theorem Wrs.nil : Wrs [] := fun _ h => by cases h
theorem Wrs.cons {e : Ent} {T : Heap} (he : e.wr = true) (h : Wrs T) : Wrs (e :: T) := fun x hx => by
  rcases List.mem_cons.1 hx with rfl | hx
  · exact he
  · exact h x hx
theorem Wrs.append {T U : Heap} (h : Wrs T) (k : Wrs U) : Wrs (T ++ U) := fun e he => (List.mem_append.1 he).elim (h e) (k e)
theorem Wrs.filter {T : Heap} (h : Wrs T) : T.filter Ent.wr = T := List.filter_eq_self.2 h
def isDef : Obj → Prop := fun o => o = .deferred (some [])
def isLoop (r : Loop) : Obj → Prop := fun o => o = .loop r
/-- A yield's call, in this world. -/
def YRun (P : Program) (l : Nat) (vs : List Value) (w : World) (R : Ending → World → Prop) : Prop :=
  ∃ f tmps assign body, (Instr.yield l vs.toArray).run P w = .ok (.round l f tmps assign body) w ∧ RoundIn Fence.wide 0 P l f tmps assign body w R
/-- Yielded these, over this memory, the loop's round says go on or stop, and leaves in memory what R says. -/
def YOk (P : Program) (l : Nat) (vs : List Value) (H : Heap) (R : Value → Heap → Prop) : Prop :=
  ∀ w, Sat w (wrs H) H w → YRun P l vs w fun e w' => ∃ v H', e = .returned v ∧ R v H' ∧ Sat w (wrs H) H' w'
/-- What a round may do: memory goes on, or the loop stops. -/
def Goes (J S : Heap → Prop) (v : Value) (H' : Heap) : Prop := ∃ b, v = .bool b ∧ (b = true → J H') ∧ (b = false → S H')
/-- A function that is ranged over: it yields these, one behind the other, as far as the loop goes on. -/
def Iter (P : Program) (f : FuncId) (caps : List Value) (RO : Heap) (items : List (List Value)) : Prop :=
  ∀ (l : Nat) (J : Nat → Heap → Prop) (Jr : Heap) (S : Heap → Prop), (∀ k T, J k T → Wrs T) → (∀ T, S T → Wrs T) → Ro Jr →
    (∀ k vs T, items[k]? = some vs → J k T → YOk P l vs (T ++ Jr) (Goes (J (k + 1)) S)) →
    ∀ T, J 0 T → Fn P f (.func (.yield l) #[] #[] :: caps) (RO ++ (T ++ Jr)) fun _ H' => J items.length H' ∨ S H'
section
variable {P : Program} {N : Frm} {w0 : World} {Wr : List Nat} {ops : Array Oper} {rest : List Oper} {fr : Fr} {H : Heap} {Z : Fr → Heap → Prop}
variable {d ty : Nat} {pos : String} {after : Array Edge}
/-- The rest of a region in which yields are called goes well. -/
def sy (P : Program) (N : Frm) (w0 : World) (Wr : List Nat) (ops : Array Oper) (l : List Oper) (fr : Fr) (H : Heap) (Z : Fr → Heap → Prop) : Prop :=
  ∀ (Q : Exit → Act → World → Prop), (∀ fr' H' a w, Z fr' H' → FrOk N fr' a → Sat w0 Wr H' w → Q .normal a w) → ∀ a w, FrOk N fr a → Sat w0 Wr H w → wpListIn N.fence 0 P ops Q l a w
theorem sy_nil (h : Z fr H) : sy P N w0 Wr ops [] fr H Z := fun _ hQ a w ha hw => hQ _ _ a w h ha hw
theorem op_in_any {o : Oper} {a : Act} {w : World} {K : Act → World → Prop} {Q Q' : Exit → Act → World → Prop} (hp : opPlain o = true) (h : o.wp P a w K (QN Q')) : o.wpIn N.fence 0 P a w K Q := by
  have h := op_in (N := N) (fun _ => hp) h
  unfold Oper.wpIn at h ⊢
  refine ⟨h.1, ?_⟩
  have h := h.2
  generalize (o.semAt N.fence.round a.eval).run P w = r at h ⊢
  cases r with
  | ok n w' =>
    cases n <;> simp only [Oper.uponIn] at h ⊢ <;> first
      | exact h
      | exact ⟨h.1, CallsIn.mono h.2 (fun e w'' he => by cases e <;> first | exact he | exact (QN_out he).elim | (cases he.1))⟩
      | exact ⟨h.1, RoundIn.mono h.2 (fun e w'' he => by cases e <;> first | exact he | exact (QN_out he).elim | (cases he.1))⟩
  | halt x w' => cases x <;> simp only [Oper.uponIn] at h ⊢ <;> first | exact h | exact h.elim | (cases h.1)
/-- An operation that is no yield's call. -/
theorem sy_x {o : Oper} (hp : opPlain o = true) (h : sx P N w0 Wr ops [o] fr H fun fr' H' => sy P N w0 Wr ops rest fr' H' Z) : sy P N w0 Wr ops (o :: rest) fr H Z :=
  fun Q hQ a w ha hw => by
    have h1 := h (QN fun _ a w => wpListIn N.fence 0 P ops Q rest a w) (fun fr' H' a w ht hf hS => ⟨rfl, ht Q hQ a w hf hS⟩) a w ha hw
    unfold wpList at h1
    unfold wpListIn
    split
    · rename_i hw'
      rw [if_pos hw'] at h1
      exact Oper.wpIn_mono (fun a w hh => hh.2) (op_in_any hp (h1.resolve_right fun h => QN_out h.2))
    · rename_i hw'
      rw [if_neg hw'] at h1
      exact ⟨fun _ _ => trivial, h1.2⟩
theorem run_yieldOp {l : Nat} {vs : List Value} {xs : List Operand} {x : Operand} {ts : Array TypeId} {ρ : Operand → Value} (hx : xs.map ρ = vs) (hf : ρ x = .func (.yield l) #[] #[]) {dst : Option Nat} {w : World} :
    (execOp ρ ⟨dst, .call { callee := .value x, args := xs.toArray, argTypes := ts }, ty, pos, after, none⟩).run P w = (Instr.yield l vs.toArray).run P w := by
  subst hx
  simp [execOp, resolve, hf, Deferred.ofValue, invoke, Sem.run_bind, Sem.run_pure]
theorem sy_yieldW {l : Nat} {x : Operand} {xs : List Operand} {vs : List Value} {ts : Array TypeId} {R : Value → Heap → Prop} (hf : ev fr x = some (.func (.yield l) #[] #[])) (hx : evs fr xs = some vs) (hN : Nat.ble (d + 1) N.n = true)
    (hc : ∀ w, Sat w0 Wr H w → YRun P l vs w fun e w' => ∃ v H', e = .returned v ∧ R v H' ∧ Sat w0 Wr H' w')
    (h : ∀ v H', R v H' → sy P N w0 Wr ops rest ((d, v) :: fr) H' Z) :
    sy P N w0 Wr ops (⟨some d, .call { callee := .value x, args := xs.toArray, argTypes := ts }, ty, pos, after, none⟩ :: rest) fr H Z :=
  fun Q hQ a w ha hw => wpListIn_plain rfl fun K hK => by
    obtain ⟨f, tmps, assign, body, hrun, hR⟩ := hc w hw
    unfold Oper.wpIn
    refine ⟨fun _ _ => trivial, ?_⟩
    rw [Oper.semAt_eq _ _ _ (fun c hc => by cases hc), run_yieldOp (ha.evals hx) (ha.eval hf), hrun]
    refine ⟨(fun e => by cases e), RoundIn.mono (show RoundIn N.fence (0 - 1) P l f tmps assign body w _ from hR) fun e w' he => ?_⟩
    obtain ⟨v, H', rfl, hv, hS⟩ := he
    exact hK _ _ (h v H' hv Q hQ _ _ (ha.put hN v) hS)
/-- A yield's call: it takes T, and reads U. -/
theorem sy_yield {l : Nat} {x : Operand} {xs : List Operand} {vs : List Value} {ts : Array TypeId} {R : Value → Heap → Prop} (A T K U : Heap) (hc : YOk P l vs (T ++ U) R) (hf : ev fr x = some (.func (.yield l) #[] #[])) (hx : evs fr xs = some vs) (hH : H = A ++ (T ++ K)) (hU : U.Sublist K) (hroU : Ro U) (hN : Nat.ble (d + 1) N.n = true)
    (h : ∀ v T', R v T' → sy P N w0 Wr ops rest ((d, v) :: fr) (A ++ (T'.filter Ent.wr ++ K)) Z) :
    sy P N w0 Wr ops (⟨some d, .call { callee := .value x, args := xs.toArray, argTypes := ts }, ty, pos, after, none⟩ :: rest) fr H Z :=
  sy_yieldW (R := fun v H2 => ∃ T', R v T' ∧ H2 = A ++ (T'.filter Ent.wr ++ K)) hf hx hN (fun w hw => by
    subst hH
    have hw' := HLe.comm3 A T K _ _ _ hw
    have hpre : Sat w (wrs (T ++ U)) (T ++ U) w := by
      have hsub := hw'.sub (List.Sublist.append_left (hU.trans (List.sublist_append_right A K)) T)
      exact ⟨Only.refl _ _, fun e he => ⟨(hsub.ents e he).1, fun h => .inl (mem_wrs.2 ⟨e, he, h, rfl⟩)⟩, hsub.sep⟩
    obtain ⟨f, tmps, assign, body, hrun, hR⟩ := hc w hpre
    exact ⟨f, tmps, assign, body, hrun, hR.mono fun e w' he => by
      obtain ⟨v, H', h1, h2, h3⟩ := he
      exact ⟨v, _, h1, ⟨H', h2, rfl⟩, HLe.comm3 _ A K _ _ _ (hw'.callA hroU h3)⟩⟩) (fun v H2 hR => by obtain ⟨H', hR, rfl⟩ := hR; exact h v H' hR)
end
section
variable {P : Program} {N : Frm} {w0 : World} {Wr : List Nat} {fr : Fr} {H : Heap} {Q : Exit → Act → World → Prop}
theorem awy_region {id : Nat} {l : List Oper} (h : ∀ Z : Fr → Heap → Prop, (∀ fr H, nx N w0 Wr fr H Q .normal → Z fr H) → sy P N w0 Wr l.toArray l fr H Z) : awp P N w0 Wr (.region id l.toArray false) fr H Q :=
  fun a w ha hw _ => wpIn_region_lit (h (fun fr H => nx N w0 Wr fr H Q .normal) (fun _ _ h => h) Q (fun fr' H' a w hz hf hs => hz a w hf hs) a w ha hw)
theorem awy_seq_region {id : Nat} {l : List Oper} {y : Code} (h : ∀ Z : Fr → Heap → Prop, (∀ fr H, awp P N w0 Wr y fr H Q → Z fr H) → sy P N w0 Wr l.toArray l fr H Z) : awp P N w0 Wr (.seq (.region id l.toArray false) y) fr H Q :=
  awp_seq (awy_region fun Z hZ => h Z fun fr H hy => hZ fr H hy)
end
end Go.Proofs.Ytfffhnefjaomnaa
