/- A piece of code walked in the frame of a function or of a round: the rules of control, and of regions. No conditions. -/
import Derived.Test.YtfffhnefjaomnaaSx2
import Derived.RangeFuncRecord
import Derived.OrdersIn
import Derived.TacticsIn
namespace Go.Proofs.Ytfffhnefjaomnaa
open Go.RowKit
set_option linter.unusedVariables false
set_option linter.unusedSimpArgs false
set_option linter.unusedSectionVars false
/-- Only the normal end. -/
def QN (Q : Exit → Act → World → Prop) : Exit → Act → World → Prop := fun e a w => e = .normal ∧ Q .normal a w
theorem QN_out {Q : Exit → Act → World → Prop} : ¬ LetsOut (QN Q) := fun ⟨_, _, h⟩ => by cases h.1
def Frm.fence (N : Frm) : Fence := { Fence.wide with round := N.R }
def opPlain (o : Oper) : Bool := match o.op with | .defer _ => false | _ => true
/-- Code without a deferred call. -/
def plainC : Code → Bool
  | .region _ ops _ => ops.toList.all opPlain
  | .seq x y => plainC x && plainC y
  | .cond _ x y => plainC x && plainC y
  | .block _ x => plainC x
  | .loop x => plainC x
  | .scope x => plainC x
  | .rangeFunc _ _ x y => plainC x && plainC y
  | _ => true
/-- A piece of code goes well in a frame of this make. -/
def wq (P : Program) (N : Frm) (c : Code) (Q : Exit → Act → World → Prop) (a : Act) (w : World) : Prop := (N.R.isSome = true → plainC c = true) → c.wpIn N.fence 0 P Q a w
section
variable {P : Program} {N : Frm} {Q Q' : Exit → Act → World → Prop} {a : Act} {w w0 : World} {Wr : List Nat} {K : Act → World → Prop}
theorem wq_none {n : Nat} {ds : List Nat} {c : Code} (h : wq P ⟨n, none, ds⟩ c Q a w) : c.wp P Q a w := wpIn_wide.1 (h (fun e => by cases e))
theorem wq_mono {c : Code} (hq : ∀ e a w, Q e a w → Q' e a w) (h : wq P N c Q a w) : wq P N c Q' a w := fun hp => Go.wpIn_mono (h hp) hq
theorem wq_seq {x y : Code} (h : wq P N x (Exit.then (wq P N y Q) Q) a w) : wq P N (.seq x y) Q a w := fun hp => by
  have hp' : N.R.isSome = true → plainC x = true ∧ plainC y = true := fun e => by simpa [plainC] using hp e
  exact wpIn_seq (Go.wpIn_mono (h fun e => (hp' e).1) fun e a w q => by
    cases e <;> first | exact q | exact q (fun e => (hp' e).2))
theorem wq_cond_split {c : Operand} {x y : Code} {t : Bool} (hc : a.eval c = .bool t) (ht : t = true → wq P N x Q a w) (hf : t = false → wq P N y Q a w) : wq P N (.cond c x y) Q a w := fun hp => by
  have hp' : N.R.isSome = true → plainC x = true ∧ plainC y = true := fun e => by simpa [plainC] using hp e
  exact wpIn_cond_split hc (fun h => ht h fun e => (hp' e).1) (fun h => hf h fun e => (hp' e).2)
theorem wq_block {id : Nat} {c : Code} (h : wq P N c (Exit.inBlock id Q) a w) : wq P N (.block id c) Q a w := fun hp => wpIn_block (h fun e => by simpa [plainC] using hp e)
theorem wq_exit {id : Nat} (h : Q (.exit id) a w) : wq P N (.exit id) Q a w := fun _ => wpIn_exit h
theorem wq_ret (h : Q .ret a w) : wq P N .ret Q a w := fun _ => wpIn_ret h
theorem wq_skip (h : Q .normal a w) : wq P N .skip Q a w := fun _ => wpIn_skip h
theorem wq_loop {body : Code} {ι : Type} (NN : ι → Frm) (F : ι → Fr) (HH : ι → Heap) (I : ι → Prop) (μ : ι → Nat) (i0 : ι) (h0 : I i0)
    (round : ∀ i, I i → ∀ a w, FrOk (NN i) (F i) a → Sat w0 Wr (HH i) w → wq P N body (Exit.then (fun a w => ∃ j, I j ∧ μ j < μ i ∧ FrOk (NN j) (F j) a ∧ Sat w0 Wr (HH j) w) Q) a w)
    (ha : FrOk (NN i0) (F i0) a) (hw : Sat w0 Wr (HH i0) w) : wq P N (.loop body) Q a w := fun hp => by
  have hp' : N.R.isSome = true → plainC body = true := fun e => by simpa [plainC] using hp e
  intro b k cs hro hb hr
  have key : ∀ n i a w, μ i = n → I i → FrOk (NN i) (F i) a → Sat w0 Wr (HH i) w →
      ∃ e a' w', Q e a' w' ∧ ArrivesIn (Machine.fenced P N.fence) P (lone (b.atR a (.code body :: .inLoop body :: k)) cs w) b k cs e a' w' := by
    intro n
    induction n using Nat.strongRecOn with
    | _ n ih =>
      intro i a w hn hI ha hw
      obtain ⟨e, a₁, w₁, hq, harr⟩ := round i hI a w ha hw hp' b (.inLoop body :: k) cs hro hb hr
      cases e with
      | normal =>
        obtain ⟨j, hj, hlt, hfj, hsj⟩ := hq
        obtain ⟨e₂, a₂, w₂, hq₂, harr₂⟩ := ih (μ j) (hn ▸ hlt) j a₁ w₁ rfl hj hfj hsj
        exact ⟨e₂, a₂, w₂, hq₂, .of_steps (StepsIn.trans harr (.one (fenced_calm hb hr rfl) stepR_inLoop)) harr₂⟩
      | exit id => exact ⟨_, a₁, w₁, hq, .pass (x := .inLoop body) rfl (fun _ _ => .inl (by simp)) harr⟩
      | goto l => exact ⟨_, a₁, w₁, hq, .pass (x := .inLoop body) rfl (fun _ _ => .inl (by simp)) harr⟩
      | ret => exact ⟨_, a₁, w₁, hq, .pass (x := .inLoop body) rfl (fun _ _ => .inl (by simp)) harr⟩
      | panic ch => exact ⟨_, a₁, w₁, hq, .pass (x := .inLoop body) rfl (fun _ _ => .inl (by simp)) harr⟩
      | outgrown => exact ⟨_, a₁, w₁, hq, .pass (x := .inLoop body) rfl (fun _ _ => .inl (by simp)) harr⟩
  obtain ⟨e, a', w', hq, harr⟩ := key _ i0 a w rfl h0 ha hw
  exact ⟨e, a', w', hq, .of_steps (.one (fenced_calm hb hr rfl) stepR_loop) harr⟩
theorem calls_in {f : FuncId} {args : Array Value} {R : Ending → World → Prop} {n : Nat} (h : Calls P f args w R) : CallsIn N.fence n P f args w R := callsIn_wide.2 h
theorem rows_in {row : String} {args : Array Value} {R : Value → World → Prop} {n : Nat} (h : Rows P row args w R) : RowsIn N.fence n P row args w R := fun c cs _ => by
  obtain ⟨v, w', hR, hs⟩ := h c cs
  exact ⟨v, w', hR, stepsIn_wide.2 hs⟩
/-- An operation that goes well in a function goes well in a round. -/
theorem op_in {o : Oper} (hp : N.R.isSome = true → opPlain o = true) (h : o.wp P a w K (QN Q)) : o.wpIn N.fence 0 P a w K (QN Q) := by
  have hs : o.semAt N.fence.round a.eval = execOp a.eval o := by
    cases hr : N.R with
    | none => rw [show N.fence.round = none from hr]; rfl
    | some l => rw [show N.fence.round = some l from hr]; exact Oper.semAt_some l _ _ (fun c hc => by have := hp (by rw [hr]; rfl); simp [opPlain, hc] at this)
  unfold Oper.wpIn
  refine ⟨fun _ _ => trivial, ?_⟩
  rw [hs]
  unfold Oper.wp at h
  generalize (execOp a.eval o).run P w = r at h ⊢
  cases r with
  | ok n w' =>
    cases n <;> simp only [Oper.upon, Oper.uponIn] at h ⊢ <;> first | exact h | exact h.elim | exact ⟨(fun e => by cases e), calls_in h⟩ | exact ⟨(fun e => by cases e), rows_in h⟩
  | halt x w' => cases x <;> simp only [Oper.upon, Oper.uponIn] at h ⊢ <;> first | exact h | exact h.elim
theorem list_in {ops : Array Oper} : ∀ (l : List Oper) (a : Act) (w : World), (N.R.isSome = true → l.all opPlain = true) → wpList P ops (QN Q) l a w → wpListIn N.fence 0 P ops (QN Q) l a w
  | [], _, _, _, h => h
  | o :: r, a, w, hp, h => by
    have hp' : N.R.isSome = true → opPlain o = true ∧ r.all opPlain = true := fun e => by simpa using hp e
    have ih := fun a w => list_in (ops := ops) r a w (fun e => (hp' e).2)
    simp only [wpList, wpListIn] at h ⊢
    split
    · rename_i hw
      rw [if_pos hw] at h
      exact Oper.wpIn_mono (fun a w hh => ih a w hh) (op_in (fun e => (hp' e).1) (h.resolve_right fun h => QN_out h.2))
    · rename_i hw
      rw [if_neg hw] at h
      exact ⟨fun _ _ => trivial, ih _ _ h⟩
theorem wq_lit {id : Nat} {l : List Oper} (h : wpList P l.toArray (QN Q) l a w) : wq P N (.region id l.toArray false) Q a w := fun hp =>
  Go.wpIn_mono (wpIn_region_lit (list_in l a w (fun e => by simpa [plainC] using hp e) h)) (fun e a w hq => by obtain ⟨rfl, hq⟩ := hq; exact hq)
theorem any_in {ops : Array Oper} (hp : N.R.isSome = true → ops.toList.all opPlain = true) : ∀ (n : Nat) (listed : Array Bool) (a : Act) (w : World), wpAny P .any ops (QN Q) n listed a w → wpAnyIn N.fence 0 P .any ops (QN Q) n listed a w
  | 0, _, _, _, h => h
  | n + 1, _, a, w, h => ⟨h.1, fun i hi => by
      have h2 := h.2 i hi
      unfold wpOp at h2
      unfold wpOpIn
      cases ho : ops[i]? with
      | none => simp only [ho] at h2 ⊢; exact any_in hp n _ _ _ h2
      | some o =>
        simp only [ho] at h2 ⊢
        have hm : o ∈ ops.toList := by
          rw [Array.mem_toList_iff]
          exact Array.mem_of_getElem? ho
        split
        · rename_i hw
          rw [if_pos hw] at h2
          exact Oper.wpIn_mono (fun a w hh => any_in hp n _ a w hh) (op_in (fun e => List.all_eq_true.1 (hp e) o hm) (h2.resolve_right fun h => QN_out h.2))
        · rename_i hw
          rw [if_neg hw] at h2
          exact ⟨fun _ _ => trivial, any_in hp n _ _ _ h2⟩⟩
theorem wq_any {id : Nat} {ops : Array Oper} (hm : P.follows .mixedOrders = true) (h : wpAny P .any ops (QN Q) ops.size (Array.replicate ops.size false) a w.drew) : wq P N (.region id ops true) Q a w := fun hp =>
  Go.wpIn_mono (wpIn_region_any hm (any_in (fun e => by simpa [plainC] using hp e) _ _ _ _ h)) (fun e a w hq => by obtain ⟨rfl, hq⟩ := hq; exact hq)
end
end Go.Proofs.Ytfffhnefjaomnaa
