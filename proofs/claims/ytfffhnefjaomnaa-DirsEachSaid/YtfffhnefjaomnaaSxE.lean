/- Whether two structs are the same. No conditions. -/
import Derived.Test.YtfffhnefjaomnaaSx5
namespace Go.Proofs.Ytfffhnefjaomnaa
open Go.RowKit
set_option linter.unusedVariables false
set_option linter.unusedSimpArgs false
set_option linter.unusedSectionVars false
/-- Two values of a type: told the same or not, in every world. -/
def EqV (P : Program) (d : Nat) (t : TypeId) (x y : Value) (b : Bool) : Prop := ∀ w, (Op.equalIn d t x y).run P w = .ok b w
inductive EqF (P : Program) (d : Nat) (xs ys : List Value) : List Field → Bool → Prop
  | nil : EqF P d xs ys [] true
  | cons {f : Field} {r : List Field} {x y : Value} {b c : Bool} {n : Nat} {ag : Bool} (hn : (f.name == "_") = false) (ha : tyAgg P f.type = some ag) (hs : tySize P f.type = some n) (hx : rdV ag n xs f.offset = some x) (hy : rdV ag n ys f.offset = some y)
      (h : EqV P d f.type x y b) (k : EqF P d xs ys r c) : EqF P d xs ys (f :: r) (b && c)
theorem eqF_run {P : Program} {d : Nat} {xs ys : List Value} {w : World} : ∀ {fs : List Field} {b : Bool}, EqF P d xs ys fs b →
    (forIn (m := Sem) fs ((none : Option Bool), ()) fun f __s =>
      if f.name ≠ "_" then do
        let l ← part f.type xs.toArray f.offset
        let l1 ← part f.type ys.toArray f.offset
        let l2 ← Op.equalIn d f.type l l1
        if (!l2) = true then pure (ForInStep.done (some false, ())) else pure (ForInStep.yield (none, ()))
      else pure (ForInStep.yield (none, ()))).run P w = .ok (if b then (none, ()) else (some false, ())) w
  | [], _, .nil => by simp
  | f :: r, _, .cons (b := b) (c := c) hn ha hs hx hy h k => by
    have hn' : f.name ≠ "_" := by simpa using hn
    rw [List.forIn_cons]
    simp only [hn', ne_eq, not_false_eq_true, if_true, Sem.run_bind, run_part ha hs hx, run_part ha hs hy, Result.andThen_ok, h w]
    cases b with
    | false => simp
    | true => simpa using eqF_run k
theorem EqV.struct {P : Program} {d : Nat} {t : TypeId} {fs : List Field} {xs ys : List Value} {b : Bool} (ht : P.underlying t = some (.struct fs.toArray)) (hs : P.stoodInHeld t = false) (h : EqF P d xs ys fs b) : EqV P (d + 1) t (.agg xs.toArray) (.agg ys.toArray) b := fun w => by
  unfold Op.equalIn
  simp only [Sem.run_bind, run_underlying ht, Result.andThen_ok, program, Sem.run, hs, Bool.false_eq_true, if_false]
  rw [← Array.forIn_toList]
  have := eqF_run (P := P) (w := w) h
  simp only [List.toList_toArray]
  rw [this]
  cases b <;> simp
theorem EqV.int {P : Program} {d : Nat} {t : TypeId} {k k' : IntKind} {m n : Int} (ht : P.underlying t = some (.int k')) : EqV P (d + 1) t (.int k m) (.int k n) (m == n) := fun w => by
  unfold Op.equalIn
  simp [Sem.run_bind, run_underlying ht]
theorem EqV.bool {P : Program} {d : Nat} {t : TypeId} {m n : Bool} (ht : P.underlying t = some .bool) : EqV P (d + 1) t (.bool m) (.bool n) (m == n) := fun w => by
  unfold Op.equalIn
  simp [Sem.run_bind, run_underlying ht]
section
variable {P : Program} {N : Frm} {w0 : World} {Wr : List Nat} {ops : Array Oper} {rest : List Oper} {fr : Fr} {H : Heap} {Z : Fr → Heap → Prop}
variable {d ty : Nat} {pos : String} {after : Array Edge}
theorem sx_aeql {t t' : TypeId} {x y : Operand} {xs ys : List Value} {b : Bool} (hE : EqV P 10000 t (.agg xs.toArray) (.agg ys.toArray) b) (hG : P.eqGuardType P.depth t = false) (hx : ev fr x = some (.agg xs.toArray)) (hy : ev fr y = some (.agg ys.toArray)) (hN : Nat.ble (d + 1) N.n = true)
    (h : sx P N w0 Wr ops rest ((d, .bool b) :: fr) H Z) : sx P N w0 Wr ops (⟨some d, .binOp .eql t x y t', ty, pos, after, none⟩ :: rest) fr H Z :=
  sx_val _ hN (fun a w ha _ => by
    have hg : (eqGuard .eql t x y (.agg xs.toArray) (.agg ys.toArray)).run P w = .ok () w := by
      simp [eqGuard, program, Sem.run_bind, Sem.run, hG]
    have he : (Op.equal t (.agg xs.toArray) (.agg ys.toArray)).run P w = .ok b w := hE w
    simp only [execOp, ha.eval hx, ha.eval hy, Sem.run_bind, hg, Result.andThen_ok, binOp, he, Sem.run_pure]) h
theorem sx_aneq {t t' : TypeId} {x y : Operand} {xs ys : List Value} {b : Bool} (hE : EqV P 10000 t (.agg xs.toArray) (.agg ys.toArray) b) (hG : P.eqGuardType P.depth t = false) (hx : ev fr x = some (.agg xs.toArray)) (hy : ev fr y = some (.agg ys.toArray)) (hN : Nat.ble (d + 1) N.n = true)
    (h : sx P N w0 Wr ops rest ((d, .bool (!b)) :: fr) H Z) : sx P N w0 Wr ops (⟨some d, .binOp .neq t x y t', ty, pos, after, none⟩ :: rest) fr H Z :=
  sx_val _ hN (fun a w ha _ => by
    have hg : (eqGuard .neq t x y (.agg xs.toArray) (.agg ys.toArray)).run P w = .ok () w := by
      simp [eqGuard, program, Sem.run_bind, Sem.run, hG]
    have he : (Op.equal t (.agg xs.toArray) (.agg ys.toArray)).run P w = .ok b w := hE w
    simp only [execOp, ha.eval hx, ha.eval hy, Sem.run_bind, hg, Result.andThen_ok, binOp, he, Sem.run_pure]) h
theorem sx_beql {t t' : TypeId} {x y : Operand} {a b : Bool} (ht : P.underlying t = some .bool) (hx : ev fr x = some (.bool a)) (hy : ev fr y = some (.bool b)) (hN : Nat.ble (d + 1) N.n = true)
    (h : sx P N w0 Wr ops rest ((d, .bool (a == b)) :: fr) H Z) : sx P N w0 Wr ops (⟨some d, .binOp .eql t x y t', ty, pos, after, none⟩ :: rest) fr H Z :=
  sx_val _ hN (fun c w ha _ => by
    have hg : (eqGuard .eql t x y (.bool a) (.bool b)).run P w = .ok () w := by
      unfold eqGuard
      split <;> rfl
    have he : (Op.equal t (.bool a) (.bool b)).run P w = .ok (a == b) w := by
      unfold Op.equal Op.maxDepth Op.equalIn
      simp [Sem.run_bind, run_underlying ht]
    simp only [execOp, ha.eval hx, ha.eval hy, Sem.run_bind, hg, Result.andThen_ok, binOp, he, Sem.run_pure]) h
theorem sx_bneq {t t' : TypeId} {x y : Operand} {a b : Bool} (ht : P.underlying t = some .bool) (hx : ev fr x = some (.bool a)) (hy : ev fr y = some (.bool b)) (hN : Nat.ble (d + 1) N.n = true)
    (h : sx P N w0 Wr ops rest ((d, .bool (!(a == b))) :: fr) H Z) : sx P N w0 Wr ops (⟨some d, .binOp .neq t x y t', ty, pos, after, none⟩ :: rest) fr H Z :=
  sx_val _ hN (fun c w ha _ => by
    have hg : (eqGuard .neq t x y (.bool a) (.bool b)).run P w = .ok () w := by
      unfold eqGuard
      split <;> rfl
    have he : (Op.equal t (.bool a) (.bool b)).run P w = .ok (a == b) w := by
      unfold Op.equal Op.maxDepth Op.equalIn
      simp [Sem.run_bind, run_underlying ht]
    simp only [execOp, ha.eval hx, ha.eval hy, Sem.run_bind, hg, Result.andThen_ok, binOp, he, Sem.run_pure]) h
/-- A test that is known. -/
theorem sx_force {l : List Oper} (t : Nat) {b : Bool} (hb : lk fr t = some (.bool b)) (c : Bool) (e : b = c) (h : sx P N w0 Wr ops l ((t, .bool c) :: fr) H Z) : sx P N w0 Wr ops l fr H Z := by
  subst e
  cases b
  · exact sx_split t hb (fun hh => by cases hh) (fun _ => h)
  · exact sx_split t hb (fun _ => h) (fun hh => by cases hh)
end
end Go.Proofs.Ytfffhnefjaomnaa
