/- More steps of the small logic: nil, maps that are nil, functions that the model stands in for; what a law's argument leaves. No conditions. -/
import Derived.Test.YtfffhnefjaomnaaSxK
import Derived.Laws.Externs
import Derived.MapKept
namespace Go.Proofs.Ytfffhnefjaomnaa
open Go.RowKit
set_option linter.unusedVariables false
set_option linter.unusedSimpArgs false
set_option linter.unusedSectionVars false
section
variable {P : Program} {N : Frm} {w0 : World} {Wr : List Nat} {ops : Array Oper} {rest : List Oper} {fr : Fr} {H : Heap} {Z : Fr → Heap → Prop}
variable {d ty : Nat} {pos : String} {after : Array Edge}
theorem sx_ptrNil {t t' e : TypeId} {x : Operand} {g o : Nat} (ht : P.underlying t = some (.pointer e)) (hx : ev fr x = some (ptr g o)) (hN : Nat.ble (d + 1) N.n = true)
    (h : sx P N w0 Wr ops rest ((d, .bool false) :: fr) H Z) : sx P N w0 Wr ops (⟨some d, .binOp .eql t x (.const (.pointer none)) t', ty, pos, after, none⟩ :: rest) fr H Z :=
  sx_val _ hN (fun a w ha _ => by
    have e' : a.eval (.const (.pointer none)) = .pointer none := rfl
    have hq : (Op.equal t (ptr g o) (.pointer none)).run P w = .ok false w := by
      unfold Op.equal Op.maxDepth Op.equalIn
      simp [Sem.run_bind, run_underlying ht, ptr]
    have hg : (eqGuard .eql t x (.const (.pointer none)) (ptr g o) (.pointer none)).run P w = .ok () w := by
      unfold eqGuard
      split <;> rfl
    simp only [execOp, ha.eval hx, e', Sem.run_bind, hg, Result.andThen_ok, binOp, ptr]
    simp only [ptr] at hq hg
    simp [hq, hg]) h
theorem sx_nilNil {t t' e : TypeId} {x : Operand} (ht : P.underlying t = some (.pointer e)) (hx : ev fr x = some (.pointer none)) (hN : Nat.ble (d + 1) N.n = true)
    (h : sx P N w0 Wr ops rest ((d, .bool true) :: fr) H Z) : sx P N w0 Wr ops (⟨some d, .binOp .eql t x (.const (.pointer none)) t', ty, pos, after, none⟩ :: rest) fr H Z :=
  sx_val _ hN (fun a w ha _ => by
    have e' : a.eval (.const (.pointer none)) = .pointer none := rfl
    have hq : (Op.equal t (.pointer none) (.pointer none)).run P w = .ok true w := by
      unfold Op.equal Op.maxDepth Op.equalIn
      simp [Sem.run_bind, run_underlying ht]
    have hg : (eqGuard .eql t x (.const (.pointer none)) (.pointer none) (.pointer none)).run P w = .ok () w := by
      unfold eqGuard
      split <;> rfl
    simp only [execOp, ha.eval hx, e', Sem.run_bind, hg, Result.andThen_ok, binOp]
    simp [hq]) h
theorem sx_mapNil {t t' k e : TypeId} {x : Operand} {m : Option Nat} (ht : P.underlying t = some (.map k e)) (hx : ev fr x = some (.map m)) (hN : Nat.ble (d + 1) N.n = true)
    (h : sx P N w0 Wr ops rest ((d, .bool m.isNone) :: fr) H Z) : sx P N w0 Wr ops (⟨some d, .binOp .eql t x (.const (.map none)) t', ty, pos, after, none⟩ :: rest) fr H Z :=
  sx_val _ hN (fun a w ha _ => by
    have e' : a.eval (.const (.map none)) = .map none := rfl
    have hq : (Op.equal t (.map m) (.map none)).run P w = .ok m.isNone w := by
      unfold Op.equal Op.maxDepth Op.equalIn
      cases m <;> simp [Sem.run_bind, run_underlying ht]
    have hg : (eqGuard .eql t x (.const (.map none)) (.map m) (.map none)).run P w = .ok () w := by
      unfold eqGuard
      split <;> rfl
    simp only [execOp, ha.eval hx, e', Sem.run_bind, hg, Result.andThen_ok, binOp]
    simp [hq]) h
theorem sx_ptrNeNil {t t' e : TypeId} {x : Operand} {g o : Nat} (ht : P.underlying t = some (.pointer e)) (hx : ev fr x = some (ptr g o)) (hN : Nat.ble (d + 1) N.n = true)
    (h : sx P N w0 Wr ops rest ((d, .bool true) :: fr) H Z) : sx P N w0 Wr ops (⟨some d, .binOp .neq t x (.const (.pointer none)) t', ty, pos, after, none⟩ :: rest) fr H Z :=
  sx_val _ hN (fun a w ha _ => by
    have e' : a.eval (.const (.pointer none)) = .pointer none := rfl
    have hq : (Op.equal t (ptr g o) (.pointer none)).run P w = .ok false w := by
      unfold Op.equal Op.maxDepth Op.equalIn
      simp [Sem.run_bind, run_underlying ht, ptr]
    have hg : (eqGuard .neq t x (.const (.pointer none)) (ptr g o) (.pointer none)).run P w = .ok () w := by
      unfold eqGuard
      split <;> rfl
    simp only [execOp, ha.eval hx, e', Sem.run_bind, hg, Result.andThen_ok, binOp, ptr]
    simp only [ptr] at hq hg
    simp [hq, hg]) h
theorem sx_nilNeNil {t t' e : TypeId} {x : Operand} (ht : P.underlying t = some (.pointer e)) (hx : ev fr x = some (.pointer none)) (hN : Nat.ble (d + 1) N.n = true)
    (h : sx P N w0 Wr ops rest ((d, .bool false) :: fr) H Z) : sx P N w0 Wr ops (⟨some d, .binOp .neq t x (.const (.pointer none)) t', ty, pos, after, none⟩ :: rest) fr H Z :=
  sx_val _ hN (fun a w ha _ => by
    have e' : a.eval (.const (.pointer none)) = .pointer none := rfl
    have hq : (Op.equal t (.pointer none) (.pointer none)).run P w = .ok true w := by
      unfold Op.equal Op.maxDepth Op.equalIn
      simp [Sem.run_bind, run_underlying ht]
    have hg : (eqGuard .neq t x (.const (.pointer none)) (.pointer none) (.pointer none)).run P w = .ok () w := by
      unfold eqGuard
      split <;> rfl
    simp only [execOp, ha.eval hx, e', Sem.run_bind, hg, Result.andThen_ok, binOp]
    simp [hq]) h
theorem sx_mkIface {t : TypeId} {x : Operand} {v : Value} {ds : TypeDesc} (ht : P.underlying t = some ds) (hd : (match ds with | .interface _ => false | _ => true) = true) (hx : ev fr x = some v) (hN : Nat.ble (d + 1) N.n = true)
    (h : sx P N w0 Wr ops rest ((d, .iface t v) :: fr) H Z) : sx P N w0 Wr ops (⟨some d, .makeInterface t x, ty, pos, after, none⟩ :: rest) fr H Z :=
  sx_val _ hN (fun a w ha _ => by
    simp only [execOp, Instr.makeInterface, ha.eval hx, Sem.run_bind, run_underlying ht, Result.andThen_ok]
    cases ds <;> first | rfl | simp at hd) h
theorem sx_assertTo {t xT k e : TypeId} {x : Operand} {v : Value} (ht : P.underlying t = some (.map k e)) (hx : ev fr x = some (.iface t v)) (hN : Nat.ble (d + 1) N.n = true)
    (h : sx P N w0 Wr ops rest ((d, v) :: fr) H Z) : sx P N w0 Wr ops (⟨some d, .typeAssert x xT t false, ty, pos, after, none⟩ :: rest) fr H Z :=
  sx_val _ hN (fun a w ha _ => by
    simp [execOp, Instr.typeAssert, ha.eval hx, Sem.run_bind, run_underlying ht]) h
/-- A call of a function that the model stands in for. -/
theorem sx_extern {f : FuncId} {fn : Func} {ex : Array Value → Sem Value} {xs : List Operand} {vs : List Value} {ts : Array TypeId} {R : Value → Heap → Prop} (hf : P.funcs[f]? = some fn) (hname : (fn.name == "runtime.NumGoroutine") = false)
    (hb : fn.body.isNone = true) (hn : Extern.findNext fn = none) (he : Extern.find fn = some ex) (hx : evs fr xs = some vs) (hN : Nat.ble (d + 1) N.n = true)
    (hrun : ∀ w, Sat w0 Wr H w → ∃ v w' H', (ex vs.toArray).run P w = .ok v w' ∧ R v H' ∧ Sat w0 Wr H' w')
    (h : ∀ v H', R v H' → sx P N w0 Wr ops rest ((d, v) :: fr) H' Z) :
    sx P N w0 Wr ops (⟨some d, .call { callee := .value (.func f), args := xs.toArray, argTypes := ts }, ty, pos, after, none⟩ :: rest) fr H Z :=
  sx_make (R := R) hN (fun a w ha hw => by
    obtain ⟨v, w', H', h1, h2, h3⟩ := hrun w hw
    refine ⟨v, w', H', ?_, h2, h3⟩
    have hvs := ha.evals hx
    have hfu : a.eval (.func f) = .func (.func f) #[] #[] := rfl
    have := run_callFunc_extern hf hname hb hn he vs.toArray w
    rw [h1] at this
    subst hvs
    simpa [execOp, resolve, hfu, Deferred.ofValue, invoke, Sem.run_bind] using this) h
theorem run_look_nil {κ : Type} [DecidableEq κ] {encK : κ → Value} {K T E : TypeId} (hK : KeyOk P K encK) (hT : P.underlying T = some (.map K E)) {z : Value} {w : World} (hz : (zeroValue E).run P w = .ok z w) (k : κ) (ok : Bool) :
    (Instr.lookup T (.map none) (encK k) ok).run P w = .ok (if ok then .tuple #[z, .bool false] else z) w := by
  have hc := hK.chk true k w
  obtain ⟨f1, _⟩ := run_findKey (ν := Unit) (encV := fun _ => undef) hK w k [] [] rfl
  cases ok <;> simp [Instr.lookup, run_underlying hT, hc, f1 (by simp [akeys]), hz, Result.andThen]
theorem sx_lookupNil {κ : Type} [DecidableEq κ] {encK : κ → Value} {K T E : TypeId} (hK : KeyOk P K encK) (hT : P.underlying T = some (.map K E)) {z : Value} (hz : ∀ w, (zeroValue E).run P w = .ok z w) {x y : Operand} (k : κ) {ok : Bool} (v : Value)
    (hx : ev fr x = some (.map none)) (hy : ev fr y = some (encK k)) (hv : (if ok = true then Value.tuple #[z, .bool false] else z) = v) (hN : Nat.ble (d + 1) N.n = true)
    (h : sx P N w0 Wr ops rest ((d, v) :: fr) H Z) : sx P N w0 Wr ops (⟨some d, .lookup T x y ok, ty, pos, after, none⟩ :: rest) fr H Z :=
  sx_val v hN (fun a w ha hw => by
    subst hv
    have := run_look_nil hK hT (hz w) k ok
    simp only [execOp, ha.eval hx, ha.eval hy, Sem.run_bind, this, Result.andThen_ok]
    rfl) h
theorem sv_lookupNil {κ : Type} [DecidableEq κ] {encK : κ → Value} {K T E : TypeId} (hK : KeyOk P K encK) (hT : P.underlying T = some (.map K E)) {z : Value} (hz : ∀ w, (zeroValue E).run P w = .ok z w) {x y : Operand} (k : κ) {ok : Bool} (v : Value)
    (hx : ev fr x = some (.map none)) (hy : ev fr y = some (encK k)) (hv : (if ok = true then Value.tuple #[z, .bool false] else z) = v) (hN : Nat.ble (d + 1) N.n = true)
    (h : sv P N w0 Wr ops rest ((d, v) :: fr) H Z) : sv P N w0 Wr ops (⟨some d, .lookup T x y ok, ty, pos, after, none⟩ :: rest) fr H Z :=
  sv_val v hN (fun a w ha hw => by
    subst hv
    have := run_look_nil hK hT (hz w) k ok
    simp only [execOp, ha.eval hx, ha.eval hy, Sem.run_bind, this, Result.andThen_ok]
    rfl) h
theorem sx_lenMNil {K T E : TypeId} (hT : P.underlying T = some (.map K E)) {x : Operand} (hx : ev fr x = some (.map none)) (hN : Nat.ble (d + 1) N.n = true)
    (h : sx P N w0 Wr ops rest ((d, .int .i64 0) :: fr) H Z) : sx P N w0 Wr ops (⟨some d, .call { callee := .builtin .len, args := #[x], argTypes := #[T] }, ty, pos, after, none⟩ :: rest) fr H Z :=
  sx_val _ hN (fun a w ha hw => by
    have he := ha.eval hx
    simp [execOp, resolve, invoke, builtin, he, Sem.run_bind, Builtin.len_, run_underlying hT, goInt]) h
end
theorem HLe.dup {H T : Heap} (hT : T.Sublist H) (hro : Ro T) : HLe (H ++ T) H := fun _ _ _ h =>
  ⟨h.only, fun e he => (List.mem_append.1 he).elim (h.ents e) (fun he => h.ents e (hT.subset he)), List.pairwise_append.2 ⟨h.sep, h.sep.sublist hT, fun a ha b hb => apart_any h ha (hT.subset hb) (hro b hb)⟩⟩
theorem tail_bel {P : Program} {f : FuncId} {vs : List Value} {v : Value} {T : Heap} {w : World} (hro : Ro T) (hS : Sat w [] T w) (h : Fn P f vs T fun u _ => u = v) : Calls P f vs.toArray w fun e w' => e = .returned v ∧ Bel w w' := by
  have h0 : wrs T = [] := by have := hro.wrs []; simpa [wrs] using this
  have := h.2 w (by rw [h0]; exact hS)
  rw [h0] at this
  exact this.mono fun e w' he => by
    obtain ⟨u, H', rfl, rfl, h3⟩ := he
    exact ⟨rfl, h3.only.bel⟩
theorem clip_roE {e : TypeId} {size n c : Nat} {xs : List Value} {A : Option Addr} (H : Heap) (hv : RowOk (.slice A n c) n) : HLe (roE A xs ++ H) (clipE (.slice A n c) e size xs ++ H) := by
  rcases hv with ⟨h, rfl⟩ | ⟨g, c', h⟩
  · injection h with h1; subst h1
    exact HLe.refl _
  · injection h with h1; subst h1
    exact clip_ro H
theorem HLe.comm3 (A B C : Heap) : HLe (B ++ (A ++ C)) (A ++ (B ++ C)) := fun _ _ _ hw => hw.perm (List.perm_append_comm_assoc A B C)
end Go.Proofs.Ytfffhnefjaomnaa
