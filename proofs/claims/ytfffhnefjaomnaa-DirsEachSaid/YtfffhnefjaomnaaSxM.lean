/- The small logic's steps on maps. No conditions. -/
import Derived.Test.YtfffhnefjaomnaaSxE
import Derived.Test.YtfffhnefjaomnaaMapOwn
namespace Go.Proofs.Ytfffhnefjaomnaa
open Go.RowKit
set_option linter.unusedVariables false
set_option linter.unusedSimpArgs false
set_option linter.unusedSectionVars false
section
variable {κ ν : Type} [DecidableEq κ] (encK : κ → Value) (encV : ν → Value)
/-- A map that reads as M, each key once. -/
def MapP (M : List (κ × ν)) (o : Obj) : Prop :=
  ∃ es clock, o = .map es clock ∧ es.toList.map (fun e : MapEntry => (e.key, e.val)) = M.map (fun x => (encK x.1, encV x.2)) ∧ (akeys M).Nodup
abbrev mapE (b : Nat) (M : List (κ × ν)) : Ent := .ob b (MapP encK encV M)
variable {encK encV} {b : Nat} {M : List (κ × ν)} {w w' : World}
theorem mapE_is : (mapE encK encV b M).holds w ↔ MapIs encK encV w b M := by
  constructor
  · rintro ⟨o, h1, es, clock, rfl, h2, h3⟩
    exact ⟨es, clock, h1, h2, h3⟩
  · rintro ⟨es, clock, h1, h2, h3⟩
    exact ⟨_, h1, es, clock, rfl, h2, h3⟩
theorem OnlyMap.only (h : OnlyMap w w' b) : Only [b] w w' := by
  obtain ⟨x, rfl⟩ := h
  refine ⟨rfl, rfl, rfl, by simp, fun i _ hn => ?_⟩
  have : b ≠ i := fun e => hn (by simp [e])
  simp [Array.getElem?_setIfInBounds_ne this]
end
section
variable {P : Program} {N : Frm} {w0 : World} {Wr : List Nat} {ops : Array Oper} {rest : List Oper} {fr : Fr} {H : Heap} {Z : Fr → Heap → Prop}
variable {d ty : Nat} {pos : String} {after : Array Edge}
variable {κ ν : Type} [DecidableEq κ] {encK : κ → Value} {encV : ν → Value} {K T E : TypeId}
theorem sx_doV {op : Op} {ty : Nat} {pos : String} {after : Array Edge} {H' : Heap} {v : Value}
    (hrun : ∀ (a : Act) (w : World), FrOk N fr a → Sat w0 Wr H w → ∃ w', (execOp a.eval ⟨none, op, ty, pos, after, none⟩).run P w = .ok (.value v) w' ∧ Sat w0 Wr H' w')
    (h : sx P N w0 Wr ops rest fr H' Z) : sx P N w0 Wr ops (⟨none, op, ty, pos, after, none⟩ :: rest) fr H Z :=
  sx_op rfl fun a w K Q ha hw hK => by
    obtain ⟨w', h1, h2⟩ := hrun a w ha hw
    unfold Oper.wp
    rw [h1]
    exact hK v w' fr H' h (ha.skip _) h2
theorem sx_lookup {κ ν : Type} [DecidableEq κ] {encK : κ → Value} {encV : ν → Value} {K T E : TypeId} (i : Nat) (hK : KeyOk P K encK) (hT : P.underlying T = some (.map K E)) {z : Value} (hz : ∀ w, (zeroValue E).run P w = .ok z w) {x y : Operand} {b : Nat} {M : List (κ × ν)} (k : κ) {ok : Bool} (v : Value)
    (hx : ev fr x = some (.map (some b))) (hy : ev fr y = some (encK k)) (hH : H[i]? = some (mapE encK encV b M)) (hv : (if ok = true then Value.tuple #[((aget M k).map encV).getD z, .bool (aget M k).isSome] else ((aget M k).map encV).getD z) = v) (hN : Nat.ble (d + 1) N.n = true)
    (h : sx P N w0 Wr ops rest ((d, v) :: fr) H Z) : sx P N w0 Wr ops (⟨some d, .lookup T x y ok, ty, pos, after, none⟩ :: rest) fr H Z :=
  sx_val v hN (fun a w ha hw => by
    subst hv
    have := run_look hK hT (mapE_is.1 (hw.mem hH)) (hz w) k ok
    simp only [execOp, ha.eval hx, ha.eval hy, Sem.run_bind, this, Result.andThen_ok]
    rfl) h
theorem sx_lenM {κ ν : Type} [DecidableEq κ] {encK : κ → Value} {encV : ν → Value} {K T E : TypeId} (i : Nat) (hT : P.underlying T = some (.map K E)) {x : Operand} {b : Nat} {M : List (κ × ν)} (hx : ev fr x = some (.map (some b))) (hH : H[i]? = some (mapE encK encV b M)) (hN : Nat.ble (d + 1) N.n = true)
    (h : sx P N w0 Wr ops rest ((d, .int .i64 (M.length : Nat)) :: fr) H Z) : sx P N w0 Wr ops (⟨some d, .call { callee := .builtin .len, args := #[x], argTypes := #[T] }, ty, pos, after, none⟩ :: rest) fr H Z :=
  sx_val _ hN (fun a w ha hw => by
    have := run_len_map (ty := ty) hT (mapE_is.1 (hw.mem hH))
    have he := ha.eval hx
    simp [execOp, resolve, invoke, builtin, he, Sem.run_bind, this]) h
theorem sx_mapUpdate (i : Nat) (hK : KeyOk P K encK) (hT : P.underlying T = some (.map K E)) {x y u : Operand} {b : Nat} {M : List (κ × ν)} (k : κ) (v : ν)
    (hx : ev fr x = some (.map (some b))) (hy : ev fr y = some (encK k)) (hu : ev fr u = some (encV v)) (hH : H[i]? = some (mapE encK encV b M)) {H2 : Heap} (hs : H.set i (mapE encK encV b (aput M k v)) = H2)
    (h : sx P N w0 Wr ops rest fr H2 Z) : sx P N w0 Wr ops (⟨none, .mapUpdate T x y u, ty, pos, after, none⟩ :: rest) fr H Z :=
  sx_do (fun a w ha hw => by
    subst hs
    obtain ⟨w', h1, h2, h3⟩ := run_store_map hK hT (mapE_is.1 (hw.mem hH)) k v
    refine ⟨w', ?_, hw.turn hH rfl rfl h3.only (mapE_is.2 h2)⟩
    simp only [execOp, ha.eval hx, ha.eval hy, ha.eval hu, Sem.run_bind, h1, Result.andThen_ok]
    rfl) h
theorem sx_delete (i : Nat) (hK : KeyOk P K encK) (hT : P.underlying T = some (.map K E)) {x y : Operand} {b : Nat} {M : List (κ × ν)} (k : κ)
    (hx : ev fr x = some (.map (some b))) (hy : ev fr y = some (encK k)) (hH : H[i]? = some (mapE encK encV b M)) {H2 : Heap} (hs : H.set i (mapE encK encV b (adel M k)) = H2)
    (h : sx P N w0 Wr ops rest fr H2 Z) : sx P N w0 Wr ops (⟨none, .call { callee := .builtin .delete, args := #[x, y], argTypes := #[T, K] }, ty, pos, after, none⟩ :: rest) fr H Z :=
  sx_doV (v := .tuple #[]) (fun a w ha hw => by
    subst hs
    obtain ⟨w', h1, h2, h3⟩ := run_delete_map (ty := ty) hK hT (mapE_is.1 (hw.mem hH)) k
    refine ⟨w', ?_, hw.turn hH rfl rfl h3.only (mapE_is.2 h2)⟩
    have e1 := ha.eval hx
    have e2 := ha.eval hy
    simp [execOp, resolve, invoke, builtin, e1, e2, Sem.run_bind, h1]) h
theorem sx_makeMap {t : TypeId} (hN : Nat.ble (d + 1) N.n = true) (encK : κ → Value) (encV : ν → Value)
    (h : ∀ b, sx P N w0 Wr ops rest ((d, .map (some b)) :: fr) (mapE encK encV b [] :: H) Z) : sx P N w0 Wr ops (⟨some d, .makeMap t none, ty, pos, after, none⟩ :: rest) fr H Z := by
  refine sx_make (R := fun v H' => ∃ b, v = .map (some b) ∧ H' = mapE encK encV b [] :: H) hN (fun a w ha hw => ?_) (fun v H' hR => by obtain ⟨b, rfl, rfl⟩ := hR; exact h b)
  refine ⟨.map (some w.heap.size), w.alloc (.map #[] 0), _, ?_, ⟨w.heap.size, rfl, rfl⟩, hw.fresh (mapE_is.2 (MapIs.made encK encV w)) ((Bel.refl w).alloc _) (Nat.le_refl _)⟩
  simp [execOp, Instr.makeMap]
end
end Go.Proofs.Ytfffhnefjaomnaa
