/- The small logic's steps for regions that draw their order and only read: one walk of the text's order serves every order. No conditions. (Written by tools/mksq.py out of Sx2, Sx4, Sx5.) -/
import Derived.Test.YtfffhnefjaomnaaSxE
import Derived.Deep.Quiet
namespace Go.Proofs.Ytfffhnefjaomnaa
open Go.RowKit
set_option linter.unusedVariables false
set_option linter.unusedSimpArgs false
set_option linter.unusedSectionVars false
/-- The rest of a region that only reads goes well, and Z is what holds behind it. -/
def sq (P : Program) (N : Frm) (w0 : World) (Wr : List Nat) (ops : Array Oper) (l : List Oper) (fr : Fr) (H : Heap) (Z : Fr → Heap → Prop) : Prop :=
  ∀ (Q : Act → Prop), (∀ fr' a, Z fr' H → FrOk N fr' a → Q a) → ∀ a, FrOk N fr a → wpQuiet P ops (Sat w0 Wr H) Q l a
section
variable {P : Program} {N : Frm} {w0 : World} {Wr : List Nat} {ops : Array Oper} {rest : List Oper} {fr : Fr} {H : Heap} {Z : Fr → Heap → Prop}
variable {d ty : Nat} {pos : String} {after : Array Edge}
theorem sq_nil (h : Z fr H) : sq P N w0 Wr ops [] fr H Z := fun _ hQ a ha => hQ _ a h ha
theorem sq_val {op : Op} {d ty : Nat} {pos : String} {after : Array Edge} (v : Value) (hN : Nat.ble (d + 1) N.n = true)
    (hrun : ∀ (a : Act) (w : World), FrOk N fr a → Sat w0 Wr H w → (execOp a.eval ⟨some d, op, ty, pos, after, none⟩).run P w = .ok (.value v) w)
    (h : sq P N w0 Wr ops rest ((d, v) :: fr) H Z) : sq P N w0 Wr ops (⟨some d, op, ty, pos, after, none⟩ :: rest) fr H Z :=
  fun Q hQ a ha => wpQuiet_step fun K hK => by
    rw [if_pos (show Region.wanted (⟨some d, op, ty, pos, after, none⟩ : Oper) (yielded ops a.tmps) = true from rfl)]
    refine ⟨v, fun w hw => ?_, hK _ (h Q hQ _ (ha.put hN v))⟩
    unfold Oper.quietAt
    rw [hrun a w ha hw]
    exact ⟨rfl, rfl⟩
/-- A call that turns nothing that is known. -/
theorem sq_callW {f : FuncId} {xs : List Operand} {vs : List Value} {ts : Array TypeId} {v : Value} (hE : Enters P f) (hx : evs fr xs = some vs) (hN : Nat.ble (d + 1) N.n = true)
    (hc : ∀ w, Sat w0 Wr H w → Calls P f vs.toArray w fun e w' => e = .returned v ∧ Sat w0 Wr H w')
    (h : sq P N w0 Wr ops rest ((d, v) :: fr) H Z) :
    sq P N w0 Wr ops (⟨some d, .call { callee := .value (.func f), args := xs.toArray, argTypes := ts }, ty, pos, after, none⟩ :: rest) fr H Z :=
  fun Q hQ a ha => wpQuiet_step fun K hK => by
    rw [if_pos (show Region.wanted (⟨some d, .call { callee := .value (.func f), args := xs.toArray, argTypes := ts }, ty, pos, after, none⟩ : Oper) (yielded ops a.tmps) = true from rfl)]
    refine ⟨v, fun w hw => ?_, hK _ (h Q hQ _ (ha.put hN v))⟩
    unfold Oper.quietAt
    rw [run_call hE (ha.evals hx) rfl]
    exact ⟨rfl, hc w hw⟩
theorem sq_callP {f : FuncId} {xs : List Operand} {vs : List Value} {ts : Array TypeId} {v : Value} (hc : Fn P f vs [] fun u _ => u = v) (hx : evs fr xs = some vs) (hN : Nat.ble (d + 1) N.n = true)
    (h : sq P N w0 Wr ops rest ((d, v) :: fr) H Z) :
    sq P N w0 Wr ops (⟨some d, .call { callee := .value (.func f), args := xs.toArray, argTypes := ts }, ty, pos, after, none⟩ :: rest) fr H Z :=
  sq_callW hc.1 hx hN (fun w hw => (hc.2 w (Sat.nil w)).mono fun e w' he => by
    obtain ⟨u, H', rfl, rfl, hS⟩ := he
    exact ⟨rfl, hw.bel hS.only.bel⟩) h
theorem sq_call0 {f : FuncId} {xs : List Operand} {vs : List Value} {ts : Array TypeId} {v : Value} (hE : Enters P f) (hx : evs fr xs = some vs) (hN : Nat.ble (d + 1) N.n = true)
    (hc : ∀ w, Sat w0 Wr H w → Calls P f vs.toArray w fun e w' => e = .returned v ∧ Bel w w')
    (h : sq P N w0 Wr ops rest ((d, v) :: fr) H Z) :
    sq P N w0 Wr ops (⟨some d, .call { callee := .value (.func f), args := xs.toArray, argTypes := ts }, ty, pos, after, none⟩ :: rest) fr H Z :=
  sq_callW hE hx hN (fun w hw => (hc w hw).mono fun e w' he => ⟨he.1, hw.bel he.2⟩) h
theorem sq_on {dst : Option Nat} {op : Op} {j t : Nat} {b : Bool} {oj : Oper} (hj : ops[j]? = some oj) (ht : oj.dst = some t) (hb : lk fr t = some (.bool b))
    (h : sq P N w0 Wr ops (⟨dst, op, ty, pos, after, none⟩ :: rest) fr H Z) : sq P N w0 Wr ops (⟨dst, op, ty, pos, after, some (j, b)⟩ :: rest) fr H Z :=
  fun Q hQ a ha => by
    have hk := h Q hQ a ha
    have hy : yielded ops a.tmps j = some b := by
      have := ha.at_ t _ hb
      simp [yielded, hj, ht, this]
    unfold wpQuiet at hk ⊢
    have h1 : Region.wanted (⟨dst, op, ty, pos, after, none⟩ : Oper) (yielded ops a.tmps) = true := rfl
    have h2 : Region.wanted (⟨dst, op, ty, pos, after, some (j, b)⟩ : Oper) (yielded ops a.tmps) = true := by simp [Region.wanted, hy]
    rw [if_pos h1] at hk
    rw [if_pos h2]
    exact hk
theorem sq_off {op : Op} {j t : Nat} {b b' : Bool} {oj : Oper} (hj : ops[j]? = some oj) (ht : oj.dst = some t) (hb : lk fr t = some (.bool b)) (hne : (b == b') = false) (hN : Nat.ble (d + 1) N.n = true)
    (h : sq P N w0 Wr ops rest ((d, undef) :: fr) H Z) : sq P N w0 Wr ops (⟨some d, op, ty, pos, after, some (j, b')⟩ :: rest) fr H Z :=
  fun Q hQ a ha => by
    have hy : yielded ops a.tmps j = some b := by
      have := ha.at_ t _ hb
      simp [yielded, hj, ht, this]
    unfold wpQuiet
    have h2 : Region.wanted (⟨some d, op, ty, pos, after, some (j, b')⟩ : Oper) (yielded ops a.tmps) = false := by simp [Region.wanted, hy]; simpa using hne
    rw [if_neg (by simp [h2])]
    exact h Q hQ _ (ha.put hN undef)
theorem sq_split {l : List Oper} (t : Nat) {b : Bool} (hb : lk fr t = some (.bool b)) (h1 : b = true → sq P N w0 Wr ops l ((t, .bool true) :: fr) H Z) (h2 : b = false → sq P N w0 Wr ops l ((t, .bool false) :: fr) H Z) : sq P N w0 Wr ops l fr H Z := by
  have key : ∀ c, b = c → sq P N w0 Wr ops l ((t, .bool c) :: fr) H Z → sq P N w0 Wr ops l fr H Z := fun c hc h Q hQ a ha => by
    refine h Q hQ a ⟨ha.size, ha.defers, fun k v hv => ?_⟩
    simp only [lk] at hv
    cases hbq : Nat.beq t k with
    | true =>
      rw [hbq] at hv
      obtain rfl := Nat.eq_of_beq_eq_true hbq
      simp only [cond_true] at hv
      rw [← hv, ← hc]
      exact ha.at_ t _ hb
    | false => rw [hbq] at hv; exact ha.at_ k v hv
  cases hbb : b with
  | true => exact key true hbb (h1 hbb)
  | false => exact key false hbb (h2 hbb)
theorem sq_force {l : List Oper} (t : Nat) {b : Bool} (hb : lk fr t = some (.bool b)) (c : Bool) (e : b = c) (h : sq P N w0 Wr ops l ((t, .bool c) :: fr) H Z) : sq P N w0 Wr ops l fr H Z := by
  subst e
  cases b
  · exact sq_split t hb (fun hh => by cases hh) (fun _ => h)
  · exact sq_split t hb (fun _ => h) (fun hh => by cases hh)
theorem sq_move {x : Operand} {v : Value} (hx : ev fr x = some v) (hN : Nat.ble (d + 1) N.n = true) (h : sq P N w0 Wr ops rest ((d, v) :: fr) H Z) : sq P N w0 Wr ops (⟨some d, .move x, ty, pos, after, none⟩ :: rest) fr H Z :=
  sq_val v hN (fun a w ha _ => by rw [← ha.eval hx]; rfl) h
theorem sq_assign {x : Operand} {v : Value} (hx : ev fr x = some v) (hN : Nat.ble (d + 1) N.n = true) (h : sq P N w0 Wr ops rest ((d, v) :: fr) H Z) : sq P N w0 Wr ops (⟨some d, .assign x, ty, pos, after, none⟩ :: rest) fr H Z :=
  sq_val v hN (fun a w ha _ => by rw [← ha.eval hx]; rfl) h
theorem sq_nilCheck {x : Operand} {g o : Nat} (hx : ev fr x = some (ptr g o)) (hN : Nat.ble (d + 1) N.n = true) (h : sq P N w0 Wr ops rest ((d, ptr g o) :: fr) H Z) : sq P N w0 Wr ops (⟨some d, .nilCheck x, ty, pos, after, none⟩ :: rest) fr H Z :=
  sq_val _ hN (fun a w ha _ => by simp only [execOp, ha.eval hx, ptr]; rfl) h
theorem sq_load (i : Nat) {t : TypeId} {x : Operand} {g o : Nat} {e : TypeId} {cs : List Value} {agg : Bool} {n : Nat} {v : Value} (hx : ev fr x = some (ptr g o)) (hH : H[i]? = some (.own g e cs)) (ht : tyAgg P t = some agg) (hn : tySize P t = some n) (hv : rdV agg n cs o = some v) (hN : Nat.ble (d + 1) N.n = true)
    (h : sq P N w0 Wr ops rest ((d, v) :: fr) H Z) : sq P N w0 Wr ops (⟨some d, .load t x, ty, pos, after, none⟩ :: rest) fr H Z :=
  sq_val v hN (fun a w ha hw => by
    have hc := Ent.cell (hw.mem hH)
    simp only [execOp, Instr.loadAt, ha.eval hx, ptr, Instr.sureAddr, Sem.run_bind, Sem.run_pure, Result.andThen_ok]
    rw [run_loadVar ht hn hv (fun j u hu => (hc j).trans hu)]
    rfl) h
theorem sq_loadA (i : Nat) {t : TypeId} {x : Operand} {g o : Nat} {e : TypeId} {cs cs' : List Value} {n : Nat} (hx : ev fr x = some (ptr g o)) (hH : H[i]? = some (.own g e cs)) (ht : tyAgg P t = some true) (hn : tySize P t = some n) (hle : Nat.ble (o + n) cs.length = true) (hv : (cs.drop o).take n = cs') (hN : Nat.ble (d + 1) N.n = true)
    (h : sq P N w0 Wr ops rest ((d, .agg cs'.toArray) :: fr) H Z) : sq P N w0 Wr ops (⟨some d, .load t x, ty, pos, after, none⟩ :: rest) fr H Z :=
  sq_load i hx hH ht hn (by subst hv; simp [rdV, hle]) hN h
theorem sq_loadRo (i : Nat) {t : TypeId} {x : Operand} {g o o' : Nat} {cs : List Value} {agg : Bool} {n : Nat} {v : Value} (hx : ev fr x = some (ptr g o)) (hH : H[i]? = some (.ro g o' cs)) (k : Nat) (ho : o = o' + k) (ht : tyAgg P t = some agg) (hn : tySize P t = some n) (hv : rdV agg n cs k = some v) (hN : Nat.ble (d + 1) N.n = true)
    (h : sq P N w0 Wr ops rest ((d, v) :: fr) H Z) : sq P N w0 Wr ops (⟨some d, .load t x, ty, pos, after, none⟩ :: rest) fr H Z :=
  sq_val v hN (fun a w ha hw => by
    subst ho
    have hc := (hw.mem hH).2
    simp only [execOp, Instr.loadAt, ha.eval hx, ptr, Instr.sureAddr, Sem.run_bind, Sem.run_pure, Result.andThen_ok]
    have : (loadVar t ⟨g, o' + k, none⟩).run P w = .ok v w := by
      unfold loadVar
      simp only [Sem.run_bind, run_isAgg ht, Result.andThen_ok]
      cases agg with
      | false => simp [load, Sem.run, hc k v hv]
      | true =>
        simp only [rdV, cond_true] at hv
        cases hb : Nat.ble (k + n) cs.length with
        | false => rw [hb] at hv; cases hv
        | true =>
          rw [hb] at hv
          obtain rfl := Option.some.inj hv
          have hle := Nat.le_of_ble_eq_true hb
          simp only [if_true, Sem.run_bind, run_sizeOf hn, Result.andThen_ok, loadCells]
          rw [run_loadCells (P := P) ⟨g, o' + k, none⟩ n 0 #[] ((cs.drop k).take n) (by simp; omega) (fun j u hu => by
            have e : Addr.add ⟨g, o' + k, none⟩ (0 + j) = ⟨g, o' + (k + j), none⟩ := by unfold Addr.add; split <;> simp_all <;> omega
            rw [e]
            refine hc _ _ ?_
            rw [List.getElem?_take] at hu
            split at hu
            · rw [← hu, List.getElem?_drop]
            · cases hu)]
          simp
    rw [this]
    rfl) h
theorem sq_fieldAddr {s i : Nat} {x : Operand} {g o off n o' : Nat} {b : Bool} (hx : ev fr x = some (ptr g o)) (hf : tyField P s i = some (off, n, b)) (ho : o + off = o') (hN : Nat.ble (d + 1) N.n = true)
    (h : sq P N w0 Wr ops rest ((d, ptr g o') :: fr) H Z) : sq P N w0 Wr ops (⟨some d, .fieldAddr s x i, ty, pos, after, none⟩ :: rest) fr H Z :=
  sq_val _ hN (fun a w ha _ => by
    subst ho
    unfold tyField at hf
    cases hu : P.underlying s with
    | none => simp [hu] at hf
    | some dd =>
      cases dd <;> simp only [hu] at hf <;> try cases hf
      rename_i fs
      cases hi : fs[i]? with
      | none => simp [hi] at hf
      | some f =>
        simp only [hi, Option.bind_some] at hf
        cases hs : tySize P f.type with
        | none => simp [hs] at hf
        | some m =>
          cases hb : tyAgg P f.type with
          | none => simp [hs, hb] at hf
          | some bb =>
            simp only [hs, hb, Option.bind_some] at hf
            split at hf
            · cases hf
            · rename_i hm
              simp only [Option.some.injEq, Prod.mk.injEq] at hf
              obtain ⟨rfl, rfl, rfl⟩ := hf
              have e : Addr.add ⟨g, o, none⟩ f.offset = ⟨g, o + f.offset, none⟩ := by unfold Addr.add; split <;> simp_all
              simp only [execOp, Instr.fieldAt, ha.eval hx, ptr, Sem.run_bind, run_underlying hu, Result.andThen_ok, hi, Instr.sureAddr, Sem.run_pure, fieldPlace, run_sizeOf hs, hm, if_false, e]) h
theorem sq_int2 {op : BinOp} {t t' : TypeId} {x y : Operand} {k : IntKind} {m n : Int} (v : Value) (hx : ev fr x = some (.int k m)) (hy : ev fr y = some (.int k n)) (hv : ∀ w, (binOp op t (.int k m) (.int k n)).run P w = .ok v w) (hN : Nat.ble (d + 1) N.n = true)
    (h : sq P N w0 Wr ops rest ((d, v) :: fr) H Z) : sq P N w0 Wr ops (⟨some d, .binOp op t x y t', ty, pos, after, none⟩ :: rest) fr H Z :=
  sq_val v hN (fun a w ha _ => by
    have hg : (eqGuard op t x y (.int k m) (.int k n)).run P w = .ok () w := by
      unfold eqGuard
      split <;> rfl
    simp only [execOp, ha.eval hx, ha.eval hy, Sem.run_bind, hg, Result.andThen_ok, hv w]
    rfl) h
theorem sq_add {t t' : TypeId} {x y : Operand} {k : IntKind} {m n : Int} (hx : ev fr x = some (.int k m)) (hy : ev fr y = some (.int k n)) (r : Int) (hr : k.wrap (m + n) = r) (hN : Nat.ble (d + 1) N.n = true)
    (h : sq P N w0 Wr ops rest ((d, .int k r) :: fr) H Z) : sq P N w0 Wr ops (⟨some d, .binOp .add t x y t', ty, pos, after, none⟩ :: rest) fr H Z :=
  sq_int2 _ hx hy (fun w => by subst hr; simp [binOp, Op.intArith]) hN h
theorem sq_sub {t t' : TypeId} {x y : Operand} {k : IntKind} {m n : Int} (hx : ev fr x = some (.int k m)) (hy : ev fr y = some (.int k n)) (r : Int) (hr : k.wrap (m - n) = r) (hN : Nat.ble (d + 1) N.n = true)
    (h : sq P N w0 Wr ops rest ((d, .int k r) :: fr) H Z) : sq P N w0 Wr ops (⟨some d, .binOp .sub t x y t', ty, pos, after, none⟩ :: rest) fr H Z :=
  sq_int2 _ hx hy (fun w => by subst hr; simp [binOp, Op.intArith]) hN h
theorem sq_mul {t t' : TypeId} {x y : Operand} {k : IntKind} {m n : Int} (hx : ev fr x = some (.int k m)) (hy : ev fr y = some (.int k n)) (r : Int) (hr : k.wrap (m * n) = r) (hN : Nat.ble (d + 1) N.n = true)
    (h : sq P N w0 Wr ops rest ((d, .int k r) :: fr) H Z) : sq P N w0 Wr ops (⟨some d, .binOp .mul t x y t', ty, pos, after, none⟩ :: rest) fr H Z :=
  sq_int2 _ hx hy (fun w => by subst hr; simp [binOp, Op.intArith]) hN h
theorem sq_quo {t t' : TypeId} {x y : Operand} {k : IntKind} {m n : Int} (hx : ev fr x = some (.int k m)) (hy : ev fr y = some (.int k n)) (hn : n ≠ 0) (r : Int) (hr : k.wrap (m.tdiv n) = r) (hN : Nat.ble (d + 1) N.n = true)
    (h : sq P N w0 Wr ops rest ((d, .int k r) :: fr) H Z) : sq P N w0 Wr ops (⟨some d, .binOp .quo t x y t', ty, pos, after, none⟩ :: rest) fr H Z :=
  sq_int2 _ hx hy (fun w => by subst hr; simp [binOp, Op.intDiv, hn]) hN h
theorem sq_rem {t t' : TypeId} {x y : Operand} {k : IntKind} {m n : Int} (hx : ev fr x = some (.int k m)) (hy : ev fr y = some (.int k n)) (hn : n ≠ 0) (r : Int) (hr : m.tmod n = r) (hN : Nat.ble (d + 1) N.n = true)
    (h : sq P N w0 Wr ops rest ((d, .int k r) :: fr) H Z) : sq P N w0 Wr ops (⟨some d, .binOp .rem t x y t', ty, pos, after, none⟩ :: rest) fr H Z :=
  sq_int2 _ hx hy (fun w => by subst hr; simp [binOp, Op.intDiv, hn]) hN h
theorem sq_lss {t t' : TypeId} {x y : Operand} {k : IntKind} {m n : Int} (hx : ev fr x = some (.int k m)) (hy : ev fr y = some (.int k n)) (hN : Nat.ble (d + 1) N.n = true)
    (h : sq P N w0 Wr ops rest ((d, .bool (decide (m < n))) :: fr) H Z) : sq P N w0 Wr ops (⟨some d, .binOp .lss t x y t', ty, pos, after, none⟩ :: rest) fr H Z :=
  sq_int2 _ hx hy (fun w => by simp [binOp, Op.intCmp]) hN h
theorem sq_leq {t t' : TypeId} {x y : Operand} {k : IntKind} {m n : Int} (hx : ev fr x = some (.int k m)) (hy : ev fr y = some (.int k n)) (hN : Nat.ble (d + 1) N.n = true)
    (h : sq P N w0 Wr ops rest ((d, .bool (decide (m ≤ n))) :: fr) H Z) : sq P N w0 Wr ops (⟨some d, .binOp .leq t x y t', ty, pos, after, none⟩ :: rest) fr H Z :=
  sq_int2 _ hx hy (fun w => by simp [binOp, Op.intCmp]) hN h
theorem sq_gtr {t t' : TypeId} {x y : Operand} {k : IntKind} {m n : Int} (hx : ev fr x = some (.int k m)) (hy : ev fr y = some (.int k n)) (hN : Nat.ble (d + 1) N.n = true)
    (h : sq P N w0 Wr ops rest ((d, .bool (decide (n < m))) :: fr) H Z) : sq P N w0 Wr ops (⟨some d, .binOp .gtr t x y t', ty, pos, after, none⟩ :: rest) fr H Z :=
  sq_int2 _ hx hy (fun w => by simp [binOp, Op.intCmp]) hN h
theorem sq_geq {t t' : TypeId} {x y : Operand} {k : IntKind} {m n : Int} (hx : ev fr x = some (.int k m)) (hy : ev fr y = some (.int k n)) (hN : Nat.ble (d + 1) N.n = true)
    (h : sq P N w0 Wr ops rest ((d, .bool (decide (n ≤ m))) :: fr) H Z) : sq P N w0 Wr ops (⟨some d, .binOp .geq t x y t', ty, pos, after, none⟩ :: rest) fr H Z :=
  sq_int2 _ hx hy (fun w => by simp [binOp, Op.intCmp]) hN h
theorem sq_eql {t t' : TypeId} {x y : Operand} {k : IntKind} {m n : Int} (hx : ev fr x = some (.int k m)) (hy : ev fr y = some (.int k n)) (hN : Nat.ble (d + 1) N.n = true)
    (h : sq P N w0 Wr ops rest ((d, .bool (m == n)) :: fr) H Z) : sq P N w0 Wr ops (⟨some d, .binOp .eql t x y t', ty, pos, after, none⟩ :: rest) fr H Z :=
  sq_int2 _ hx hy (fun w => by simp [binOp, Op.intCmp]) hN h
theorem sq_neq {t t' : TypeId} {x y : Operand} {k : IntKind} {m n : Int} (hx : ev fr x = some (.int k m)) (hy : ev fr y = some (.int k n)) (hN : Nat.ble (d + 1) N.n = true)
    (h : sq P N w0 Wr ops rest ((d, .bool (m != n)) :: fr) H Z) : sq P N w0 Wr ops (⟨some d, .binOp .neq t x y t', ty, pos, after, none⟩ :: rest) fr H Z :=
  sq_int2 _ hx hy (fun w => by simp [binOp, Op.intCmp]) hN h
theorem sq_bits {op : BinOp} (hop : op = .and ∨ op = .or ∨ op = .xor ∨ op = .andNot) {t t' : TypeId} {x y : Operand} {k : IntKind} {m n : Int} (hx : ev fr x = some (.int k m)) (hy : ev fr y = some (.int k n)) (r : Int) (hr : bitsV op k m n = r) (hN : Nat.ble (d + 1) N.n = true)
    (h : sq P N w0 Wr ops rest ((d, .int k r) :: fr) H Z) : sq P N w0 Wr ops (⟨some d, .binOp op t x y t', ty, pos, after, none⟩ :: rest) fr H Z :=
  sq_int2 _ hx hy (fun w => by subst hr; rcases hop with rfl | rfl | rfl | rfl <;> simp [binOp, Op.intBits, bitsV]) hN h
theorem sq_shl {t t' : TypeId} {x y : Operand} {k k' : IntKind} {m n : Int} (hx : ev fr x = some (.int k m)) (hy : ev fr y = some (.int k' n)) (hn : 0 ≤ n) (r : Int) (hr : k.wrap (m * 2 ^ (min n.toNat k.bits)) = r) (hN : Nat.ble (d + 1) N.n = true)
    (h : sq P N w0 Wr ops rest ((d, .int k r) :: fr) H Z) : sq P N w0 Wr ops (⟨some d, .binOp .shl t x y t', ty, pos, after, none⟩ :: rest) fr H Z :=
  sq_val (.int k r) hN (fun a w ha _ => by
    subst hr
    have : ¬ n < 0 := by omega
    simp [execOp, ha.eval hx, ha.eval hy, Sem.run_bind, eqGuard, binOp, Op.shift, this]) h
theorem sq_shr {t t' : TypeId} {x y : Operand} {k k' : IntKind} {m n : Int} (hx : ev fr x = some (.int k m)) (hy : ev fr y = some (.int k' n)) (hn : 0 ≤ n) (r : Int) (hr : m.fdiv (2 ^ (min n.toNat k.bits)) = r) (hN : Nat.ble (d + 1) N.n = true)
    (h : sq P N w0 Wr ops rest ((d, .int k r) :: fr) H Z) : sq P N w0 Wr ops (⟨some d, .binOp .shr t x y t', ty, pos, after, none⟩ :: rest) fr H Z :=
  sq_val (.int k r) hN (fun a w ha _ => by
    subst hr
    have : ¬ n < 0 := by omega
    simp [execOp, ha.eval hx, ha.eval hy, Sem.run_bind, eqGuard, binOp, Op.shift, this]) h
theorem sq_str2 {op : BinOp} {t t' : TypeId} {x y : Operand} {l m : List UInt8} (v : Value) (hx : ev fr x = some (.string (str l))) (hy : ev fr y = some (.string (str m))) (hv : ∀ w, (binOp op t (.string (str l)) (.string (str m))).run P w = .ok v w) (hN : Nat.ble (d + 1) N.n = true)
    (h : sq P N w0 Wr ops rest ((d, v) :: fr) H Z) : sq P N w0 Wr ops (⟨some d, .binOp op t x y t', ty, pos, after, none⟩ :: rest) fr H Z :=
  sq_val v hN (fun a w ha _ => by
    have hg : (eqGuard op t x y (.string (str l)) (.string (str m))).run P w = .ok () w := by
      unfold eqGuard
      split <;> rfl
    simp only [execOp, ha.eval hx, ha.eval hy, Sem.run_bind, hg, Result.andThen_ok, hv w]
    rfl) h
theorem sq_cat {t t' : TypeId} {x y : Operand} {l m : List UInt8} (hx : ev fr x = some (.string (str l))) (hy : ev fr y = some (.string (str m))) (hl : l.length + m.length ≤ 9223372036854775807) (hN : Nat.ble (d + 1) N.n = true)
    (h : sq P N w0 Wr ops rest ((d, .string (str (l ++ m))) :: fr) H Z) : sq P N w0 Wr ops (⟨some d, .binOp .add t x y t', ty, pos, after, none⟩ :: rest) fr H Z :=
  sq_str2 _ hx hy (fun w => by
    have : ¬ (((str l).size + (str m).size : Nat) : Int) > IntKind.i64.max := by
      rw [str_size, str_size]; show ¬ (_ : Int) > 9223372036854775807; omega
    simp only [binOp, Op.stringOp, this, if_false, str_cat]
    rfl) hN h
theorem sq_seql {t t' : TypeId} {x y : Operand} {l m : List UInt8} (hx : ev fr x = some (.string (str l))) (hy : ev fr y = some (.string (str m))) (hN : Nat.ble (d + 1) N.n = true)
    (h : sq P N w0 Wr ops rest ((d, .bool (l == m)) :: fr) H Z) : sq P N w0 Wr ops (⟨some d, .binOp .eql t x y t', ty, pos, after, none⟩ :: rest) fr H Z :=
  sq_str2 _ hx hy (fun w => by simp [binOp, Op.stringOp, str_toL]) hN h
theorem sq_sneq {t t' : TypeId} {x y : Operand} {l m : List UInt8} (hx : ev fr x = some (.string (str l))) (hy : ev fr y = some (.string (str m))) (hN : Nat.ble (d + 1) N.n = true)
    (h : sq P N w0 Wr ops rest ((d, .bool (l != m)) :: fr) H Z) : sq P N w0 Wr ops (⟨some d, .binOp .neq t x y t', ty, pos, after, none⟩ :: rest) fr H Z :=
  sq_str2 _ hx hy (fun w => by simp [binOp, Op.stringOp, str_toL, bne]) hN h
theorem sq_not {t : TypeId} {x : Operand} {b : Bool} (hx : ev fr x = some (.bool b)) (hN : Nat.ble (d + 1) N.n = true)
    (h : sq P N w0 Wr ops rest ((d, .bool (!b)) :: fr) H Z) : sq P N w0 Wr ops (⟨some d, .unOp .not t x, ty, pos, after, none⟩ :: rest) fr H Z :=
  sq_val _ hN (fun a w ha _ => by simp only [execOp, ha.eval hx]; rfl) h
theorem sq_neg {t : TypeId} {x : Operand} {k : IntKind} {m : Int} (hx : ev fr x = some (.int k m)) (r : Int) (hr : k.wrap (0 - m) = r) (hN : Nat.ble (d + 1) N.n = true)
    (h : sq P N w0 Wr ops rest ((d, .int k r) :: fr) H Z) : sq P N w0 Wr ops (⟨some d, .unOp .neg t x, ty, pos, after, none⟩ :: rest) fr H Z :=
  sq_val _ hN (fun a w ha _ => by subst hr; simp only [execOp, ha.eval hx]; rfl) h
theorem sq_conv {s t : TypeId} {x : Operand} {k k' : IntKind} {ds : TypeDesc} {m : Int} (hs : P.underlying s = some ds) (ht : P.underlying t = some (.int k')) (hx : ev fr x = some (.int k m)) (r : Int) (hr : k'.wrap m = r) (hN : Nat.ble (d + 1) N.n = true)
    (h : sq P N w0 Wr ops rest ((d, .int k' r) :: fr) H Z) : sq P N w0 Wr ops (⟨some d, .convert s t x, ty, pos, after, none⟩ :: rest) fr H Z :=
  sq_val (.int k' r) hN (fun a w ha _ => by
    subst hr
    simp only [execOp, ha.eval hx, convert, Sem.run_bind, run_underlying hs, run_underlying ht, Result.andThen_ok]
    cases ds <;> rfl) h
theorem sq_extract {x : Operand} {i : Nat} {vs : List Value} {v : Value} (hx : ev fr x = some (.tuple vs.toArray)) (hv : vs[i]? = some v) (hN : Nat.ble (d + 1) N.n = true)
    (h : sq P N w0 Wr ops rest ((d, v) :: fr) H Z) : sq P N w0 Wr ops (⟨some d, .extract x i, ty, pos, after, none⟩ :: rest) fr H Z :=
  sq_val v hN (fun a w ha _ => by
    have : vs.toArray[i]? = some v := by simpa using hv
    simp only [execOp, ha.eval hx, Instr.extract, this]; rfl) h
theorem sq_len {x : Operand} {t e : TypeId} {A : Option Addr} {n c : Nat} (ht : P.underlying t = some (.slice e)) (hx : ev fr x = some (.slice A n c)) (hN : Nat.ble (d + 1) N.n = true)
    (h : sq P N w0 Wr ops rest ((d, .int .i64 n) :: fr) H Z) : sq P N w0 Wr ops (⟨some d, .call { callee := .builtin .len, args := #[x], argTypes := #[t] }, ty, pos, after, none⟩ :: rest) fr H Z :=
  sq_val _ hN (fun a w ha _ => by
    have := ha.eval hx
    simp [execOp, resolve, invoke, builtin, this, Sem.run_bind, Builtin.len_, run_underlying ht, goInt]) h
theorem sq_lenS {x : Operand} {t : TypeId} {l : List UInt8} (ht : P.underlying t = some .string) (hx : ev fr x = some (.string (str l))) (hN : Nat.ble (d + 1) N.n = true)
    (h : sq P N w0 Wr ops rest ((d, .int .i64 (l.length : Int)) :: fr) H Z) : sq P N w0 Wr ops (⟨some d, .call { callee := .builtin .len, args := #[x], argTypes := #[t] }, ty, pos, after, none⟩ :: rest) fr H Z :=
  sq_val _ hN (fun a w ha _ => by
    have := ha.eval hx
    simp [execOp, resolve, invoke, builtin, this, Sem.run_bind, Builtin.len_, run_underlying ht, goInt, str_size]) h
theorem sq_field {s i off n : Nat} {b : Bool} {x : Operand} {cs : List Value} {v : Value} (hx : ev fr x = some (.agg cs.toArray)) (hf : tyField P s i = some (off, n, b)) (hv : rdV b n cs off = some v) (hN : Nat.ble (d + 1) N.n = true)
    (h : sq P N w0 Wr ops rest ((d, v) :: fr) H Z) : sq P N w0 Wr ops (⟨some d, .field s x i, ty, pos, after, none⟩ :: rest) fr H Z :=
  sq_val v hN (fun a w ha _ => by
    obtain ⟨fs, f, h1, h2, rfl, h3, h4⟩ := tyField_split hf
    simp only [execOp, Instr.field, ha.eval hx, Sem.run_bind, run_underlying h1, Result.andThen_ok, h2, asAgg, Sem.run_pure, run_part h4 h3 hv]) h
theorem sq_indexA {t e len n : Nat} {b : Bool} {x y : Operand} {cs : List Value} {k : IntKind} {i : Int} {v : Value} (ht : P.underlying t = some (.array len e)) (ha' : tyAgg P e = some b) (hs : tySize P e = some n) (hx : ev fr x = some (.agg cs.toArray)) (hy : ev fr y = some (.int k i)) (hi : 0 ≤ i ∧ i < len) (hv : rdV b n cs (i.toNat * n) = some v) (hN : Nat.ble (d + 1) N.n = true)
    (h : sq P N w0 Wr ops rest ((d, v) :: fr) H Z) : sq P N w0 Wr ops (⟨some d, .index t x y, ty, pos, after, none⟩ :: rest) fr H Z :=
  sq_val v hN (fun a w ha _ => by
    simp only [execOp, Instr.index, ha.eval hx, ha.eval hy, asIntOf, Sem.run_bind, Sem.run_pure, run_underlying ht, Result.andThen_ok, if_pos hi, run_sizeOf hs, run_part ha' hs hv]) h
theorem sq_indexS {t : Nat} {x y : Operand} {l : List UInt8} {k : IntKind} {i : Int} {c : UInt8} (ht : P.underlying t = some .string) (hx : ev fr x = some (.string (str l))) (hy : ev fr y = some (.int k i)) (hi : 0 ≤ i) (hv : l[i.toNat]? = some c) (hN : Nat.ble (d + 1) N.n = true)
    (h : sq P N w0 Wr ops rest ((d, .int .u8 (c.toNat : Int)) :: fr) H Z) : sq P N w0 Wr ops (⟨some d, .index t x y, ty, pos, after, none⟩ :: rest) fr H Z :=
  sq_val _ hN (fun a w ha _ => by
    have : (str l)[i.toNat]? = some c := by
      have hl := (List.getElem?_eq_some_iff.1 hv)
      obtain ⟨h1, h2⟩ := hl
      have h3 : i.toNat < (str l).size := by rw [str_size]; exact h1
      rw [getElem?_pos (str l) i.toNat h3]
      congr 1
    simp only [execOp, Instr.index, ha.eval hx, ha.eval hy, asIntOf, Sem.run_bind, Sem.run_pure, run_underlying ht, Result.andThen_ok, if_pos hi, this]) h
theorem sq_indexAddr {t e n g o len c : Nat} {x y : Operand} {k : IntKind} {i : Int} (o' : Nat) (ht : P.underlying t = some (.slice e)) (hs : tySize P e = some n) (hx : ev fr x = some (.slice (some ⟨g, o, none⟩) len c)) (hy : ev fr y = some (.int k i)) (hi : 0 ≤ i ∧ i < len) (ho : o + i.toNat * n = o') (hN : Nat.ble (d + 1) N.n = true)
    (h : sq P N w0 Wr ops rest ((d, ptr g o') :: fr) H Z) : sq P N w0 Wr ops (⟨some d, .indexAddr t x y, ty, pos, after, none⟩ :: rest) fr H Z :=
  sq_val _ hN (fun a w ha _ => by
    subst ho
    simp only [execOp, Instr.indexAt, ha.eval hx, ha.eval hy, asIntOf, Sem.run_bind, Sem.run_pure, run_underlying ht, Result.andThen_ok, if_pos hi, run_sizeOf hs, addr_add]
    rfl) h
theorem sq_indexAddrA {t e n g o len : Nat} {x y : Operand} {k : IntKind} {i : Int} (o' : Nat) (ht : P.underlying t = some (.array len e)) (hs : tySize P e = some n) (hx : ev fr x = some (ptr g o)) (hy : ev fr y = some (.int k i)) (hi : 0 ≤ i ∧ i < len) (ho : o + i.toNat * n = o') (hN : Nat.ble (d + 1) N.n = true)
    (h : sq P N w0 Wr ops rest ((d, ptr g o') :: fr) H Z) : sq P N w0 Wr ops (⟨some d, .indexAddr t x y, ty, pos, after, none⟩ :: rest) fr H Z :=
  sq_val _ hN (fun a w ha _ => by
    subst ho
    simp only [execOp, Instr.indexAt, ha.eval hx, ha.eval hy, asIntOf, Sem.run_bind, Sem.run_pure, run_underlying ht, Result.andThen_ok, ptr, Instr.sureAddr, if_pos hi, run_sizeOf hs, addr_add]) h
theorem sq_sliceS {t : TypeId} {x : Operand} {lo hi : Option Operand} {l : List UInt8} {i j : Int} (m : List UInt8) (ht : P.underlying t = some .string) (hx : ev fr x = some (.string (str l))) (hl : bnd fr 0 lo = some i) (hh : bnd fr (l.length : Int) hi = some j) (h0 : 0 ≤ i) (h1 : i ≤ j) (h2 : j ≤ l.length) (hm : (l.drop i.toNat).take (j.toNat - i.toNat) = m) (hN : Nat.ble (d + 1) N.n = true)
    (h : sq P N w0 Wr ops rest ((d, .string (str m)) :: fr) H Z) : sq P N w0 Wr ops (⟨some d, .slice t x lo hi none, ty, pos, after, none⟩ :: rest) fr H Z :=
  sq_val _ hN (fun a w ha _ => by
    subst hm
    have hb := sliceBounds_ok (P := P) (isS := false) (len := (str l).size) (cap := (str l).size) (w := w) ha hl (by rw [str_size]; exact hh) h0 h1 (by rw [str_size]; exact h2)
    simp only [execOp, Instr.sliceAt, Instr.slice, ha.eval hx, Sem.run_bind, run_underlying ht, Result.andThen_ok, Option.map_none, Option.isSome_none, Bool.false_eq_true, if_false, hb, Sem.run_pure, str_cut]) h
theorem sq_slice {t e n g o len c : Nat} {x : Operand} {lo hi : Option Operand} {i j : Int} (ht : P.underlying t = some (.slice e)) (hs : tySize P e = some n) (hx : ev fr x = some (.slice (some ⟨g, o, none⟩) len c)) (hl : bnd fr 0 lo = some i) (hh : bnd fr (len : Int) hi = some j) (h0 : 0 ≤ i) (h1 : i ≤ j) (h2 : j ≤ c) (hN : Nat.ble (d + 1) N.n = true)
    (h : ∀ o', (i < j → o' = o + i.toNat * n) → sq P N w0 Wr ops rest ((d, .slice (some ⟨g, o', none⟩) (j.toNat - i.toNat) (c - i.toNat)) :: fr) H Z) : sq P N w0 Wr ops (⟨some d, .slice t x lo hi none, ty, pos, after, none⟩ :: rest) fr H Z :=
  sq_val (.slice (some ⟨g, (if c = i.toNat then o else o + i.toNat * n), none⟩) (j.toNat - i.toNat) (c - i.toNat)) hN (fun a w ha _ => by
    have hb := sliceBounds_ok (P := P) (isS := true) (len := len) (cap := c) (w := w) ha hl hh h0 h1 h2
    simp only [execOp, Instr.sliceAt, Instr.slice, ha.eval hx, Sem.run_bind, run_underlying ht, Result.andThen_ok, Option.map_none, hb, Sem.run_pure, run_sizeOf hs, Option.map_some, addr_add]
    by_cases hc : c = i.toNat <;> simp [hc]) (h _ (fun hlt => by rw [if_neg (by omega)]))
theorem sq_build {t : TypeId} {parts : List (Nat × Operand)} {pv : List (Nat × Value)} {z cs cs' : List Value} {pl : List (Nat × Nat)} (hz : tyZero P t = some z) (hp : tyPlaces P t = some pl) (hx : evParts fr parts = some pv) (hf : fillV (pl[·]?) z (celled pv) = some cs) (hn : cs = cs') (hN : Nat.ble (d + 1) N.n = true)
    (h : sq P N w0 Wr ops rest ((d, .agg cs'.toArray) :: fr) H Z) : sq P N w0 Wr ops (⟨some d, .build t parts.toArray, ty, pos, after, none⟩ :: rest) fr H Z :=
  sq_val _ hN (fun a w ha _ => by
    subst hn
    obtain ⟨v, h1, h2⟩ := run_zero (w := w) hz
    unfold tyPlaces at hp
    cases hu : P.underlying t with
    | none => simp [hu] at hp
    | some dd =>
      cases dd <;> simp only [hu] at hp <;> try cases hp
      rename_i fs
      have hpl := places_ok (P := P) fs.toList pl w hp
      have hpl' : (fs.mapM (m := Sem) fun f => do pure (f.offset, ← sizeOf f.type)).run P w = .ok pl.toArray w := by
        rw [← Array.toArray_toList (xs := fs), List.mapM_toArray]
        rw [Sem.run_map, hpl]
        rfl
      have hfl : Instr.fill (fun i => pl.toArray[i]?) v.cells pv = some cs.toArray := fill_ok _ pv v.cells cs (by rw [h2]; simpa using hf)
      have hpv := ha.parts hx
      have hpv' : (parts.toArray.map fun (p : Nat × Operand) => (p.1, a.eval p.2)).toList = pv := by simpa using hpv
      simp only [execOp, Instr.build, Sem.run_bind, h1, Result.andThen_ok, run_underlying hu, hpl', hpv', hfl]
      rfl) h
theorem sq_buildA {t e len n : TypeId} {parts : List (Nat × Operand)} {pv : List (Nat × Value)} {z cs cs' : List Value} (hz : tyZero P t = some z) (ht : P.underlying t = some (.array len e)) (hs : tySize P e = some n) (hx : evParts fr parts = some pv) (hf : fillV (fun i => some (i * n, n)) z (celled pv) = some cs) (hn : cs = cs') (hN : Nat.ble (d + 1) N.n = true)
    (h : sq P N w0 Wr ops rest ((d, .agg cs'.toArray) :: fr) H Z) : sq P N w0 Wr ops (⟨some d, .build t parts.toArray, ty, pos, after, none⟩ :: rest) fr H Z :=
  sq_val _ hN (fun a w ha _ => by
    subst hn
    obtain ⟨v, h1, h2⟩ := run_zero (w := w) hz
    have hfl : Instr.fill (fun i => some (i * n, n)) v.cells pv = some cs.toArray := fill_ok _ pv v.cells cs (by rw [h2]; simpa using hf)
    have hpv := ha.parts hx
    have hpv' : (parts.toArray.map fun (p : Nat × Operand) => (p.1, a.eval p.2)).toList = pv := by simpa using hpv
    simp only [execOp, Instr.build, Sem.run_bind, h1, Result.andThen_ok, run_underlying ht, run_sizeOf hs, hpv', hfl]
    rfl) h
theorem sq_pick {c x y : Operand} {b : Bool} {v : Value} (hc : ev fr c = some (.bool b)) (hx : ev fr (bif b then x else y) = some v) (hN : Nat.ble (d + 1) N.n = true)
    (h : sq P N w0 Wr ops rest ((d, v) :: fr) H Z) : sq P N w0 Wr ops (⟨some d, .pick c x y, ty, pos, after, none⟩ :: rest) fr H Z :=
  sq_val v hN (fun a w ha _ => by
    cases b <;> simp only [cond_true, cond_false] at hx <;> simp [execOp, ha.eval hc, ha.eval hx, asBool, Sem.run_bind]) h
theorem sq_aeql {t t' : TypeId} {x y : Operand} {xs ys : List Value} {b : Bool} (hE : EqV P 10000 t (.agg xs.toArray) (.agg ys.toArray) b) (hG : P.eqGuardType P.depth t = false) (hx : ev fr x = some (.agg xs.toArray)) (hy : ev fr y = some (.agg ys.toArray)) (hN : Nat.ble (d + 1) N.n = true)
    (h : sq P N w0 Wr ops rest ((d, .bool b) :: fr) H Z) : sq P N w0 Wr ops (⟨some d, .binOp .eql t x y t', ty, pos, after, none⟩ :: rest) fr H Z :=
  sq_val _ hN (fun a w ha _ => by
    have hg : (eqGuard .eql t x y (.agg xs.toArray) (.agg ys.toArray)).run P w = .ok () w := by
      simp [eqGuard, program, Sem.run_bind, Sem.run, hG]
    have he : (Op.equal t (.agg xs.toArray) (.agg ys.toArray)).run P w = .ok b w := hE w
    simp only [execOp, ha.eval hx, ha.eval hy, Sem.run_bind, hg, Result.andThen_ok, binOp, he, Sem.run_pure]) h
theorem sq_aneq {t t' : TypeId} {x y : Operand} {xs ys : List Value} {b : Bool} (hE : EqV P 10000 t (.agg xs.toArray) (.agg ys.toArray) b) (hG : P.eqGuardType P.depth t = false) (hx : ev fr x = some (.agg xs.toArray)) (hy : ev fr y = some (.agg ys.toArray)) (hN : Nat.ble (d + 1) N.n = true)
    (h : sq P N w0 Wr ops rest ((d, .bool (!b)) :: fr) H Z) : sq P N w0 Wr ops (⟨some d, .binOp .neq t x y t', ty, pos, after, none⟩ :: rest) fr H Z :=
  sq_val _ hN (fun a w ha _ => by
    have hg : (eqGuard .neq t x y (.agg xs.toArray) (.agg ys.toArray)).run P w = .ok () w := by
      simp [eqGuard, program, Sem.run_bind, Sem.run, hG]
    have he : (Op.equal t (.agg xs.toArray) (.agg ys.toArray)).run P w = .ok b w := hE w
    simp only [execOp, ha.eval hx, ha.eval hy, Sem.run_bind, hg, Result.andThen_ok, binOp, he, Sem.run_pure]) h
theorem sq_beql {t t' : TypeId} {x y : Operand} {a b : Bool} (ht : P.underlying t = some .bool) (hx : ev fr x = some (.bool a)) (hy : ev fr y = some (.bool b)) (hN : Nat.ble (d + 1) N.n = true)
    (h : sq P N w0 Wr ops rest ((d, .bool (a == b)) :: fr) H Z) : sq P N w0 Wr ops (⟨some d, .binOp .eql t x y t', ty, pos, after, none⟩ :: rest) fr H Z :=
  sq_val _ hN (fun c w ha _ => by
    have hg : (eqGuard .eql t x y (.bool a) (.bool b)).run P w = .ok () w := by
      unfold eqGuard
      split <;> rfl
    have he : (Op.equal t (.bool a) (.bool b)).run P w = .ok (a == b) w := by
      unfold Op.equal Op.maxDepth Op.equalIn
      simp [Sem.run_bind, run_underlying ht]
    simp only [execOp, ha.eval hx, ha.eval hy, Sem.run_bind, hg, Result.andThen_ok, binOp, he, Sem.run_pure]) h
theorem sq_bneq {t t' : TypeId} {x y : Operand} {a b : Bool} (ht : P.underlying t = some .bool) (hx : ev fr x = some (.bool a)) (hy : ev fr y = some (.bool b)) (hN : Nat.ble (d + 1) N.n = true)
    (h : sq P N w0 Wr ops rest ((d, .bool (!(a == b))) :: fr) H Z) : sq P N w0 Wr ops (⟨some d, .binOp .neq t x y t', ty, pos, after, none⟩ :: rest) fr H Z :=
  sq_val _ hN (fun c w ha _ => by
    have hg : (eqGuard .neq t x y (.bool a) (.bool b)).run P w = .ok () w := by
      unfold eqGuard
      split <;> rfl
    have he : (Op.equal t (.bool a) (.bool b)).run P w = .ok (a == b) w := by
      unfold Op.equal Op.maxDepth Op.equalIn
      simp [Sem.run_bind, run_underlying ht]
    simp only [execOp, ha.eval hx, ha.eval hy, Sem.run_bind, hg, Result.andThen_ok, binOp, he, Sem.run_pure]) h
end
section
variable {P : Program} {N : Frm} {w0 : World} {Wr : List Nat} {fr : Fr} {H : Heap} {Q : Exit → Act → World → Prop}
theorem wq_quiet {C : World → Prop} {ops : Array Oper} {id : Nat} {a : Act} {w : World} (hm : P.follows .mixedOrders = true) (hB : Region.lexB .any ops = true) (hC : C w.drew)
    (h : wpQuiet P ops C (fun a' => ∀ w', C w' → Q .normal a' w') ops.toList a) : wq P N (.region id ops true) Q a w := by
  simp only [Region.lexB, Bool.and_eq_true] at hB
  refine wq_any hm (wpAny_of_quiet (Q := fun a' => ∀ w', C w' → Q .normal a' w') (fun _ w' hw' h => ⟨rfl, h w' hw'⟩) _ _ _ _ hC ?_)
  have := wpAnyQ_lex (C := C) (md := .any) hB.1 ops.toList 0 (Array.replicate ops.size false) a (by simp) (by simpa using hB.2) h
  simpa using this
theorem awq_region {id : Nat} {l : List Oper} (hm : P.follows .mixedOrders = true) (hB : Region.lexB .any l.toArray = true) (h : ∀ Z : Fr → Heap → Prop, (∀ fr H, nx N w0 Wr fr H Q .normal → Z fr H) → sq P N w0 Wr l.toArray l fr H Z) : awp P N w0 Wr (.region id l.toArray true) fr H Q :=
  fun a w ha hw => wq_quiet (C := Sat w0 Wr H) hm hB hw.drew (by
    have := h (fun fr H => nx N w0 Wr fr H Q .normal) (fun _ _ h => h) (fun a' => ∀ w', Sat w0 Wr H w' → Q .normal a' w') (fun fr' a' hz hf w' hw' => hz a' w' hf hw') a ha
    simpa using this)
theorem awq_seq_region {id : Nat} {l : List Oper} {y : Code} (hm : P.follows .mixedOrders = true) (hB : Region.lexB .any l.toArray = true) (h : ∀ Z : Fr → Heap → Prop, (∀ fr H, awp P N w0 Wr y fr H Q → Z fr H) → sq P N w0 Wr l.toArray l fr H Z) : awp P N w0 Wr (.seq (.region id l.toArray true) y) fr H Q :=
  awp_seq (awq_region hm hB fun Z hZ => h Z fun fr H hy => hZ fr H hy)
theorem awq_seq_meet {id : Nat} {l : List Oper} {y : Code} (F : Fr) (HH : Heap) (hm : P.follows .mixedOrders = true) (hB : Region.lexB .any l.toArray = true) (h : ∀ Z : Fr → Heap → Prop, (∀ fr H, Kn F fr → HLe HH H → Z fr H) → sq P N w0 Wr l.toArray l fr H Z) (hy : awp P N w0 Wr y F HH Q) : awp P N w0 Wr (.seq (.region id l.toArray true) y) fr H Q :=
  awq_seq_region hm hB fun Z hZ => h Z fun fr H hk hh => hZ fr H fun a w ha hw => hy a w (ha.kn hk) (hh _ _ _ hw)
end
end Go.Proofs.Ytfffhnefjaomnaa
