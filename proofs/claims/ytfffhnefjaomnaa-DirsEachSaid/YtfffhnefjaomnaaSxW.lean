/- The small logic's steps for regions that draw their order and read entries that they do not write. No conditions. (Written by tools/mksq.py.) -/
import Derived.Test.YtfffhnefjaomnaaSxV
import Derived.Test.YtfffhnefjaomnaaSxM
namespace Go.Proofs.Ytfffhnefjaomnaa
open Go.RowKit
set_option linter.unusedVariables false
set_option linter.unusedSimpArgs false
set_option linter.unusedSectionVars false
def Wpv (P : Program) (ops : Array Oper) (C : World → Prop) (K : Act → Prop) : List Oper → Act → Prop
  | [], a => K a
  | o :: r, a => ∃ v, YC P ops C o v a ∧ Wpv P ops C K r (a.put o.dst v)
/-- Operations that are seen to yield the same wherever the entries of H hold. -/
def sv (P : Program) (N : Frm) (w0 : World) (Wr : List Nat) (ops : Array Oper) (l : List Oper) (fr : Fr) (H : Heap) (Z : Fr → Heap → Prop) : Prop :=
  ∀ (K : Act → Prop), (∀ fr' a, Z fr' H → FrOk N fr' a → K a) → ∀ a, FrOk N fr a → Wpv P ops (Sat w0 Wr H) K l a
def tw (P : Program) (N : Frm) (w0 : World) (Wr : List Nat) (ops : Array Oper) (H0 : Heap) (xs : List (Nat × Bool)) (fr : Fr) (H : Heap) (Z : Fr → Heap → Prop) : Prop :=
  ∀ (Q : Exit → Act → World → Prop), (∀ fr' H' a w, Z fr' H' → FrOk N fr' a → Sat w0 Wr H' w → Q .normal a w) → ∀ a w, FrOk N fr a → Sat w0 Wr H w → Wv P ops (Sat w0 Wr H0) Q xs a w
section
variable {P : Program} {N : Frm} {w0 : World} {Wr : List Nat} {ops : Array Oper} {rest : List Oper} {fr : Fr} {H H0 : Heap} {Z : Fr → Heap → Prop}
variable {d ty : Nat} {pos : String} {after : Array Edge}
theorem sv_nil (h : Z fr H) : sv P N w0 Wr ops [] fr H Z := fun _ hK a ha => hK _ a h ha
theorem sv_val {op : Op} {d ty : Nat} {pos : String} {after : Array Edge} (v : Value) (hN : Nat.ble (d + 1) N.n = true)
    (hrun : ∀ (a : Act) (w : World), FrOk N fr a → Sat w0 Wr H w → (execOp a.eval ⟨some d, op, ty, pos, after, none⟩).run P w = .ok (.value v) w)
    (h : sv P N w0 Wr ops rest ((d, v) :: fr) H Z) : sv P N w0 Wr ops (⟨some d, op, ty, pos, after, none⟩ :: rest) fr H Z :=
  fun K hK a ha => ⟨v, fun w hw => .inl ⟨rfl, hrun a w ha hw⟩, h K hK _ (ha.put hN v)⟩
theorem sv_move {x : Operand} {v : Value} (hx : ev fr x = some v) (hN : Nat.ble (d + 1) N.n = true) (h : sv P N w0 Wr ops rest ((d, v) :: fr) H Z) : sv P N w0 Wr ops (⟨some d, .move x, ty, pos, after, none⟩ :: rest) fr H Z :=
  sv_val v hN (fun a w ha _ => by rw [← ha.eval hx]; rfl) h
theorem sv_assign {x : Operand} {v : Value} (hx : ev fr x = some v) (hN : Nat.ble (d + 1) N.n = true) (h : sv P N w0 Wr ops rest ((d, v) :: fr) H Z) : sv P N w0 Wr ops (⟨some d, .assign x, ty, pos, after, none⟩ :: rest) fr H Z :=
  sv_val v hN (fun a w ha _ => by rw [← ha.eval hx]; rfl) h
theorem sv_nilCheck {x : Operand} {g o : Nat} (hx : ev fr x = some (ptr g o)) (hN : Nat.ble (d + 1) N.n = true) (h : sv P N w0 Wr ops rest ((d, ptr g o) :: fr) H Z) : sv P N w0 Wr ops (⟨some d, .nilCheck x, ty, pos, after, none⟩ :: rest) fr H Z :=
  sv_val _ hN (fun a w ha _ => by simp only [execOp, ha.eval hx, ptr]; rfl) h
theorem sv_load (i : Nat) {t : TypeId} {x : Operand} {g o : Nat} {e : TypeId} {cs : List Value} {agg : Bool} {n : Nat} {v : Value} (hx : ev fr x = some (ptr g o)) (hH : H[i]? = some (.own g e cs)) (ht : tyAgg P t = some agg) (hn : tySize P t = some n) (hv : rdV agg n cs o = some v) (hN : Nat.ble (d + 1) N.n = true)
    (h : sv P N w0 Wr ops rest ((d, v) :: fr) H Z) : sv P N w0 Wr ops (⟨some d, .load t x, ty, pos, after, none⟩ :: rest) fr H Z :=
  sv_val v hN (fun a w ha hw => by
    have hc := Ent.cell (hw.mem hH)
    simp only [execOp, Instr.loadAt, ha.eval hx, ptr, Instr.sureAddr, Sem.run_bind, Sem.run_pure, Result.andThen_ok]
    rw [run_loadVar ht hn hv (fun j u hu => (hc j).trans hu)]
    rfl) h
theorem sv_loadA (i : Nat) {t : TypeId} {x : Operand} {g o : Nat} {e : TypeId} {cs cs' : List Value} {n : Nat} (hx : ev fr x = some (ptr g o)) (hH : H[i]? = some (.own g e cs)) (ht : tyAgg P t = some true) (hn : tySize P t = some n) (hle : Nat.ble (o + n) cs.length = true) (hv : (cs.drop o).take n = cs') (hN : Nat.ble (d + 1) N.n = true)
    (h : sv P N w0 Wr ops rest ((d, .agg cs'.toArray) :: fr) H Z) : sv P N w0 Wr ops (⟨some d, .load t x, ty, pos, after, none⟩ :: rest) fr H Z :=
  sv_load i hx hH ht hn (by subst hv; simp [rdV, hle]) hN h
theorem sv_loadRo (i : Nat) {t : TypeId} {x : Operand} {g o o' : Nat} {cs : List Value} {agg : Bool} {n : Nat} {v : Value} (hx : ev fr x = some (ptr g o)) (hH : H[i]? = some (.ro g o' cs)) (k : Nat) (ho : o = o' + k) (ht : tyAgg P t = some agg) (hn : tySize P t = some n) (hv : rdV agg n cs k = some v) (hN : Nat.ble (d + 1) N.n = true)
    (h : sv P N w0 Wr ops rest ((d, v) :: fr) H Z) : sv P N w0 Wr ops (⟨some d, .load t x, ty, pos, after, none⟩ :: rest) fr H Z :=
  sv_val v hN (fun a w ha hw => by
    subst ho
    have hc := (hw.mem hH).2
    simp only [execOp, Instr.loadAt, ha.eval hx, ptr, Instr.sureAddr, Sem.run_bind, Sem.run_pure, Result.andThen_ok]
    have : (loadVar t ⟨g, o' + k, none⟩).run P w = .ok v w := by
      unfold loadVar
      simp only [Sem.run_bind, run_isAgg ht, Result.andThen_ok]
      cases agg with
      | false => simp [load, Sem.run, hc k v hv]
      | true =>
        simp only [rdV, cond_true] at hv
        cases hb : Nat.ble (k + n) cs.length with
        | false => rw [hb] at hv; cases hv
        | true =>
          rw [hb] at hv
          obtain rfl := Option.some.inj hv
          have hle := Nat.le_of_ble_eq_true hb
          simp only [if_true, Sem.run_bind, run_sizeOf hn, Result.andThen_ok, loadCells]
          rw [run_loadCells (P := P) ⟨g, o' + k, none⟩ n 0 #[] ((cs.drop k).take n) (by simp; omega) (fun j u hu => by
            have e : Addr.add ⟨g, o' + k, none⟩ (0 + j) = ⟨g, o' + (k + j), none⟩ := by unfold Addr.add; split <;> simp_all <;> omega
            rw [e]
            refine hc _ _ ?_
            rw [List.getElem?_take] at hu
            split at hu
            · rw [← hu, List.getElem?_drop]
            · cases hu)]
          simp
    rw [this]
    rfl) h
theorem sv_fieldAddr {s i : Nat} {x : Operand} {g o off n o' : Nat} {b : Bool} (hx : ev fr x = some (ptr g o)) (hf : tyField P s i = some (off, n, b)) (ho : o + off = o') (hN : Nat.ble (d + 1) N.n = true)
    (h : sv P N w0 Wr ops rest ((d, ptr g o') :: fr) H Z) : sv P N w0 Wr ops (⟨some d, .fieldAddr s x i, ty, pos, after, none⟩ :: rest) fr H Z :=
  sv_val _ hN (fun a w ha _ => by
    subst ho
    unfold tyField at hf
    cases hu : P.underlying s with
    | none => simp [hu] at hf
    | some dd =>
      cases dd <;> simp only [hu] at hf <;> try cases hf
      rename_i fs
      cases hi : fs[i]? with
      | none => simp [hi] at hf
      | some f =>
        simp only [hi, Option.bind_some] at hf
        cases hs : tySize P f.type with
        | none => simp [hs] at hf
        | some m =>
          cases hb : tyAgg P f.type with
          | none => simp [hs, hb] at hf
          | some bb =>
            simp only [hs, hb, Option.bind_some] at hf
            split at hf
            · cases hf
            · rename_i hm
              simp only [Option.some.injEq, Prod.mk.injEq] at hf
              obtain ⟨rfl, rfl, rfl⟩ := hf
              have e : Addr.add ⟨g, o, none⟩ f.offset = ⟨g, o + f.offset, none⟩ := by unfold Addr.add; split <;> simp_all
              simp only [execOp, Instr.fieldAt, ha.eval hx, ptr, Sem.run_bind, run_underlying hu, Result.andThen_ok, hi, Instr.sureAddr, Sem.run_pure, fieldPlace, run_sizeOf hs, hm, if_false, e]) h
theorem sv_int2 {op : BinOp} {t t' : TypeId} {x y : Operand} {k : IntKind} {m n : Int} (v : Value) (hx : ev fr x = some (.int k m)) (hy : ev fr y = some (.int k n)) (hv : ∀ w, (binOp op t (.int k m) (.int k n)).run P w = .ok v w) (hN : Nat.ble (d + 1) N.n = true)
    (h : sv P N w0 Wr ops rest ((d, v) :: fr) H Z) : sv P N w0 Wr ops (⟨some d, .binOp op t x y t', ty, pos, after, none⟩ :: rest) fr H Z :=
  sv_val v hN (fun a w ha _ => by
    have hg : (eqGuard op t x y (.int k m) (.int k n)).run P w = .ok () w := by
      unfold eqGuard
      split <;> rfl
    simp only [execOp, ha.eval hx, ha.eval hy, Sem.run_bind, hg, Result.andThen_ok, hv w]
    rfl) h
theorem sv_add {t t' : TypeId} {x y : Operand} {k : IntKind} {m n : Int} (hx : ev fr x = some (.int k m)) (hy : ev fr y = some (.int k n)) (r : Int) (hr : k.wrap (m + n) = r) (hN : Nat.ble (d + 1) N.n = true)
    (h : sv P N w0 Wr ops rest ((d, .int k r) :: fr) H Z) : sv P N w0 Wr ops (⟨some d, .binOp .add t x y t', ty, pos, after, none⟩ :: rest) fr H Z :=
  sv_int2 _ hx hy (fun w => by subst hr; simp [binOp, Op.intArith]) hN h
theorem sv_sub {t t' : TypeId} {x y : Operand} {k : IntKind} {m n : Int} (hx : ev fr x = some (.int k m)) (hy : ev fr y = some (.int k n)) (r : Int) (hr : k.wrap (m - n) = r) (hN : Nat.ble (d + 1) N.n = true)
    (h : sv P N w0 Wr ops rest ((d, .int k r) :: fr) H Z) : sv P N w0 Wr ops (⟨some d, .binOp .sub t x y t', ty, pos, after, none⟩ :: rest) fr H Z :=
  sv_int2 _ hx hy (fun w => by subst hr; simp [binOp, Op.intArith]) hN h
theorem sv_mul {t t' : TypeId} {x y : Operand} {k : IntKind} {m n : Int} (hx : ev fr x = some (.int k m)) (hy : ev fr y = some (.int k n)) (r : Int) (hr : k.wrap (m * n) = r) (hN : Nat.ble (d + 1) N.n = true)
    (h : sv P N w0 Wr ops rest ((d, .int k r) :: fr) H Z) : sv P N w0 Wr ops (⟨some d, .binOp .mul t x y t', ty, pos, after, none⟩ :: rest) fr H Z :=
  sv_int2 _ hx hy (fun w => by subst hr; simp [binOp, Op.intArith]) hN h
theorem sv_quo {t t' : TypeId} {x y : Operand} {k : IntKind} {m n : Int} (hx : ev fr x = some (.int k m)) (hy : ev fr y = some (.int k n)) (hn : n ≠ 0) (r : Int) (hr : k.wrap (m.tdiv n) = r) (hN : Nat.ble (d + 1) N.n = true)
    (h : sv P N w0 Wr ops rest ((d, .int k r) :: fr) H Z) : sv P N w0 Wr ops (⟨some d, .binOp .quo t x y t', ty, pos, after, none⟩ :: rest) fr H Z :=
  sv_int2 _ hx hy (fun w => by subst hr; simp [binOp, Op.intDiv, hn]) hN h
theorem sv_rem {t t' : TypeId} {x y : Operand} {k : IntKind} {m n : Int} (hx : ev fr x = some (.int k m)) (hy : ev fr y = some (.int k n)) (hn : n ≠ 0) (r : Int) (hr : m.tmod n = r) (hN : Nat.ble (d + 1) N.n = true)
    (h : sv P N w0 Wr ops rest ((d, .int k r) :: fr) H Z) : sv P N w0 Wr ops (⟨some d, .binOp .rem t x y t', ty, pos, after, none⟩ :: rest) fr H Z :=
  sv_int2 _ hx hy (fun w => by subst hr; simp [binOp, Op.intDiv, hn]) hN h
theorem sv_lss {t t' : TypeId} {x y : Operand} {k : IntKind} {m n : Int} (hx : ev fr x = some (.int k m)) (hy : ev fr y = some (.int k n)) (hN : Nat.ble (d + 1) N.n = true)
    (h : sv P N w0 Wr ops rest ((d, .bool (decide (m < n))) :: fr) H Z) : sv P N w0 Wr ops (⟨some d, .binOp .lss t x y t', ty, pos, after, none⟩ :: rest) fr H Z :=
  sv_int2 _ hx hy (fun w => by simp [binOp, Op.intCmp]) hN h
theorem sv_leq {t t' : TypeId} {x y : Operand} {k : IntKind} {m n : Int} (hx : ev fr x = some (.int k m)) (hy : ev fr y = some (.int k n)) (hN : Nat.ble (d + 1) N.n = true)
    (h : sv P N w0 Wr ops rest ((d, .bool (decide (m ≤ n))) :: fr) H Z) : sv P N w0 Wr ops (⟨some d, .binOp .leq t x y t', ty, pos, after, none⟩ :: rest) fr H Z :=
  sv_int2 _ hx hy (fun w => by simp [binOp, Op.intCmp]) hN h
theorem sv_gtr {t t' : TypeId} {x y : Operand} {k : IntKind} {m n : Int} (hx : ev fr x = some (.int k m)) (hy : ev fr y = some (.int k n)) (hN : Nat.ble (d + 1) N.n = true)
    (h : sv P N w0 Wr ops rest ((d, .bool (decide (n < m))) :: fr) H Z) : sv P N w0 Wr ops (⟨some d, .binOp .gtr t x y t', ty, pos, after, none⟩ :: rest) fr H Z :=
  sv_int2 _ hx hy (fun w => by simp [binOp, Op.intCmp]) hN h
theorem sv_geq {t t' : TypeId} {x y : Operand} {k : IntKind} {m n : Int} (hx : ev fr x = some (.int k m)) (hy : ev fr y = some (.int k n)) (hN : Nat.ble (d + 1) N.n = true)
    (h : sv P N w0 Wr ops rest ((d, .bool (decide (n ≤ m))) :: fr) H Z) : sv P N w0 Wr ops (⟨some d, .binOp .geq t x y t', ty, pos, after, none⟩ :: rest) fr H Z :=
  sv_int2 _ hx hy (fun w => by simp [binOp, Op.intCmp]) hN h
theorem sv_eql {t t' : TypeId} {x y : Operand} {k : IntKind} {m n : Int} (hx : ev fr x = some (.int k m)) (hy : ev fr y = some (.int k n)) (hN : Nat.ble (d + 1) N.n = true)
    (h : sv P N w0 Wr ops rest ((d, .bool (m == n)) :: fr) H Z) : sv P N w0 Wr ops (⟨some d, .binOp .eql t x y t', ty, pos, after, none⟩ :: rest) fr H Z :=
  sv_int2 _ hx hy (fun w => by simp [binOp, Op.intCmp]) hN h
theorem sv_neq {t t' : TypeId} {x y : Operand} {k : IntKind} {m n : Int} (hx : ev fr x = some (.int k m)) (hy : ev fr y = some (.int k n)) (hN : Nat.ble (d + 1) N.n = true)
    (h : sv P N w0 Wr ops rest ((d, .bool (m != n)) :: fr) H Z) : sv P N w0 Wr ops (⟨some d, .binOp .neq t x y t', ty, pos, after, none⟩ :: rest) fr H Z :=
  sv_int2 _ hx hy (fun w => by simp [binOp, Op.intCmp]) hN h
theorem sv_bits {op : BinOp} (hop : op = .and ∨ op = .or ∨ op = .xor ∨ op = .andNot) {t t' : TypeId} {x y : Operand} {k : IntKind} {m n : Int} (hx : ev fr x = some (.int k m)) (hy : ev fr y = some (.int k n)) (r : Int) (hr : bitsV op k m n = r) (hN : Nat.ble (d + 1) N.n = true)
    (h : sv P N w0 Wr ops rest ((d, .int k r) :: fr) H Z) : sv P N w0 Wr ops (⟨some d, .binOp op t x y t', ty, pos, after, none⟩ :: rest) fr H Z :=
  sv_int2 _ hx hy (fun w => by subst hr; rcases hop with rfl | rfl | rfl | rfl <;> simp [binOp, Op.intBits, bitsV]) hN h
theorem sv_shl {t t' : TypeId} {x y : Operand} {k k' : IntKind} {m n : Int} (hx : ev fr x = some (.int k m)) (hy : ev fr y = some (.int k' n)) (hn : 0 ≤ n) (r : Int) (hr : k.wrap (m * 2 ^ (min n.toNat k.bits)) = r) (hN : Nat.ble (d + 1) N.n = true)
    (h : sv P N w0 Wr ops rest ((d, .int k r) :: fr) H Z) : sv P N w0 Wr ops (⟨some d, .binOp .shl t x y t', ty, pos, after, none⟩ :: rest) fr H Z :=
  sv_val (.int k r) hN (fun a w ha _ => by
    subst hr
    have : ¬ n < 0 := by omega
    simp [execOp, ha.eval hx, ha.eval hy, Sem.run_bind, eqGuard, binOp, Op.shift, this]) h
theorem sv_shr {t t' : TypeId} {x y : Operand} {k k' : IntKind} {m n : Int} (hx : ev fr x = some (.int k m)) (hy : ev fr y = some (.int k' n)) (hn : 0 ≤ n) (r : Int) (hr : m.fdiv (2 ^ (min n.toNat k.bits)) = r) (hN : Nat.ble (d + 1) N.n = true)
    (h : sv P N w0 Wr ops rest ((d, .int k r) :: fr) H Z) : sv P N w0 Wr ops (⟨some d, .binOp .shr t x y t', ty, pos, after, none⟩ :: rest) fr H Z :=
  sv_val (.int k r) hN (fun a w ha _ => by
    subst hr
    have : ¬ n < 0 := by omega
    simp [execOp, ha.eval hx, ha.eval hy, Sem.run_bind, eqGuard, binOp, Op.shift, this]) h
theorem sv_str2 {op : BinOp} {t t' : TypeId} {x y : Operand} {l m : List UInt8} (v : Value) (hx : ev fr x = some (.string (str l))) (hy : ev fr y = some (.string (str m))) (hv : ∀ w, (binOp op t (.string (str l)) (.string (str m))).run P w = .ok v w) (hN : Nat.ble (d + 1) N.n = true)
    (h : sv P N w0 Wr ops rest ((d, v) :: fr) H Z) : sv P N w0 Wr ops (⟨some d, .binOp op t x y t', ty, pos, after, none⟩ :: rest) fr H Z :=
  sv_val v hN (fun a w ha _ => by
    have hg : (eqGuard op t x y (.string (str l)) (.string (str m))).run P w = .ok () w := by
      unfold eqGuard
      split <;> rfl
    simp only [execOp, ha.eval hx, ha.eval hy, Sem.run_bind, hg, Result.andThen_ok, hv w]
    rfl) h
theorem sv_cat {t t' : TypeId} {x y : Operand} {l m : List UInt8} (hx : ev fr x = some (.string (str l))) (hy : ev fr y = some (.string (str m))) (hl : l.length + m.length ≤ 9223372036854775807) (hN : Nat.ble (d + 1) N.n = true)
    (h : sv P N w0 Wr ops rest ((d, .string (str (l ++ m))) :: fr) H Z) : sv P N w0 Wr ops (⟨some d, .binOp .add t x y t', ty, pos, after, none⟩ :: rest) fr H Z :=
  sv_str2 _ hx hy (fun w => by
    have : ¬ (((str l).size + (str m).size : Nat) : Int) > IntKind.i64.max := by
      rw [str_size, str_size]; show ¬ (_ : Int) > 9223372036854775807; omega
    simp only [binOp, Op.stringOp, this, if_false, str_cat]
    rfl) hN h
theorem sv_seql {t t' : TypeId} {x y : Operand} {l m : List UInt8} (hx : ev fr x = some (.string (str l))) (hy : ev fr y = some (.string (str m))) (hN : Nat.ble (d + 1) N.n = true)
    (h : sv P N w0 Wr ops rest ((d, .bool (l == m)) :: fr) H Z) : sv P N w0 Wr ops (⟨some d, .binOp .eql t x y t', ty, pos, after, none⟩ :: rest) fr H Z :=
  sv_str2 _ hx hy (fun w => by simp [binOp, Op.stringOp, str_toL]) hN h
theorem sv_sneq {t t' : TypeId} {x y : Operand} {l m : List UInt8} (hx : ev fr x = some (.string (str l))) (hy : ev fr y = some (.string (str m))) (hN : Nat.ble (d + 1) N.n = true)
    (h : sv P N w0 Wr ops rest ((d, .bool (l != m)) :: fr) H Z) : sv P N w0 Wr ops (⟨some d, .binOp .neq t x y t', ty, pos, after, none⟩ :: rest) fr H Z :=
  sv_str2 _ hx hy (fun w => by simp [binOp, Op.stringOp, str_toL, bne]) hN h
theorem sv_not {t : TypeId} {x : Operand} {b : Bool} (hx : ev fr x = some (.bool b)) (hN : Nat.ble (d + 1) N.n = true)
    (h : sv P N w0 Wr ops rest ((d, .bool (!b)) :: fr) H Z) : sv P N w0 Wr ops (⟨some d, .unOp .not t x, ty, pos, after, none⟩ :: rest) fr H Z :=
  sv_val _ hN (fun a w ha _ => by simp only [execOp, ha.eval hx]; rfl) h
theorem sv_neg {t : TypeId} {x : Operand} {k : IntKind} {m : Int} (hx : ev fr x = some (.int k m)) (r : Int) (hr : k.wrap (0 - m) = r) (hN : Nat.ble (d + 1) N.n = true)
    (h : sv P N w0 Wr ops rest ((d, .int k r) :: fr) H Z) : sv P N w0 Wr ops (⟨some d, .unOp .neg t x, ty, pos, after, none⟩ :: rest) fr H Z :=
  sv_val _ hN (fun a w ha _ => by subst hr; simp only [execOp, ha.eval hx]; rfl) h
theorem sv_conv {s t : TypeId} {x : Operand} {k k' : IntKind} {ds : TypeDesc} {m : Int} (hs : P.underlying s = some ds) (ht : P.underlying t = some (.int k')) (hx : ev fr x = some (.int k m)) (r : Int) (hr : k'.wrap m = r) (hN : Nat.ble (d + 1) N.n = true)
    (h : sv P N w0 Wr ops rest ((d, .int k' r) :: fr) H Z) : sv P N w0 Wr ops (⟨some d, .convert s t x, ty, pos, after, none⟩ :: rest) fr H Z :=
  sv_val (.int k' r) hN (fun a w ha _ => by
    subst hr
    simp only [execOp, ha.eval hx, convert, Sem.run_bind, run_underlying hs, run_underlying ht, Result.andThen_ok]
    cases ds <;> rfl) h
theorem sv_extract {x : Operand} {i : Nat} {vs : List Value} {v : Value} (hx : ev fr x = some (.tuple vs.toArray)) (hv : vs[i]? = some v) (hN : Nat.ble (d + 1) N.n = true)
    (h : sv P N w0 Wr ops rest ((d, v) :: fr) H Z) : sv P N w0 Wr ops (⟨some d, .extract x i, ty, pos, after, none⟩ :: rest) fr H Z :=
  sv_val v hN (fun a w ha _ => by
    have : vs.toArray[i]? = some v := by simpa using hv
    simp only [execOp, ha.eval hx, Instr.extract, this]; rfl) h
theorem sv_len {x : Operand} {t e : TypeId} {A : Option Addr} {n c : Nat} (ht : P.underlying t = some (.slice e)) (hx : ev fr x = some (.slice A n c)) (hN : Nat.ble (d + 1) N.n = true)
    (h : sv P N w0 Wr ops rest ((d, .int .i64 n) :: fr) H Z) : sv P N w0 Wr ops (⟨some d, .call { callee := .builtin .len, args := #[x], argTypes := #[t] }, ty, pos, after, none⟩ :: rest) fr H Z :=
  sv_val _ hN (fun a w ha _ => by
    have := ha.eval hx
    simp [execOp, resolve, invoke, builtin, this, Sem.run_bind, Builtin.len_, run_underlying ht, goInt]) h
theorem sv_lenS {x : Operand} {t : TypeId} {l : List UInt8} (ht : P.underlying t = some .string) (hx : ev fr x = some (.string (str l))) (hN : Nat.ble (d + 1) N.n = true)
    (h : sv P N w0 Wr ops rest ((d, .int .i64 (l.length : Int)) :: fr) H Z) : sv P N w0 Wr ops (⟨some d, .call { callee := .builtin .len, args := #[x], argTypes := #[t] }, ty, pos, after, none⟩ :: rest) fr H Z :=
  sv_val _ hN (fun a w ha _ => by
    have := ha.eval hx
    simp [execOp, resolve, invoke, builtin, this, Sem.run_bind, Builtin.len_, run_underlying ht, goInt, str_size]) h
theorem sv_field {s i off n : Nat} {b : Bool} {x : Operand} {cs : List Value} {v : Value} (hx : ev fr x = some (.agg cs.toArray)) (hf : tyField P s i = some (off, n, b)) (hv : rdV b n cs off = some v) (hN : Nat.ble (d + 1) N.n = true)
    (h : sv P N w0 Wr ops rest ((d, v) :: fr) H Z) : sv P N w0 Wr ops (⟨some d, .field s x i, ty, pos, after, none⟩ :: rest) fr H Z :=
  sv_val v hN (fun a w ha _ => by
    obtain ⟨fs, f, h1, h2, rfl, h3, h4⟩ := tyField_split hf
    simp only [execOp, Instr.field, ha.eval hx, Sem.run_bind, run_underlying h1, Result.andThen_ok, h2, asAgg, Sem.run_pure, run_part h4 h3 hv]) h
theorem sv_indexA {t e len n : Nat} {b : Bool} {x y : Operand} {cs : List Value} {k : IntKind} {i : Int} {v : Value} (ht : P.underlying t = some (.array len e)) (ha' : tyAgg P e = some b) (hs : tySize P e = some n) (hx : ev fr x = some (.agg cs.toArray)) (hy : ev fr y = some (.int k i)) (hi : 0 ≤ i ∧ i < len) (hv : rdV b n cs (i.toNat * n) = some v) (hN : Nat.ble (d + 1) N.n = true)
    (h : sv P N w0 Wr ops rest ((d, v) :: fr) H Z) : sv P N w0 Wr ops (⟨some d, .index t x y, ty, pos, after, none⟩ :: rest) fr H Z :=
  sv_val v hN (fun a w ha _ => by
    simp only [execOp, Instr.index, ha.eval hx, ha.eval hy, asIntOf, Sem.run_bind, Sem.run_pure, run_underlying ht, Result.andThen_ok, if_pos hi, run_sizeOf hs, run_part ha' hs hv]) h
theorem sv_indexS {t : Nat} {x y : Operand} {l : List UInt8} {k : IntKind} {i : Int} {c : UInt8} (ht : P.underlying t = some .string) (hx : ev fr x = some (.string (str l))) (hy : ev fr y = some (.int k i)) (hi : 0 ≤ i) (hv : l[i.toNat]? = some c) (hN : Nat.ble (d + 1) N.n = true)
    (h : sv P N w0 Wr ops rest ((d, .int .u8 (c.toNat : Int)) :: fr) H Z) : sv P N w0 Wr ops (⟨some d, .index t x y, ty, pos, after, none⟩ :: rest) fr H Z :=
  sv_val _ hN (fun a w ha _ => by
    have : (str l)[i.toNat]? = some c := by
      have hl := (List.getElem?_eq_some_iff.1 hv)
      obtain ⟨h1, h2⟩ := hl
      have h3 : i.toNat < (str l).size := by rw [str_size]; exact h1
      rw [getElem?_pos (str l) i.toNat h3]
      congr 1
    simp only [execOp, Instr.index, ha.eval hx, ha.eval hy, asIntOf, Sem.run_bind, Sem.run_pure, run_underlying ht, Result.andThen_ok, if_pos hi, this]) h
theorem sv_indexAddr {t e n g o len c : Nat} {x y : Operand} {k : IntKind} {i : Int} (o' : Nat) (ht : P.underlying t = some (.slice e)) (hs : tySize P e = some n) (hx : ev fr x = some (.slice (some ⟨g, o, none⟩) len c)) (hy : ev fr y = some (.int k i)) (hi : 0 ≤ i ∧ i < len) (ho : o + i.toNat * n = o') (hN : Nat.ble (d + 1) N.n = true)
    (h : sv P N w0 Wr ops rest ((d, ptr g o') :: fr) H Z) : sv P N w0 Wr ops (⟨some d, .indexAddr t x y, ty, pos, after, none⟩ :: rest) fr H Z :=
  sv_val _ hN (fun a w ha _ => by
    subst ho
    simp only [execOp, Instr.indexAt, ha.eval hx, ha.eval hy, asIntOf, Sem.run_bind, Sem.run_pure, run_underlying ht, Result.andThen_ok, if_pos hi, run_sizeOf hs, addr_add]
    rfl) h
theorem sv_indexAddrA {t e n g o len : Nat} {x y : Operand} {k : IntKind} {i : Int} (o' : Nat) (ht : P.underlying t = some (.array len e)) (hs : tySize P e = some n) (hx : ev fr x = some (ptr g o)) (hy : ev fr y = some (.int k i)) (hi : 0 ≤ i ∧ i < len) (ho : o + i.toNat * n = o') (hN : Nat.ble (d + 1) N.n = true)
    (h : sv P N w0 Wr ops rest ((d, ptr g o') :: fr) H Z) : sv P N w0 Wr ops (⟨some d, .indexAddr t x y, ty, pos, after, none⟩ :: rest) fr H Z :=
  sv_val _ hN (fun a w ha _ => by
    subst ho
    simp only [execOp, Instr.indexAt, ha.eval hx, ha.eval hy, asIntOf, Sem.run_bind, Sem.run_pure, run_underlying ht, Result.andThen_ok, ptr, Instr.sureAddr, if_pos hi, run_sizeOf hs, addr_add]) h
theorem sv_sliceS {t : TypeId} {x : Operand} {lo hi : Option Operand} {l : List UInt8} {i j : Int} (m : List UInt8) (ht : P.underlying t = some .string) (hx : ev fr x = some (.string (str l))) (hl : bnd fr 0 lo = some i) (hh : bnd fr (l.length : Int) hi = some j) (h0 : 0 ≤ i) (h1 : i ≤ j) (h2 : j ≤ l.length) (hm : (l.drop i.toNat).take (j.toNat - i.toNat) = m) (hN : Nat.ble (d + 1) N.n = true)
    (h : sv P N w0 Wr ops rest ((d, .string (str m)) :: fr) H Z) : sv P N w0 Wr ops (⟨some d, .slice t x lo hi none, ty, pos, after, none⟩ :: rest) fr H Z :=
  sv_val _ hN (fun a w ha _ => by
    subst hm
    have hb := sliceBounds_ok (P := P) (isS := false) (len := (str l).size) (cap := (str l).size) (w := w) ha hl (by rw [str_size]; exact hh) h0 h1 (by rw [str_size]; exact h2)
    simp only [execOp, Instr.sliceAt, Instr.slice, ha.eval hx, Sem.run_bind, run_underlying ht, Result.andThen_ok, Option.map_none, Option.isSome_none, Bool.false_eq_true, if_false, hb, Sem.run_pure, str_cut]) h
theorem sv_slice {t e n g o len c : Nat} {x : Operand} {lo hi : Option Operand} {i j : Int} (ht : P.underlying t = some (.slice e)) (hs : tySize P e = some n) (hx : ev fr x = some (.slice (some ⟨g, o, none⟩) len c)) (hl : bnd fr 0 lo = some i) (hh : bnd fr (len : Int) hi = some j) (h0 : 0 ≤ i) (h1 : i ≤ j) (h2 : j ≤ c) (hN : Nat.ble (d + 1) N.n = true)
    (h : ∀ o', (i < j → o' = o + i.toNat * n) → sv P N w0 Wr ops rest ((d, .slice (some ⟨g, o', none⟩) (j.toNat - i.toNat) (c - i.toNat)) :: fr) H Z) : sv P N w0 Wr ops (⟨some d, .slice t x lo hi none, ty, pos, after, none⟩ :: rest) fr H Z :=
  sv_val (.slice (some ⟨g, (if c = i.toNat then o else o + i.toNat * n), none⟩) (j.toNat - i.toNat) (c - i.toNat)) hN (fun a w ha _ => by
    have hb := sliceBounds_ok (P := P) (isS := true) (len := len) (cap := c) (w := w) ha hl hh h0 h1 h2
    simp only [execOp, Instr.sliceAt, Instr.slice, ha.eval hx, Sem.run_bind, run_underlying ht, Result.andThen_ok, Option.map_none, hb, Sem.run_pure, run_sizeOf hs, Option.map_some, addr_add]
    by_cases hc : c = i.toNat <;> simp [hc]) (h _ (fun hlt => by rw [if_neg (by omega)]))
theorem sv_build {t : TypeId} {parts : List (Nat × Operand)} {pv : List (Nat × Value)} {z cs cs' : List Value} {pl : List (Nat × Nat)} (hz : tyZero P t = some z) (hp : tyPlaces P t = some pl) (hx : evParts fr parts = some pv) (hf : fillV (pl[·]?) z (celled pv) = some cs) (hn : cs = cs') (hN : Nat.ble (d + 1) N.n = true)
    (h : sv P N w0 Wr ops rest ((d, .agg cs'.toArray) :: fr) H Z) : sv P N w0 Wr ops (⟨some d, .build t parts.toArray, ty, pos, after, none⟩ :: rest) fr H Z :=
  sv_val _ hN (fun a w ha _ => by
    subst hn
    obtain ⟨v, h1, h2⟩ := run_zero (w := w) hz
    unfold tyPlaces at hp
    cases hu : P.underlying t with
    | none => simp [hu] at hp
    | some dd =>
      cases dd <;> simp only [hu] at hp <;> try cases hp
      rename_i fs
      have hpl := places_ok (P := P) fs.toList pl w hp
      have hpl' : (fs.mapM (m := Sem) fun f => do pure (f.offset, ← sizeOf f.type)).run P w = .ok pl.toArray w := by
        rw [← Array.toArray_toList (xs := fs), List.mapM_toArray]
        rw [Sem.run_map, hpl]
        rfl
      have hfl : Instr.fill (fun i => pl.toArray[i]?) v.cells pv = some cs.toArray := fill_ok _ pv v.cells cs (by rw [h2]; simpa using hf)
      have hpv := ha.parts hx
      have hpv' : (parts.toArray.map fun (p : Nat × Operand) => (p.1, a.eval p.2)).toList = pv := by simpa using hpv
      simp only [execOp, Instr.build, Sem.run_bind, h1, Result.andThen_ok, run_underlying hu, hpl', hpv', hfl]
      rfl) h
theorem sv_buildA {t e len n : TypeId} {parts : List (Nat × Operand)} {pv : List (Nat × Value)} {z cs cs' : List Value} (hz : tyZero P t = some z) (ht : P.underlying t = some (.array len e)) (hs : tySize P e = some n) (hx : evParts fr parts = some pv) (hf : fillV (fun i => some (i * n, n)) z (celled pv) = some cs) (hn : cs = cs') (hN : Nat.ble (d + 1) N.n = true)
    (h : sv P N w0 Wr ops rest ((d, .agg cs'.toArray) :: fr) H Z) : sv P N w0 Wr ops (⟨some d, .build t parts.toArray, ty, pos, after, none⟩ :: rest) fr H Z :=
  sv_val _ hN (fun a w ha _ => by
    subst hn
    obtain ⟨v, h1, h2⟩ := run_zero (w := w) hz
    have hfl : Instr.fill (fun i => some (i * n, n)) v.cells pv = some cs.toArray := fill_ok _ pv v.cells cs (by rw [h2]; simpa using hf)
    have hpv := ha.parts hx
    have hpv' : (parts.toArray.map fun (p : Nat × Operand) => (p.1, a.eval p.2)).toList = pv := by simpa using hpv
    simp only [execOp, Instr.build, Sem.run_bind, h1, Result.andThen_ok, run_underlying ht, run_sizeOf hs, hpv', hfl]
    rfl) h
theorem sv_pick {c x y : Operand} {b : Bool} {v : Value} (hc : ev fr c = some (.bool b)) (hx : ev fr (bif b then x else y) = some v) (hN : Nat.ble (d + 1) N.n = true)
    (h : sv P N w0 Wr ops rest ((d, v) :: fr) H Z) : sv P N w0 Wr ops (⟨some d, .pick c x y, ty, pos, after, none⟩ :: rest) fr H Z :=
  sv_val v hN (fun a w ha _ => by
    cases b <;> simp only [cond_true, cond_false] at hx <;> simp [execOp, ha.eval hc, ha.eval hx, asBool, Sem.run_bind]) h
theorem sv_aeql {t t' : TypeId} {x y : Operand} {xs ys : List Value} {b : Bool} (hE : EqV P 10000 t (.agg xs.toArray) (.agg ys.toArray) b) (hG : P.eqGuardType P.depth t = false) (hx : ev fr x = some (.agg xs.toArray)) (hy : ev fr y = some (.agg ys.toArray)) (hN : Nat.ble (d + 1) N.n = true)
    (h : sv P N w0 Wr ops rest ((d, .bool b) :: fr) H Z) : sv P N w0 Wr ops (⟨some d, .binOp .eql t x y t', ty, pos, after, none⟩ :: rest) fr H Z :=
  sv_val _ hN (fun a w ha _ => by
    have hg : (eqGuard .eql t x y (.agg xs.toArray) (.agg ys.toArray)).run P w = .ok () w := by
      simp [eqGuard, program, Sem.run_bind, Sem.run, hG]
    have he : (Op.equal t (.agg xs.toArray) (.agg ys.toArray)).run P w = .ok b w := hE w
    simp only [execOp, ha.eval hx, ha.eval hy, Sem.run_bind, hg, Result.andThen_ok, binOp, he, Sem.run_pure]) h
theorem sv_aneq {t t' : TypeId} {x y : Operand} {xs ys : List Value} {b : Bool} (hE : EqV P 10000 t (.agg xs.toArray) (.agg ys.toArray) b) (hG : P.eqGuardType P.depth t = false) (hx : ev fr x = some (.agg xs.toArray)) (hy : ev fr y = some (.agg ys.toArray)) (hN : Nat.ble (d + 1) N.n = true)
    (h : sv P N w0 Wr ops rest ((d, .bool (!b)) :: fr) H Z) : sv P N w0 Wr ops (⟨some d, .binOp .neq t x y t', ty, pos, after, none⟩ :: rest) fr H Z :=
  sv_val _ hN (fun a w ha _ => by
    have hg : (eqGuard .neq t x y (.agg xs.toArray) (.agg ys.toArray)).run P w = .ok () w := by
      simp [eqGuard, program, Sem.run_bind, Sem.run, hG]
    have he : (Op.equal t (.agg xs.toArray) (.agg ys.toArray)).run P w = .ok b w := hE w
    simp only [execOp, ha.eval hx, ha.eval hy, Sem.run_bind, hg, Result.andThen_ok, binOp, he, Sem.run_pure]) h
theorem sv_beql {t t' : TypeId} {x y : Operand} {a b : Bool} (ht : P.underlying t = some .bool) (hx : ev fr x = some (.bool a)) (hy : ev fr y = some (.bool b)) (hN : Nat.ble (d + 1) N.n = true)
    (h : sv P N w0 Wr ops rest ((d, .bool (a == b)) :: fr) H Z) : sv P N w0 Wr ops (⟨some d, .binOp .eql t x y t', ty, pos, after, none⟩ :: rest) fr H Z :=
  sv_val _ hN (fun c w ha _ => by
    have hg : (eqGuard .eql t x y (.bool a) (.bool b)).run P w = .ok () w := by
      unfold eqGuard
      split <;> rfl
    have he : (Op.equal t (.bool a) (.bool b)).run P w = .ok (a == b) w := by
      unfold Op.equal Op.maxDepth Op.equalIn
      simp [Sem.run_bind, run_underlying ht]
    simp only [execOp, ha.eval hx, ha.eval hy, Sem.run_bind, hg, Result.andThen_ok, binOp, he, Sem.run_pure]) h
theorem sv_bneq {t t' : TypeId} {x y : Operand} {a b : Bool} (ht : P.underlying t = some .bool) (hx : ev fr x = some (.bool a)) (hy : ev fr y = some (.bool b)) (hN : Nat.ble (d + 1) N.n = true)
    (h : sv P N w0 Wr ops rest ((d, .bool (!(a == b))) :: fr) H Z) : sv P N w0 Wr ops (⟨some d, .binOp .neq t x y t', ty, pos, after, none⟩ :: rest) fr H Z :=
  sv_val _ hN (fun c w ha _ => by
    have hg : (eqGuard .neq t x y (.bool a) (.bool b)).run P w = .ok () w := by
      unfold eqGuard
      split <;> rfl
    have he : (Op.equal t (.bool a) (.bool b)).run P w = .ok (a == b) w := by
      unfold Op.equal Op.maxDepth Op.equalIn
      simp [Sem.run_bind, run_underlying ht]
    simp only [execOp, ha.eval hx, ha.eval hy, Sem.run_bind, hg, Result.andThen_ok, binOp, he, Sem.run_pure]) h
theorem sv_loadRd {t : TypeId} {x : Operand} {g o q n size m : Nat} {xs : List Value} {agg : Bool} {v : Value} (k : Nat) (hx : ev fr x = some (ptr g q)) (hq : q = o + k) (hr : ∀ w, Sat w0 Wr H w → Rd w size (some ⟨g, o, none⟩) n xs) (hn0 : 0 < n) (ht : tyAgg P t = some agg) (hn : tySize P t = some m) (hv : rdV agg m xs k = some v) (hN : Nat.ble (d + 1) N.n = true)
    (h : sv P N w0 Wr ops rest ((d, v) :: fr) H Z) : sv P N w0 Wr ops (⟨some d, .load t x, ty, pos, after, none⟩ :: rest) fr H Z :=
  sv_val v hN (fun a w ha hw => by
    subst hq
    obtain ⟨g', o', hA, hlt, hc⟩ := (hr w hw).2.2 hn0
    injection hA with hA
    injection hA with h1 h2 _
    subst h1; subst h2
    simp only [execOp, Instr.loadAt, ha.eval hx, ptr, Instr.sureAddr, Sem.run_bind, Sem.run_pure, Result.andThen_ok]
    have : (loadVar t ⟨g, o + k, none⟩).run P w = .ok v w := by
      unfold loadVar
      simp only [Sem.run_bind, run_isAgg ht, Result.andThen_ok]
      cases agg with
      | false => simp [load, Sem.run, hc k v hv]
      | true =>
        simp only [rdV, cond_true] at hv
        cases hb : Nat.ble (k + m) xs.length with
        | false => rw [hb] at hv; cases hv
        | true =>
          rw [hb] at hv
          obtain rfl := Option.some.inj hv
          have hle := Nat.le_of_ble_eq_true hb
          simp only [if_true, Sem.run_bind, run_sizeOf hn, Result.andThen_ok, loadCells]
          rw [run_loadCells (P := P) ⟨g, o + k, none⟩ m 0 #[] ((xs.drop k).take m) (by simp; omega) (fun j u hu => by
            have e : Addr.add ⟨g, o + k, none⟩ (0 + j) = ⟨g, o + (k + j), none⟩ := by rw [addr_add]; congr 1; omega
            rw [e]
            refine hc _ _ ?_
            rw [List.getElem?_take] at hu
            split at hu
            · rw [← hu, List.getElem?_drop]
            · cases hu)]
          simp
    rw [this]
    rfl) h
theorem sv_strB {s t : TypeId} {x : Operand} {A : Option Addr} {n c : Nat} {l : List UInt8} {e : TypeId} (hs : P.underlying s = some (.slice e)) (he : P.underlying e = some (.int .u8)) (ht : P.underlying t = some .string) (hx : ev fr x = some (.slice A n c))
    (hr : ∀ w, Sat w0 Wr H w → Rd w 1 A n (bv l)) (hN : Nat.ble (d + 1) N.n = true)
    (h : sv P N w0 Wr ops rest ((d, .string (str l)) :: fr) H Z) : sv P N w0 Wr ops (⟨some d, .convert s t x, ty, pos, after, none⟩ :: rest) fr H Z :=
  sv_val _ hN (fun a w ha hw => by
    simp only [execOp, ha.eval hx, Sem.run_bind, run_str (hr w hw) s e t hs he ht, Result.andThen_ok, Sem.run_pure]) h
theorem sv_lookup {κ ν : Type} [DecidableEq κ] {encK : κ → Value} {encV : ν → Value} {K T E : TypeId} (i : Nat) (hK : KeyOk P K encK) (hT : P.underlying T = some (.map K E)) {z : Value} (hz : ∀ w, (zeroValue E).run P w = .ok z w) {x y : Operand} {b : Nat} {M : List (κ × ν)} (k : κ) {ok : Bool} (v : Value)
    (hx : ev fr x = some (.map (some b))) (hy : ev fr y = some (encK k)) (hH : H[i]? = some (mapE encK encV b M)) (hv : (if ok = true then Value.tuple #[((aget M k).map encV).getD z, .bool (aget M k).isSome] else ((aget M k).map encV).getD z) = v) (hN : Nat.ble (d + 1) N.n = true)
    (h : sv P N w0 Wr ops rest ((d, v) :: fr) H Z) : sv P N w0 Wr ops (⟨some d, .lookup T x y ok, ty, pos, after, none⟩ :: rest) fr H Z :=
  sv_val v hN (fun a w ha hw => by
    subst hv
    have := run_look hK hT (mapE_is.1 (hw.mem hH)) (hz w) k ok
    simp only [execOp, ha.eval hx, ha.eval hy, Sem.run_bind, this, Result.andThen_ok]
    rfl) h
theorem sv_lenM {κ ν : Type} [DecidableEq κ] {encK : κ → Value} {encV : ν → Value} {K T E : TypeId} (i : Nat) (hT : P.underlying T = some (.map K E)) {x : Operand} {b : Nat} {M : List (κ × ν)} (hx : ev fr x = some (.map (some b))) (hH : H[i]? = some (mapE encK encV b M)) (hN : Nat.ble (d + 1) N.n = true)
    (h : sv P N w0 Wr ops rest ((d, .int .i64 (M.length : Nat)) :: fr) H Z) : sv P N w0 Wr ops (⟨some d, .call { callee := .builtin .len, args := #[x], argTypes := #[T] }, ty, pos, after, none⟩ :: rest) fr H Z :=
  sv_val _ hN (fun a w ha hw => by
    have := run_len_map (ty := ty) hT (mapE_is.1 (hw.mem hH))
    have he := ha.eval hx
    simp [execOp, resolve, invoke, builtin, he, Sem.run_bind, this]) h
theorem tw_nil (h : Z fr H) : tw P N w0 Wr ops H0 [] fr H Z := fun _ hQ a w ha hw => ⟨rfl, hQ _ _ a w h ha hw⟩
theorem tw_p {i : Nat} {o : Oper} {xs : List (Nat × Bool)} (ho : ops[i]? = some o) (h : sv P N w0 Wr ops [o] fr H0 fun fr' _ => tw P N w0 Wr ops H0 xs fr' H Z) : tw P N w0 Wr ops H0 ((i, true) :: xs) fr H Z :=
  fun Q hQ a w ha hw => by
    obtain ⟨v, hv, hk⟩ := h (fun a => Wv P ops (Sat w0 Wr H0) Q xs a w) (fun fr' a ht hf => ht Q hQ a w hf hw) a ha
    exact ⟨o, v, ho, hv, hk⟩
theorem tw_g {i : Nat} {o : Oper} {xs : List (Nat × Bool)} (ho : ops[i]? = some o) (h : sx P N w0 Wr ops [o] fr H fun fr' H' => HLe H0 H' ∧ tw P N w0 Wr ops H0 xs fr' H' Z) : tw P N w0 Wr ops H0 ((i, false) :: xs) fr H Z :=
  fun Q hQ a w ha hw => by
    have h1 := h (QN fun _ a w => Sat w0 Wr H0 w ∧ Wv P ops (Sat w0 Wr H0) Q xs a w) (fun fr' H' a w ht hf hS => ⟨rfl, ht.1 _ _ _ hS, ht.2 Q hQ a w hf hS⟩) a w ha hw
    show wpOp P ops (QN Q) i (fun a w' => Sat w0 Wr H0 w' ∧ Wv P ops (Sat w0 Wr H0) Q xs a w') a w
    refine wpOp_any (Q := fun _ a w => Sat w0 Wr H0 w ∧ Wv P ops (Sat w0 Wr H0) Q xs a w) ho ?_
    unfold wpOp
    simp only [ho]
    unfold wpList at h1
    split
    · rename_i hw'
      rw [if_pos hw'] at h1
      exact h1.imp (Oper.wp_mono fun a w hh => hh.2) id
    · rename_i hw'
      rw [if_neg hw'] at h1
      exact h1.2
theorem aww_region {Q : Exit → Act → World → Prop} {id : Nat} {l : List Oper} (H0 : Heap) (ls : List (Nat × Bool)) (hm : P.follows .mixedOrders = true) (hB : calmB l ls = true) (hk : HLe H0 H)
    (h : ∀ Z : Fr → Heap → Prop, (∀ fr H, nx N w0 Wr fr H Q .normal → Z fr H) → tw P N w0 Wr l.toArray H0 ls fr H Z) : awp P N w0 Wr (.region id l.toArray true) fr H Q :=
  fun a w ha hw => wp_region_calm (C := Sat w0 Wr H0) ls hm hB (hk _ _ _ hw.drew)
    (h (fun fr H => nx N w0 Wr fr H Q .normal) (fun _ _ h => h) Q (fun fr' H' a w hz hf hs => hz a w hf hs) a w.drew ha hw.drew)
theorem aww_seq_region {Q : Exit → Act → World → Prop} {id : Nat} {l : List Oper} {y : Code} (H0 : Heap) (ls : List (Nat × Bool)) (hm : P.follows .mixedOrders = true) (hB : calmB l ls = true) (hk : HLe H0 H)
    (h : ∀ Z : Fr → Heap → Prop, (∀ fr H, awp P N w0 Wr y fr H Q → Z fr H) → tw P N w0 Wr l.toArray H0 ls fr H Z) : awp P N w0 Wr (.seq (.region id l.toArray true) y) fr H Q :=
  awp_seq (aww_region H0 ls hm hB hk fun Z hZ => h Z fun fr H hy => hZ fr H hy)
end
end Go.Proofs.Ytfffhnefjaomnaa
