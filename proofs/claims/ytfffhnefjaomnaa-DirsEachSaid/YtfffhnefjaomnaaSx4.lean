/- More steps of the small logic: values. No conditions. -/
import Derived.Test.YtfffhnefjaomnaaSx3
import Derived.IntWalk
namespace Go.Proofs.Ytfffhnefjaomnaa
open Go.RowKit
set_option linter.unusedVariables false
set_option linter.unusedSimpArgs false
set_option linter.unusedSectionVars false
/-- The field of a struct's value. -/
def fieldV (P : Program) (s i : Nat) (cs : List Value) : Option Value :=
  match tyField P s i with
  | some (off, n, b) => rdV b n cs off
  | none => none
/-- The parts of a struct or an array, laid into its zero cells. -/
def fillV : (Nat → Option (Nat × Nat)) → List Value → List (Nat × List Value) → Option (List Value)
  | _, cells, [] => some cells
  | place, cells, (i, v) :: rest =>
    match place i with
    | none => none
    | some (off, size) => bif Nat.beq v.length size && Nat.ble (off + v.length) cells.length then fillV place (wrV cells off v) rest else none
section
variable {P : Program} {N : Frm} {w0 : World} {Wr : List Nat} {ops : Array Oper} {rest : List Oper} {fr : Fr} {H : Heap} {Z : Fr → Heap → Prop}
variable {d ty : Nat} {pos : String} {after : Array Edge}
/-- Two numbers, an operator. -/
theorem sx_int2 {op : BinOp} {t t' : TypeId} {x y : Operand} {k : IntKind} {m n : Int} (v : Value) (hx : ev fr x = some (.int k m)) (hy : ev fr y = some (.int k n)) (hv : ∀ w, (binOp op t (.int k m) (.int k n)).run P w = .ok v w) (hN : Nat.ble (d + 1) N.n = true)
    (h : sx P N w0 Wr ops rest ((d, v) :: fr) H Z) : sx P N w0 Wr ops (⟨some d, .binOp op t x y t', ty, pos, after, none⟩ :: rest) fr H Z :=
  sx_val v hN (fun a w ha _ => by
    have hg : (eqGuard op t x y (.int k m) (.int k n)).run P w = .ok () w := by
      unfold eqGuard
      split <;> rfl
    simp only [execOp, ha.eval hx, ha.eval hy, Sem.run_bind, hg, Result.andThen_ok, hv w]
    rfl) h
theorem sx_add {t t' : TypeId} {x y : Operand} {k : IntKind} {m n : Int} (hx : ev fr x = some (.int k m)) (hy : ev fr y = some (.int k n)) (r : Int) (hr : k.wrap (m + n) = r) (hN : Nat.ble (d + 1) N.n = true)
    (h : sx P N w0 Wr ops rest ((d, .int k r) :: fr) H Z) : sx P N w0 Wr ops (⟨some d, .binOp .add t x y t', ty, pos, after, none⟩ :: rest) fr H Z :=
  sx_int2 _ hx hy (fun w => by subst hr; simp [binOp, Op.intArith]) hN h
theorem sx_sub {t t' : TypeId} {x y : Operand} {k : IntKind} {m n : Int} (hx : ev fr x = some (.int k m)) (hy : ev fr y = some (.int k n)) (r : Int) (hr : k.wrap (m - n) = r) (hN : Nat.ble (d + 1) N.n = true)
    (h : sx P N w0 Wr ops rest ((d, .int k r) :: fr) H Z) : sx P N w0 Wr ops (⟨some d, .binOp .sub t x y t', ty, pos, after, none⟩ :: rest) fr H Z :=
  sx_int2 _ hx hy (fun w => by subst hr; simp [binOp, Op.intArith]) hN h
theorem sx_mul {t t' : TypeId} {x y : Operand} {k : IntKind} {m n : Int} (hx : ev fr x = some (.int k m)) (hy : ev fr y = some (.int k n)) (r : Int) (hr : k.wrap (m * n) = r) (hN : Nat.ble (d + 1) N.n = true)
    (h : sx P N w0 Wr ops rest ((d, .int k r) :: fr) H Z) : sx P N w0 Wr ops (⟨some d, .binOp .mul t x y t', ty, pos, after, none⟩ :: rest) fr H Z :=
  sx_int2 _ hx hy (fun w => by subst hr; simp [binOp, Op.intArith]) hN h
theorem sx_quo {t t' : TypeId} {x y : Operand} {k : IntKind} {m n : Int} (hx : ev fr x = some (.int k m)) (hy : ev fr y = some (.int k n)) (hn : n ≠ 0) (r : Int) (hr : k.wrap (m.tdiv n) = r) (hN : Nat.ble (d + 1) N.n = true)
    (h : sx P N w0 Wr ops rest ((d, .int k r) :: fr) H Z) : sx P N w0 Wr ops (⟨some d, .binOp .quo t x y t', ty, pos, after, none⟩ :: rest) fr H Z :=
  sx_int2 _ hx hy (fun w => by subst hr; simp [binOp, Op.intDiv, hn]) hN h
theorem sx_rem {t t' : TypeId} {x y : Operand} {k : IntKind} {m n : Int} (hx : ev fr x = some (.int k m)) (hy : ev fr y = some (.int k n)) (hn : n ≠ 0) (r : Int) (hr : m.tmod n = r) (hN : Nat.ble (d + 1) N.n = true)
    (h : sx P N w0 Wr ops rest ((d, .int k r) :: fr) H Z) : sx P N w0 Wr ops (⟨some d, .binOp .rem t x y t', ty, pos, after, none⟩ :: rest) fr H Z :=
  sx_int2 _ hx hy (fun w => by subst hr; simp [binOp, Op.intDiv, hn]) hN h
theorem sx_lss {t t' : TypeId} {x y : Operand} {k : IntKind} {m n : Int} (hx : ev fr x = some (.int k m)) (hy : ev fr y = some (.int k n)) (hN : Nat.ble (d + 1) N.n = true)
    (h : sx P N w0 Wr ops rest ((d, .bool (decide (m < n))) :: fr) H Z) : sx P N w0 Wr ops (⟨some d, .binOp .lss t x y t', ty, pos, after, none⟩ :: rest) fr H Z :=
  sx_int2 _ hx hy (fun w => by simp [binOp, Op.intCmp]) hN h
theorem sx_leq {t t' : TypeId} {x y : Operand} {k : IntKind} {m n : Int} (hx : ev fr x = some (.int k m)) (hy : ev fr y = some (.int k n)) (hN : Nat.ble (d + 1) N.n = true)
    (h : sx P N w0 Wr ops rest ((d, .bool (decide (m ≤ n))) :: fr) H Z) : sx P N w0 Wr ops (⟨some d, .binOp .leq t x y t', ty, pos, after, none⟩ :: rest) fr H Z :=
  sx_int2 _ hx hy (fun w => by simp [binOp, Op.intCmp]) hN h
theorem sx_gtr {t t' : TypeId} {x y : Operand} {k : IntKind} {m n : Int} (hx : ev fr x = some (.int k m)) (hy : ev fr y = some (.int k n)) (hN : Nat.ble (d + 1) N.n = true)
    (h : sx P N w0 Wr ops rest ((d, .bool (decide (n < m))) :: fr) H Z) : sx P N w0 Wr ops (⟨some d, .binOp .gtr t x y t', ty, pos, after, none⟩ :: rest) fr H Z :=
  sx_int2 _ hx hy (fun w => by simp [binOp, Op.intCmp]) hN h
theorem sx_geq {t t' : TypeId} {x y : Operand} {k : IntKind} {m n : Int} (hx : ev fr x = some (.int k m)) (hy : ev fr y = some (.int k n)) (hN : Nat.ble (d + 1) N.n = true)
    (h : sx P N w0 Wr ops rest ((d, .bool (decide (n ≤ m))) :: fr) H Z) : sx P N w0 Wr ops (⟨some d, .binOp .geq t x y t', ty, pos, after, none⟩ :: rest) fr H Z :=
  sx_int2 _ hx hy (fun w => by simp [binOp, Op.intCmp]) hN h
theorem sx_eql {t t' : TypeId} {x y : Operand} {k : IntKind} {m n : Int} (hx : ev fr x = some (.int k m)) (hy : ev fr y = some (.int k n)) (hN : Nat.ble (d + 1) N.n = true)
    (h : sx P N w0 Wr ops rest ((d, .bool (m == n)) :: fr) H Z) : sx P N w0 Wr ops (⟨some d, .binOp .eql t x y t', ty, pos, after, none⟩ :: rest) fr H Z :=
  sx_int2 _ hx hy (fun w => by simp [binOp, Op.intCmp]) hN h
theorem sx_neq {t t' : TypeId} {x y : Operand} {k : IntKind} {m n : Int} (hx : ev fr x = some (.int k m)) (hy : ev fr y = some (.int k n)) (hN : Nat.ble (d + 1) N.n = true)
    (h : sx P N w0 Wr ops rest ((d, .bool (m != n)) :: fr) H Z) : sx P N w0 Wr ops (⟨some d, .binOp .neq t x y t', ty, pos, after, none⟩ :: rest) fr H Z :=
  sx_int2 _ hx hy (fun w => by simp [binOp, Op.intCmp]) hN h
/-- The bits of a number, by an operator. -/
def bitsV (op : BinOp) (k : IntKind) (m n : Int) : Int :=
  let a := BitVec.ofInt k.bits m
  let b := BitVec.ofInt k.bits n
  match op with
  | .and => k.wrap (a &&& b).toNat
  | .or => k.wrap (a ||| b).toNat
  | .xor => k.wrap (a ^^^ b).toNat
  | _ => k.wrap (a &&& ~~~b).toNat
theorem sx_bits {op : BinOp} (hop : op = .and ∨ op = .or ∨ op = .xor ∨ op = .andNot) {t t' : TypeId} {x y : Operand} {k : IntKind} {m n : Int} (hx : ev fr x = some (.int k m)) (hy : ev fr y = some (.int k n)) (r : Int) (hr : bitsV op k m n = r) (hN : Nat.ble (d + 1) N.n = true)
    (h : sx P N w0 Wr ops rest ((d, .int k r) :: fr) H Z) : sx P N w0 Wr ops (⟨some d, .binOp op t x y t', ty, pos, after, none⟩ :: rest) fr H Z :=
  sx_int2 _ hx hy (fun w => by subst hr; rcases hop with rfl | rfl | rfl | rfl <;> simp [binOp, Op.intBits, bitsV]) hN h
theorem sx_shl {t t' : TypeId} {x y : Operand} {k k' : IntKind} {m n : Int} (hx : ev fr x = some (.int k m)) (hy : ev fr y = some (.int k' n)) (hn : 0 ≤ n) (r : Int) (hr : k.wrap (m * 2 ^ (min n.toNat k.bits)) = r) (hN : Nat.ble (d + 1) N.n = true)
    (h : sx P N w0 Wr ops rest ((d, .int k r) :: fr) H Z) : sx P N w0 Wr ops (⟨some d, .binOp .shl t x y t', ty, pos, after, none⟩ :: rest) fr H Z :=
  sx_val (.int k r) hN (fun a w ha _ => by
    subst hr
    have : ¬ n < 0 := by omega
    simp [execOp, ha.eval hx, ha.eval hy, Sem.run_bind, eqGuard, binOp, Op.shift, this]) h
theorem sx_shr {t t' : TypeId} {x y : Operand} {k k' : IntKind} {m n : Int} (hx : ev fr x = some (.int k m)) (hy : ev fr y = some (.int k' n)) (hn : 0 ≤ n) (r : Int) (hr : m.fdiv (2 ^ (min n.toNat k.bits)) = r) (hN : Nat.ble (d + 1) N.n = true)
    (h : sx P N w0 Wr ops rest ((d, .int k r) :: fr) H Z) : sx P N w0 Wr ops (⟨some d, .binOp .shr t x y t', ty, pos, after, none⟩ :: rest) fr H Z :=
  sx_val (.int k r) hN (fun a w ha _ => by
    subst hr
    have : ¬ n < 0 := by omega
    simp [execOp, ha.eval hx, ha.eval hy, Sem.run_bind, eqGuard, binOp, Op.shift, this]) h
/-- Two texts, an operator. -/
theorem sx_str2 {op : BinOp} {t t' : TypeId} {x y : Operand} {l m : List UInt8} (v : Value) (hx : ev fr x = some (.string (str l))) (hy : ev fr y = some (.string (str m))) (hv : ∀ w, (binOp op t (.string (str l)) (.string (str m))).run P w = .ok v w) (hN : Nat.ble (d + 1) N.n = true)
    (h : sx P N w0 Wr ops rest ((d, v) :: fr) H Z) : sx P N w0 Wr ops (⟨some d, .binOp op t x y t', ty, pos, after, none⟩ :: rest) fr H Z :=
  sx_val v hN (fun a w ha _ => by
    have hg : (eqGuard op t x y (.string (str l)) (.string (str m))).run P w = .ok () w := by
      unfold eqGuard
      split <;> rfl
    simp only [execOp, ha.eval hx, ha.eval hy, Sem.run_bind, hg, Result.andThen_ok, hv w]
    rfl) h
theorem str_toL (l : List UInt8) : (str l).toList = l := by rw [ByteArray.toList_eq]; rfl
theorem str_cat (a b : List UInt8) : str a ++ str b = str (a ++ b) := by
  have h : (str a ++ str b).data.toList = a ++ b := by
    rw [ByteArray.data_append]
    simp [str]
  obtain ⟨l, e⟩ := str_of (str a ++ str b)
  rw [e, str_data] at h
  rw [e, h]
theorem str_cut (l : List UInt8) (i j : Nat) : (str l).extract i j = str ((l.drop i).take (j - i)) := by
  have h : ((str l).extract i j).data.toList = (l.drop i).take (j - i) := by
    rw [ByteArray.data_extract]
    simp [str]
  obtain ⟨m, e⟩ := str_of ((str l).extract i j)
  rw [e, str_data] at h
  rw [e, h]
theorem sx_cat {t t' : TypeId} {x y : Operand} {l m : List UInt8} (hx : ev fr x = some (.string (str l))) (hy : ev fr y = some (.string (str m))) (hl : l.length + m.length ≤ 9223372036854775807) (hN : Nat.ble (d + 1) N.n = true)
    (h : sx P N w0 Wr ops rest ((d, .string (str (l ++ m))) :: fr) H Z) : sx P N w0 Wr ops (⟨some d, .binOp .add t x y t', ty, pos, after, none⟩ :: rest) fr H Z :=
  sx_str2 _ hx hy (fun w => by
    have : ¬ (((str l).size + (str m).size : Nat) : Int) > IntKind.i64.max := by
      rw [str_size, str_size]; show ¬ (_ : Int) > 9223372036854775807; omega
    simp only [binOp, Op.stringOp, this, if_false, str_cat]
    rfl) hN h
theorem sx_seql {t t' : TypeId} {x y : Operand} {l m : List UInt8} (hx : ev fr x = some (.string (str l))) (hy : ev fr y = some (.string (str m))) (hN : Nat.ble (d + 1) N.n = true)
    (h : sx P N w0 Wr ops rest ((d, .bool (l == m)) :: fr) H Z) : sx P N w0 Wr ops (⟨some d, .binOp .eql t x y t', ty, pos, after, none⟩ :: rest) fr H Z :=
  sx_str2 _ hx hy (fun w => by simp [binOp, Op.stringOp, str_toL]) hN h
theorem sx_sneq {t t' : TypeId} {x y : Operand} {l m : List UInt8} (hx : ev fr x = some (.string (str l))) (hy : ev fr y = some (.string (str m))) (hN : Nat.ble (d + 1) N.n = true)
    (h : sx P N w0 Wr ops rest ((d, .bool (l != m)) :: fr) H Z) : sx P N w0 Wr ops (⟨some d, .binOp .neq t x y t', ty, pos, after, none⟩ :: rest) fr H Z :=
  sx_str2 _ hx hy (fun w => by simp [binOp, Op.stringOp, str_toL, bne]) hN h
theorem sx_not {t : TypeId} {x : Operand} {b : Bool} (hx : ev fr x = some (.bool b)) (hN : Nat.ble (d + 1) N.n = true)
    (h : sx P N w0 Wr ops rest ((d, .bool (!b)) :: fr) H Z) : sx P N w0 Wr ops (⟨some d, .unOp .not t x, ty, pos, after, none⟩ :: rest) fr H Z :=
  sx_val _ hN (fun a w ha _ => by simp only [execOp, ha.eval hx]; rfl) h
theorem sx_neg {t : TypeId} {x : Operand} {k : IntKind} {m : Int} (hx : ev fr x = some (.int k m)) (r : Int) (hr : k.wrap (0 - m) = r) (hN : Nat.ble (d + 1) N.n = true)
    (h : sx P N w0 Wr ops rest ((d, .int k r) :: fr) H Z) : sx P N w0 Wr ops (⟨some d, .unOp .neg t x, ty, pos, after, none⟩ :: rest) fr H Z :=
  sx_val _ hN (fun a w ha _ => by subst hr; simp only [execOp, ha.eval hx]; rfl) h
theorem sx_conv {s t : TypeId} {x : Operand} {k k' : IntKind} {ds : TypeDesc} {m : Int} (hs : P.underlying s = some ds) (ht : P.underlying t = some (.int k')) (hx : ev fr x = some (.int k m)) (r : Int) (hr : k'.wrap m = r) (hN : Nat.ble (d + 1) N.n = true)
    (h : sx P N w0 Wr ops rest ((d, .int k' r) :: fr) H Z) : sx P N w0 Wr ops (⟨some d, .convert s t x, ty, pos, after, none⟩ :: rest) fr H Z :=
  sx_val (.int k' r) hN (fun a w ha _ => by
    subst hr
    simp only [execOp, ha.eval hx, convert, Sem.run_bind, run_underlying hs, run_underlying ht, Result.andThen_ok]
    cases ds <;> rfl) h
theorem sx_extract {x : Operand} {i : Nat} {vs : List Value} {v : Value} (hx : ev fr x = some (.tuple vs.toArray)) (hv : vs[i]? = some v) (hN : Nat.ble (d + 1) N.n = true)
    (h : sx P N w0 Wr ops rest ((d, v) :: fr) H Z) : sx P N w0 Wr ops (⟨some d, .extract x i, ty, pos, after, none⟩ :: rest) fr H Z :=
  sx_val v hN (fun a w ha _ => by
    have : vs.toArray[i]? = some v := by simpa using hv
    simp only [execOp, ha.eval hx, Instr.extract, this]; rfl) h
theorem sx_len {x : Operand} {t e : TypeId} {A : Option Addr} {n c : Nat} (ht : P.underlying t = some (.slice e)) (hx : ev fr x = some (.slice A n c)) (hN : Nat.ble (d + 1) N.n = true)
    (h : sx P N w0 Wr ops rest ((d, .int .i64 n) :: fr) H Z) : sx P N w0 Wr ops (⟨some d, .call { callee := .builtin .len, args := #[x], argTypes := #[t] }, ty, pos, after, none⟩ :: rest) fr H Z :=
  sx_val _ hN (fun a w ha _ => by
    have := ha.eval hx
    simp [execOp, resolve, invoke, builtin, this, Sem.run_bind, Builtin.len_, run_underlying ht, goInt]) h
theorem sx_lenS {x : Operand} {t : TypeId} {l : List UInt8} (ht : P.underlying t = some .string) (hx : ev fr x = some (.string (str l))) (hN : Nat.ble (d + 1) N.n = true)
    (h : sx P N w0 Wr ops rest ((d, .int .i64 (l.length : Int)) :: fr) H Z) : sx P N w0 Wr ops (⟨some d, .call { callee := .builtin .len, args := #[x], argTypes := #[t] }, ty, pos, after, none⟩ :: rest) fr H Z :=
  sx_val _ hN (fun a w ha _ => by
    have := ha.eval hx
    simp [execOp, resolve, invoke, builtin, this, Sem.run_bind, Builtin.len_, run_underlying ht, goInt, str_size]) h
end
end Go.Proofs.Ytfffhnefjaomnaa
