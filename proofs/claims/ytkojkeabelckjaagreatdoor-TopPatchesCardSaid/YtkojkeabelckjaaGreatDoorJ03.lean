/- Walks and plain laws for this claim (texts Gsx2, joined). Each theorem states its own conditions. -/
import Derived.Test.YtkojkeabelckjaaGreatDoorJ02
import Derived.Deep.Quiet

set_option linter.all false
namespace Go.Proofs.YtkojkeabelckjaaGreatDoor
open Go.RowKit
def sq (P : Program) (N : Frm) (w0 : World) (Wr : List Nat) (ops : Array Oper) (l : List Oper) (fr : Fr) (H : Heap) (Z : Fr → Heap → Prop) : Prop :=
 ∀ (Q : Act → Prop), (∀ fr' a, Z fr' H → FrOk N fr' a → Q a) → ∀ a, FrOk N fr a → wpQuiet P ops (Sat w0 Wr H) Q l a
section
variable {P : Program} {N : Frm} {w0 : World} {Wr : List Nat} {ops : Array Oper} {rest : List Oper} {fr : Fr} {H : Heap} {Z : Fr → Heap → Prop}
variable {d ty : Nat} {pos : String} {after : Array Edge}
theorem jE0 (h : Z fr H) : sq P N w0 Wr ops [] fr H Z := fun _ hQ a ha => hQ _ a h ha
theorem sq_val {op : Op} {d ty : Nat} {pos : String} {after : Array Edge} (v : Value) (hN : Nat.ble (d + 1) N.n = true)
  (hrun : ∀ (a : Act) (w : World), FrOk N fr a → Sat w0 Wr H w → (execOp a.eval ⟨some d, op, ty, pos, after, none⟩).run P w = .ok (.value v) w)
  (h : sq P N w0 Wr ops rest ((d, v) :: fr) H Z) : sq P N w0 Wr ops (⟨some d, op, ty, pos, after, none⟩ :: rest) fr H Z :=
 fun Q hQ a ha => wpQuiet_step fun K hK => by
  rw [if_pos (show Region.wanted (⟨some d, op, ty, pos, after, none⟩ : Oper) (yielded ops a.tmps) = true from rfl)]
  refine ⟨v, fun w hw => ?_, hK _ (h Q hQ _ (ha.put hN v))⟩
  unfold Oper.quietAt
  rw [hrun a w ha hw]
  exact ⟨rfl, rfl⟩
theorem sq_callW {f : FuncId} {xs : List Operand} {vs : List Value} {ts : Array TypeId} {v : Value} (hE : Enters P f) (hx : evs fr xs = some vs) (hN : Nat.ble (d + 1) N.n = true)
  (hc : ∀ w, Sat w0 Wr H w → Calls P f vs.toArray w fun e w' => e = .returned v ∧ Sat w0 Wr H w')
  (h : sq P N w0 Wr ops rest ((d, v) :: fr) H Z) :
  sq P N w0 Wr ops (⟨some d, .call { callee := .value (.func f), args := xs.toArray, argTypes := ts }, ty, pos, after, none⟩ :: rest) fr H Z :=
 fun Q hQ a ha => wpQuiet_step fun K hK => by
  rw [if_pos (show Region.wanted (⟨some d, .call { callee := .value (.func f), args := xs.toArray, argTypes := ts }, ty, pos, after, none⟩ : Oper) (yielded ops a.tmps) = true from rfl)]
  refine ⟨v, fun w hw => ?_, hK _ (h Q hQ _ (ha.put hN v))⟩
  unfold Oper.quietAt
  rw [run_call hE (ha.evals hx) rfl]
  exact ⟨rfl, hc w hw⟩
theorem sq_callP {f : FuncId} {xs : List Operand} {vs : List Value} {ts : Array TypeId} {v : Value} (hc : Fn P f vs [] fun u _ => u = v) (hx : evs fr xs = some vs) (hN : Nat.ble (d + 1) N.n = true)
  (h : sq P N w0 Wr ops rest ((d, v) :: fr) H Z) :
  sq P N w0 Wr ops (⟨some d, .call { callee := .value (.func f), args := xs.toArray, argTypes := ts }, ty, pos, after, none⟩ :: rest) fr H Z :=
 sq_callW hc.1 hx hN (fun w hw => (hc.2 w (Sat.nil w)).mono fun e w' he => by
  obtain ⟨u, H', rfl, rfl, hS⟩ := he
  exact ⟨rfl, hw.bel hS.only.bel⟩) h
theorem jA4 {dst : Option Nat} {op : Op} {j t : Nat} {b : Bool} {oj : Oper} (hj : ops[j]? = some oj) (ht : oj.dst = some t) (hb : lk fr t = some (.bool b))
  (h : sq P N w0 Wr ops (⟨dst, op, ty, pos, after, none⟩ :: rest) fr H Z) : sq P N w0 Wr ops (⟨dst, op, ty, pos, after, some (j, b)⟩ :: rest) fr H Z :=
 fun Q hQ a ha => by
  have hk := h Q hQ a ha
  have hy : yielded ops a.tmps j = some b := by
   have := ha.at_ t _ hb
   simp [yielded, hj, ht, this]
  unfold wpQuiet at hk ⊢
  have h1 : Region.wanted (⟨dst, op, ty, pos, after, none⟩ : Oper) (yielded ops a.tmps) = true := rfl
  have h2 : Region.wanted (⟨dst, op, ty, pos, after, some (j, b)⟩ : Oper) (yielded ops a.tmps) = true := by simp [Region.wanted, hy]
  rw [if_pos h1] at hk
  rw [if_pos h2]
  exact hk
theorem qO {op : Op} {j t : Nat} {b b' : Bool} {oj : Oper} (hj : ops[j]? = some oj) (ht : oj.dst = some t) (hb : lk fr t = some (.bool b)) (hne : (b == b') = false) (hN : Nat.ble (d + 1) N.n = true)
  (h : sq P N w0 Wr ops rest ((d, undef) :: fr) H Z) : sq P N w0 Wr ops (⟨some d, op, ty, pos, after, some (j, b')⟩ :: rest) fr H Z :=
 fun Q hQ a ha => by
  have hy : yielded ops a.tmps j = some b := by
   have := ha.at_ t _ hb
   simp [yielded, hj, ht, this]
  unfold wpQuiet
  have h2 : Region.wanted (⟨some d, op, ty, pos, after, some (j, b')⟩ : Oper) (yielded ops a.tmps) = false := by simp [Region.wanted, hy]; simpa using hne
  rw [if_neg (by simp [h2])]
  exact h Q hQ _ (ha.put hN undef)
theorem sq_split {l : List Oper} (t : Nat) {b : Bool} (hb : lk fr t = some (.bool b)) (h1 : b = true → sq P N w0 Wr ops l ((t, .bool true) :: fr) H Z) (h2 : b = false → sq P N w0 Wr ops l ((t, .bool false) :: fr) H Z) : sq P N w0 Wr ops l fr H Z := by
 have key : ∀ c, b = c → sq P N w0 Wr ops l ((t, .bool c) :: fr) H Z → sq P N w0 Wr ops l fr H Z := fun c hc h Q hQ a ha => by
  refine h Q hQ a ⟨ha.size, ha.defers, fun k v hv => ?_⟩
  simp only [lk] at hv
  cases hbq : Nat.beq t k with
  | true =>
   rw [hbq] at hv
   obtain rfl := Nat.eq_of_beq_eq_true hbq
   simp only [cond_true] at hv
   rw [← hv, ← hc]
   exact ha.at_ t _ hb
  | false => rw [hbq] at hv; exact ha.at_ k v hv
 cases hbb : b with
 | true => exact key true hbb (h1 hbb)
 | false => exact key false hbb (h2 hbb)
theorem jG4 {l : List Oper} (t : Nat) {b : Bool} (hb : lk fr t = some (.bool b)) (c : Bool) (e : b = c) (h : sq P N w0 Wr ops l ((t, .bool c) :: fr) H Z) : sq P N w0 Wr ops l fr H Z := by
 subst e
 cases b
 ·exact sq_split t hb (fun hh => by cases hh) (fun _ => h)
 ·exact sq_split t hb (fun _ => h) (fun hh => by cases hh)
theorem qM {x : Operand} {v : Value} (hx : ev fr x = some v) (hN : Nat.ble (d + 1) N.n = true) (h : sq P N w0 Wr ops rest ((d, v) :: fr) H Z) : sq P N w0 Wr ops (⟨some d, .move x, ty, pos, after, none⟩ :: rest) fr H Z :=
 sq_val v hN (fun a w ha _ => by rw [← ha.eval hx]; rfl) h
theorem jB3 {x : Operand} {v : Value} (hx : ev fr x = some v) (hN : Nat.ble (d + 1) N.n = true) (h : sq P N w0 Wr ops rest ((d, v) :: fr) H Z) : sq P N w0 Wr ops (⟨some d, .assign x, ty, pos, after, none⟩ :: rest) fr H Z :=
 sq_val v hN (fun a w ha _ => by rw [← ha.eval hx]; rfl) h
theorem jA9 {x : Operand} {g o : Nat} (hx : ev fr x = some (ptr g o)) (hN : Nat.ble (d + 1) N.n = true) (h : sq P N w0 Wr ops rest ((d, ptr g o) :: fr) H Z) : sq P N w0 Wr ops (⟨some d, .nilCheck x, ty, pos, after, none⟩ :: rest) fr H Z :=
 sq_val _ hN (fun a w ha _ => by simp only [execOp, ha.eval hx, ptr]; rfl) h
theorem jB7 (i : Nat) {t : TypeId} {x : Operand} {g o : Nat} {e : TypeId} {cs : List Value} {agg : Bool} {n : Nat} {v : Value} (hx : ev fr x = some (ptr g o)) (hH : H[i]? = some (.own g e cs)) (ht : tyAgg P t = some agg) (hn : tySize P t = some n) (hv : rdV agg n cs o = some v) (hN : Nat.ble (d + 1) N.n = true)
  (h : sq P N w0 Wr ops rest ((d, v) :: fr) H Z) : sq P N w0 Wr ops (⟨some d, .load t x, ty, pos, after, none⟩ :: rest) fr H Z :=
 sq_val v hN (fun a w ha hw => by
  have hc := Ent.cell (hw.mem hH)
  simp only [execOp, Instr.loadAt, ha.eval hx, ptr, Instr.sureAddr, Sem.run_bind, Sem.run_pure, Result.andThen_ok]
  rw [run_loadVar ht hn hv (fun j u hu => (hc j).trans hu)]
  rfl) h
theorem sq_loadA (i : Nat) {t : TypeId} {x : Operand} {g o : Nat} {e : TypeId} {cs cs' : List Value} {n : Nat} (hx : ev fr x = some (ptr g o)) (hH : H[i]? = some (.own g e cs)) (ht : tyAgg P t = some true) (hn : tySize P t = some n) (hle : Nat.ble (o + n) cs.length = true) (hv : (cs.drop o).take n = cs') (hN : Nat.ble (d + 1) N.n = true)
  (h : sq P N w0 Wr ops rest ((d, .agg cs'.toArray) :: fr) H Z) : sq P N w0 Wr ops (⟨some d, .load t x, ty, pos, after, none⟩ :: rest) fr H Z :=
 jB7 i hx hH ht hn (by subst hv; simp [rdV, hle]) hN h
theorem jG8 (i : Nat) {t : TypeId} {x : Operand} {g o o' : Nat} {cs : List Value} {agg : Bool} {n : Nat} {v : Value} (hx : ev fr x = some (ptr g o)) (hH : H[i]? = some (.ro g o' cs)) (k : Nat) (ho : o = o' + k) (ht : tyAgg P t = some agg) (hn : tySize P t = some n) (hv : rdV agg n cs k = some v) (hN : Nat.ble (d + 1) N.n = true)
  (h : sq P N w0 Wr ops rest ((d, v) :: fr) H Z) : sq P N w0 Wr ops (⟨some d, .load t x, ty, pos, after, none⟩ :: rest) fr H Z :=
 sq_val v hN (fun a w ha hw => by
  subst ho
  have hc := (hw.mem hH).2
  simp only [execOp, Instr.loadAt, ha.eval hx, ptr, Instr.sureAddr, Sem.run_bind, Sem.run_pure, Result.andThen_ok]
  have : (loadVar t ⟨g, o' + k, none⟩).run P w = .ok v w := by
   unfold loadVar
   simp only [Sem.run_bind, run_isAgg ht, Result.andThen_ok]
   cases agg with
   | false => simp [load, Sem.run, hc k v hv]
   | true =>
    simp only [rdV, cond_true] at hv
    cases hb : Nat.ble (k + n) cs.length with
    | false => rw [hb] at hv; cases hv
    | true =>
     rw [hb] at hv
     obtain rfl := Option.some.inj hv
     have hle := Nat.le_of_ble_eq_true hb
     simp only [if_true, Sem.run_bind, jB2 hn, Result.andThen_ok, loadCells]
     rw [run_loadCells (P := P) ⟨g, o' + k, none⟩ n 0 #[] ((cs.drop k).take n) (by simp; omega) (fun j u hu => by
      have e : Addr.add ⟨g, o' + k, none⟩ (0 + j) = ⟨g, o' + (k + j), none⟩ := by unfold Addr.add; split <;> simp_all <;> omega
      rw [e]
      refine hc _ _ ?_
      rw [List.getElem?_take] at hu
      split at hu
      ·rw [← hu, List.getElem?_drop]
      ·cases hu)]
     simp
  rw [this]
  rfl) h
theorem qFA {s i : Nat} {x : Operand} {g o off n o' : Nat} {b : Bool} (hx : ev fr x = some (ptr g o)) (hf : tyF P s i = some (off, n, b)) (ho : o + off = o') (hN : Nat.ble (d + 1) N.n = true)
  (h : sq P N w0 Wr ops rest ((d, ptr g o') :: fr) H Z) : sq P N w0 Wr ops (⟨some d, .fieldAddr s x i, ty, pos, after, none⟩ :: rest) fr H Z :=
 sq_val _ hN (fun a w ha _ => by
  subst ho
  unfold tyF at hf
  cases hu : P.underlying s with
  | none => simp [hu] at hf
  | some dd =>
   cases dd <;> simp only [hu] at hf <;> try cases hf
   rename_i fs
   cases hi : fs[i]? with
   | none => simp [hi] at hf
   | some f =>
    simp only [hi, Option.bind_some] at hf
    cases hs : tySize P f.type with
    | none => simp [hs] at hf
    | some m =>
     cases hb : tyAgg P f.type with
     | none => simp [hs, hb] at hf
     | some bb =>
      simp only [hs, hb, Option.bind_some] at hf
      split at hf
      ·cases hf
      ·rename_i hm
       simp only [Option.some.injEq, Prod.mk.injEq] at hf
       obtain ⟨rfl, rfl, rfl⟩ := hf
       have e : Addr.add ⟨g, o, none⟩ f.offset = ⟨g, o + f.offset, none⟩ := by unfold Addr.add; split <;> simp_all
       simp only [execOp, Instr.fieldAt, ha.eval hx, ptr, Sem.run_bind, run_underlying hu, Result.andThen_ok, hi, Instr.sureAddr, Sem.run_pure, fieldPlace, jB2 hs, hm, if_false, e]) h
theorem sq_int2 {op : BinOp} {t t' : TypeId} {x y : Operand} {k : IntKind} {m n : Int} (v : Value) (hx : ev fr x = some (.int k m)) (hy : ev fr y = some (.int k n)) (hv : ∀ w, (binOp op t (.int k m) (.int k n)).run P w = .ok v w) (hN : Nat.ble (d + 1) N.n = true)
  (h : sq P N w0 Wr ops rest ((d, v) :: fr) H Z) : sq P N w0 Wr ops (⟨some d, .binOp op t x y t', ty, pos, after, none⟩ :: rest) fr H Z :=
 sq_val v hN (fun a w ha _ => by
  have hg : (eqGuard op t x y (.int k m) (.int k n)).run P w = .ok () w := by
   unfold eqGuard
   split <;> rfl
  simp only [execOp, ha.eval hx, ha.eval hy, Sem.run_bind, hg, Result.andThen_ok, hv w]
  rfl) h
theorem sq_add {t t' : TypeId} {x y : Operand} {k : IntKind} {m n : Int} (hx : ev fr x = some (.int k m)) (hy : ev fr y = some (.int k n)) (r : Int) (hr : k.wrap (m + n) = r) (hN : Nat.ble (d + 1) N.n = true)
  (h : sq P N w0 Wr ops rest ((d, .int k r) :: fr) H Z) : sq P N w0 Wr ops (⟨some d, .binOp .add t x y t', ty, pos, after, none⟩ :: rest) fr H Z :=
 sq_int2 _ hx hy (fun w => by subst hr; simp [binOp, Op.intArith]) hN h
theorem sq_sub {t t' : TypeId} {x y : Operand} {k : IntKind} {m n : Int} (hx : ev fr x = some (.int k m)) (hy : ev fr y = some (.int k n)) (r : Int) (hr : k.wrap (m - n) = r) (hN : Nat.ble (d + 1) N.n = true)
  (h : sq P N w0 Wr ops rest ((d, .int k r) :: fr) H Z) : sq P N w0 Wr ops (⟨some d, .binOp .sub t x y t', ty, pos, after, none⟩ :: rest) fr H Z :=
 sq_int2 _ hx hy (fun w => by subst hr; simp [binOp, Op.intArith]) hN h
theorem sq_lss {t t' : TypeId} {x y : Operand} {k : IntKind} {m n : Int} (hx : ev fr x = some (.int k m)) (hy : ev fr y = some (.int k n)) (hN : Nat.ble (d + 1) N.n = true)
  (h : sq P N w0 Wr ops rest ((d, .bool (decide (m < n))) :: fr) H Z) : sq P N w0 Wr ops (⟨some d, .binOp .lss t x y t', ty, pos, after, none⟩ :: rest) fr H Z :=
 sq_int2 _ hx hy (fun w => by simp [binOp, Op.intCmp]) hN h
theorem sq_gtr {t t' : TypeId} {x y : Operand} {k : IntKind} {m n : Int} (hx : ev fr x = some (.int k m)) (hy : ev fr y = some (.int k n)) (hN : Nat.ble (d + 1) N.n = true)
  (h : sq P N w0 Wr ops rest ((d, .bool (decide (n < m))) :: fr) H Z) : sq P N w0 Wr ops (⟨some d, .binOp .gtr t x y t', ty, pos, after, none⟩ :: rest) fr H Z :=
 sq_int2 _ hx hy (fun w => by simp [binOp, Op.intCmp]) hN h
theorem sq_geq {t t' : TypeId} {x y : Operand} {k : IntKind} {m n : Int} (hx : ev fr x = some (.int k m)) (hy : ev fr y = some (.int k n)) (hN : Nat.ble (d + 1) N.n = true)
  (h : sq P N w0 Wr ops rest ((d, .bool (decide (n ≤ m))) :: fr) H Z) : sq P N w0 Wr ops (⟨some d, .binOp .geq t x y t', ty, pos, after, none⟩ :: rest) fr H Z :=
 sq_int2 _ hx hy (fun w => by simp [binOp, Op.intCmp]) hN h
theorem sq_eql {t t' : TypeId} {x y : Operand} {k : IntKind} {m n : Int} (hx : ev fr x = some (.int k m)) (hy : ev fr y = some (.int k n)) (hN : Nat.ble (d + 1) N.n = true)
  (h : sq P N w0 Wr ops rest ((d, .bool (m == n)) :: fr) H Z) : sq P N w0 Wr ops (⟨some d, .binOp .eql t x y t', ty, pos, after, none⟩ :: rest) fr H Z :=
 sq_int2 _ hx hy (fun w => by simp [binOp, Op.intCmp]) hN h
theorem sq_neq {t t' : TypeId} {x y : Operand} {k : IntKind} {m n : Int} (hx : ev fr x = some (.int k m)) (hy : ev fr y = some (.int k n)) (hN : Nat.ble (d + 1) N.n = true)
  (h : sq P N w0 Wr ops rest ((d, .bool (m != n)) :: fr) H Z) : sq P N w0 Wr ops (⟨some d, .binOp .neq t x y t', ty, pos, after, none⟩ :: rest) fr H Z :=
 sq_int2 _ hx hy (fun w => by simp [binOp, Op.intCmp]) hN h
theorem sq_len {x : Operand} {t e : TypeId} {A : Option Addr} {n c : Nat} (ht : P.underlying t = some (.slice e)) (hx : ev fr x = some (.slice A n c)) (hN : Nat.ble (d + 1) N.n = true)
  (h : sq P N w0 Wr ops rest ((d, .int .i64 n) :: fr) H Z) : sq P N w0 Wr ops (⟨some d, .call { callee := .builtin .len, args := #[x], argTypes := #[t] }, ty, pos, after, none⟩ :: rest) fr H Z :=
 sq_val _ hN (fun a w ha _ => by
  have := ha.eval hx
  simp [execOp, resolve, invoke, builtin, this, Sem.run_bind, Builtin.len_, run_underlying ht, goInt]) h
theorem sq_lenS {x : Operand} {t : TypeId} {l : List UInt8} (ht : P.underlying t = some .string) (hx : ev fr x = some (.string (str l))) (hN : Nat.ble (d + 1) N.n = true)
  (h : sq P N w0 Wr ops rest ((d, .int .i64 (l.length : Int)) :: fr) H Z) : sq P N w0 Wr ops (⟨some d, .call { callee := .builtin .len, args := #[x], argTypes := #[t] }, ty, pos, after, none⟩ :: rest) fr H Z :=
 sq_val _ hN (fun a w ha _ => by
  have := ha.eval hx
  simp [execOp, resolve, invoke, builtin, this, Sem.run_bind, Builtin.len_, run_underlying ht, goInt, str_size]) h
theorem sq_indexS {t : Nat} {x y : Operand} {l : List UInt8} {k : IntKind} {i : Int} {c : UInt8} (ht : P.underlying t = some .string) (hx : ev fr x = some (.string (str l))) (hy : ev fr y = some (.int k i)) (hi : 0 ≤ i) (hv : l[i.toNat]? = some c) (hN : Nat.ble (d + 1) N.n = true)
  (h : sq P N w0 Wr ops rest ((d, .int .u8 (c.toNat : Int)) :: fr) H Z) : sq P N w0 Wr ops (⟨some d, .index t x y, ty, pos, after, none⟩ :: rest) fr H Z :=
 sq_val _ hN (fun a w ha _ => by
  have : (str l)[i.toNat]? = some c := by
   have hl := (List.getElem?_eq_some_iff.1 hv)
   obtain ⟨h1, h2⟩ := hl
   have h3 : i.toNat < (str l).size := by rw [str_size]; exact h1
   rw [getElem?_pos (str l) i.toNat h3]
   congr 1
  simp only [execOp, Instr.index, ha.eval hx, ha.eval hy, asIntOf, Sem.run_bind, Sem.run_pure, run_underlying ht, Result.andThen_ok, if_pos hi, this]) h
theorem jE8 {t e n g o len c : Nat} {x y : Operand} {k : IntKind} {i : Int} (o' : Nat) (ht : P.underlying t = some (.slice e)) (hs : tySize P e = some n) (hx : ev fr x = some (.slice (some ⟨g, o, none⟩) len c)) (hy : ev fr y = some (.int k i)) (hi : 0 ≤ i ∧ i < len) (ho : o + i.toNat * n = o') (hN : Nat.ble (d + 1) N.n = true)
  (h : sq P N w0 Wr ops rest ((d, ptr g o') :: fr) H Z) : sq P N w0 Wr ops (⟨some d, .indexAddr t x y, ty, pos, after, none⟩ :: rest) fr H Z :=
 sq_val _ hN (fun a w ha _ => by
  subst ho
  simp only [execOp, Instr.indexAt, ha.eval hx, ha.eval hy, asIntOf, Sem.run_bind, Sem.run_pure, run_underlying ht, Result.andThen_ok, if_pos hi, jB2 hs, jH6]
  rfl) h
theorem sq_indexAddrA {t e n g o len : Nat} {x y : Operand} {k : IntKind} {i : Int} (o' : Nat) (ht : P.underlying t = some (.array len e)) (hs : tySize P e = some n) (hx : ev fr x = some (ptr g o)) (hy : ev fr y = some (.int k i)) (hi : 0 ≤ i ∧ i < len) (ho : o + i.toNat * n = o') (hN : Nat.ble (d + 1) N.n = true)
  (h : sq P N w0 Wr ops rest ((d, ptr g o') :: fr) H Z) : sq P N w0 Wr ops (⟨some d, .indexAddr t x y, ty, pos, after, none⟩ :: rest) fr H Z :=
 sq_val _ hN (fun a w ha _ => by
  subst ho
  simp only [execOp, Instr.indexAt, ha.eval hx, ha.eval hy, asIntOf, Sem.run_bind, Sem.run_pure, run_underlying ht, Result.andThen_ok, ptr, Instr.sureAddr, if_pos hi, jB2 hs, jH6]) h
theorem sq_slice {t e n g o len c : Nat} {x : Operand} {lo hi : Option Operand} {i j : Int} (ht : P.underlying t = some (.slice e)) (hs : tySize P e = some n) (hx : ev fr x = some (.slice (some ⟨g, o, none⟩) len c)) (hl : bnd fr 0 lo = some i) (hh : bnd fr (len : Int) hi = some j) (h0 : 0 ≤ i) (h1 : i ≤ j) (h2 : j ≤ c) (hN : Nat.ble (d + 1) N.n = true)
  (h : ∀ o', (i < j → o' = o + i.toNat * n) → sq P N w0 Wr ops rest ((d, .slice (some ⟨g, o', none⟩) (j.toNat - i.toNat) (c - i.toNat)) :: fr) H Z) : sq P N w0 Wr ops (⟨some d, .slice t x lo hi none, ty, pos, after, none⟩ :: rest) fr H Z :=
 sq_val (.slice (some ⟨g, (if c = i.toNat then o else o + i.toNat * n), none⟩) (j.toNat - i.toNat) (c - i.toNat)) hN (fun a w ha _ => by
  have hb := jH7 (P := P) (isS := true) (len := len) (cap := c) (w := w) ha hl hh h0 h1 h2
  simp only [execOp, Instr.sliceAt, Instr.slice, ha.eval hx, Sem.run_bind, run_underlying ht, Result.andThen_ok, Option.map_none, hb, Sem.run_pure, jB2 hs, Option.map_some, jH6]
  by_cases hc : c = i.toNat <;> simp [hc]) (h _ (fun hlt => by rw [if_neg (by omega)]))
theorem sq_build {t : TypeId} {parts : List (Nat × Operand)} {pv : List (Nat × Value)} {z cs cs' : List Value} {pl : List (Nat × Nat)} (hz : tyZero P t = some z) (hp : tyPlaces P t = some pl) (hx : evParts fr parts = some pv) (hf : fillV (pl[·]?) z (celled pv) = some cs) (hn : cs = cs') (hN : Nat.ble (d + 1) N.n = true)
  (h : sq P N w0 Wr ops rest ((d, .agg cs'.toArray) :: fr) H Z) : sq P N w0 Wr ops (⟨some d, .build t parts.toArray, ty, pos, after, none⟩ :: rest) fr H Z :=
 sq_val _ hN (fun a w ha _ => by
  subst hn
  obtain ⟨v, h1, h2⟩ := run_zero (w := w) hz
  unfold tyPlaces at hp
  cases hu : P.underlying t with
  | none => simp [hu] at hp
  | some dd =>
   cases dd <;> simp only [hu] at hp <;> try cases hp
   rename_i fs
   have hpl := places_ok (P := P) fs.toList pl w hp
   have hpl' : (fs.mapM (m := Sem) fun f => do pure (f.offset, ← sizeOf f.type)).run P w = .ok pl.toArray w := by
    rw [← Array.toArray_toList (xs := fs), List.mapM_toArray]
    rw [Sem.run_map, hpl]
    rfl
   have hfl : Instr.fill (fun i => pl.toArray[i]?) v.cells pv = some cs.toArray := fill_ok _ pv v.cells cs (by rw [h2]; simpa using hf)
   have hpv := ha.parts hx
   have hpv' : (parts.toArray.map fun (p : Nat × Operand) => (p.1, a.eval p.2)).toList = pv := by simpa using hpv
   simp only [execOp, Instr.build, Sem.run_bind, h1, Result.andThen_ok, run_underlying hu, hpl', hpv', hfl]
   rfl) h
theorem jC5 {c x y : Operand} {b : Bool} {v : Value} (hc : ev fr c = some (.bool b)) (hx : ev fr (bif b then x else y) = some v) (hN : Nat.ble (d + 1) N.n = true)
  (h : sq P N w0 Wr ops rest ((d, v) :: fr) H Z) : sq P N w0 Wr ops (⟨some d, .pick c x y, ty, pos, after, none⟩ :: rest) fr H Z :=
 sq_val v hN (fun a w ha _ => by
  cases b <;> simp only [cond_true, cond_false] at hx <;> simp [execOp, ha.eval hc, ha.eval hx, asBool]) h
theorem sq_aneq {t t' : TypeId} {x y : Operand} {xs ys : List Value} {b : Bool} (hE : EqV P 10000 t (.agg xs.toArray) (.agg ys.toArray) b) (hG : P.eqGuardType P.depth t = false) (hx : ev fr x = some (.agg xs.toArray)) (hy : ev fr y = some (.agg ys.toArray)) (hN : Nat.ble (d + 1) N.n = true)
  (h : sq P N w0 Wr ops rest ((d, .bool (!b)) :: fr) H Z) : sq P N w0 Wr ops (⟨some d, .binOp .neq t x y t', ty, pos, after, none⟩ :: rest) fr H Z :=
 sq_val _ hN (fun a w ha _ => by
  have hg : (eqGuard .neq t x y (.agg xs.toArray) (.agg ys.toArray)).run P w = .ok () w := by
   simp [eqGuard, program, Sem.run_bind, Sem.run, hG]
  have he : (Op.equal t (.agg xs.toArray) (.agg ys.toArray)).run P w = .ok b w := hE w
  simp only [execOp, ha.eval hx, ha.eval hy, Sem.run_bind, hg, Result.andThen_ok, binOp, he, Sem.run_pure]) h
end
section
variable {P : Program} {N : Frm} {w0 : World} {Wr : List Nat} {fr : Fr} {H : Heap} {Q : Exit → Act → World → Prop}
theorem wq_quiet {C : World → Prop} {ops : Array Oper} {id : Nat} {a : Act} {w : World} (hm : P.follows .mixedOrders = true) (hB : Region.lexB .any ops = true) (hC : C w.drew)
  (h : wpQuiet P ops C (fun a' => ∀ w', C w' → Q .normal a' w') ops.toList a) : wq P N (.region id ops true) Q a w := by
 simp only [Region.lexB, Bool.and_eq_true] at hB
 refine wq_any hm (wpAny_of_quiet (Q := fun a' => ∀ w', C w' → Q .normal a' w') (fun _ w' hw' h => ⟨rfl, h w' hw'⟩) _ _ _ _ hC ?_)
 have := wpAnyQ_lex (C := C) (md := .any) hB.1 ops.toList 0 (Array.replicate ops.size false) a (by simp) (by simpa using hB.2) h
 simpa using this
theorem awq_region {id : Nat} {l : List Oper} (hm : P.follows .mixedOrders = true) (hB : Region.lexB .any l.toArray = true) (h : ∀ Z : Fr → Heap → Prop, (∀ fr H, nx N w0 Wr fr H Q .normal → Z fr H) → sq P N w0 Wr l.toArray l fr H Z) : awp P N w0 Wr (.region id l.toArray true) fr H Q :=
 fun a w ha hw => wq_quiet (C := Sat w0 Wr H) hm hB hw.drew (by
  have := h (fun fr H => nx N w0 Wr fr H Q .normal) (fun _ _ h => h) (fun a' => ∀ w', Sat w0 Wr H w' → Q .normal a' w') (fun fr' a' hz hf w' hw' => hz a' w' hf hw') a ha
  simpa using this)
theorem jB9 {id : Nat} {l : List Oper} {y : Code} (hm : P.follows .mixedOrders = true) (hB : Region.lexB .any l.toArray = true) (h : ∀ Z : Fr → Heap → Prop, (∀ fr H, awp P N w0 Wr y fr H Q → Z fr H) → sq P N w0 Wr l.toArray l fr H Z) : awp P N w0 Wr (.seq (.region id l.toArray true) y) fr H Q :=
 aS (awq_region hm hB fun Z hZ => h Z fun fr H hy => hZ fr H hy)
theorem jC6 {id : Nat} {l : List Oper} {y : Code} (F : Fr) (HH : Heap) (hm : P.follows .mixedOrders = true) (hB : Region.lexB .any l.toArray = true) (h : ∀ Z : Fr → Heap → Prop, (∀ fr H, Kn F fr → HLe HH H → Z fr H) → sq P N w0 Wr l.toArray l fr H Z) (hy : awp P N w0 Wr y F HH Q) : awp P N w0 Wr (.seq (.region id l.toArray true) y) fr H Q :=
 jB9 hm hB fun Z hZ => h Z fun fr H hk hh => hZ fr H fun a w ha hw => hy a w (ha.kn hk) (hh _ _ _ hw)
end
end Go.Proofs.YtkojkeabelckjaaGreatDoor
namespace Go.Proofs.YtkojkeabelckjaaGreatDoor
open Go.RowKit
section
variable {P : Program} {ops : Array Oper} {Q : Exit → Act → World → Prop} {K K' : Act → World → Prop} {a b : Act} {w : World} {i j : Nat} {o oi oj : Oper} {v u : Value}
theorem wpOp_iff (hi : ops[i]? = some o) : wpOp P ops (QN Q) i K a w ↔ (if Region.wanted o (yielded ops a.tmps) then o.wp P a w K (QN Q) else K (a.put o.dst undef) w) := by
 unfold wpOp
 simp only [hi]
 split
 ·exact ⟨fun h => h.resolve_right fun h => QN_out h.2, .inl⟩
 ·exact Iff.rfl
def YAt (P : Program) (ops : Array Oper) (o : Oper) (v : Value) (a : Act) (w : World) : Prop :=
 (Region.wanted o (yielded ops a.tmps) = true ∧ (execOp a.eval o).run P w = .ok (.value v) w) ∨ (Region.wanted o (yielded ops a.tmps) = false ∧ v = undef)
def PureO (P : Program) (o : Oper) : Prop := ∀ ρ, (∃ v, ∀ w, (execOp ρ o).run P w = .ok (.value v) w) ∨ (∀ w n w', (execOp ρ o).run P w ≠ .ok n w')
def ReadO (P : Program) (o : Oper) : Prop := ∀ ρ w, (∃ v, (execOp ρ o).run P w = .ok (.value v) w ∧ ∀ b, (execOp ρ o).run P (w.alloc b) = .ok (.value v) (w.alloc b)) ∨ (∀ n w', (execOp ρ o).run P w ≠ .ok n w')
def NewO (P : Program) (o : Oper) : Prop := ∀ ρ w, (∃ v b, (execOp ρ o).run P w = .ok (.value v) (w.alloc b)) ∨ (∀ n w', (execOp ρ o).run P w ≠ .ok n w')
theorem not_ok (h : ∀ n w', (execOp a.eval o).run P w ≠ .ok n w') : ¬ o.wp P a w K (QN Q) := fun hh => by
 unfold Oper.wp at hh
 cases hr : (execOp a.eval o).run P w with
 | ok n w' => exact h n w' hr
 | halt x w' =>
  rw [hr] at hh
  cases x <;> simp only [Oper.upon] at hh <;> first | exact hh.elim | (cases hh.1)
theorem YAt.wp (hi : ops[i]? = some o) (h : YAt P ops o v a w) (hK : K (a.put o.dst v) w) : wpOp P ops (QN Q) i K a w := by
 rw [wpOp_iff hi]
 rcases h with ⟨h1, h2⟩ | ⟨h1, rfl⟩
 ·rw [if_pos h1]; unfold Oper.wp; rw [h2]; exact hK
 ·rw [if_neg (by simp [h1])]; exact hK
theorem YAt.elim (hi : ops[i]? = some o) (h : YAt P ops o v a w) (hh : wpOp P ops (QN Q) i K a w) : K (a.put o.dst v) w := by
 rw [wpOp_iff hi] at hh
 rcases h with ⟨h1, h2⟩ | ⟨h1, rfl⟩
 ·rw [if_pos h1] at hh; unfold Oper.wp at hh; rw [h2] at hh; exact hh
 ·rw [if_neg (by simp [h1])] at hh; exact hh
theorem read_yields (hi : ops[i]? = some o) (hr : ReadO P o) (h : wpOp P ops (QN Q) i K a w) : ∃ v, YAt P ops o v a w ∧ (∀ b, YAt P ops o v a (w.alloc b)) ∧ K (a.put o.dst v) w := by
 by_cases hw : Region.wanted o (yielded ops a.tmps) = true
 ·rcases hr a.eval w with ⟨v, hv, hb⟩ | hn
  ·have hy : YAt P ops o v a w := .inl ⟨hw, hv⟩
   exact ⟨v, hy, fun b => .inl ⟨hw, hb b⟩, hy.elim hi h⟩
  ·rw [wpOp_iff hi, if_pos hw] at h
   exact (not_ok hn h).elim
 ·have hw' : Region.wanted o (yielded ops a.tmps) = false := by simpa using hw
  have hy : ∀ w, YAt P ops o undef a w := fun w => .inr ⟨hw', rfl⟩
  exact ⟨undef, hy w, fun b => hy _, (hy w).elim hi h⟩
def Near (a : Act) (d : Option Nat) (b : Act) : Prop := ∃ u, b.tmps = (a.put d u).tmps
theorem Near.eval {d : Option Nat} (h : Near a d b) (o : Oper) (hs : ∀ cs b, o.op ≠ .select cs b) (hd : ∀ t, d = some t → t ∉ o.looksAt ops) : execOp b.eval o = execOp a.eval o ∧ Region.wanted o (yielded ops b.tmps) = Region.wanted o (yielded ops a.tmps) := by
 obtain ⟨u, hu⟩ := h
 have e : b.eval = (a.put d u).eval := by funext x; cases x <;> simp [Act.eval, hu]
 exact ⟨by rw [e]; exact execOp_put o hs a d u hd, by rw [hu]; exact wanted_put o a d u hd⟩
theorem YAt.near {d : Option Nat} (hy : YAt P ops o v a w) (h : Near a d b) (hs : ∀ cs b, o.op ≠ .select cs b) (hd : ∀ t, d = some t → t ∉ o.looksAt ops) : YAt P ops o v b w := by
 obtain ⟨h1, h2⟩ := h.eval (ops := ops) o hs hd
 unfold YAt
 rw [h1, h2]
 exact hy
theorem wpOp_near (hi : ops[i]? = some o) (h : wpOp P ops (QN Q) i K a w) : wpOp P ops (QN Q) i (fun b w' => K b w' ∧ Near a o.dst b) a w := by
 rw [wpOp_iff hi] at h ⊢
 have hn : ∀ u, Near a o.dst (a.put o.dst u) := fun u => ⟨u, rfl⟩
 split
 ·rename_i hw
  rw [if_pos hw] at h
  unfold Oper.wp at h ⊢
  cases hr : (execOp a.eval o).run P w with
  | ok n w' =>
   rw [hr] at h
   cases n <;> simp only [Oper.upon] at h ⊢
   case value x => exact ⟨h, hn _⟩
   case skip => exact ⟨h, hn _⟩
   case defer d => exact ⟨h, ⟨undef, by cases o.dst <;> rfl⟩⟩
   case enter f args =>
    refine Calls.mono h fun e w'' he => ?_
    cases e with
    | returned x => exact ⟨he, hn _⟩
    | panicked c => exact he
    | outgrown => exact (QN_out he).elim
   case row r args => exact Rows.mono h fun x w'' he => ⟨he, hn _⟩
   all_goals exact h
  | halt x w' =>
   rw [hr] at h
   cases x <;> simp only [Oper.upon] at h ⊢ <;> first | exact h.elim | (cases h.1)
 ·rename_i hw
  rw [if_neg hw] at h
  exact ⟨h, hn _⟩
theorem wpOp_false (hi : ops[i]? = some o) (h : wpOp P ops (QN Q) i (fun _ _ => False) a w) : False := by
 rw [wpOp_iff hi] at h
 split at h
 ·unfold Oper.wp at h
  cases hr : (execOp a.eval o).run P w with
  | ok n w' =>
   rw [hr] at h
   cases n <;> simp only [Oper.upon] at h
   case enter f args =>
    obtain ⟨e, w'', fr, hR, _⟩ := h []
    cases e with
    | returned x => exact hR
    | panicked c => cases hR.1
    | outgrown => exact QN_out hR
   case row r args =>
    obtain ⟨x, w'', hR, _⟩ := h default []
    exact hR
  | halt x w' =>
   rw [hr] at h
   cases x <;> simp only [Oper.upon] at h <;> first | exact h | (cases h.1)
 ·exact h
theorem wpOp_put (hj : ops[j]? = some oj) {d : Option Nat} (hs : ∀ cs b, oj.op ≠ .select cs b) (h1 : ∀ t, d = some t → t ∉ oj.looksAt ops) (h2 : ∀ t, d = some t → oj.dst ≠ some t) :
  wpOp P ops (QN Q) j K (a.put d v) w ↔ wpOp P ops (QN Q) j (fun b w' => K (b.put d v) w') a w := by
 rw [wpOp_iff hj, wpOp_iff hj, wanted_put oj a d v h1]
 have hc : ∀ u, (a.put d v).put oj.dst u = (a.put oj.dst u).put d v := fun u => Act.put_comm a v u h2
 split
 ·unfold Oper.wp
  rw [execOp_put oj hs a d v h1]
  cases hr : (execOp a.eval oj).run P w with
  | ok n w' =>
   cases n <;> simp only [Oper.upon, hc]
   case defer df =>
    have : ({ a.put d v with defers := df :: (a.put d v).defers } : Act).put oj.dst undef = (({ a with defers := df :: a.defers } : Act).put oj.dst undef).put d v := by
     rw [Act.put_defers]; exact Act.put_comm _ v undef h2
    rw [this]
   case enter f args =>
    constructor
    ·intro h; refine Calls.mono h fun e w'' he => ?_
     cases e with
     | returned x => simpa only [hc] using he
     | panicked c => cases he.1
     | outgrown => exact (QN_out he).elim
    ·intro h; refine Calls.mono h fun e w'' he => ?_
     cases e with
     | returned x => simpa only [hc] using he
     | panicked c => cases he.1
     | outgrown => exact (QN_out he).elim
  | halt x w' =>
   cases x <;> simp only [Oper.upon]
   constructor <;> (intro h; cases h.1)
 ·rw [hc]
theorem wpOp_swap (hi : ops[i]? = some oi) (hj : ops[j]? = some oj) (hap : oi.apart ops oj = true) (hsi : ∀ cs b, oi.op ≠ .select cs b) (hsj : ∀ cs b, oj.op ≠ .select cs b)
  (hc : PureO P oi ∨ PureO P oj ∨ (ReadO P oi ∧ ReadO P oj) ∨ (ReadO P oi ∧ NewO P oj)) (h : wpOp P ops (QN Q) i (wpOp P ops (QN Q) j K) a w) : wpOp P ops (QN Q) j (wpOp P ops (QN Q) i K) a w := by
 obtain ⟨h1, h2, h3⟩ := Oper.apart_spec hap
 have h4 : ∀ t, oj.dst = some t → oi.dst ≠ some t := fun t ht hi' => h2 t hi' ht
 rcases hc with hp | hp | ⟨hr, hr'⟩ | ⟨hr, hn⟩
 ·-- the first one is pure
  have hy : ∃ v, (∀ w', YAt P ops oi v a w') := by
   by_cases hw : Region.wanted oi (yielded ops a.tmps) = true
   ·rcases hp a.eval with ⟨v, hv⟩ | hn
    ·exact ⟨v, fun w' => .inl ⟨hw, hv w'⟩⟩
    ·rw [wpOp_iff hi, if_pos hw] at h
     exact (not_ok (hn w) h).elim
   ·exact ⟨undef, fun w' => .inr ⟨by simpa using hw, rfl⟩⟩
  obtain ⟨v, hy⟩ := hy
  have hk := (hy w).elim hi h
  rw [wpOp_put hj hsj h1 h2] at hk
  exact wpOp_mono (fun b w' ⟨hb, hnb⟩ => ((hy w').near hnb hsi h3).wp hi hb) (wpOp_near hj hk)
 ·-- the second one is pure
  have h' := wpOp_near hi h
  by_cases hw : Region.wanted oj (yielded ops a.tmps) = true
  ·rcases hp a.eval with ⟨v, hv⟩ | hn
   ·have hy : ∀ w', YAt P ops oj v a w' := fun w' => .inl ⟨hw, hv w'⟩
    refine (hy w).wp hj ?_
    rw [wpOp_put hi hsi h3 h4]
    exact wpOp_mono (fun b w' ⟨hb, hnb⟩ => ((hy w').near hnb hsj h1).elim hj hb) h'
   ·refine (wpOp_false hi (wpOp_mono (fun b w' ⟨hb, hnb⟩ => ?_) h')).elim
    obtain ⟨e1, e2⟩ := hnb.eval (ops := ops) oj hsj h1
    rw [wpOp_iff hj, e2, if_pos hw] at hb
    exact not_ok (by rw [e1]; exact hn w') hb
  ·have hy : ∀ w', YAt P ops oj undef a w' := fun w' => .inr ⟨by simpa using hw, rfl⟩
   refine (hy w).wp hj ?_
   rw [wpOp_put hi hsi h3 h4]
   exact wpOp_mono (fun b w' ⟨hb, hnb⟩ => ((hy w').near hnb hsj h1).elim hj hb) h'
 ·obtain ⟨v, hv, _, hk⟩ := read_yields hi hr h
  rw [wpOp_put hj hsj h1 h2] at hk
  obtain ⟨u, hu, _, hk2⟩ := read_yields hj hr' hk
  exact hu.wp hj ((hv.near ⟨u, rfl⟩ hsi h3).wp hi hk2)
 ·obtain ⟨v, hv, hvb, hk⟩ := read_yields hi hr h
  rw [wpOp_put hj hsj h1 h2] at hk
  rw [wpOp_iff hj] at hk ⊢
  split
  ·rename_i hw
   rw [if_pos hw] at hk
   rcases hn a.eval w with ⟨u, b, hub⟩ | hn
   ·unfold Oper.wp at hk ⊢
    rw [hub] at hk ⊢
    exact ((hvb b).near ⟨u, rfl⟩ hsi h3).wp hi hk
   ·exact (not_ok hn hk).elim
  ·rename_i hw
   rw [if_neg hw] at hk
   exact (hv.near ⟨undef, rfl⟩ hsi h3).wp hi hk
end
inductive Dep (ops : Array Oper) (i : Nat) : Nat → Prop
 | one {j : Nat} {o : Oper} {e : Edge} (ho : ops[j]? = some o) (he : e ∈ o.after) (hb : Region.binds .any e = true) (hi : e.on = i) : Dep ops i j
 | more {j : Nat} {o : Oper} {e : Edge} (ho : ops[j]? = some o) (he : e ∈ o.after) (hb : Region.binds .any e = true) (hi : Dep ops i e.on) : Dep ops i j
def ancs (l : List Oper) : List (List Nat) := l.foldl (fun A o => A ++ [(o.after.toList.flatMap fun e => bif Region.binds .any e then e.on :: A.getD e.on [] else []).eraseDups]) []
def opCls (P : Program) : Op → Nat
 | .move _ | .assign _ | .extract .. | .pick .. | .unOp .not .. => 0
 | .fieldAddr s _ i => bif (tyF P s i).isSome then 0 else 3
 | .load .. => 1
 | .alloc _ | .box .. => 2
 | _ => 3
def clsOk (a b : Nat) : Bool := Nat.beq a 0 || Nat.beq b 0 || (Nat.beq a 1 && (Nat.beq b 1 || Nat.beq b 2))
def pairsB (P : Program) (ops : Array Oper) (A : List (List Nat)) : List Nat → Bool
 | [] => true
 | i :: r => (r.all fun j => (A.getD j []).contains i || (match ops[i]?, ops[j]? with
   | some oi, some oj => oi.apart ops oj && clsOk (opCls P oi.op) (opCls P oj.op)
   | _, _ => false)) && pairsB P ops A r
def extB (ops : Array Oper) : List Nat → List Nat → Bool
 | _, [] => true
 | done, i :: r => (match ops[i]? with | some o => o.after.toList.all fun e => !Region.binds .any e || done.contains e.on | none => false) && extB ops (i :: done) r
def rigB (P : Program) (l : List Oper) (ord : List Nat) : Bool :=
 Region.noSelect l.toArray && Nat.beq ord.length l.length && decide ord.Nodup && extB l.toArray [] ord && pairsB P l.toArray (ancs l) ord
section
variable {P : Program} {ops : Array Oper} {Q : Exit → Act → World → Prop}
theorem ancs_ok (l : List Oper) : ∀ j i, i ∈ (ancs l).getD j [] → Dep l.toArray i j := by
 have key : ∀ (l2 l1 : List Oper) (A : List (List Nat)), A.length = l1.length → l1 ++ l2 = l → (∀ j i, i ∈ A.getD j [] → Dep l.toArray i j) →
   ∀ j i, i ∈ (l2.foldl (fun A o => A ++ [(o.after.toList.flatMap fun e => bif Region.binds .any e then e.on :: A.getD e.on [] else []).eraseDups]) A).getD j [] → Dep l.toArray i j := by
  intro l2
  induction l2 with
  | nil => intro l1 A _ _ h; exact h
  | cons o l2 ih =>
   intro l1 A hA hl h
   refine ih (l1 ++ [o]) _ (by simp [hA]) (by simp [hl]) fun j i hi => ?_
   rcases Nat.lt_trichotomy j A.length with hj | hj | hj
   ·rw [List.getD_eq_getElem?_getD, List.getElem?_append_left hj, ← List.getD_eq_getElem?_getD] at hi
    exact h j i hi
   ·have ho : l.toArray[j]? = some o := by
     rw [hj, hA, ← hl]; simp
    rw [List.getD_eq_getElem?_getD, List.getElem?_append_right (by omega)] at hi
    have e0 : j - A.length = 0 := by omega
    rw [e0] at hi
    simp only [List.getElem?_cons_zero, Option.getD_some, List.mem_eraseDups, List.mem_flatMap] at hi
    obtain ⟨e, he, hie⟩ := hi
    cases hb : Region.binds .any e with
    | false => rw [hb] at hie; simp at hie
    | true =>
     rw [hb] at hie
     simp only [cond_true, List.mem_cons] at hie
     rcases hie with rfl | hie
     ·exact .one ho (by simpa using he) hb rfl
     ·exact .more ho (by simpa using he) hb (h _ _ hie)
   ·rw [List.getD_eq_getElem?_getD, List.getElem?_eq_none (by simp; omega)] at hi
    simp at hi
 exact key l [] [] rfl rfl (by simp)
theorem pairs_ok {A : List (List Nat)} (hA : ∀ j i, i ∈ A.getD j [] → Dep ops i j) : ∀ {ord : List Nat}, pairsB P ops A ord = true →
  ord.Pairwise fun i j => Dep ops i j ∨ ∃ oi oj, ops[i]? = some oi ∧ ops[j]? = some oj ∧ oi.apart ops oj = true ∧ clsOk (opCls P oi.op) (opCls P oj.op) = true
 | [], _ => List.Pairwise.nil
 | i :: r, h => by
  simp only [pairsB, Bool.and_eq_true] at h
  refine List.Pairwise.cons (fun j hj => ?_) (pairs_ok hA h.2)
  have := List.all_eq_true.1 h.1 j hj
  simp only [Bool.or_eq_true] at this
  rcases this with h1 | h1
  ·exact .inl (hA j i (by simpa using h1))
  ·cases ho : ops[i]? with
   | none => simp [ho] at h1
   | some oi =>
    cases ho' : ops[j]? with
    | none => simp [ho, ho'] at h1
    | some oj =>
     simp only [ho, ho', Bool.and_eq_true] at h1
     exact .inr ⟨oi, oj, rfl, rfl, h1.1, h1.2⟩
def Ext (ops : Array Oper) (ord : List Nat) : Prop := ∀ p i r, ord = p ++ i :: r → ∀ o, ops[i]? = some o → ∀ e ∈ o.after, Region.binds .any e = true → e.on ∉ i :: r
theorem ext_ok : ∀ {ord done : List Nat}, extB ops done ord = true → (∀ x ∈ done, x ∉ ord) → ord.Nodup → Ext ops ord ∧ ∀ i ∈ ord, i < ops.size
 | [], done, _, _, _ => ⟨fun p i r h => by simp at h, by simp⟩
 | i :: r, done, h, hd, hn => by
  simp only [extB, Bool.and_eq_true] at h
  obtain ⟨h1, h2⟩ := h
  obtain ⟨hir, hnr⟩ := List.nodup_cons.1 hn
  have ih := ext_ok h2 (fun x hx hxr => by
   rcases List.mem_cons.1 hx with rfl | hx
   ·exact hir hxr
   ·exact hd x hx (List.mem_cons_of_mem _ hxr)) hnr
  cases ho : ops[i]? with
  | none => simp [ho] at h1
  | some o =>
   refine ⟨fun p k s hs ok hk e he hb hm => ?_, fun k hk => ?_⟩
   ·cases p with
    | nil =>
     obtain ⟨rfl, rfl⟩ : i = k ∧ r = s := by simpa using hs
     rw [ho] at hk
     obtain rfl := Option.some.inj hk
     simp only [ho] at h1
     have := List.all_eq_true.1 h1 e (by simpa using he)
     simp only [hb, Bool.not_true, Bool.false_or] at this
     exact hd e.on (by simpa using this) hm
    | cons q p =>
     obtain ⟨_, hs2⟩ : i = q ∧ r = p ++ k :: s := by simpa using hs
     exact ih.1 p k s hs2 ok hk e he hb hm
   ·rcases List.mem_cons.1 hk with rfl | hk
    ·exact (Array.getElem?_eq_some_iff.1 ho).1
    ·exact ih.2 k hk
theorem Ext.drop {p r : List Nat} {j : Nat} (h : Ext ops (p ++ j :: r)) : Ext ops (p ++ r) := fun q i s hs o ho e he hb hm => by
 rcases List.append_eq_append_iff.1 hs with ⟨c, hc1, hc2⟩ | ⟨c, hc1, hc2⟩
 ·-- q = p ++ c, r = c ++ i :: s
  have : p ++ j :: r = (p ++ j :: c) ++ i :: s := by simp [hc2]
  exact h _ i s this o ho e he hb hm
 ·cases c with
  | nil =>
   have hq : q = p := by simpa using hc1.symm
   have hr : i :: s = r := by simpa using hc2
   have : p ++ j :: r = (p ++ [j]) ++ i :: s := by simp [hr]
   exact h _ i s this o ho e he hb hm
  | cons x c =>
   obtain ⟨rfl, hs2⟩ : i = x ∧ s = c ++ r := by simpa using hc2
   have : p ++ j :: r = q ++ i :: (c ++ j :: r) := by simp [hc1]
   refine h q i _ this o ho e he hb ?_
   rw [hs2] at hm
   simp only [List.mem_cons, List.mem_append] at hm ⊢
   rcases hm with h1 | h1 | h1
   ·exact .inl h1
   ·exact .inr (.inl h1)
   ·exact .inr (.inr (.inr h1))
theorem pure_of_cls {o : Oper} (h : opCls P o.op = 0) : PureO P o := fun ρ => by
 obtain ⟨dst, op, ty, pos, after, guard⟩ := o
 cases op with
 | move x => exact .inl ⟨_, fun w => rfl⟩
 | assign x => exact .inl ⟨_, fun w => rfl⟩
 | extract x i =>
  simp only [execOp, Instr.extract]
  cases hx : ρ x with
  | tuple vs =>
   cases hv : vs[i]? with
   | some v => exact .inl ⟨v, fun w => by simp [hv]⟩
   | none => exact .inr fun w n w' => by simp [hv, stuck, Sem.run, Result.andThen]
  | _ => exact .inr fun w n w' => by simp [stuck, Sem.run, Result.andThen]
 | pick c x y =>
  simp only [execOp]
  cases hc : ρ c with
  | bool b => exact .inl ⟨if b then ρ x else ρ y, fun w => by simp [asBool]⟩
  | _ => exact .inr fun w n w' => by simp [asBool, stuck, Sem.run, Result.andThen]
 | unOp q t x =>
  cases q <;> simp [opCls] at h
  simp only [execOp, Op.unary]
  cases hx : ρ x with
  | bool b => exact .inl ⟨.bool (!b), fun w => by simp []⟩
  | _ => exact .inr fun w n w' => by simp [stuck, Sem.run, Result.andThen]
 | fieldAddr s x i =>
  simp only [opCls] at h
  cases hf : tyF P s i with
  | none => simp [hf] at h
  | some q =>
   obtain ⟨off, n, b⟩ := q
   obtain ⟨fs, f, h1, h2, rfl, h3, h4⟩ := tyField_split hf
   have hn : ¬ n = 0 := by
    intro e
    subst e
    unfold tyF at hf
    simp [h1, h2, h3, h4] at hf
   simp only [execOp, Instr.fieldAt]
   cases hx : ρ x with
   | pointer ad =>
    cases ad with
    | some ad => exact .inl ⟨.pointer (some (ad.add f.offset)), fun w => by simp [Sem.run_bind, run_underlying h1, h2, Instr.sureAddr, fieldPlace, jB2 h3, hn]⟩
    | none => exact .inr fun w n w' => by simp [Sem.run_bind, run_underlying h1, h2, Instr.sureAddr, stuck, Sem.run, Result.andThen]
   | _ => exact .inr fun w n w' => by simp [Sem.run_bind, run_underlying h1, h2, Instr.sureAddr, stuck, Sem.run, Result.andThen]
 | _ => simp [opCls] at h
theorem heap_later {w : World} {k : Nat} {x : Obj} (b : Obj) (h : w.heap[k]? = some x) : (w.alloc b).heap[k]? = some x := by
 have hl : k < w.heap.size := (Array.getElem?_eq_some_iff.1 h).1
 rw [Below.heap_alloc w b _ hl, h]
theorem seen_later {w : World} {p : Program} {at_ k : Addr} {u : TypeId} {m : Bool} {r : Array Value × TypeId × (Nat × Nat) × Nat × Value × List (Nat × Nat × List UInt8)} (b : Obj) (h : w.seen p at_ u k m = .ok r) : (w.alloc b).seen p at_ u k m = .ok r := by
 cases hh : w.heap[at_.block]? with
 | none =>
  unfold World.seen at h
  rw [hh] at h
  simp [bind, Except.bind] at h
  repeat' (split at h)
  all_goals (first | (cases h; done) | simp_all)
 | some x =>
  have e := (heap_later b hh).trans hh.symm
  unfold World.seen at h ⊢
  rw [e]
  exact h
theorem far_later {w : World} {p : Program} {a : Addr} {m : Bool} {r : Value × List Addr} (b : Obj) (h : w.farLoad p a m = .ok r) : (w.alloc b).farLoad p a m = .ok r := by
 cases hh : w.heap[a.block]? with
 | none => simp [World.farLoad, hh] at h
 | some x =>
  have hh' := heap_later b hh
  unfold World.farLoad at h ⊢
  rw [hh] at h
  rw [hh']
  cases x <;> simp only at h ⊢ <;> try (cases h)
  rename_i at_ u
  cases hv : w.viewLoad p at_ u a m with
  | error e => rw [hv] at h; cases h
  | ok q =>
   rw [hv] at h
   have : (w.alloc b).viewLoad p at_ u a m = .ok q := by
    unfold World.viewLoad at hv ⊢
    cases hs : w.seen p at_ u a m with
    | error e => rw [hs] at hv; cases hv
    | ok s => rw [hs] at hv; rw [seen_later b hs]; exact hv
   rw [this]
   exact h
theorem load_steady (a : Addr) (w : World) : (∃ v, (load a).run P w = .ok v w ∧ ∀ b, (load a).run P (w.alloc b) = .ok v (w.alloc b)) ∨ (∀ n w', (load a).run P w ≠ .ok n w') := by
 cases hc : w.cell? a with
 | some v =>
  refine .inl ⟨v, by simp [load, Sem.run, hc], fun b => ?_⟩
  have hl : a.block < w.heap.size := by
   rcases Nat.lt_or_ge a.block w.heap.size with h' | h'
   ·exact h'
   ·simp [World.cell?, Array.getElem?_eq_none h'] at hc
  have hcb : (w.alloc b).cell? a = some v := by rw [World.cell?_of_block (w := w) (a := a) (Below.heap_alloc w b _ hl)]; exact hc
  simp [load, Sem.run, hcb]
 | none =>
  cases hf : w.farLoad P a (Mode.plain == Mode.atomic) with
  | error h => exact .inr fun n w' => by simp only [load, Sem.run, hc, hf]; exact fun h => by cases h
  | ok r =>
   refine .inl ⟨r.1, by simp only [load, Sem.run, hc, hf], fun b => ?_⟩
   have hcb : (w.alloc b).cell? a = none := by
    have : ∃ x, w.heap[a.block]? = some x := by
     cases hh : w.heap[a.block]? with
     | none => simp [World.farLoad, hh] at hf
     | some x => exact ⟨x, rfl⟩
    obtain ⟨x, hx⟩ := this
    rw [World.cell?_of_block (w := w) (a := a) ((heap_later b hx).trans hx.symm)]
    exact hc
   simp only [load, Sem.run, hcb, far_later b hf]
def Steady {α : Type} (P : Program) (s : Sem α) : Prop := ∀ w, (∃ v, s.run P w = .ok v w ∧ ∀ b, s.run P (w.alloc b) = .ok v (w.alloc b)) ∨ (∀ n w', s.run P w ≠ .ok n w')
theorem st_pure {α : Type} (x : α) : Steady P (Pure.pure x : Sem α) := fun w => .inl ⟨x, rfl, fun b => rfl⟩
theorem st_halt {α : Type} (h : Halt) : Steady P (.halt h : Sem α) := fun w => .inr fun n w' e => by cases e
theorem st_bind {α β : Type} {s : Sem α} {f : α → Sem β} (hs : Steady P s) (hf : ∀ x, Steady P (f x)) : Steady P (s >>= f) := fun w => by
 rcases hs w with ⟨v, h1, h2⟩ | hn
 ·rcases hf v w with ⟨u, h3, h4⟩ | hn
  ·exact .inl ⟨u, by simp [Sem.run_bind, h1, h3], fun b => by simp [Sem.run_bind, h2 b, h4 b]⟩
  ·exact .inr fun n w' => by simpa [Sem.run_bind, h1] using hn n w'
 ·refine .inr fun n w' h => ?_
  cases hr : s.run P w with
  | ok x w2 => exact hn x w2 hr
  | halt x w2 => simp [Sem.run_bind, hr, Result.andThen] at h
theorem st_load (a : Addr) : Steady P (Go.load a) := fun w => load_steady a w
theorem st_program : Steady P Go.program := fun w => .inl ⟨P, rfl, fun b => rfl⟩
theorem st_underlying (t : TypeId) : Steady P (Go.underlying t) := st_bind st_program fun p => by
 split
 ·exact st_pure _
 ·exact st_halt _
theorem st_typeInfo (t : TypeId) : Steady P (Go.typeInfo t) := st_bind st_program fun p => by
 split
 ·exact st_pure _
 ·exact st_halt _
theorem st_sizeOf (t : TypeId) : Steady P (Go.sizeOf t) := st_bind (st_typeInfo t) fun _ => st_pure _
theorem st_isAgg (t : TypeId) : Steady P (Go.isAgg t) := st_bind (st_underlying t) fun d => by
 cases d <;> exact st_pure _
theorem st_loadCells (a : Addr) : ∀ (n i : Nat) (acc : Array Value), Steady P (loadCellsFrom a i n acc)
 | 0, i, acc => st_pure _
 | n + 1, i, acc => st_bind (st_load _) fun v => st_loadCells a n (i + 1) (acc.push v)
theorem st_loadVar (t : TypeId) (a : Addr) : Steady P (Go.loadVar t a) := st_bind (st_isAgg t) fun b => by
 cases b
 ·simp only [Bool.false_eq_true, if_false]; exact st_load a
 ·simp only [if_true]; exact st_bind (s := sizeOf t) (st_sizeOf t) fun n => st_bind (s := loadCells a n) (st_loadCells a n 0 #[]) fun _ => st_pure _
theorem st_read {o : Oper} (h : ∀ ρ, ∃ s : Sem Value, execOp ρ o = (do pure (.value (← s))) ∧ Steady P s) : ReadO P o := fun ρ w => by
 obtain ⟨s, e, hs⟩ := h ρ
 rw [e]
 rcases hs w with ⟨v, h1, h2⟩ | hn
 ·exact .inl ⟨v, by simp [h1], fun b => by simp [h2 b]⟩
 ·refine .inr fun n w' h => ?_
  cases hr : s.run P w with
  | ok x w2 => exact hn x w2 hr
  | halt x w2 => simp [hr, Result.andThen] at h
theorem read_of_cls {o : Oper} (h : opCls P o.op = 1) : ReadO P o := by
 obtain ⟨dst, op, ty, pos, after, guard⟩ := o
 cases op with
 | load t x =>
  refine st_read fun ρ => ⟨_, rfl, ?_⟩
  unfold Instr.loadAt
  refine st_bind ?_ fun a => st_loadVar t a
  unfold Instr.sureAddr
  split
  ·exact st_pure _
  ·exact st_halt _
 | unOp q t x => cases q <;> simp [opCls] at h
 | fieldAddr s x i => simp only [opCls] at h; cases hf : (tyF P s i).isSome <;> simp [hf] at h
 | _ => simp [opCls] at h
theorem new_of_cls {o : Oper} (h : opCls P o.op = 2) : NewO P o := fun ρ w => by
 obtain ⟨dst, op, ty, pos, after, guard⟩ := o
 cases op with
 | alloc t =>
  cases hz : (zeroValue t).run P w with
  | ok z w2 =>
   have hw : w2 = w := by
    have hs : Steady P (zeroValue t) := st_bind (st_typeInfo t) fun i => by
     split
     ·exact st_pure _
     ·exact st_halt _
    rcases hs w with ⟨v, h1, _⟩ | hn
    ·rw [h1] at hz; cases hz; rfl
    ·exact (hn _ _ hz).elim
   subst hw
   exact .inl ⟨_, .cells z.cells t, by simp only [execOp, Instr.alloc, Sem.run_bind, hz, Result.andThen_ok, newVar, newRow, newObj]; rfl⟩
  | halt x w2 => exact .inr fun n w' => by simp [execOp, Instr.alloc, Sem.run_bind, hz, Result.andThen]
 | box t x => exact .inl ⟨_, .cells (ρ x).cells t, by simp only [execOp, Instr.box, Sem.run_bind, newVar, newRow, newObj]; rfl⟩
 | unOp q t x => cases q <;> simp [opCls] at h
 | fieldAddr s x i => simp only [opCls] at h; cases hf : (tyF P s i).isSome <;> simp [hf] at h
 | _ => simp [opCls] at h
theorem cls_ok {oi oj : Oper} (h : clsOk (opCls P oi.op) (opCls P oj.op) = true) : PureO P oi ∨ PureO P oj ∨ (ReadO P oi ∧ ReadO P oj) ∨ (ReadO P oi ∧ NewO P oj) := by
 simp only [clsOk, Bool.or_eq_true, Bool.and_eq_true] at h
 rcases h with (h | h) | ⟨h, h' | h'⟩
 ·exact .inl (pure_of_cls (Nat.eq_of_beq_eq_true h))
 ·exact .inr (.inl (pure_of_cls (Nat.eq_of_beq_eq_true h)))
 ·exact .inr (.inr (.inl ⟨read_of_cls (Nat.eq_of_beq_eq_true h), read_of_cls (Nat.eq_of_beq_eq_true h')⟩))
 ·exact .inr (.inr (.inr ⟨read_of_cls (Nat.eq_of_beq_eq_true h), new_of_cls (Nat.eq_of_beq_eq_true h')⟩))
theorem to_front (hsel : ∀ (j : Nat) (o : Oper) cs b, ops[j]? = some o → o.op ≠ .select cs b) {j : Nat} {r : List Nat} : ∀ (p : List Nat) (a : Act) (w : World),
  (∀ i ∈ p, ∃ oi oj, ops[i]? = some oi ∧ ops[j]? = some oj ∧ oi.apart ops oj = true ∧ clsOk (opCls P oi.op) (opCls P oj.op) = true) →
  wpOps P ops (QN Q) (p ++ j :: r) a w → wpOp P ops (QN Q) j (wpOps P ops (QN Q) (p ++ r)) a w
 | [], a, w, _, h => by rw [List.nil_append, wpOps_cons] at h; exact h
 | i :: p, a, w, hp, h => by
  rw [List.cons_append, wpOps_cons] at h
  obtain ⟨oi, oj, h1, h2, h3, h4⟩ := hp i List.mem_cons_self
  have h5 := wpOp_mono (fun b w' hb => to_front hsel p b w' (fun k hk => hp k (List.mem_cons_of_mem _ hk)) hb) h
  have h6 := wpOp_swap h1 h2 h3 (fun cs b => hsel i oi cs b h1) (fun cs b => hsel j oj cs b h2) (cls_ok h4) h5
  refine wpOp_mono (fun b w' hb => ?_) h6
  rw [List.cons_append, wpOps_cons]
  exact hb
theorem any_of_ord (hsel : ∀ (j : Nat) (o : Oper) cs b, ops[j]? = some o → o.op ≠ .select cs b) : ∀ (n : Nat) (ord : List Nat) (listed : Array Bool) (a : Act) (w : World), ord.length = n → ord.Nodup → listed.size = ops.size → (∀ i ∈ ord, i < ops.size) →
  (∀ k, k < ops.size → (listed.getD k true = false ↔ k ∈ ord)) → Ext ops ord → (∀ j o, ops[j]? = some o → j ∉ ord → ∀ e ∈ o.after, Region.binds .any e = true → e.on < ops.size ∧ e.on ∉ ord) → (∀ (j : Nat) (o : Oper), ops[j]? = some o → ∀ e ∈ o.after, Region.binds .any e = true → e.on < ops.size) →
  (ord.Pairwise fun i j => Dep ops i j ∨ ∃ oi oj, ops[i]? = some oi ∧ ops[j]? = some oj ∧ oi.apart ops oj = true ∧ clsOk (opCls P oi.op) (opCls P oj.op) = true) →
  wpOps P ops (QN Q) ord a w → wpAny P .any ops (QN Q) n listed a w := by
 intro n
 induction n with
 | zero =>
  intro ord listed a w hl hnd hsz hlt hmem hext hdown hedge hp h
  obtain rfl := List.eq_nil_of_length_eq_zero hl
  refine ⟨?_, h⟩
  refine List.eq_nil_iff_forall_not_mem.2 fun j hj => ?_
  obtain ⟨h0, o, ho, _⟩ := mem_ready.1 hj
  have := (hmem j (Array.getElem?_eq_some_iff.1 ho).1).1 h0
  simp at this
 | succ n ih =>
  intro ord listed a w hl hnd hsz hlt hmem hext hdown hedge hp h
  have hlist : ∀ k, k < ops.size → (listed.getD k false = true ↔ k ∉ ord) := fun k hk => by
   rw [← hmem k hk]
   have : k < listed.size := by omega
   simp [Array.getD_eq_getD_getElem?, this]
  refine ⟨fun hnil => ?_, fun j hj => ?_⟩
  ·exfalso
   match ord, hl with
   | i :: r, _ =>
    have hi := hlt i List.mem_cons_self
    have : i ∈ Region.ready .any ops listed := by
     refine mem_ready.2 ⟨(hmem i hi).2 List.mem_cons_self, ops[i], Array.getElem?_eq_getElem hi, fun e he hb => ?_⟩
     have h1 := hedge i _ (Array.getElem?_eq_getElem hi) e he hb
     exact (hlist e.on h1).2 (hext [] i r rfl _ (Array.getElem?_eq_getElem hi) e he hb)
    rw [hnil] at this
    cases this
  ·obtain ⟨h0, o, ho, hall⟩ := mem_ready.1 hj
   have hjlt : j < ops.size := (Array.getElem?_eq_some_iff.1 ho).1
   have hjm := (hmem j hjlt).1 h0
   obtain ⟨p, r, hpr⟩ := List.append_of_mem hjm
   subst hpr
   have hdeps : ∀ i, Dep ops i j → i ∉ p ++ j :: r := fun i hd => by
    have hone : ∀ k, Dep ops i k → k ∉ p ++ j :: r → i ∉ p ++ j :: r := by
     intro k hk
     induction hk with
     | one ho' he hb hi => intro hkn; exact hi ▸ (hdown _ _ ho' hkn _ he hb).2
     | more ho' he hb hi ih2 => intro hkn; exact ih2 (hdown _ _ ho' hkn _ he hb).2
    cases hd with
    | one ho' he hb hi =>
     rw [ho] at ho'; obtain rfl := Option.some.inj ho'
     have h1 := hedge j _ ho _ he hb
     exact hi ▸ (hlist _ h1).1 (hall _ he hb)
    | more ho' he hb hi =>
     rw [ho] at ho'; obtain rfl := Option.some.inj ho'
     have h1 := hedge j _ ho _ he hb
     exact hone _ hi ((hlist _ h1).1 (hall _ he hb))
   have hpp := List.pairwise_append.1 hp
   have hswap : ∀ i ∈ p, ∃ oi oj, ops[i]? = some oi ∧ ops[j]? = some oj ∧ oi.apart ops oj = true ∧ clsOk (opCls P oi.op) (opCls P oj.op) = true := fun i hi => by
    rcases hpp.2.2 i hi j List.mem_cons_self with hd | hd
    ·exact absurd (List.mem_append_left _ hi) (hdeps i hd)
    ·exact hd
   have hnd' : (p ++ r).Nodup ∧ j ∉ p ++ r := by
    have := List.nodup_append.1 hnd
    have h2 := List.nodup_cons.1 this.2.1
    refine ⟨List.nodup_append.2 ⟨this.1, h2.2, fun x hx y hy => this.2.2 x hx y (List.mem_cons_of_mem _ hy)⟩, fun hm => ?_⟩
    rcases List.mem_append.1 hm with hm | hm
    ·exact this.2.2 j hm j List.mem_cons_self rfl
    ·exact h2.1 hm
   have hsub : ∀ x, x ∈ p ++ r → x ∈ p ++ j :: r := fun x hx => by
    rcases List.mem_append.1 hx with hx | hx
    ·exact List.mem_append_left _ hx
    ·exact List.mem_append_right _ (List.mem_cons_of_mem _ hx)
   refine wpOp_mono (fun b w' hb => ih (p ++ r) (listed.setIfInBounds j true) b w' ?_ hnd'.1 (by simpa using hsz) (fun i hi => hlt i (hsub i hi)) (fun k hk => ?_) hext.drop (fun k ok hok hkn e he hb' => ?_) hedge ?_ hb) (to_front hsel p a w hswap h)
   ·simp at hl ⊢; omega
   ·by_cases hjk : j = k
    ·subst hjk
     have : j < listed.size := by omega
     simp [Array.getD_eq_getD_getElem?, this]
     simpa using hnd'.2
    ·rw [getD_set_ne true hjk, hmem k hk]
     simp only [List.mem_append, List.mem_cons]
     constructor
     ·rintro (h1 | h1 | h1)
      ·exact .inl h1
      ·exact absurd h1.symm hjk
      ·exact .inr h1
     ·rintro (h1 | h1)
      ·exact .inl h1
      ·exact .inr (.inr h1)
   ·refine ⟨hedge k ok hok e he hb', fun hm => ?_⟩
    by_cases hkj : k = j
    ·subst hkj
     rw [ho] at hok; obtain rfl := Option.some.inj hok
     have h1 := hedge k _ ho e he hb'
     exact (hlist _ h1).1 (hall e he hb') (hsub _ hm)
    ·have hkn' : k ∉ p ++ j :: r := fun hm' => by
      rcases List.mem_append.1 hm' with h1 | h1
      ·exact hkn (List.mem_append_left _ h1)
      ·rcases List.mem_cons.1 h1 with h1 | h1
       ·exact hkj h1
       ·exact hkn (List.mem_append_right _ h1)
     exact (hdown k ok hok hkn' e he hb').2 (hsub _ hm)
   ·refine List.pairwise_append.2 ⟨hpp.1, (List.pairwise_cons.1 hpp.2.1).2, fun x hx y hy => hpp.2.2 x hx y (List.mem_cons_of_mem _ hy)⟩
theorem wp_region_ord {N : Frm} {id : Nat} {l : List Oper} {a : Act} {w : World} (ord : List Nat) (hm : P.follows .mixedOrders = true) (hB : rigB P l ord = true) (h : wpOps P l.toArray (QN Q) ord a w.drew) : wq P N (.region id l.toArray true) Q a w := by
 simp only [rigB, Bool.and_eq_true, decide_eq_true_eq] at hB
 obtain ⟨⟨⟨⟨hsel, hlen⟩, hnd⟩, hext⟩, hpairs⟩ := hB
 have hlen := Nat.eq_of_beq_eq_true hlen
 obtain ⟨he1, he2⟩ := ext_ok hext (by simp) hnd
 have hall : ∀ k, k < l.length → k ∈ ord := by
  have hsub : ∀ x ∈ ord, x ∈ List.range l.length := fun x hx => List.mem_range.2 (by simpa using he2 x hx)
  have hall2 : ∀ (m : Nat) (s : List Nat), s.Nodup → s.length = m → (∀ x ∈ s, x < m) → ∀ k, k < m → k ∈ s := by
   intro m
   induction m with
   | zero => intro s _ _ _ k hk; omega
   | succ m ih =>
    intro s hs hlen hlt k hk
    have hm : m ∈ s := by
     apply Classical.byContradiction
     intro hm
     have hl2 : ∀ x ∈ s, x < m := fun x hx => by
      have := hlt x hx
      have : x ≠ m := fun e => hm (e ▸ hx)
      omega
     match s, hlen with
     | y :: s', hlen =>
      have hs' := List.nodup_cons.1 hs
      have := ih s' hs'.2 (by simpa using hlen) (fun x hx => hl2 x (List.mem_cons_of_mem _ hx)) y (hl2 y List.mem_cons_self)
      exact hs'.1 this
    by_cases hkm : k = m
    ·exact hkm ▸ hm
    ·have := ih (s.erase m) (hs.erase m) (by rw [List.length_erase_of_mem hm]; omega) (fun x hx => by
      have h1 := hlt x (List.mem_of_mem_erase hx)
      have h2 : x ≠ m := fun e => by subst e; exact absurd hx (List.Nodup.not_mem_erase hs)
      omega) k (by omega)
     exact List.mem_of_mem_erase this
  exact fun k hk => hall2 l.length ord hnd hlen (fun x hx => List.mem_range.1 (hsub x hx)) k hk
 refine wq_any hm ?_
 have hedge : ∀ (j : Nat) (o : Oper), l.toArray[j]? = some o → ∀ e ∈ o.after, Region.binds .any e = true → e.on < l.toArray.size := fun j o ho e he hb => by
  have hj : j ∈ ord := hall j (by simpa using (Array.getElem?_eq_some_iff.1 ho).1)
  have key : ∀ (ord done : List Nat), extB l.toArray done ord = true → (∀ x ∈ done, x < l.toArray.size) → ∀ k ∈ ord, ∀ ok, l.toArray[k]? = some ok → ∀ e ∈ ok.after, Region.binds .any e = true → e.on < l.toArray.size := by
   intro ord
   induction ord with
   | nil => intro _ _ _ k hk; cases hk
   | cons i r ih =>
    intro done h1 h2 k hk ok hok e he hb
    simp only [extB, Bool.and_eq_true] at h1
    cases hi : l.toArray[i]? with
    | none => rw [hi] at h1; simp at h1
    | some oi =>
     rcases List.mem_cons.1 hk with rfl | hk
     ·rw [hi] at hok; obtain rfl := Option.some.inj hok
      rw [hi] at h1
      have := List.all_eq_true.1 h1.1 e (by simpa using he)
      simp only [hb, Bool.not_true, Bool.false_or] at this
      exact h2 e.on (by simpa using this)
     ·exact ih (i :: done) h1.2 (fun x hx => by
       rcases List.mem_cons.1 hx with rfl | hx
       ·exact (Array.getElem?_eq_some_iff.1 hi).1
       ·exact h2 x hx) k hk ok hok e he hb
  exact key ord [] hext (by simp) j hj o ho e he hb
 have := any_of_ord (P := P) (Q := Q) (Region.noSelect_spec hsel) l.toArray.size ord (Array.replicate l.toArray.size false) a w.drew (by simp [hlen]) hnd (by simp) he2 (fun k hk => by
  have : k ∈ ord := hall k (by simpa using hk)
  simp only [this, iff_true]
  have hk' : k < l.length := by simpa using hk
  simp [Array.getD_eq_getD_getElem?, hk']) he1 (fun j o ho hj => absurd (hall j (by simpa using (Array.getElem?_eq_some_iff.1 ho).1)) hj) hedge (pairs_ok (ancs_ok l) hpairs) h
 exact this
def inOrd (l : List Oper) (ord : List Nat) : List Oper := ord.filterMap (l[·]?)
theorem ops_of_list {ops : Array Oper} : ∀ (ord : List Nat) (a : Act) (w : World), (∀ i ∈ ord, i < ops.size) → wpList P ops Q (ord.filterMap (ops.toList[·]?)) a w → wpOps P ops Q ord a w
 | [], a, w, _, h => h
 | i :: r, a, w, hlt, h => by
  have hi := hlt i List.mem_cons_self
  have ho : ops[i]? = some ops[i] := Array.getElem?_eq_getElem hi
  have ho' : ops.toList[i]? = some ops[i] := by simp [hi]
  rw [List.filterMap_cons, ho'] at h
  simp only [wpList] at h
  simp only [wpOps, ho]
  have ih := fun a w => ops_of_list r a w (fun k hk => hlt k (List.mem_cons_of_mem _ hk))
  split
  ·rename_i hw
   rw [if_pos hw] at h
   exact h.imp (Oper.wp_mono fun a w hh => ih a w hh) id
  ·rename_i hw
   rw [if_neg hw] at h
   exact ih _ _ h
end
section
variable {P : Program} {N : Frm} {w0 : World} {Wr : List Nat} {fr : Fr} {H : Heap} {Q : Exit → Act → World → Prop}
theorem awd_region {id : Nat} {l l' : List Oper} (ord : List Nat) (hm : P.follows .mixedOrders = true) (hB : rigB P l ord = true) (hl : inOrd l ord = l') (h : ∀ Z : Fr → Heap → Prop, (∀ fr H, nx N w0 Wr fr H Q .normal → Z fr H) → sx P N w0 Wr l.toArray l' fr H Z) : awp P N w0 Wr (.region id l.toArray true) fr H Q :=
 fun a w ha hw => wp_region_ord ord hm hB (ops_of_list ord a w.drew (by
  simp only [rigB, Bool.and_eq_true, decide_eq_true_eq] at hB
  exact (ext_ok hB.1.2 (by simp) hB.1.1.2).2) (by
  have := h (fun fr H => nx N w0 Wr fr H Q .normal) (fun _ _ h => h) (QN Q) (fun fr' H' a w hz hf hs => ⟨rfl, hz a w hf hs⟩) a w.drew ha hw.drew
  rw [← hl] at this
  simpa [inOrd] using this))
theorem awd_seq_region {id : Nat} {l l' : List Oper} {y : Code} (ord : List Nat) (hm : P.follows .mixedOrders = true) (hB : rigB P l ord = true) (hl : inOrd l ord = l') (h : ∀ Z : Fr → Heap → Prop, (∀ fr H, awp P N w0 Wr y fr H Q → Z fr H) → sx P N w0 Wr l.toArray l' fr H Z) : awp P N w0 Wr (.seq (.region id l.toArray true) y) fr H Q :=
 aS (awd_region ord hm hB hl fun Z hZ => h Z fun fr H hy => hZ fr H hy)
end
end Go.Proofs.YtkojkeabelckjaaGreatDoor
namespace Go.Proofs.YtkojkeabelckjaaGreatDoor
open Go.RowKit
def headB (ops : Array Oper) (A : List (List Nat)) : List Nat → Bool
 | [] => true
 | i :: r => (r.all fun j => (A.getD j []).contains i || (match ops[i]?, ops[j]? with
   | some oi, some oj => oi.apart ops oj
   | _, _ => false)) && headB ops A r
def rig2B (P : Program) (l : List Oper) (qs ls : List Nat) : Bool :=
 Region.noSelect l.toArray && Nat.beq (qs ++ ls).length l.length && decide (qs ++ ls).Nodup && extB l.toArray [] (qs ++ ls) &&
 headB l.toArray (ancs l) qs && (ls.all fun j => qs.all fun i => ((ancs l).getD j []).contains i || (match l.toArray[i]?, l.toArray[j]? with
   | some oi, some oj => oi.apart l.toArray oj && Nat.beq (opCls P oi.op) 0
   | _, _ => false)) && pairsB P l.toArray (ancs l) ls
section
variable {P : Program} {ops : Array Oper} {Q : Exit → Act → World → Prop} {C : World → Prop}
def wpQ (P : Program) (ops : Array Oper) (C : World → Prop) (K : Act → Prop) : List Nat → Act → Prop
 | [], a => K a
 | i :: r, a => qOp P ops C i (wpQ P ops C K r) a
theorem qOp_swap {i j : Nat} {oi oj : Oper} {K : Act → Prop} {a : Act} (hi : ops[i]? = some oi) (hj : ops[j]? = some oj) (hap : oi.apart ops oj = true) (hsi : ∀ cs b, oi.op ≠ .select cs b) (hsj : ∀ cs b, oj.op ≠ .select cs b)
  (h : qOp P ops C i (qOp P ops C j K) a) : qOp P ops C j (qOp P ops C i K) a := by
 obtain ⟨v, hy, hk⟩ := yieldsIn_of_qOp hi h
 exact qOp_mono (fun b ⟨h1, h2⟩ => h1.qOp hi h2) (qOp_put hj hap hsi hsj hy hk)
theorem q_front (hsel : ∀ (j : Nat) (o : Oper) cs b, ops[j]? = some o → o.op ≠ .select cs b) {j : Nat} {r : List Nat} {K : Act → Prop} : ∀ (p : List Nat) (a : Act),
  (∀ i ∈ p, ∃ oi oj, ops[i]? = some oi ∧ ops[j]? = some oj ∧ oi.apart ops oj = true) →
  wpQ P ops C K (p ++ j :: r) a → qOp P ops C j (wpQ P ops C K (p ++ r)) a
 | [], a, _, h => h
 | i :: p, a, hp, h => by
  obtain ⟨oi, oj, h1, h2, h3⟩ := hp i List.mem_cons_self
  have h5 : qOp P ops C i (qOp P ops C j (wpQ P ops C K (p ++ r))) a := qOp_mono (fun b hb => q_front hsel p b (fun k hk => hp k (List.mem_cons_of_mem _ hk)) hb) h
  exact qOp_swap h1 h2 h3 (fun cs b => hsel i oi cs b h1) (fun cs b => hsel j oj cs b h2) h5
theorem head_ok {A : List (List Nat)} (hA : ∀ j i, i ∈ A.getD j [] → Dep ops i j) : ∀ {ord : List Nat}, headB ops A ord = true →
  ord.Pairwise fun i j => Dep ops i j ∨ ∃ oi oj, ops[i]? = some oi ∧ ops[j]? = some oj ∧ oi.apart ops oj = true
 | [], _ => List.Pairwise.nil
 | i :: r, h => by
  simp only [headB, Bool.and_eq_true] at h
  refine List.Pairwise.cons (fun j hj => ?_) (head_ok hA h.2)
  have := List.all_eq_true.1 h.1 j hj
  simp only [Bool.or_eq_true] at this
  rcases this with h1 | h1
  ·exact .inl (hA j i (by simpa using h1))
  ·cases ho : ops[i]? with
   | none => simp [ho] at h1
   | some oi =>
    cases ho' : ops[j]? with
    | none => simp [ho, ho'] at h1
    | some oj =>
     simp only [ho, ho'] at h1
     exact .inr ⟨oi, oj, rfl, rfl, h1⟩
structure Left (ops : Array Oper) (ord : List Nat) (listed : Array Bool) : Prop where
 nodup : ord.Nodup
 size : listed.size = ops.size
 lt : ∀ i ∈ ord, i < ops.size
 mem : ∀ k, k < ops.size → (listed.getD k true = false ↔ k ∈ ord)
 ext : Ext ops ord
 down : ∀ j o, ops[j]? = some o → j ∉ ord → ∀ e ∈ o.after, Region.binds .any e = true → e.on < ops.size ∧ e.on ∉ ord
theorem Left.listed {ord : List Nat} {listed : Array Bool} (h : Left ops ord listed) (k : Nat) (hk : k < ops.size) : listed.getD k false = true ↔ k ∉ ord := by
 rw [← h.mem k hk]
 have : k < listed.size := by rw [h.size]; exact hk
 simp [Array.getD_eq_getD_getElem?, this]
theorem Left.deps {ord : List Nat} {listed : Array Bool} (h : Left ops ord listed) (hedge : ∀ (j : Nat) (o : Oper), ops[j]? = some o → ∀ e ∈ o.after, Region.binds .any e = true → e.on < ops.size) {j : Nat} (hj : j ∈ Region.ready .any ops listed) : ∀ i, Dep ops i j → i ∉ ord := fun i hd => by
 obtain ⟨h0, o, ho, hall⟩ := mem_ready.1 hj
 have hone : ∀ k, Dep ops i k → k ∉ ord → i ∉ ord := by
  intro k hk
  induction hk with
  | one ho' he hb hi => intro hkn; exact hi ▸ (h.down _ _ ho' hkn _ he hb).2
  | more ho' he hb hi ih2 => intro hkn; exact ih2 (h.down _ _ ho' hkn _ he hb).2
 cases hd with
 | one ho' he hb hi =>
  rw [ho] at ho'; obtain rfl := Option.some.inj ho'
  have h1 := hedge j _ ho _ he hb
  exact hi ▸ (h.listed _ h1).1 (hall _ he hb)
 | more ho' he hb hi =>
  rw [ho] at ho'; obtain rfl := Option.some.inj ho'
  have h1 := hedge j _ ho _ he hb
  exact hone _ hi ((h.listed _ h1).1 (hall _ he hb))
theorem Left.step {p r : List Nat} {j : Nat} {listed : Array Bool} (h : Left ops (p ++ j :: r) listed) (hedge : ∀ (j : Nat) (o : Oper), ops[j]? = some o → ∀ e ∈ o.after, Region.binds .any e = true → e.on < ops.size) (hj : j ∈ Region.ready .any ops listed) : Left ops (p ++ r) (listed.setIfInBounds j true) := by
 obtain ⟨h0, o, ho, hall⟩ := mem_ready.1 hj
 have hjlt : j < ops.size := (Array.getElem?_eq_some_iff.1 ho).1
 have hnd' : (p ++ r).Nodup ∧ j ∉ p ++ r := by
  have := List.nodup_append.1 h.nodup
  have h2 := List.nodup_cons.1 this.2.1
  refine ⟨List.nodup_append.2 ⟨this.1, h2.2, fun x hx y hy => this.2.2 x hx y (List.mem_cons_of_mem _ hy)⟩, fun hm => ?_⟩
  rcases List.mem_append.1 hm with hm | hm
  ·exact this.2.2 j hm j List.mem_cons_self rfl
  ·exact h2.1 hm
 have hsub : ∀ x, x ∈ p ++ r → x ∈ p ++ j :: r := fun x hx => by
  rcases List.mem_append.1 hx with hx | hx
  ·exact List.mem_append_left _ hx
  ·exact List.mem_append_right _ (List.mem_cons_of_mem _ hx)
 refine ⟨hnd'.1, by simpa using h.size, fun i hi => h.lt i (hsub i hi), fun k hk => ?_, h.ext.drop, fun k ok hok hkn e he hb' => ?_⟩
 ·by_cases hjk : j = k
  ·subst hjk
   have : j < listed.size := by rw [h.size]; exact hjlt
   simp [Array.getD_eq_getD_getElem?, this]
   simpa using hnd'.2
  ·rw [getD_set_ne true hjk, h.mem k hk]
   simp only [List.mem_append, List.mem_cons]
   constructor
   ·rintro (h1 | h1 | h1)
    ·exact .inl h1
    ·exact absurd h1.symm hjk
    ·exact .inr h1
   ·rintro (h1 | h1)
    ·exact .inl h1
    ·exact .inr (.inr h1)
 ·refine ⟨hedge k ok hok e he hb', fun hm => ?_⟩
  by_cases hkj : k = j
  ·subst hkj
   rw [ho] at hok; obtain rfl := Option.some.inj hok
   have h1 := hedge k _ ho e he hb'
   exact (h.listed _ h1).1 (hall e he hb') (hsub _ hm)
  ·have hkn' : k ∉ p ++ j :: r := fun hm' => by
    rcases List.mem_append.1 hm' with h1 | h1
    ·exact hkn (List.mem_append_left _ h1)
    ·rcases List.mem_cons.1 h1 with h1 | h1
     ·exact hkj h1
     ·exact hkn (List.mem_append_right _ h1)
   exact (h.down k ok hok hkn' e he hb').2 (hsub _ hm)
theorem Left.first {i : Nat} {r : List Nat} {listed : Array Bool} (h : Left ops (i :: r) listed) (hedge : ∀ (j : Nat) (o : Oper), ops[j]? = some o → ∀ e ∈ o.after, Region.binds .any e = true → e.on < ops.size) : i ∈ Region.ready .any ops listed := by
 have hi := h.lt i List.mem_cons_self
 refine mem_ready.2 ⟨(h.mem i hi).2 List.mem_cons_self, ops[i], Array.getElem?_eq_getElem hi, fun e he hb => ?_⟩
 have h1 := hedge i _ (Array.getElem?_eq_getElem hi) e he hb
 exact (h.listed e.on h1).2 (h.ext [] i r rfl _ (Array.getElem?_eq_getElem hi) e he hb)
def Cross (P : Program) (ops : Array Oper) (i j : Nat) : Prop := Dep ops i j ∨ ∃ oi oj, ops[i]? = some oi ∧ ops[j]? = some oj ∧ oi.apart ops oj = true ∧ opCls P oi.op = 0
theorem ops_of_q {ls : List Nat} : ∀ (qs : List Nat) (a : Act) (w : World), C w → wpQ P ops C (fun a => ∀ w, C w → wpOps P ops (QN Q) ls a w) qs a → wpOps P ops (QN Q) (qs ++ ls) a w
 | [], a, w, hC, h => h w hC
 | i :: r, a, w, hC, h => by
  rw [List.cons_append, wpOps_cons]
  exact wpOp_of_qOp hC (fun b w' hC' hb => ops_of_q r b w' hC' hb) h
theorem any_of_head (hsel : ∀ (j : Nat) (o : Oper) cs b, ops[j]? = some o → o.op ≠ .select cs b) (hedge : ∀ (j : Nat) (o : Oper), ops[j]? = some o → ∀ e ∈ o.after, Region.binds .any e = true → e.on < ops.size) {ls : List Nat}
  (hpl : ls.Pairwise fun i j => Dep ops i j ∨ ∃ oi oj, ops[i]? = some oi ∧ ops[j]? = some oj ∧ oi.apart ops oj = true ∧ clsOk (opCls P oi.op) (opCls P oj.op) = true) :
  ∀ (n : Nat) (qs : List Nat) (listed : Array Bool) (a : Act) (w : World), qs.length = n → C w → Left ops (qs ++ ls) listed →
  (qs.Pairwise fun i j => Dep ops i j ∨ ∃ oi oj, ops[i]? = some oi ∧ ops[j]? = some oj ∧ oi.apart ops oj = true) → (∀ j ∈ ls, ∀ i ∈ qs, Cross P ops i j) →
  wpQ P ops C (fun a => ∀ w, C w → wpOps P ops (QN Q) ls a w) qs a → wpAny P .any ops (QN Q) (n + ls.length) listed a w := by
 intro n
 induction n with
 | zero =>
  intro qs listed a w hl hC hL hpq hcross h
  obtain rfl := List.eq_nil_of_length_eq_zero hl
  simp only [List.nil_append] at hL
  rw [Nat.zero_add]
  exact any_of_ord (P := P) (Q := Q) hsel ls.length ls listed a w rfl hL.nodup hL.size hL.lt hL.mem hL.ext hL.down hedge hpl (h w hC)
 | succ n ih =>
  intro qs listed a w hl hC hL hpq hcross h
  by_cases hpure : ∀ i ∈ qs, ∀ oi, ops[i]? = some oi → opCls P oi.op = 0
  ·-- only pure ones are left of the head
   have hord := ops_of_q qs a w hC h
   have hlen : (qs ++ ls).length = n + 1 + ls.length := by simp [hl]
   refine any_of_ord (P := P) (Q := Q) hsel _ (qs ++ ls) listed a w hlen hL.nodup hL.size hL.lt hL.mem hL.ext hL.down hedge ?_ hord
   have hz : ∀ x, clsOk 0 x = true := fun x => rfl
   refine List.pairwise_append.2 ⟨?_, hpl, fun i hi j hj => ?_⟩
   ·refine hpq.imp_of_mem fun {i j} hi _ hij => ?_
    rcases hij with hd | ⟨oi, oj, h1, h2, h3⟩
    ·exact .inl hd
    ·exact .inr ⟨oi, oj, h1, h2, h3, by rw [hpure i hi oi h1]; exact hz _⟩
   ·rcases hcross j hj i hi with hd | ⟨oi, oj, h1, h2, h3, h4⟩
    ·exact .inl hd
    ·exact .inr ⟨oi, oj, h1, h2, h3, by rw [h4]; exact hz _⟩
  obtain ⟨i0, hi0, o0, ho0, hc0⟩ : ∃ i ∈ qs, ∃ oi, ops[i]? = some oi ∧ opCls P oi.op ≠ 0 := by
   apply Classical.byContradiction
   intro hno
   refine hpure fun i hi oi ho => ?_
   apply Classical.byContradiction
   intro hne
   exact hno ⟨i, hi, oi, ho, hne⟩
  rw [show n + 1 + ls.length = (n + ls.length) + 1 by omega]
  refine ⟨fun hnil => ?_, fun j hj => ?_⟩
  ·exfalso
   match qs, hl with
   | i :: r, _ =>
    have := hL.first hedge
    rw [hnil] at this
    cases this
  ·have hdeps := hL.deps hedge hj
   obtain ⟨h0, o, ho, hall⟩ := mem_ready.1 hj
   have hjlt : j < ops.size := (Array.getElem?_eq_some_iff.1 ho).1
   have hjm := (hL.mem j hjlt).1 h0
   have hjq : j ∈ qs := by
    rcases List.mem_append.1 hjm with h1 | h1
    ·exact h1
    ·rcases hcross j h1 i0 hi0 with hd | ⟨oi, oj, h2, _, _, h4⟩
     ·exact absurd (List.mem_append_left _ hi0) (hdeps i0 hd)
     ·rw [ho0] at h2
      obtain rfl := Option.some.inj h2
      exact absurd h4 hc0
   obtain ⟨p, r, rfl⟩ := List.append_of_mem hjq
   have hpp := List.pairwise_append.1 hpq
   have hswap : ∀ i ∈ p, ∃ oi oj, ops[i]? = some oi ∧ ops[j]? = some oj ∧ oi.apart ops oj = true := fun i hi => by
    rcases hpp.2.2 i hi j List.mem_cons_self with hd | hd
    ·exact absurd (List.mem_append_left _ (List.mem_append_left _ hi)) (hdeps i hd)
    ·exact hd
   have hL' : Left ops ((p ++ r) ++ ls) (listed.setIfInBounds j true) := by
    rw [List.append_assoc]
    exact Left.step (by simpa [List.append_assoc] using hL) hedge hj
   refine wpOp_of_qOp hC (fun b w' hC' hb => ih (p ++ r) (listed.setIfInBounds j true) b w' (by simp at hl ⊢; omega) hC' hL' ?_ (fun x hx i hi => hcross x hx i ?_) hb) (q_front hsel p a hswap h)
   ·exact List.pairwise_append.2 ⟨hpp.1, (List.pairwise_cons.1 hpp.2.1).2, fun x hx y hy => hpp.2.2 x hx y (List.mem_cons_of_mem _ hy)⟩
   ·rcases List.mem_append.1 hi with hi | hi
    ·exact List.mem_append_left _ hi
    ·exact List.mem_append_right _ (List.mem_cons_of_mem _ hi)
theorem all_in : ∀ (m : Nat) (s : List Nat), s.Nodup → s.length = m → (∀ x ∈ s, x < m) → ∀ k, k < m → k ∈ s := by
 intro m
 induction m with
 | zero => intro s _ _ _ k hk; omega
 | succ m ih =>
  intro s hs hlen hlt k hk
  have hm : m ∈ s := by
   apply Classical.byContradiction
   intro hm
   have hl2 : ∀ x ∈ s, x < m := fun x hx => by
    have := hlt x hx
    have : x ≠ m := fun e => hm (e ▸ hx)
    omega
   match s, hlen with
   | y :: s', hlen =>
    have hs' := List.nodup_cons.1 hs
    have := ih s' hs'.2 (by simpa using hlen) (fun x hx => hl2 x (List.mem_cons_of_mem _ hx)) y (hl2 y List.mem_cons_self)
    exact hs'.1 this
  by_cases hkm : k = m
  ·exact hkm ▸ hm
  ·have := ih (s.erase m) (hs.erase m) (by rw [List.length_erase_of_mem hm]; omega) (fun x hx => by
    have h1 := hlt x (List.mem_of_mem_erase hx)
    have h2 : x ≠ m := fun e => by subst e; exact absurd hx (List.Nodup.not_mem_erase hs)
    omega) k (by omega)
   exact List.mem_of_mem_erase this
theorem ext_edges : ∀ (ord done : List Nat), extB ops done ord = true → (∀ x ∈ done, x < ops.size) → ∀ k ∈ ord, ∀ ok, ops[k]? = some ok → ∀ e ∈ ok.after, Region.binds .any e = true → e.on < ops.size := by
 intro ord
 induction ord with
 | nil => intro _ _ _ k hk; cases hk
 | cons i r ih =>
  intro done h1 h2 k hk ok hok e he hb
  simp only [extB, Bool.and_eq_true] at h1
  cases hi : ops[i]? with
  | none => rw [hi] at h1; simp at h1
  | some oi =>
   rcases List.mem_cons.1 hk with rfl | hk
   ·rw [hi] at hok; obtain rfl := Option.some.inj hok
    rw [hi] at h1
    have := List.all_eq_true.1 h1.1 e (by simpa using he)
    simp only [hb, Bool.not_true, Bool.false_or] at this
    exact h2 e.on (by simpa using this)
   ·exact ih (i :: done) h1.2 (fun x hx => by
     rcases List.mem_cons.1 hx with rfl | hx
     ·exact (Array.getElem?_eq_some_iff.1 hi).1
     ·exact h2 x hx) k hk ok hok e he hb
theorem wp_region_head {N : Frm} {id : Nat} {l : List Oper} {a : Act} {w : World} (qs ls : List Nat) (hm : P.follows .mixedOrders = true) (hB : rig2B P l qs ls = true) (hC : C w.drew) (h : wpQ P l.toArray C (fun a => ∀ w, C w → wpOps P l.toArray (QN Q) ls a w) qs a) : wq P N (.region id l.toArray true) Q a w := by
 simp only [rig2B, Bool.and_eq_true, decide_eq_true_eq] at hB
 obtain ⟨⟨⟨⟨⟨⟨hsel, hlen⟩, hnd⟩, hext⟩, hhead⟩, hcross⟩, hpairs⟩ := hB
 have hlen := Nat.eq_of_beq_eq_true hlen
 obtain ⟨he1, he2⟩ := ext_ok hext (by simp) hnd
 have hall : ∀ k, k < l.length → k ∈ qs ++ ls := all_in l.length _ hnd hlen (fun x hx => by simpa using he2 x hx)
 have hedge : ∀ (j : Nat) (o : Oper), l.toArray[j]? = some o → ∀ e ∈ o.after, Region.binds .any e = true → e.on < l.toArray.size := fun j o ho e he hb =>
  ext_edges _ _ hext (by simp) j (hall j (by simpa using (Array.getElem?_eq_some_iff.1 ho).1)) o ho e he hb
 refine wq_any hm ?_
 have hA := ancs_ok l
 have := any_of_head (P := P) (Q := Q) (C := C) (Region.noSelect_spec hsel) hedge (pairs_ok hA hpairs) qs.length qs (Array.replicate l.toArray.size false) a w.drew rfl hC
  ⟨hnd, by simp, he2, fun k hk => by
   have h1 : k ∈ qs ++ ls := hall k (by simpa using hk)
   have hk' : k < l.length := by simpa using hk
   have h2 : (Array.replicate l.toArray.size false).getD k true = false := by simp [Array.getD_eq_getD_getElem?, hk']
   exact ⟨fun _ => h1, fun _ => h2⟩, he1, fun j o ho hj => absurd (hall j (by simpa using (Array.getElem?_eq_some_iff.1 ho).1)) hj⟩
  (head_ok hA hhead) (fun j hj i hi => by
   have := List.all_eq_true.1 (List.all_eq_true.1 hcross j hj) i hi
   simp only [Bool.or_eq_true] at this
   rcases this with h1 | h1
   ·exact .inl (hA j i (by simpa using h1))
   ·cases ho : l.toArray[i]? with
    | none => rw [ho] at h1; simp at h1
    | some oi =>
     cases ho' : l.toArray[j]? with
     | none => rw [ho, ho'] at h1; simp at h1
     | some oj =>
      rw [ho, ho'] at h1
      simp only [Bool.and_eq_true] at h1
      exact .inr ⟨oi, oj, ho, ho', h1.1, Nat.eq_of_beq_eq_true h1.2⟩) h
 have e : qs.length + ls.length = l.toArray.size := by simpa using hlen
 rw [e] at this
 exact this
theorem q_of_list {ops : Array Oper} {K : Act → Prop} : ∀ (ord : List Nat) (a : Act), (∀ i ∈ ord, i < ops.size) → wpQuiet P ops C K (ord.filterMap (ops.toList[·]?)) a → wpQ P ops C K ord a
 | [], a, _, h => h
 | i :: r, a, hlt, h => by
  have hi := hlt i List.mem_cons_self
  have ho : ops[i]? = some ops[i] := Array.getElem?_eq_getElem hi
  have ho' : ops.toList[i]? = some ops[i] := by simp [hi]
  rw [List.filterMap_cons, ho'] at h
  simp only [wpQuiet] at h
  simp only [wpQ, qOp, ho]
  have ih := fun a => q_of_list (K := K) r a (fun k hk => hlt k (List.mem_cons_of_mem _ hk))
  split
  ·rename_i hw
   rw [if_pos hw] at h
   exact Oper.quiet_mono (fun a hh => ih a hh) h
  ·rename_i hw
   rw [if_neg hw] at h
   exact ih _ h
end
section
variable {P : Program} {N : Frm} {w0 : World} {Wr : List Nat} {fr : Fr} {H : Heap} {Q : Exit → Act → World → Prop}
theorem awh_region {id : Nat} {l l1 l2 : List Oper} (qs ls : List Nat) (hm : P.follows .mixedOrders = true) (hB : rig2B P l qs ls = true) (h1 : inOrd l qs = l1) (h2 : inOrd l ls = l2)
  (h : ∀ Z : Fr → Heap → Prop, (∀ fr H, nx N w0 Wr fr H Q .normal → Z fr H) → sq P N w0 Wr l.toArray l1 fr H (fun fr' H' => sx P N w0 Wr l.toArray l2 fr' H' Z)) : awp P N w0 Wr (.region id l.toArray true) fr H Q :=
 fun a w ha hw => by
  have hlt : ∀ i ∈ qs ++ ls, i < l.toArray.size := by
   have hB' := hB
   simp only [rig2B, Bool.and_eq_true, decide_eq_true_eq] at hB'
   exact (ext_ok hB'.1.1.1.2 (by simp) hB'.1.1.1.1.2).2
  refine wp_region_head (C := Sat w0 Wr H) qs ls hm hB hw.drew (q_of_list qs a (fun i hi => hlt i (List.mem_append_left _ hi)) ?_)
  have := h (fun fr H => nx N w0 Wr fr H Q .normal) (fun _ _ h => h) (fun a' => ∀ w', Sat w0 Wr H w' → wpOps P l.toArray (QN Q) ls a' w') (fun fr' a' hz hf w' hw' =>
   ops_of_list ls a' w' (fun i hi => hlt i (List.mem_append_right _ hi)) (by
    have := hz (QN Q) (fun fr' H' a w hz hf hs => ⟨rfl, hz a w hf hs⟩) a' w' hf hw'
    rw [← h2] at this
    simpa [inOrd] using this)) a ha
  rw [← h1] at this
  simpa [inOrd] using this
end
end Go.Proofs.YtkojkeabelckjaaGreatDoor
namespace Go.Proofs.YtkojkeabelckjaaGreatDoor
open Go.RowKit
section
variable {P : Program} {ops : Array Oper} {Q : Exit → Act → World → Prop} {C : World → Prop} {a b : Act} {w : World} {i j : Nat} {o oi oj : Oper} {v u : Value}
def YAll (P : Program) (ops : Array Oper) (o : Oper) (v : Value) (a : Act) : Prop := ∀ w, YAt P ops o v a w
theorem YAt.uniq (h : YAt P ops o v a w) (k : YAt P ops o u a w) : v = u := by
 rcases h with ⟨h1, h2⟩ | ⟨h1, rfl⟩
 ·rcases k with ⟨k1, k2⟩ | ⟨k1, rfl⟩
  ·rw [h2] at k2; injection k2 with k2; injection k2
  ·rw [h1] at k1; cases k1
 ·rcases k with ⟨k1, k2⟩ | ⟨k1, rfl⟩
  ·rw [h1] at k1; cases k1
  ·rfl
theorem YAt.back {d : Option Nat} (hy : YAt P ops o v b w) (h : Near a d b) (hs : ∀ cs b, o.op ≠ .select cs b) (hd : ∀ t, d = some t → t ∉ o.looksAt ops) : YAt P ops o v a w := by
 obtain ⟨h1, h2⟩ := h.eval (ops := ops) o hs hd
 unfold YAt at hy
 rw [h1, h2] at hy
 exact hy
theorem mem_fst {l : List (Nat × Bool)} {j : Nat} (h : j ∈ l.map Prod.fst) : ∃ b, (j, b) ∈ l := by
 obtain ⟨⟨k, b⟩, h1, rfl⟩ := List.mem_map.1 h
 exact ⟨b, h1⟩
def apB (ops : Array Oper) (i j : Nat) : Bool := match ops[i]?, ops[j]? with | some oi, some oj => oi.apart ops oj | _, _ => false
theorem apB_ok {i j : Nat} (h : apB ops i j = true) : ∃ oi oj, ops[i]? = some oi ∧ ops[j]? = some oj ∧ oi.apart ops oj = true := by
 unfold apB at h
 split at h
 ·rename_i oi oj h1 h2; exact ⟨oi, oj, h1, h2, h⟩
 ·cases h
end
end Go.Proofs.YtkojkeabelckjaaGreatDoor
