/- Walks and plain laws for this claim (texts Gsx2, Mem, Gsx3, Ty, MapOwn, joined). Each theorem states its own conditions. -/
import Derived.Test.YteofkgedfjffcaaGreatDoorJ01
import Derived.Deep.Quiet
import Derived.Maps.AppendAt
import Derived.Deep.AppendLies
import Derived.Deep.Onto
import Derived.Laws.OwnMore
import Derived.ArgAppend
import Derived.Laws.IdiomStrings
import Derived.Test.YteofkgedfjffcaaGreatDoorRows
import Derived.MapKept
import Derived.Maps.Own
set_option linter.all false
namespace Go.Proofs.YteofkgedfjffcaaGreatDoor
section
open Go.RowKit
def sq (P : Program) (N : Frm) (w0 : World) (Wr : List Nat) (ops : Array Oper) (l : List Oper) (fr : Fr) (H : Heap) (Z : Fr → Heap → Prop) : Prop :=
 ∀ (Q : Act → Prop), (∀ fr' a, Z fr' H → FrOk N fr' a → Q a) → ∀ a, FrOk N fr a → wpQuiet P ops (Sat w0 Wr H) Q l a
section
variable {P : Program} {N : Frm} {w0 : World} {Wr : List Nat} {ops : Array Oper} {rest : List Oper} {fr : Fr} {H : Heap} {Z : Fr → Heap → Prop}
variable {d ty : Nat} {pos : String} {after : Array Edge}
theorem jE9 (h : Z fr H) : sq P N w0 Wr ops [] fr H Z := fun _ hQ a ha => hQ _ a h ha
theorem jJ0 {op : Op} {d ty : Nat} {pos : String} {after : Array Edge} (v : Value) (hN : bN d N)
  (hrun : ∀ (a : Act) (w : World), FrOk N fr a → Sat w0 Wr H w → (execOp a.eval ⟨some d, op, ty, pos, after, none⟩).run P w = .ok (.value v) w)
  (h : sq P N w0 Wr ops rest ((d, v) :: fr) H Z) : sq P N w0 Wr ops (⟨some d, op, ty, pos, after, none⟩ :: rest) fr H Z :=
 fun Q hQ a ha => wpQuiet_step fun K hK => by
  rw [if_pos (show Region.wanted (⟨some d, op, ty, pos, after, none⟩ : Oper) (yielded ops a.tmps) = true from rfl)]
  refine ⟨v, fun w hw => ?_, hK _ (h Q hQ _ (ha.put hN v))⟩
  unfold Oper.quietAt
  rw [hrun a w ha hw]
  exact ⟨rfl, rfl⟩
theorem vP9 {f : FuncId} {xs : List Operand} {vs : List Value} {ts : Array TypeId} {v : Value} (hE : Enters P f) (hx : evs fr xs = some vs) (hN : bN d N)
  (hc : ∀ w, Sat w0 Wr H w → Calls P f vs.toArray w fun e w' => e = .returned v ∧ Sat w0 Wr H w')
  (h : sq P N w0 Wr ops rest ((d, v) :: fr) H Z) :
  sq P N w0 Wr ops (⟨some d, .call { callee := .value (.func f), args := xs.toArray, argTypes := ts }, ty, pos, after, none⟩ :: rest) fr H Z :=
 fun Q hQ a ha => wpQuiet_step fun K hK => by
  rw [if_pos (show Region.wanted (⟨some d, .call { callee := .value (.func f), args := xs.toArray, argTypes := ts }, ty, pos, after, none⟩ : Oper) (yielded ops a.tmps) = true from rfl)]
  refine ⟨v, fun w hw => ?_, hK _ (h Q hQ _ (ha.put hN v))⟩
  unfold Oper.quietAt
  rw [vQ2 hE (ha.evals hx) rfl]
  exact ⟨rfl, hc w hw⟩
theorem jG2 {f : FuncId} {xs : List Operand} {vs : List Value} {ts : Array TypeId} {v : Value} (hc : Fn P f vs [] fun u _ => u = v) (hx : evs fr xs = some vs) (hN : bN d N)
  (h : sq P N w0 Wr ops rest ((d, v) :: fr) H Z) :
  sq P N w0 Wr ops (⟨some d, .call { callee := .value (.func f), args := xs.toArray, argTypes := ts }, ty, pos, after, none⟩ :: rest) fr H Z :=
 vP9 hc.1 hx hN (fun w hw => (hc.2 w (Sat.nil w)).mono fun e w' he => by
  obtain ⟨u, H', rfl, rfl, hS⟩ := he
  exact ⟨rfl, hw.bel hS.only.bel⟩) h
theorem zM9 {dst : Option Nat} {op : Op} {j t : Nat} {b : Bool} {oj : Oper} (hj : ops[j]? = some oj) (ht : oj.dst = some t) (hb : lk fr t = some (.bool b))
  (h : sq P N w0 Wr ops (⟨dst, op, ty, pos, after, none⟩ :: rest) fr H Z) : sq P N w0 Wr ops (⟨dst, op, ty, pos, after, some (j, b)⟩ :: rest) fr H Z :=
 fun Q hQ a ha => by
  have hk := h Q hQ a ha
  have hy : yielded ops a.tmps j = some b := by
   have := ha.at_ t _ hb
   simp [yielded, hj, ht, this]
  unfold wpQuiet at hk ⊢
  have h1 : Region.wanted (⟨dst, op, ty, pos, after, none⟩ : Oper) (yielded ops a.tmps) = true := rfl
  have h2 : Region.wanted (⟨dst, op, ty, pos, after, some (j, b)⟩ : Oper) (yielded ops a.tmps) = true := by simp [Region.wanted, hy]
  rw [if_pos h1] at hk
  rw [if_pos h2]
  exact hk
theorem jA4 {dst : Option Nat} {op : Op} {j t : Nat} {b : Bool} {oj : Oper} (h : sq P N w0 Wr ops (⟨dst, op, ty, pos, after, none⟩ :: rest) fr H Z) (hj : ops[j]? = some oj := by exact rfl) (ht : oj.dst = some t := by exact rfl) (hb : lk fr t = some (.bool b) := by exact rfl) : sq P N w0 Wr ops (⟨dst, op, ty, pos, after, some (j, b)⟩ :: rest) fr H Z := zM9 hj ht hb h
theorem qO {op : Op} {j t : Nat} {b b' : Bool} {oj : Oper} (hj : ops[j]? = some oj) (ht : oj.dst = some t) (hb : lk fr t = some (.bool b)) (hne : (b == b') = false) (hN : bN d N)
  (h : sq P N w0 Wr ops rest ((d, undef) :: fr) H Z) : sq P N w0 Wr ops (⟨some d, op, ty, pos, after, some (j, b')⟩ :: rest) fr H Z :=
 fun Q hQ a ha => by
  have hy : yielded ops a.tmps j = some b := by
   have := ha.at_ t _ hb
   simp [yielded, hj, ht, this]
  unfold wpQuiet
  have h2 : Region.wanted (⟨some d, op, ty, pos, after, some (j, b')⟩ : Oper) (yielded ops a.tmps) = false := by simp [Region.wanted, hy]; simpa using hne
  rw [if_neg (by simp [h2])]
  exact h Q hQ _ (ha.put hN undef)
theorem qO0 {op : Op} {j t : Nat} {b b' : Bool} {oj : Oper} (h : sq P N w0 Wr ops rest ((d, undef) :: fr) H Z) (hj : ops[j]? = some oj := by exact rfl) (ht : oj.dst = some t := by exact rfl) (hb : lk fr t = some (.bool b) := by exact rfl) (hne : (b == b') = false := by exact rfl) (hN : Nat.ble (d + 1) N.n = true := by exact rfl) : sq P N w0 Wr ops (⟨some d, op, ty, pos, after, some (j, b')⟩ :: rest) fr H Z := qO hj ht hb hne hN h
theorem jK3 {l : List Oper} (t : Nat) {b : Bool} (hb : lk fr t = some (.bool b)) (h1 : b = true → sq P N w0 Wr ops l ((t, .bool true) :: fr) H Z) (h2 : b = false → sq P N w0 Wr ops l ((t, .bool false) :: fr) H Z) : sq P N w0 Wr ops l fr H Z := by
 have key : ∀ c, b = c → sq P N w0 Wr ops l ((t, .bool c) :: fr) H Z → sq P N w0 Wr ops l fr H Z := fun c hc h Q hQ a ha => by
  refine h Q hQ a ⟨ha.size, ha.defers, fun k v hv => ?_⟩
  simp only [lk] at hv
  cases hbq : Nat.beq t k with
  | true =>
   rw [hbq] at hv
   obtain rfl := x6 hbq
   simp only [cond_true] at hv
   rw [← hv, ← hc]
   exact ha.at_ t _ hb
  | false => rw [hbq] at hv; exact ha.at_ k v hv
 cases hbb : b with
 | true => exact key true hbb (h1 hbb)
 | false => exact key false hbb (h2 hbb)
theorem jJ1 {l : List Oper} (t : Nat) {b : Bool} (hb : lk fr t = some (.bool b)) (c : Bool) (e : b = c) (h : sq P N w0 Wr ops l ((t, .bool c) :: fr) H Z) : sq P N w0 Wr ops l fr H Z := by
 subst e
 cases b
 ·exact jK3 t hb (fun hh => by cases hh) (fun _ => h)
 ·exact jK3 t hb (fun _ => h) (fun hh => by cases hh)
theorem qM {x : Operand} {v : Value} (hx : ev fr x = some v) (hN : bN d N) (h : sq P N w0 Wr ops rest ((d, v) :: fr) H Z) : sq P N w0 Wr ops (⟨some d, .move x, ty, pos, after, none⟩ :: rest) fr H Z :=
 jJ0 v hN (fun a w ha _ => by rw [← ha.eval hx]; rfl) h
theorem jB8 {x : Operand} {v : Value} (hx : ev fr x = some v) (hN : bN d N) (h : sq P N w0 Wr ops rest ((d, v) :: fr) H Z) : sq P N w0 Wr ops (⟨some d, .assign x, ty, pos, after, none⟩ :: rest) fr H Z :=
 jJ0 v hN (fun a w ha _ => by rw [← ha.eval hx]; rfl) h
theorem jC7 {x : Operand} {g o : Nat} (hx : ev fr x = some (ptr g o)) (hN : bN d N) (h : sq P N w0 Wr ops rest ((d, ptr g o) :: fr) H Z) : sq P N w0 Wr ops (⟨some d, .nilCheck x, ty, pos, after, none⟩ :: rest) fr H Z :=
 jJ0 _ hN (fun a w ha _ => by simp only [execOp, ha.eval hx, ptr]; rfl) h
theorem kV7 (i : Nat) {t : TypeId} {x : Operand} {g o : Nat} {e : TypeId} {cs : List Value} {agg : Bool} {n : Nat} {v : Value} (hx : ev fr x = some (ptr g o)) (hH : H[i]? = some (.own g e cs)) (ht : tyAgg P t = some agg) (hn : tySize P t = some n) (hv : rdV agg n cs o = some v) (hN : bN d N)
  (h : sq P N w0 Wr ops rest ((d, v) :: fr) H Z) : sq P N w0 Wr ops (⟨some d, .load t x, ty, pos, after, none⟩ :: rest) fr H Z :=
 jJ0 v hN (fun a w ha hw => by
  have hc := Ent.cell (hw.mem hH)
  simp only [execOp, Instr.loadAt, ha.eval hx, ptr, Instr.sureAddr, lJ, l7, lR]
  rw [jP2 ht hn hv (fun j u hu => (hc j).trans hu)]
  rfl) h
theorem jA9 (i : Nat) {t : TypeId} {x : Operand} {g o : Nat} {e : TypeId} {cs : List Value} {agg : Bool} {n : Nat} {v : Value} (ht : tyAgg P t = some agg) (hn : tySize P t = some n) (h : sq P N w0 Wr ops rest ((d, v) :: fr) H Z) (hx : ev fr x = some (ptr g o) := by exact rfl) (hH : H[i]? = some (.own g e cs) := by exact rfl) (hv : rdV agg n cs o = some v := by exact rfl) (hN : Nat.ble (d + 1) N.n = true := by exact rfl) : sq P N w0 Wr ops (⟨some d, .load t x, ty, pos, after, none⟩ :: rest) fr H Z := kV7 i hx hH ht hn hv hN h
theorem jM6 (i : Nat) {t : TypeId} {x : Operand} {g o : Nat} {e : TypeId} {cs cs' : List Value} {n : Nat} (hx : ev fr x = some (ptr g o)) (hH : H[i]? = some (.own g e cs)) (ht : tyAgg P t = some true) (hn : tySize P t = some n) (hle : Nat.ble (o + n) cs.length = true) (hv : (cs.drop o).take n = cs') (hN : bN d N)
  (h : sq P N w0 Wr ops rest ((d, .agg cs'.toArray) :: fr) H Z) : sq P N w0 Wr ops (⟨some d, .load t x, ty, pos, after, none⟩ :: rest) fr H Z :=
 kV7 i hx hH ht hn (by subst hv; simp [rdV, hle]) hN h
theorem jK1 (i : Nat) {t : TypeId} {x : Operand} {g o o' : Nat} {cs : List Value} {agg : Bool} {n : Nat} {v : Value} (hx : ev fr x = some (ptr g o)) (hH : H[i]? = some (.ro g o' cs)) (k : Nat) (ho : o = o' + k) (ht : tyAgg P t = some agg) (hn : tySize P t = some n) (hv : rdV agg n cs k = some v) (hN : bN d N)
  (h : sq P N w0 Wr ops rest ((d, v) :: fr) H Z) : sq P N w0 Wr ops (⟨some d, .load t x, ty, pos, after, none⟩ :: rest) fr H Z := jJ0 v hN (kD4 i hx hH k ho ht hn hv) h
theorem qFA {s i : Nat} {x : Operand} {g o off n o' : Nat} {b : Bool} (hx : ev fr x = some (ptr g o)) (hf : tyF P s i = some (off, n, b)) (ho : o + off = o') (hN : bN d N)
  (h : sq P N w0 Wr ops rest ((d, ptr g o') :: fr) H Z) : sq P N w0 Wr ops (⟨some d, .fieldAddr s x i, ty, pos, after, none⟩ :: rest) fr H Z := jJ0 _ hN (fun a w q _ => sFAc hx hf ho a w q) h
theorem qFA0 {s i : Nat} {x : Operand} {g o off n o' : Nat} {b : Bool} (hf : tyF P s i = some (off, n, b)) (h : sq P N w0 Wr ops rest ((d, ptr g o') :: fr) H Z) (hx : ev fr x = some (ptr g o) := by exact rfl) (ho : o + off = o' := by first | (simp only [qS]; first | done | rfl) | rfl) (hN : Nat.ble (d + 1) N.n = true := by exact rfl) : sq P N w0 Wr ops (⟨some d, .fieldAddr s x i, ty, pos, after, none⟩ :: rest) fr H Z := qFA hx hf ho hN h
theorem jX8 {op : BinOp} {t t' : TypeId} {x y : Operand} {k : IntKind} {m n : Int} (v : Value) (hx : ev fr x = some (.int k m)) (hy : ev fr y = some (.int k n)) (hv : ∀ w, (binOp op t (.int k m) (.int k n)).run P w = .ok v w) (hN : bN d N)
  (h : sq P N w0 Wr ops rest ((d, v) :: fr) H Z) : sq P N w0 Wr ops (⟨some d, .binOp op t x y t', ty, pos, after, none⟩ :: rest) fr H Z :=
 jJ0 v hN (fun a w ha _ => by
  have hg : (eqGuard op t x y (.int k m) (.int k n)).run P w = .ok () w := by
   unfold eqGuard
   split <;> rfl
  simp only [execOp, ha.eval hx, ha.eval hy, lJ, hg, lR, hv w]
  rfl) h
theorem kL2 {t t' : TypeId} {x y : Operand} {k : IntKind} {m n : Int} (hx : ev fr x = some (.int k m)) (hy : ev fr y = some (.int k n)) (r : Int) (hr : k.wrap (m + n) = r) (hN : bN d N)
  (h : sq P N w0 Wr ops rest ((d, .int k r) :: fr) H Z) : sq P N w0 Wr ops (⟨some d, .binOp .add t x y t', ty, pos, after, none⟩ :: rest) fr H Z :=
 jX8 _ hx hy (fun w => by subst hr; simp [binOp, Op.intArith]) hN h
theorem vP7 {t t' : TypeId} {x y : Operand} {k : IntKind} {m n : Int} (hx : ev fr x = some (.int k m)) (hy : ev fr y = some (.int k n)) (r : Int) (hr : k.wrap (m - n) = r) (hN : bN d N)
  (h : sq P N w0 Wr ops rest ((d, .int k r) :: fr) H Z) : sq P N w0 Wr ops (⟨some d, .binOp .sub t x y t', ty, pos, after, none⟩ :: rest) fr H Z :=
 jX8 _ hx hy (fun w => by subst hr; simp [binOp, Op.intArith]) hN h
theorem kP5 {t t' : TypeId} {x y : Operand} {k : IntKind} {m n : Int} (hx : ev fr x = some (.int k m)) (hy : ev fr y = some (.int k n)) (hN : bN d N)
  (h : sq P N w0 Wr ops rest ((d, .bool (decide (m < n))) :: fr) H Z) : sq P N w0 Wr ops (⟨some d, .binOp .lss t x y t', ty, pos, after, none⟩ :: rest) fr H Z :=
 jX8 _ hx hy (fun w => by simp [binOp, Op.intCmp]) hN h
theorem kP6 {t t' : TypeId} {x y : Operand} {k : IntKind} {m n : Int} (hx : ev fr x = some (.int k m)) (hy : ev fr y = some (.int k n)) (hN : bN d N)
  (h : sq P N w0 Wr ops rest ((d, .bool (decide (n < m))) :: fr) H Z) : sq P N w0 Wr ops (⟨some d, .binOp .gtr t x y t', ty, pos, after, none⟩ :: rest) fr H Z :=
 jX8 _ hx hy (fun w => by simp [binOp, Op.intCmp]) hN h
theorem wF4 {t t' : TypeId} {x y : Operand} {k : IntKind} {m n : Int} (hx : ev fr x = some (.int k m)) (hy : ev fr y = some (.int k n)) (hN : bN d N)
  (h : sq P N w0 Wr ops rest ((d, .bool (decide (n ≤ m))) :: fr) H Z) : sq P N w0 Wr ops (⟨some d, .binOp .geq t x y t', ty, pos, after, none⟩ :: rest) fr H Z :=
 jX8 _ hx hy (fun w => by simp [binOp, Op.intCmp]) hN h
theorem jP1 {t t' : TypeId} {x y : Operand} {k : IntKind} {m n : Int} (hx : ev fr x = some (.int k m)) (hy : ev fr y = some (.int k n)) (hN : bN d N)
  (h : sq P N w0 Wr ops rest ((d, .bool (m == n)) :: fr) H Z) : sq P N w0 Wr ops (⟨some d, .binOp .eql t x y t', ty, pos, after, none⟩ :: rest) fr H Z :=
 jX8 _ hx hy (fun w => by simp [binOp, Op.intCmp]) hN h
theorem vC5 {t t' : TypeId} {x y : Operand} {k : IntKind} {m n : Int} (hx : ev fr x = some (.int k m)) (hy : ev fr y = some (.int k n)) (hN : bN d N)
  (h : sq P N w0 Wr ops rest ((d, .bool (m != n)) :: fr) H Z) : sq P N w0 Wr ops (⟨some d, .binOp .neq t x y t', ty, pos, after, none⟩ :: rest) fr H Z :=
 jX8 _ hx hy (fun w => by simp [binOp, Op.intCmp]) hN h
theorem wF2 {op : BinOp} {t t' : TypeId} {x y : Operand} {l m : List UInt8} (v : Value) (hx : ev fr x = some (.string (str l))) (hy : ev fr y = some (.string (str m))) (hv : ∀ w, (binOp op t (.string (str l)) (.string (str m))).run P w = .ok v w) (hN : bN d N)
  (h : sq P N w0 Wr ops rest ((d, v) :: fr) H Z) : sq P N w0 Wr ops (⟨some d, .binOp op t x y t', ty, pos, after, none⟩ :: rest) fr H Z :=
 jJ0 v hN (fun a w ha _ => by
  have hg : (eqGuard op t x y (.string (str l)) (.string (str m))).run P w = .ok () w := by
   unfold eqGuard
   split <;> rfl
  simp only [execOp, ha.eval hx, ha.eval hy, lJ, hg, lR, hv w]
  rfl) h
theorem jW9 {t t' : TypeId} {x y : Operand} {l m : List UInt8} (hx : ev fr x = some (.string (str l))) (hy : ev fr y = some (.string (str m))) (hl : l.length + m.length ≤ 9223372036854775807) (hN : bN d N)
  (h : sq P N w0 Wr ops rest ((d, .string (str (l ++ m))) :: fr) H Z) : sq P N w0 Wr ops (⟨some d, .binOp .add t x y t', ty, pos, after, none⟩ :: rest) fr H Z :=
 wF2 _ hx hy (fun w => by
  have : ¬ (((str l).size + (str m).size : Nat) : Int) > IntKind.i64.max := by
   rw [str_size, str_size]; show ¬ (_ : Int) > 9223372036854775807; omega
  simp only [binOp, Op.stringOp, this, if_false, wE8]
  rfl) hN h
theorem wF3 {t t' : TypeId} {x y : Operand} {l m : List UInt8} (hx : ev fr x = some (.string (str l))) (hy : ev fr y = some (.string (str m))) (hN : bN d N)
  (h : sq P N w0 Wr ops rest ((d, .bool (l != m)) :: fr) H Z) : sq P N w0 Wr ops (⟨some d, .binOp .neq t x y t', ty, pos, after, none⟩ :: rest) fr H Z :=
 wF2 _ hx hy (fun w => by simp [binOp, Op.stringOp, vJ0, bne]) hN h
theorem yJ0 {t : TypeId} {x : Operand} {b : Bool} (hx : ev fr x = some (.bool b)) (hN : bN d N)
  (h : sq P N w0 Wr ops rest ((d, .bool (!b)) :: fr) H Z) : sq P N w0 Wr ops (⟨some d, .unOp .not t x, ty, pos, after, none⟩ :: rest) fr H Z :=
 jJ0 _ hN (fun a w ha _ => by simp only [execOp, ha.eval hx]; rfl) h
theorem jO6 {x : Operand} {i : Nat} {vs : List Value} {v : Value} (hx : ev fr x = some (.tuple vs.toArray)) (hv : vs[i]? = some v) (hN : bN d N)
  (h : sq P N w0 Wr ops rest ((d, v) :: fr) H Z) : sq P N w0 Wr ops (⟨some d, .extract x i, ty, pos, after, none⟩ :: rest) fr H Z :=
 jJ0 v hN (fun a w ha _ => by
  have : vs.toArray[i]? = some v := by simpa using hv
  simp only [execOp, ha.eval hx, Instr.extract, this]; rfl) h
theorem vP8 {x : Operand} {t e : TypeId} {A : Option Addr} {n c : Nat} (ht : P.underlying t = some (.slice e)) (hx : ev fr x = some (.slice A n c)) (hN : bN d N)
  (h : sq P N w0 Wr ops rest ((d, .int .i64 n) :: fr) H Z) : sq P N w0 Wr ops (⟨some d, .call { callee := .builtin .len, args := #[x], argTypes := #[t] }, ty, pos, after, none⟩ :: rest) fr H Z :=
 jJ0 _ hN (fun a w ha _ => by
  have := ha.eval hx
  simp [execOp, resolve, invoke, builtin, this, lJ, Builtin.len_, run_underlying ht, goInt]) h
theorem jP0 {x : Operand} {t : TypeId} {l : List UInt8} (ht : P.underlying t = some .string) (hx : ev fr x = some (.string (str l))) (hN : bN d N)
  (h : sq P N w0 Wr ops rest ((d, .int .i64 (l.length : Int)) :: fr) H Z) : sq P N w0 Wr ops (⟨some d, .call { callee := .builtin .len, args := #[x], argTypes := #[t] }, ty, pos, after, none⟩ :: rest) fr H Z :=
 jJ0 _ hN (fun a w ha _ => by
  have := ha.eval hx
  simp [execOp, resolve, invoke, builtin, this, lJ, Builtin.len_, run_underlying ht, goInt, str_size]) h
theorem jZ9 {t : Nat} {x y : Operand} {l : List UInt8} {k : IntKind} {i : Int} {c : UInt8} (ht : P.underlying t = some .string) (hx : ev fr x = some (.string (str l))) (hy : ev fr y = some (.int k i)) (hi : 0 ≤ i) (hv : l[i.toNat]? = some c) (hN : bN d N)
  (h : sq P N w0 Wr ops rest ((d, .int .u8 (c.toNat : Int)) :: fr) H Z) : sq P N w0 Wr ops (⟨some d, .index t x y, ty, pos, after, none⟩ :: rest) fr H Z := jJ0 _ hN (kD5 ht hx hy hi hv) h
theorem jG1 {t e n g o len c : Nat} {x y : Operand} {k : IntKind} {i : Int} (o' : Nat) (ht : P.underlying t = some (.slice e)) (hs : tySize P e = some n) (hx : ev fr x = some (.slice (some ⟨g, o, none⟩) len c)) (hy : ev fr y = some (.int k i)) (hi : 0 ≤ i ∧ i < len) (ho : o + i.toNat * n = o') (hN : bN d N)
  (h : sq P N w0 Wr ops rest ((d, ptr g o') :: fr) H Z) : sq P N w0 Wr ops (⟨some d, .indexAddr t x y, ty, pos, after, none⟩ :: rest) fr H Z :=
 jJ0 _ hN (fun a w ha _ => by
  subst ho
  simp only [execOp, Instr.indexAt, ha.eval hx, ha.eval hy, asIntOf, lJ, l7, run_underlying ht, lR, if_pos hi, jC5 hs, jG5]
  rfl) h
theorem kV8 {t e n g o len : Nat} {x y : Operand} {k : IntKind} {i : Int} (o' : Nat) (ht : P.underlying t = some (.array len e)) (hs : tySize P e = some n) (hx : ev fr x = some (ptr g o)) (hy : ev fr y = some (.int k i)) (hi : 0 ≤ i ∧ i < len) (ho : o + i.toNat * n = o') (hN : bN d N)
  (h : sq P N w0 Wr ops rest ((d, ptr g o') :: fr) H Z) : sq P N w0 Wr ops (⟨some d, .indexAddr t x y, ty, pos, after, none⟩ :: rest) fr H Z :=
 jJ0 _ hN (fun a w ha _ => by
  subst ho
  simp only [execOp, Instr.indexAt, ha.eval hx, ha.eval hy, asIntOf, lJ, l7, run_underlying ht, lR, ptr, Instr.sureAddr, if_pos hi, jC5 hs, jG5]) h
theorem kL1 {t : TypeId} {x : Operand} {lo hi : Option Operand} {l : List UInt8} {i j : Int} (m : List UInt8) (ht : P.underlying t = some .string) (hx : ev fr x = some (.string (str l))) (hl : bnd fr 0 lo = some i) (hh : bnd fr (l.length : Int) hi = some j) (h0 : 0 ≤ i) (h1 : i ≤ j) (h2 : j ≤ l.length) (hm : (l.drop i.toNat).take (j.toNat - i.toNat) = m) (hN : bN d N)
  (h : sq P N w0 Wr ops rest ((d, .string (str m)) :: fr) H Z) : sq P N w0 Wr ops (⟨some d, .slice t x lo hi none, ty, pos, after, none⟩ :: rest) fr H Z := jJ0 _ hN (kD3 m ht hx hl hh h0 h1 h2 hm) h
theorem jV8 {t e n g o len c : Nat} {x : Operand} {lo hi : Option Operand} {i j : Int} (ht : P.underlying t = some (.slice e)) (hs : tySize P e = some n) (hx : ev fr x = some (.slice (some ⟨g, o, none⟩) len c)) (hl : bnd fr 0 lo = some i) (hh : bnd fr (len : Int) hi = some j) (h0 : 0 ≤ i) (h1 : i ≤ j) (h2 : j ≤ c) (hN : bN d N)
  (h : ∀ o', (i < j → o' = o + i.toNat * n) → sq P N w0 Wr ops rest ((d, .slice (some ⟨g, o', none⟩) (j.toNat - i.toNat) (c - i.toNat)) :: fr) H Z) : sq P N w0 Wr ops (⟨some d, .slice t x lo hi none, ty, pos, after, none⟩ :: rest) fr H Z :=
 jJ0 (.slice (some ⟨g, (if c = i.toNat then o else o + i.toNat * n), none⟩) (j.toNat - i.toNat) (c - i.toNat)) hN (fun a w ha _ => by
  have hb := jH5 (P := P) (isS := true) (len := len) (cap := c) (w := w) ha hl hh h0 h1 h2
  simp only [execOp, Instr.sliceAt, Instr.slice, ha.eval hx, lJ, run_underlying ht, lR, zK, hb, l7, jC5 hs, qG, jG5]
  by_cases hc : c = i.toNat <;> simp [hc]) (h _ (fun hlt => by rw [if_neg (by omega)]))
theorem kI0 {t : TypeId} {parts : List (Nat × Operand)} {pv : List (Nat × Value)} {z cs cs' : List Value} {pl : List (Nat × Nat)} (hz : tyZero P t = some z) (hp : tyPlaces P t = some pl) (hx : jM3 fr parts = some pv) (hf : kE4 (pl[·]?) z (jS8 pv) = some cs) (hn : cs = cs') (hN : bN d N)
  (h : sq P N w0 Wr ops rest ((d, .agg cs'.toArray) :: fr) H Z) : sq P N w0 Wr ops (⟨some d, .build t parts.toArray, ty, pos, after, none⟩ :: rest) fr H Z := jJ0 _ hN (kK8 hz hp hx hf hn) h
theorem jE1 {c x y : Operand} {b : Bool} {v : Value} (hc : ev fr c = some (.bool b)) (hx : ev fr (bif b then x else y) = some v) (hN : bN d N)
  (h : sq P N w0 Wr ops rest ((d, v) :: fr) H Z) : sq P N w0 Wr ops (⟨some d, .pick c x y, ty, pos, after, none⟩ :: rest) fr H Z :=
 jJ0 v hN (fun a w ha _ => by
  cases b <;> simp only [cond_true, cond_false] at hx <;> simp [execOp, ha.eval hc, ha.eval hx, asBool]) h
theorem yR3 {t t' : TypeId} {x y : Operand} {xs ys : List Value} {b : Bool} (hE : EqV P 10000 t (.agg xs.toArray) (.agg ys.toArray) b) (hG : P.eqGuardType P.depth t = false) (hx : ev fr x = some (.agg xs.toArray)) (hy : ev fr y = some (.agg ys.toArray)) (hN : bN d N)
  (h : sq P N w0 Wr ops rest ((d, .bool (!b)) :: fr) H Z) : sq P N w0 Wr ops (⟨some d, .binOp .neq t x y t', ty, pos, after, none⟩ :: rest) fr H Z :=
 jJ0 _ hN (fun a w ha _ => by
  have hg : (eqGuard .neq t x y (.agg xs.toArray) (.agg ys.toArray)).run P w = .ok () w := by
   simp [eqGuard, program, lJ, Sem.run, hG]
  have he : (Op.equal t (.agg xs.toArray) (.agg ys.toArray)).run P w = .ok b w := hE w
  simp only [execOp, ha.eval hx, ha.eval hy, lJ, hg, lR, binOp, he, l7]) h
end
section
variable {P : Program} {N : Frm} {w0 : World} {Wr : List Nat} {fr : Fr} {H : Heap} {Q : Exit → Act → World → Prop}
theorem wW3 {C : World → Prop} {ops : Array Oper} {id : Nat} {a : Act} {w : World} (hm : P.follows .mixedOrders = true) (hB : Region.lexB .any ops = true) (hC : C w.drew)
  (h : wpQuiet P ops C (fun a' => ∀ w', C w' → Q .normal a' w') ops.toList a) : wq P N (.region id ops true) Q a w := by
 simp only [Region.lexB, xM] at hB
 refine kJ0 hm (wpAny_of_quiet (Q := fun a' => ∀ w', C w' → Q .normal a' w') (fun _ w' hw' h => ⟨rfl, h w' hw'⟩) _ _ _ _ hC ?_)
 have := wpAnyQ_lex (C := C) (md := .any) hB.1 ops.toList 0 (Array.replicate ops.size false) a (by simp) (by simpa using hB.2) h
 simpa using this
theorem vZ6 {id : Nat} {l : List Oper} (hm : P.follows .mixedOrders = true) (hB : Region.lexB .any l.toArray = true) (h : ∀ Z : Fr → Heap → Prop, (∀ fr H, nx N w0 Wr fr H Q .normal → Z fr H) → sq P N w0 Wr l.toArray l fr H Z) : awp P N w0 Wr (.region id l.toArray true) fr H Q :=
 fun a w ha hw => wW3 (C := Sat w0 Wr H) hm hB hw.drew (by
  have := h (fun fr H => nx N w0 Wr fr H Q .normal) (fun _ _ h => h) (fun a' => ∀ w', Sat w0 Wr H w' → Q .normal a' w') (fun fr' a' hz hf w' hw' => hz a' w' hf hw') a ha
  simpa using this)
theorem jC1 {id : Nat} {l : List Oper} {y : Code} (hm : P.follows .mixedOrders = true) (hB : Region.lexB .any l.toArray = true) (h : ∀ Z : Fr → Heap → Prop, (∀ fr H, awp P N w0 Wr y fr H Q → Z fr H) → sq P N w0 Wr l.toArray l fr H Z) : awp P N w0 Wr (.seq (.region id l.toArray true) y) fr H Q :=
 aS (vZ6 hm hB fun Z hZ => h Z fun fr H hy => hZ fr H hy)
theorem jF0 {id : Nat} {l : List Oper} {y : Code} (F : Fr) (HH : Heap) (hm : P.follows .mixedOrders = true) (hB : Region.lexB .any l.toArray = true) (h : ∀ Z : Fr → Heap → Prop, (∀ fr H, Kn F fr → HLe HH H → Z fr H) → sq P N w0 Wr l.toArray l fr H Z) (hy : awp P N w0 Wr y F HH Q) : awp P N w0 Wr (.seq (.region id l.toArray true) y) fr H Q :=
 jC1 hm hB fun Z hZ => h Z fun fr H hk hh => hZ fr H fun a w ha hw => hy a w (ha.kn hk) (hh _ _ _ hw)
end
end
section
open Go.RowKit
section
variable {P : Program} {ops : Array Oper} {Q : Exit → Act → World → Prop} {K K' : Act → World → Prop} {a b : Act} {w : World} {i j : Nat} {o oi oj : Oper} {v u : Value}
theorem jJ5 (hi : ops[i]? = some o) : wpOp P ops (QN Q) i K a w ↔ (if Region.wanted o (yielded ops a.tmps) then o.wp P a w K (QN Q) else K (a.put o.dst undef) w) := by
 unfold wpOp
 simp only [hi]
 split
 ·exact ⟨fun h => h.resolve_right fun h => jV3 h.2, .inl⟩
 ·exact Iff.rfl
def YAt (P : Program) (ops : Array Oper) (o : Oper) (v : Value) (a : Act) (w : World) : Prop :=
 (Region.wanted o (yielded ops a.tmps) = true ∧ (execOp a.eval o).run P w = .ok (.value v) w) ∨ (Region.wanted o (yielded ops a.tmps) = false ∧ v = undef)
def wV4 (P : Program) (o : Oper) : Prop := ∀ ρ, (∃ v, ∀ w, (execOp ρ o).run P w = .ok (.value v) w) ∨ (∀ w n w', (execOp ρ o).run P w ≠ .ok n w')
def vA2 (P : Program) (o : Oper) : Prop := ∀ ρ w, (∃ v, (execOp ρ o).run P w = .ok (.value v) w ∧ ∀ b, (execOp ρ o).run P (w.alloc b) = .ok (.value v) (w.alloc b)) ∨ (∀ n w', (execOp ρ o).run P w ≠ .ok n w')
def NewO (P : Program) (o : Oper) : Prop := ∀ ρ w, (∃ v b, (execOp ρ o).run P w = .ok (.value v) (w.alloc b)) ∨ (∀ n w', (execOp ρ o).run P w ≠ .ok n w')
theorem vR5 (h : ∀ n w', (execOp a.eval o).run P w ≠ .ok n w') : ¬ o.wp P a w K (QN Q) := fun hh => by
 unfold Oper.wp at hh
 cases hr : (execOp a.eval o).run P w with
 | ok n w' => exact h n w' hr
 | halt x w' =>
  rw [hr] at hh
  cases x <;> simp only [Oper.upon] at hh <;> first | exact hh.elim | (cases hh.1)
theorem YAt.wp (hi : ops[i]? = some o) (h : YAt P ops o v a w) (hK : K (a.put o.dst v) w) : wpOp P ops (QN Q) i K a w := by
 rw [jJ5 hi]
 rcases h with ⟨h1, h2⟩ | ⟨h1, rfl⟩
 ·rw [if_pos h1]; unfold Oper.wp; rw [h2]; exact hK
 ·rw [if_neg (by simp [h1])]; exact hK
theorem YAt.elim (hi : ops[i]? = some o) (h : YAt P ops o v a w) (hh : wpOp P ops (QN Q) i K a w) : K (a.put o.dst v) w := by
 rw [jJ5 hi] at hh
 rcases h with ⟨h1, h2⟩ | ⟨h1, rfl⟩
 ·rw [if_pos h1] at hh; unfold Oper.wp at hh; rw [h2] at hh; exact hh
 ·rw [if_neg (by simp [h1])] at hh; exact hh
theorem jX9 (hi : ops[i]? = some o) (hr : vA2 P o) (h : wpOp P ops (QN Q) i K a w) : ∃ v, YAt P ops o v a w ∧ (∀ b, YAt P ops o v a (w.alloc b)) ∧ K (a.put o.dst v) w := by
 by_cases hw : Region.wanted o (yielded ops a.tmps) = true
 ·rcases hr a.eval w with ⟨v, hv, hb⟩ | hn
  ·have hy : YAt P ops o v a w := .inl ⟨hw, hv⟩
   exact ⟨v, hy, fun b => .inl ⟨hw, hb b⟩, hy.elim hi h⟩
  ·rw [jJ5 hi, if_pos hw] at h
   exact (vR5 hn h).elim
 ·have hw' : Region.wanted o (yielded ops a.tmps) = false := by simpa using hw
  have hy : ∀ w, YAt P ops o undef a w := fun w => .inr ⟨hw', rfl⟩
  exact ⟨undef, hy w, fun b => hy _, (hy w).elim hi h⟩
def Near (a : Act) (d : Option Nat) (b : Act) : Prop := ∃ u, b.tmps = (a.put d u).tmps
theorem Near.eval {d : Option Nat} (h : Near a d b) (o : Oper) (hs : ∀ cs b, o.op ≠ .select cs b) (hd : ∀ t, d = some t → t ∉ o.looksAt ops) : execOp b.eval o = execOp a.eval o ∧ Region.wanted o (yielded ops b.tmps) = Region.wanted o (yielded ops a.tmps) := by
 obtain ⟨u, hu⟩ := h
 have e : b.eval = (a.put d u).eval := by funext x; cases x <;> simp [Act.eval, hu]
 exact ⟨by rw [e]; exact execOp_put o hs a d u hd, by rw [hu]; exact wanted_put o a d u hd⟩
theorem YAt.near {d : Option Nat} (hy : YAt P ops o v a w) (h : Near a d b) (hs : ∀ cs b, o.op ≠ .select cs b) (hd : ∀ t, d = some t → t ∉ o.looksAt ops) : YAt P ops o v b w := by
 obtain ⟨h1, h2⟩ := h.eval (ops := ops) o hs hd
 unfold YAt
 rw [h1, h2]
 exact hy
theorem jY6 (hi : ops[i]? = some o) (h : wpOp P ops (QN Q) i K a w) : wpOp P ops (QN Q) i (fun b w' => K b w' ∧ Near a o.dst b) a w := by
 rw [jJ5 hi] at h ⊢
 have hn : ∀ u, Near a o.dst (a.put o.dst u) := fun u => ⟨u, rfl⟩
 split
 ·rename_i hw
  rw [if_pos hw] at h
  unfold Oper.wp at h ⊢
  cases hr : (execOp a.eval o).run P w with
  | ok n w' =>
   rw [hr] at h
   cases n <;> simp only [Oper.upon] at h ⊢
   case value x => exact ⟨h, hn _⟩
   case skip => exact ⟨h, hn _⟩
   case defer d => exact ⟨h, ⟨undef, by cases o.dst <;> rfl⟩⟩
   case enter f args =>
    refine Calls.mono h fun e w'' he => ?_
    cases e with
    | returned x => exact ⟨he, hn _⟩
    | panicked c => exact he
    | outgrown => exact (jV3 he).elim
   case row r args => exact Rows.mono h fun x w'' he => ⟨he, hn _⟩
   all_goals exact h
  | halt x w' =>
   rw [hr] at h
   cases x <;> simp only [Oper.upon] at h ⊢ <;> first | exact h.elim | (cases h.1)
 ·rename_i hw
  rw [if_neg hw] at h
  exact ⟨h, hn _⟩
theorem kO9 (hi : ops[i]? = some o) (h : wpOp P ops (QN Q) i (fun _ _ => False) a w) : False := by
 rw [jJ5 hi] at h
 split at h
 ·unfold Oper.wp at h
  cases hr : (execOp a.eval o).run P w with
  | ok n w' =>
   rw [hr] at h
   cases n <;> simp only [Oper.upon] at h
   case enter f args =>
    obtain ⟨e, w'', fr, hR, _⟩ := h []
    cases e with
    | returned x => exact hR
    | panicked c => cases hR.1
    | outgrown => exact jV3 hR
   case row r args =>
    obtain ⟨x, w'', hR, _⟩ := h default []
    exact hR
  | halt x w' =>
   rw [hr] at h
   cases x <;> simp only [Oper.upon] at h <;> first | exact h | (cases h.1)
 ·exact h
theorem jR3 (hj : ops[j]? = some oj) {d : Option Nat} (hs : ∀ cs b, oj.op ≠ .select cs b) (h1 : ∀ t, d = some t → t ∉ oj.looksAt ops) (h2 : ∀ t, d = some t → oj.dst ≠ some t) :
  wpOp P ops (QN Q) j K (a.put d v) w ↔ wpOp P ops (QN Q) j (fun b w' => K (b.put d v) w') a w := by
 rw [jJ5 hj, jJ5 hj, wanted_put oj a d v h1]
 have hc : ∀ u, (a.put d v).put oj.dst u = (a.put oj.dst u).put d v := fun u => Act.put_comm a v u h2
 split
 ·unfold Oper.wp
  rw [execOp_put oj hs a d v h1]
  cases hr : (execOp a.eval oj).run P w with
  | ok n w' =>
   cases n <;> simp only [Oper.upon, hc]
   case defer df =>
    have : ({ a.put d v with defers := df :: (a.put d v).defers } : Act).put oj.dst undef = (({ a with defers := df :: a.defers } : Act).put oj.dst undef).put d v := by
     rw [Act.put_defers]; exact Act.put_comm _ v undef h2
    rw [this]
   case enter f args =>
    constructor
    ·intro h; refine Calls.mono h fun e w'' he => ?_
     cases e with
     | returned x => simpa only [hc] using he
     | panicked c => cases he.1
     | outgrown => exact (jV3 he).elim
    ·intro h; refine Calls.mono h fun e w'' he => ?_
     cases e with
     | returned x => simpa only [hc] using he
     | panicked c => cases he.1
     | outgrown => exact (jV3 he).elim
  | halt x w' =>
   cases x <;> simp only [Oper.upon]
   constructor <;> (intro h; cases h.1)
 ·rw [hc]
theorem wA4 (hi : ops[i]? = some oi) (hj : ops[j]? = some oj) (hap : oi.apart ops oj = true) (hsi : ∀ cs b, oi.op ≠ .select cs b) (hsj : ∀ cs b, oj.op ≠ .select cs b)
  (hc : wV4 P oi ∨ wV4 P oj ∨ (vA2 P oi ∧ vA2 P oj) ∨ (vA2 P oi ∧ NewO P oj)) (h : wpOp P ops (QN Q) i (wpOp P ops (QN Q) j K) a w) : wpOp P ops (QN Q) j (wpOp P ops (QN Q) i K) a w := by
 obtain ⟨h1, h2, h3⟩ := Oper.apart_spec hap
 have h4 : ∀ t, oj.dst = some t → oi.dst ≠ some t := fun t ht hi' => h2 t hi' ht
 rcases hc with hp | hp | ⟨hr, hr'⟩ | ⟨hr, hn⟩
 ·-- the first one is pure
  have hy : ∃ v, (∀ w', YAt P ops oi v a w') := by
   by_cases hw : Region.wanted oi (yielded ops a.tmps) = true
   ·rcases hp a.eval with ⟨v, hv⟩ | hn
    ·exact ⟨v, fun w' => .inl ⟨hw, hv w'⟩⟩
    ·rw [jJ5 hi, if_pos hw] at h
     exact (vR5 (hn w) h).elim
   ·exact ⟨undef, fun w' => .inr ⟨by simpa using hw, rfl⟩⟩
  obtain ⟨v, hy⟩ := hy
  have hk := (hy w).elim hi h
  rw [jR3 hj hsj h1 h2] at hk
  exact wpOp_mono (fun b w' ⟨hb, hnb⟩ => ((hy w').near hnb hsi h3).wp hi hb) (jY6 hj hk)
 ·-- the second one is pure
  have h' := jY6 hi h
  by_cases hw : Region.wanted oj (yielded ops a.tmps) = true
  ·rcases hp a.eval with ⟨v, hv⟩ | hn
   ·have hy : ∀ w', YAt P ops oj v a w' := fun w' => .inl ⟨hw, hv w'⟩
    refine (hy w).wp hj ?_
    rw [jR3 hi hsi h3 h4]
    exact wpOp_mono (fun b w' ⟨hb, hnb⟩ => ((hy w').near hnb hsj h1).elim hj hb) h'
   ·refine (kO9 hi (wpOp_mono (fun b w' ⟨hb, hnb⟩ => ?_) h')).elim
    obtain ⟨e1, e2⟩ := hnb.eval (ops := ops) oj hsj h1
    rw [jJ5 hj, e2, if_pos hw] at hb
    exact vR5 (by rw [e1]; exact hn w') hb
  ·have hy : ∀ w', YAt P ops oj undef a w' := fun w' => .inr ⟨by simpa using hw, rfl⟩
   refine (hy w).wp hj ?_
   rw [jR3 hi hsi h3 h4]
   exact wpOp_mono (fun b w' ⟨hb, hnb⟩ => ((hy w').near hnb hsj h1).elim hj hb) h'
 ·obtain ⟨v, hv, _, hk⟩ := jX9 hi hr h
  rw [jR3 hj hsj h1 h2] at hk
  obtain ⟨u, hu, _, hk2⟩ := jX9 hj hr' hk
  exact hu.wp hj ((hv.near ⟨u, rfl⟩ hsi h3).wp hi hk2)
 ·obtain ⟨v, hv, hvb, hk⟩ := jX9 hi hr h
  rw [jR3 hj hsj h1 h2] at hk
  rw [jJ5 hj] at hk ⊢
  split
  ·rename_i hw
   rw [if_pos hw] at hk
   rcases hn a.eval w with ⟨u, b, hub⟩ | hn
   ·unfold Oper.wp at hk ⊢
    rw [hub] at hk ⊢
    exact ((hvb b).near ⟨u, rfl⟩ hsi h3).wp hi hk
   ·exact (vR5 hn hk).elim
  ·rename_i hw
   rw [if_neg hw] at hk
   exact (hv.near ⟨undef, rfl⟩ hsi h3).wp hi hk
end
inductive Dep (ops : Array Oper) (i : Nat) : Nat → Prop
 | one {j : Nat} {o : Oper} {e : Edge} (ho : ops[j]? = some o) (he : e ∈ o.after) (hb : Region.binds .any e = true) (hi : e.on = i) : Dep ops i j
 | more {j : Nat} {o : Oper} {e : Edge} (ho : ops[j]? = some o) (he : e ∈ o.after) (hb : Region.binds .any e = true) (hi : Dep ops i e.on) : Dep ops i j
def ancs (l : List Oper) : List (List Nat) := l.foldl (fun A o => A ++ [(o.after.toList.flatMap fun e => bif Region.binds .any e then e.on :: A.getD e.on [] else []).eraseDups]) []
def jK8 (P : Program) : Op → Nat
 | .move _ | .assign _ | .extract .. | .pick .. | .unOp .not .. => 0
 | .fieldAddr s _ i => bif (tyF P s i).isSome then 0 else 3
 | .load .. => 1
 | .alloc _ | .box .. => 2
 | _ => 3
def kZ6 (a b : Nat) : Bool := Nat.beq a 0 || Nat.beq b 0 || (Nat.beq a 1 && (Nat.beq b 1 || Nat.beq b 2))
def vE2 (P : Program) (ops : Array Oper) (A : List (List Nat)) : List Nat → Bool
 | [] => true
 | i :: r => (r.all fun j => (A.getD j []).contains i || (match ops[i]?, ops[j]? with
   | some oi, some oj => oi.apart ops oj && kZ6 (jK8 P oi.op) (jK8 P oj.op)
   | _, _ => false)) && vE2 P ops A r
def extB (ops : Array Oper) : List Nat → List Nat → Bool
 | _, [] => true
 | done, i :: r => (match ops[i]? with | some o => o.after.toList.all fun e => !Region.binds .any e || done.contains e.on | none => false) && extB ops (i :: done) r
def rigB (P : Program) (l : List Oper) (ord : List Nat) : Bool :=
 Region.noSelect l.toArray && Nat.beq ord.length l.length && decide ord.Nodup && extB l.toArray [] ord && vE2 P l.toArray (ancs l) ord
section
variable {P : Program} {ops : Array Oper} {Q : Exit → Act → World → Prop}
theorem kE8 (l : List Oper) : ∀ j i, i ∈ (ancs l).getD j [] → Dep l.toArray i j := by
 have key : ∀ (l2 l1 : List Oper) (A : List (List Nat)), A.length = l1.length → l1 ++ l2 = l → (∀ j i, i ∈ A.getD j [] → Dep l.toArray i j) →
   ∀ j i, i ∈ (l2.foldl (fun A o => A ++ [(o.after.toList.flatMap fun e => bif Region.binds .any e then e.on :: A.getD e.on [] else []).eraseDups]) A).getD j [] → Dep l.toArray i j := by
  intro l2
  induction l2 with
  | nil => intro l1 A _ _ h; exact h
  | cons o l2 ih =>
   intro l1 A hA hl h
   refine ih (l1 ++ [o]) _ (by simp [hA]) (by simp [hl]) fun j i hi => ?_
   rcases Nat.lt_trichotomy j A.length with hj | hj | hj
   ·rw [zF, qE hj, ← zF] at hi
    exact h j i hi
   ·have ho : l.toArray[j]? = some o := by
     rw [hj, hA, ← hl]; simp
    rw [zF, qH (by omega)] at hi
    have e0 : j - A.length = 0 := by omega
    rw [e0] at hi
    simp only [xA, Option.getD_some, List.mem_eraseDups, List.mem_flatMap] at hi
    obtain ⟨e, he, hie⟩ := hi
    cases hb : Region.binds .any e with
    | false => rw [hb] at hie; simp at hie
    | true =>
     rw [hb] at hie
     simp only [cond_true, lW] at hie
     rcases hie with rfl | hie
     ·exact .one ho (by simpa using he) hb rfl
     ·exact .more ho (by simpa using he) hb (h _ _ hie)
   ·rw [zF, zG (by simp; omega)] at hi
    simp at hi
 exact key l [] [] rfl rfl (by simp)
theorem kX2 {A : List (List Nat)} (hA : ∀ j i, i ∈ A.getD j [] → Dep ops i j) : ∀ {ord : List Nat}, vE2 P ops A ord = true →
  ord.Pairwise fun i j => Dep ops i j ∨ ∃ oi oj, ops[i]? = some oi ∧ ops[j]? = some oj ∧ oi.apart ops oj = true ∧ kZ6 (jK8 P oi.op) (jK8 P oj.op) = true
 | [], _ => qR
 | i :: r, h => by
  simp only [vE2, xM] at h
  refine zP (fun j hj => ?_) (kX2 hA h.2)
  have := List.all_eq_true.1 h.1 j hj
  simp only [zB] at this
  rcases this with h1 | h1
  ·exact .inl (hA j i (by simpa using h1))
  ·cases ho : ops[i]? with
   | none => simp [ho] at h1
   | some oi =>
    cases ho' : ops[j]? with
    | none => simp [ho, ho'] at h1
    | some oj =>
     simp only [ho, ho', xM] at h1
     exact .inr ⟨oi, oj, rfl, rfl, h1.1, h1.2⟩
def Ext (ops : Array Oper) (ord : List Nat) : Prop := ∀ p i r, ord = p ++ i :: r → ∀ o, ops[i]? = some o → ∀ e ∈ o.after, Region.binds .any e = true → e.on ∉ i :: r
theorem kB9 : ∀ {ord done : List Nat}, extB ops done ord = true → (∀ x ∈ done, x ∉ ord) → ord.Nodup → Ext ops ord ∧ ∀ i ∈ ord, i < ops.size
 | [], done, _, _, _ => ⟨fun p i r h => by simp at h, by simp⟩
 | i :: r, done, h, hd, hn => by
  simp only [extB, xM] at h
  obtain ⟨h1, h2⟩ := h
  obtain ⟨hir, hnr⟩ := List.nodup_cons.1 hn
  have ih := kB9 h2 (fun x hx hxr => by
   rcases List.mem_cons.1 hx with rfl | hx
   ·exact hir hxr
   ·exact hd x hx (lU _ hxr)) hnr
  cases ho : ops[i]? with
  | none => simp [ho] at h1
  | some o =>
   refine ⟨fun p k s hs ok hk e he hb hm => ?_, fun k hk => ?_⟩
   ·cases p with
    | nil =>
     obtain ⟨rfl, rfl⟩ : i = k ∧ r = s := by simpa using hs
     rw [ho] at hk
     obtain rfl := lV hk
     simp only [ho] at h1
     have := List.all_eq_true.1 h1 e (by simpa using he)
     simp only [hb, Bool.not_true, Bool.false_or] at this
     exact hd e.on (by simpa using this) hm
    | cons q p =>
     obtain ⟨_, hs2⟩ : i = q ∧ r = p ++ k :: s := by simpa using hs
     exact ih.1 p k s hs2 ok hk e he hb hm
   ·rcases List.mem_cons.1 hk with rfl | hk
    ·exact (Array.getElem?_eq_some_iff.1 ho).1
    ·exact ih.2 k hk
theorem Ext.drop {p r : List Nat} {j : Nat} (h : Ext ops (p ++ j :: r)) : Ext ops (p ++ r) := fun q i s hs o ho e he hb hm => by
 rcases List.append_eq_append_iff.1 hs with ⟨c, hc1, hc2⟩ | ⟨c, hc1, hc2⟩
 ·-- q = p ++ c, r = c ++ i :: s
  have : p ++ j :: r = (p ++ j :: c) ++ i :: s := by simp [hc2]
  exact h _ i s this o ho e he hb hm
 ·cases c with
  | nil =>
   have hq : q = p := by simpa using hc1.symm
   have hr : i :: s = r := by simpa using hc2
   have : p ++ j :: r = (p ++ [j]) ++ i :: s := by simp [hr]
   exact h _ i s this o ho e he hb hm
  | cons x c =>
   obtain ⟨rfl, hs2⟩ : i = x ∧ s = c ++ r := by simpa using hc2
   have : p ++ j :: r = q ++ i :: (c ++ j :: r) := by simp [hc1]
   refine h q i _ this o ho e he hb ?_
   rw [hs2] at hm
   simp only [lW, l9] at hm ⊢
   rcases hm with h1 | h1 | h1
   ·exact .inl h1
   ·exact .inr (.inl h1)
   ·exact .inr (.inr (.inr h1))
theorem kL8 {o : Oper} (h : jK8 P o.op = 0) : wV4 P o := fun ρ => by
 obtain ⟨dst, op, ty, pos, after, guard⟩ := o
 cases op with
 | move x => exact .inl ⟨_, fun w => rfl⟩
 | assign x => exact .inl ⟨_, fun w => rfl⟩
 | extract x i =>
  simp only [execOp, Instr.extract]
  cases hx : ρ x with
  | tuple vs =>
   cases hv : vs[i]? with
   | some v => exact .inl ⟨v, fun w => by simp [hv]⟩
   | none => exact .inr fun w n w' => by simp [hv, stuck, Sem.run, Result.andThen]
  | _ => exact .inr fun w n w' => by simp [stuck, Sem.run, Result.andThen]
 | pick c x y =>
  simp only [execOp]
  cases hc : ρ c with
  | bool b => exact .inl ⟨if b then ρ x else ρ y, fun w => by simp [asBool]⟩
  | _ => exact .inr fun w n w' => by simp [asBool, stuck, Sem.run, Result.andThen]
 | unOp q t x =>
  cases q <;> simp [jK8] at h
  simp only [execOp, Op.unary]
  cases hx : ρ x with
  | bool b => exact .inl ⟨.bool (!b), fun w => by simp []⟩
  | _ => exact .inr fun w n w' => by simp [stuck, Sem.run, Result.andThen]
 | fieldAddr s x i =>
  simp only [jK8] at h
  cases hf : tyF P s i with
  | none => simp [hf] at h
  | some q =>
   obtain ⟨off, n, b⟩ := q
   obtain ⟨fs, f, h1, h2, rfl, h3, h4⟩ := kT7 hf
   have hn : ¬ n = 0 := by
    intro e
    subst e
    unfold tyF at hf
    simp [h1, h2, h3, h4] at hf
   simp only [execOp, Instr.fieldAt]
   cases hx : ρ x with
   | pointer ad =>
    cases ad with
    | some ad => exact .inl ⟨.pointer (some (ad.add f.offset)), fun w => by simp [lJ, run_underlying h1, h2, Instr.sureAddr, fieldPlace, jC5 h3, hn]⟩
    | none => exact .inr fun w n w' => by simp [lJ, run_underlying h1, h2, Instr.sureAddr, stuck, Sem.run, Result.andThen]
   | _ => exact .inr fun w n w' => by simp [lJ, run_underlying h1, h2, Instr.sureAddr, stuck, Sem.run, Result.andThen]
 | _ => simp [jK8] at h
theorem kE3 {w : World} {k : Nat} {x : Obj} (b : Obj) (h : w.heap[k]? = some x) : (w.alloc b).heap[k]? = some x := by
 have hl : k < w.heap.size := (Array.getElem?_eq_some_iff.1 h).1
 rw [Below.heap_alloc w b _ hl, h]
theorem vX0 {w : World} {p : Program} {at_ k : Addr} {u : TypeId} {m : Bool} {r : Array Value × TypeId × (Nat × Nat) × Nat × Value × List (Nat × Nat × List UInt8)} (b : Obj) (h : w.seen p at_ u k m = .ok r) : (w.alloc b).seen p at_ u k m = .ok r := by
 cases hh : w.heap[at_.block]? with
 | none =>
  unfold World.seen at h
  rw [hh] at h
  simp [bind, Except.bind] at h
  repeat' (split at h)
  all_goals (first | (cases h; done) | simp_all)
 | some x =>
  have e := (kE3 b hh).trans hh.symm
  unfold World.seen at h ⊢
  rw [e]
  exact h
theorem wN9 {w : World} {p : Program} {a : Addr} {m : Bool} {r : Value × List Addr} (b : Obj) (h : w.farLoad p a m = .ok r) : (w.alloc b).farLoad p a m = .ok r := by
 cases hh : w.heap[a.block]? with
 | none => simp [World.farLoad, hh] at h
 | some x =>
  have hh' := kE3 b hh
  unfold World.farLoad at h ⊢
  rw [hh] at h
  rw [hh']
  cases x <;> simp only at h ⊢ <;> try (cases h)
  rename_i at_ u
  cases hv : w.viewLoad p at_ u a m with
  | error e => rw [hv] at h; cases h
  | ok q =>
   rw [hv] at h
   have : (w.alloc b).viewLoad p at_ u a m = .ok q := by
    unfold World.viewLoad at hv ⊢
    cases hs : w.seen p at_ u a m with
    | error e => rw [hs] at hv; cases hv
    | ok s => rw [hs] at hv; rw [vX0 b hs]; exact hv
   rw [this]
   exact h
theorem vK5 (a : Addr) (w : World) : (∃ v, (load a).run P w = .ok v w ∧ ∀ b, (load a).run P (w.alloc b) = .ok v (w.alloc b)) ∨ (∀ n w', (load a).run P w ≠ .ok n w') := by
 cases hc : w.cell? a with
 | some v =>
  refine .inl ⟨v, by simp [load, Sem.run, hc], fun b => ?_⟩
  have hl : a.block < w.heap.size := by
   rcases xX a.block w.heap.size with h' | h'
   ·exact h'
   ·simp [World.cell?, Array.getElem?_eq_none h'] at hc
  have hcb : (w.alloc b).cell? a = some v := by rw [World.cell?_of_block (w := w) (a := a) (Below.heap_alloc w b _ hl)]; exact hc
  simp [load, Sem.run, hcb]
 | none =>
  cases hf : w.farLoad P a (Mode.plain == Mode.atomic) with
  | error h => exact .inr fun n w' => by simp only [load, Sem.run, hc, hf]; exact fun h => by cases h
  | ok r =>
   refine .inl ⟨r.1, by simp only [load, Sem.run, hc, hf], fun b => ?_⟩
   have hcb : (w.alloc b).cell? a = none := by
    have : ∃ x, w.heap[a.block]? = some x := by
     cases hh : w.heap[a.block]? with
     | none => simp [World.farLoad, hh] at hf
     | some x => exact ⟨x, rfl⟩
    obtain ⟨x, hx⟩ := this
    rw [World.cell?_of_block (w := w) (a := a) ((kE3 b hx).trans hx.symm)]
    exact hc
   simp only [load, Sem.run, hcb, wN9 b hf]
def jP5 {α : Type} (P : Program) (s : Sem α) : Prop := ∀ w, (∃ v, s.run P w = .ok v w ∧ ∀ b, s.run P (w.alloc b) = .ok v (w.alloc b)) ∨ (∀ n w', s.run P w ≠ .ok n w')
theorem jU4 {α : Type} (x : α) : jP5 P (Pure.pure x : Sem α) := fun w => .inl ⟨x, rfl, fun b => rfl⟩
theorem kV6 {α : Type} (h : Halt) : jP5 P (.halt h : Sem α) := fun w => .inr fun n w' e => by cases e
theorem jQ2 {α β : Type} {s : Sem α} {f : α → Sem β} (hs : jP5 P s) (hf : ∀ x, jP5 P (f x)) : jP5 P (s >>= f) := fun w => by
 rcases hs w with ⟨v, h1, h2⟩ | hn
 ·rcases hf v w with ⟨u, h3, h4⟩ | hn
  ·exact .inl ⟨u, by simp [lJ, h1, h3], fun b => by simp [lJ, h2 b, h4 b]⟩
  ·exact .inr fun n w' => by simpa [lJ, h1] using hn n w'
 ·refine .inr fun n w' h => ?_
  cases hr : s.run P w with
  | ok x w2 => exact hn x w2 hr
  | halt x w2 => simp [lJ, hr, Result.andThen] at h
theorem wF0 (a : Addr) : jP5 P (Go.load a) := fun w => vK5 a w
theorem kP4 : jP5 P Go.program := fun w => .inl ⟨P, rfl, fun b => rfl⟩
theorem kV5 (t : TypeId) : jP5 P (Go.underlying t) := jQ2 kP4 fun p => by
 split
 ·exact jU4 _
 ·exact kV6 _
theorem kL0 (t : TypeId) : jP5 P (Go.typeInfo t) := jQ2 kP4 fun p => by
 split
 ·exact jU4 _
 ·exact kV6 _
theorem wE9 (t : TypeId) : jP5 P (Go.sizeOf t) := jQ2 (kL0 t) fun _ => jU4 _
theorem wY9 (t : TypeId) : jP5 P (Go.isAgg t) := jQ2 (kV5 t) fun d => by
 cases d <;> exact jU4 _
theorem kF1 (a : Addr) : ∀ (n i : Nat) (acc : Array Value), jP5 P (loadCellsFrom a i n acc)
 | 0, i, acc => jU4 _
 | n + 1, i, acc => jQ2 (wF0 _) fun v => kF1 a n (i + 1) (acc.push v)
theorem vW6 (t : TypeId) (a : Addr) : jP5 P (Go.loadVar t a) := jQ2 (wY9 t) fun b => by
 cases b
 ·simp only [zV, if_false]; exact wF0 a
 ·simp only [if_true]; exact jQ2 (s := sizeOf t) (wE9 t) fun n => jQ2 (s := loadCells a n) (kF1 a n 0 #[]) fun _ => jU4 _
theorem yR1 {o : Oper} (h : ∀ ρ, ∃ s : Sem Value, execOp ρ o = (do pure (.value (← s))) ∧ jP5 P s) : vA2 P o := fun ρ w => by
 obtain ⟨s, e, hs⟩ := h ρ
 rw [e]
 rcases hs w with ⟨v, h1, h2⟩ | hn
 ·exact .inl ⟨v, by simp [h1], fun b => by simp [h2 b]⟩
 ·refine .inr fun n w' h => ?_
  cases hr : s.run P w with
  | ok x w2 => exact hn x w2 hr
  | halt x w2 => simp [hr, Result.andThen] at h
theorem jY0 {o : Oper} (h : jK8 P o.op = 1) : vA2 P o := by
 obtain ⟨dst, op, ty, pos, after, guard⟩ := o
 cases op with
 | load t x =>
  refine yR1 fun ρ => ⟨_, rfl, ?_⟩
  unfold Instr.loadAt
  refine jQ2 ?_ fun a => vW6 t a
  unfold Instr.sureAddr
  split
  ·exact jU4 _
  ·exact kV6 _
 | unOp q t x => cases q <;> simp [jK8] at h
 | fieldAddr s x i => simp only [jK8] at h; cases hf : (tyF P s i).isSome <;> simp [hf] at h
 | _ => simp [jK8] at h
theorem vX8 {o : Oper} (h : jK8 P o.op = 2) : NewO P o := fun ρ w => by
 obtain ⟨dst, op, ty, pos, after, guard⟩ := o
 cases op with
 | alloc t =>
  cases hz : (zeroValue t).run P w with
  | ok z w2 =>
   have hw : w2 = w := by
    have hs : jP5 P (zeroValue t) := jQ2 (kL0 t) fun i => by
     split
     ·exact jU4 _
     ·exact kV6 _
    rcases hs w with ⟨v, h1, _⟩ | hn
    ·rw [h1] at hz; cases hz; rfl
    ·exact (hn _ _ hz).elim
   subst hw
   exact .inl ⟨_, .cells z.cells t, by simp only [execOp, Instr.alloc, lJ, hz, lR, newVar, newRow, newObj]; rfl⟩
  | halt x w2 => exact .inr fun n w' => by simp [execOp, Instr.alloc, lJ, hz, Result.andThen]
 | box t x => exact .inl ⟨_, .cells (ρ x).cells t, by simp only [execOp, Instr.box, lJ, newVar, newRow, newObj]; rfl⟩
 | unOp q t x => cases q <;> simp [jK8] at h
 | fieldAddr s x i => simp only [jK8] at h; cases hf : (tyF P s i).isSome <;> simp [hf] at h
 | _ => simp [jK8] at h
theorem zL4 {oi oj : Oper} (h : kZ6 (jK8 P oi.op) (jK8 P oj.op) = true) : wV4 P oi ∨ wV4 P oj ∨ (vA2 P oi ∧ vA2 P oj) ∨ (vA2 P oi ∧ NewO P oj) := by
 simp only [kZ6, zB, xM] at h
 rcases h with (h | h) | ⟨h, h' | h'⟩
 ·exact .inl (kL8 (x6 h))
 ·exact .inr (.inl (kL8 (x6 h)))
 ·exact .inr (.inr (.inl ⟨jY0 (x6 h), jY0 (x6 h')⟩))
 ·exact .inr (.inr (.inr ⟨jY0 (x6 h), vX8 (x6 h')⟩))
theorem vO9 (hsel : ∀ (j : Nat) (o : Oper) cs b, ops[j]? = some o → o.op ≠ .select cs b) {j : Nat} {r : List Nat} : ∀ (p : List Nat) (a : Act) (w : World),
  (∀ i ∈ p, ∃ oi oj, ops[i]? = some oi ∧ ops[j]? = some oj ∧ oi.apart ops oj = true ∧ kZ6 (jK8 P oi.op) (jK8 P oj.op) = true) →
  wpOps P ops (QN Q) (p ++ j :: r) a w → wpOp P ops (QN Q) j (wpOps P ops (QN Q) (p ++ r)) a w
 | [], a, w, _, h => by rw [lE, wpOps_cons] at h; exact h
 | i :: p, a, w, hp, h => by
  rw [lL, wpOps_cons] at h
  obtain ⟨oi, oj, h1, h2, h3, h4⟩ := hp i lP
  have h5 := wpOp_mono (fun b w' hb => vO9 hsel p b w' (fun k hk => hp k (lU _ hk)) hb) h
  have h6 := wA4 h1 h2 h3 (fun cs b => hsel i oi cs b h1) (fun cs b => hsel j oj cs b h2) (zL4 h4) h5
  refine wpOp_mono (fun b w' hb => ?_) h6
  rw [lL, wpOps_cons]
  exact hb
theorem kE7 (hsel : ∀ (j : Nat) (o : Oper) cs b, ops[j]? = some o → o.op ≠ .select cs b) : ∀ (n : Nat) (ord : List Nat) (listed : Array Bool) (a : Act) (w : World), ord.length = n → ord.Nodup → listed.size = ops.size → (∀ i ∈ ord, i < ops.size) →
  (∀ k, k < ops.size → (listed.getD k true = false ↔ k ∈ ord)) → Ext ops ord → (∀ j o, ops[j]? = some o → j ∉ ord → ∀ e ∈ o.after, Region.binds .any e = true → e.on < ops.size ∧ e.on ∉ ord) → (∀ (j : Nat) (o : Oper), ops[j]? = some o → ∀ e ∈ o.after, Region.binds .any e = true → e.on < ops.size) →
  (ord.Pairwise fun i j => Dep ops i j ∨ ∃ oi oj, ops[i]? = some oi ∧ ops[j]? = some oj ∧ oi.apart ops oj = true ∧ kZ6 (jK8 P oi.op) (jK8 P oj.op) = true) →
  wpOps P ops (QN Q) ord a w → wpAny P .any ops (QN Q) n listed a w := by
 intro n
 induction n with
 | zero =>
  intro ord listed a w hl hnd hsz hlt hmem hext hdown hedge hp h
  obtain rfl := zE hl
  refine ⟨?_, h⟩
  refine List.eq_nil_iff_forall_not_mem.2 fun j hj => ?_
  obtain ⟨h0, o, ho, _⟩ := mem_ready.1 hj
  have := (hmem j (Array.getElem?_eq_some_iff.1 ho).1).1 h0
  simp at this
 | succ n ih =>
  intro ord listed a w hl hnd hsz hlt hmem hext hdown hedge hp h
  have hlist : ∀ k, k < ops.size → (listed.getD k false = true ↔ k ∉ ord) := fun k hk => by
   rw [← hmem k hk]
   have : k < listed.size := by omega
   simp [zC, this]
  refine ⟨fun hnil => ?_, fun j hj => ?_⟩
  ·exfalso
   match ord, hl with
   | i :: r, _ =>
    have hi := hlt i lP
    have : i ∈ Region.ready .any ops listed := by
     refine mem_ready.2 ⟨(hmem i hi).2 lP, ops[i], zL hi, fun e he hb => ?_⟩
     have h1 := hedge i _ (zL hi) e he hb
     exact (hlist e.on h1).2 (hext [] i r rfl _ (zL hi) e he hb)
    rw [hnil] at this
    cases this
  ·obtain ⟨h0, o, ho, hall⟩ := mem_ready.1 hj
   have hjlt : j < ops.size := (Array.getElem?_eq_some_iff.1 ho).1
   have hjm := (hmem j hjlt).1 h0
   obtain ⟨p, r, hpr⟩ := List.append_of_mem hjm
   subst hpr
   have hdeps : ∀ i, Dep ops i j → i ∉ p ++ j :: r := fun i hd => by
    have hone : ∀ k, Dep ops i k → k ∉ p ++ j :: r → i ∉ p ++ j :: r := by
     intro k hk
     induction hk with
     | one ho' he hb hi => intro hkn; exact hi ▸ (hdown _ _ ho' hkn _ he hb).2
     | more ho' he hb hi ih2 => intro hkn; exact ih2 (hdown _ _ ho' hkn _ he hb).2
    cases hd with
    | one ho' he hb hi =>
     rw [ho] at ho'; obtain rfl := lV ho'
     have h1 := hedge j _ ho _ he hb
     exact hi ▸ (hlist _ h1).1 (hall _ he hb)
    | more ho' he hb hi =>
     rw [ho] at ho'; obtain rfl := lV ho'
     have h1 := hedge j _ ho _ he hb
     exact hone _ hi ((hlist _ h1).1 (hall _ he hb))
   have hpp := List.pairwise_append.1 hp
   have hswap : ∀ i ∈ p, ∃ oi oj, ops[i]? = some oi ∧ ops[j]? = some oj ∧ oi.apart ops oj = true ∧ kZ6 (jK8 P oi.op) (jK8 P oj.op) = true := fun i hi => by
    rcases hpp.2.2 i hi j lP with hd | hd
    ·exact absurd (xI _ hi) (hdeps i hd)
    ·exact hd
   have hnd' : (p ++ r).Nodup ∧ j ∉ p ++ r := by
    have := List.nodup_append.1 hnd
    have h2 := List.nodup_cons.1 this.2.1
    refine ⟨List.nodup_append.2 ⟨this.1, h2.2, fun x hx y hy => this.2.2 x hx y (lU _ hy)⟩, fun hm => ?_⟩
    rcases List.mem_append.1 hm with hm | hm
    ·exact this.2.2 j hm j lP rfl
    ·exact h2.1 hm
   have hsub : ∀ x, x ∈ p ++ r → x ∈ p ++ j :: r := fun x hx => by
    rcases List.mem_append.1 hx with hx | hx
    ·exact xI _ hx
    ·exact x7 _ (lU _ hx)
   refine wpOp_mono (fun b w' hb => ih (p ++ r) (listed.setIfInBounds j true) b w' ?_ hnd'.1 (by simpa using hsz) (fun i hi => hlt i (hsub i hi)) (fun k hk => ?_) hext.drop (fun k ok hok hkn e he hb' => ?_) hedge ?_ hb) (vO9 hsel p a w hswap h)
   ·simp at hl ⊢; omega
   ·by_cases hjk : j = k
    ·subst hjk
     have : j < listed.size := by omega
     simp [zC, this]
     simpa using hnd'.2
    ·rw [getD_set_ne true hjk, hmem k hk]
     simp only [l9, lW]
     constructor
     ·rintro (h1 | h1 | h1)
      ·exact .inl h1
      ·exact absurd h1.symm hjk
      ·exact .inr h1
     ·rintro (h1 | h1)
      ·exact .inl h1
      ·exact .inr (.inr h1)
   ·refine ⟨hedge k ok hok e he hb', fun hm => ?_⟩
    by_cases hkj : k = j
    ·subst hkj
     rw [ho] at hok; obtain rfl := lV hok
     have h1 := hedge k _ ho e he hb'
     exact (hlist _ h1).1 (hall e he hb') (hsub _ hm)
    ·have hkn' : k ∉ p ++ j :: r := fun hm' => by
      rcases List.mem_append.1 hm' with h1 | h1
      ·exact hkn (xI _ h1)
      ·rcases List.mem_cons.1 h1 with h1 | h1
       ·exact hkj h1
       ·exact hkn (x7 _ h1)
     exact (hdown k ok hok hkn' e he hb').2 (hsub _ hm)
   ·refine List.pairwise_append.2 ⟨hpp.1, (List.pairwise_cons.1 hpp.2.1).2, fun x hx y hy => hpp.2.2 x hx y (lU _ hy)⟩
theorem kT1 {N : Frm} {id : Nat} {l : List Oper} {a : Act} {w : World} (ord : List Nat) (hm : P.follows .mixedOrders = true) (hB : rigB P l ord = true) (h : wpOps P l.toArray (QN Q) ord a w.drew) : wq P N (.region id l.toArray true) Q a w := by
 simp only [rigB, xM, decide_eq_true_eq] at hB
 obtain ⟨⟨⟨⟨hsel, hlen⟩, hnd⟩, hext⟩, hpairs⟩ := hB
 have hlen := x6 hlen
 obtain ⟨he1, he2⟩ := kB9 hext (by simp) hnd
 have hall : ∀ k, k < l.length → k ∈ ord := by
  have hsub : ∀ x ∈ ord, x ∈ List.range l.length := fun x hx => List.mem_range.2 (by simpa using he2 x hx)
  have hall2 : ∀ (m : Nat) (s : List Nat), s.Nodup → s.length = m → (∀ x ∈ s, x < m) → ∀ k, k < m → k ∈ s := by
   intro m
   induction m with
   | zero => intro s _ _ _ k hk; omega
   | succ m ih =>
    intro s hs hlen hlt k hk
    have hm : m ∈ s := by
     apply Classical.byContradiction
     intro hm
     have hl2 : ∀ x ∈ s, x < m := fun x hx => by
      have := hlt x hx
      have : x ≠ m := fun e => hm (e ▸ hx)
      omega
     match s, hlen with
     | y :: s', hlen =>
      have hs' := List.nodup_cons.1 hs
      have := ih s' hs'.2 (by simpa using hlen) (fun x hx => hl2 x (lU _ hx)) y (hl2 y lP)
      exact hs'.1 this
    by_cases hkm : k = m
    ·exact hkm ▸ hm
    ·have := ih (s.erase m) (hs.erase m) (by rw [List.length_erase_of_mem hm]; omega) (fun x hx => by
      have h1 := hlt x (List.mem_of_mem_erase hx)
      have h2 : x ≠ m := fun e => by subst e; exact absurd hx (List.Nodup.not_mem_erase hs)
      omega) k (by omega)
     exact List.mem_of_mem_erase this
  exact fun k hk => hall2 l.length ord hnd hlen (fun x hx => List.mem_range.1 (hsub x hx)) k hk
 refine kJ0 hm ?_
 have hedge : ∀ (j : Nat) (o : Oper), l.toArray[j]? = some o → ∀ e ∈ o.after, Region.binds .any e = true → e.on < l.toArray.size := fun j o ho e he hb => by
  have hj : j ∈ ord := hall j (by simpa using (Array.getElem?_eq_some_iff.1 ho).1)
  have key : ∀ (ord done : List Nat), extB l.toArray done ord = true → (∀ x ∈ done, x < l.toArray.size) → ∀ k ∈ ord, ∀ ok, l.toArray[k]? = some ok → ∀ e ∈ ok.after, Region.binds .any e = true → e.on < l.toArray.size := by
   intro ord
   induction ord with
   | nil => intro _ _ _ k hk; cases hk
   | cons i r ih =>
    intro done h1 h2 k hk ok hok e he hb
    simp only [extB, xM] at h1
    cases hi : l.toArray[i]? with
    | none => rw [hi] at h1; simp at h1
    | some oi =>
     rcases List.mem_cons.1 hk with rfl | hk
     ·rw [hi] at hok; obtain rfl := lV hok
      rw [hi] at h1
      have := List.all_eq_true.1 h1.1 e (by simpa using he)
      simp only [hb, Bool.not_true, Bool.false_or] at this
      exact h2 e.on (by simpa using this)
     ·exact ih (i :: done) h1.2 (fun x hx => by
       rcases List.mem_cons.1 hx with rfl | hx
       ·exact (Array.getElem?_eq_some_iff.1 hi).1
       ·exact h2 x hx) k hk ok hok e he hb
  exact key ord [] hext (by simp) j hj o ho e he hb
 have := kE7 (P := P) (Q := Q) (Region.noSelect_spec hsel) l.toArray.size ord (Array.replicate l.toArray.size false) a w.drew (by simp [hlen]) hnd (by simp) he2 (fun k hk => by
  have : k ∈ ord := hall k (by simpa using hk)
  simp only [this, iff_true]
  have hk' : k < l.length := by simpa using hk
  simp [zC, hk']) he1 (fun j o ho hj => absurd (hall j (by simpa using (Array.getElem?_eq_some_iff.1 ho).1)) hj) hedge (kX2 (kE8 l) hpairs) h
 exact this
def kY1 (l : List Oper) (ord : List Nat) : List Oper := ord.filterMap (l[·]?)
theorem jY2 {ops : Array Oper} : ∀ (ord : List Nat) (a : Act) (w : World), (∀ i ∈ ord, i < ops.size) → wpList P ops Q (ord.filterMap (ops.toList[·]?)) a w → wpOps P ops Q ord a w
 | [], a, w, _, h => h
 | i :: r, a, w, hlt, h => by
  have hi := hlt i lP
  have ho : ops[i]? = some ops[i] := zL hi
  have ho' : ops.toList[i]? = some ops[i] := by simp [hi]
  rw [l8, ho'] at h
  simp only [wpList] at h
  simp only [wpOps, ho]
  have ih := fun a w => jY2 r a w (fun k hk => hlt k (lU _ hk))
  split
  ·rename_i hw
   rw [if_pos hw] at h
   exact h.imp (Oper.wp_mono fun a w hh => ih a w hh) id
  ·rename_i hw
   rw [if_neg hw] at h
   exact ih _ _ h
end
section
variable {P : Program} {N : Frm} {w0 : World} {Wr : List Nat} {fr : Fr} {H : Heap} {Q : Exit → Act → World → Prop}
theorem vZ8 {id : Nat} {l l' : List Oper} (ord : List Nat) (hm : P.follows .mixedOrders = true) (hB : rigB P l ord = true) (hl : kY1 l ord = l') (h : ∀ Z : Fr → Heap → Prop, (∀ fr H, nx N w0 Wr fr H Q .normal → Z fr H) → sx P N w0 Wr l.toArray l' fr H Z) : awp P N w0 Wr (.region id l.toArray true) fr H Q :=
 fun a w ha hw => kT1 ord hm hB (jY2 ord a w.drew (by
  simp only [rigB, xM, decide_eq_true_eq] at hB
  exact (kB9 hB.1.2 (by simp) hB.1.1.2).2) (by
  have := h (fun fr H => nx N w0 Wr fr H Q .normal) (fun _ _ h => h) (QN Q) (fun fr' H' a w hz hf hs => ⟨rfl, hz a w hf hs⟩) a w.drew ha hw.drew
  rw [← hl] at this
  simpa [kY1] using this))
theorem jX3 {id : Nat} {l l' : List Oper} {y : Code} (ord : List Nat) (hm : P.follows .mixedOrders = true) (hB : rigB P l ord = true) (hl : kY1 l ord = l') (h : ∀ Z : Fr → Heap → Prop, (∀ fr H, awp P N w0 Wr y fr H Q → Z fr H) → sx P N w0 Wr l.toArray l' fr H Z) : awp P N w0 Wr (.seq (.region id l.toArray true) y) fr H Q :=
 aS (vZ8 ord hm hB hl fun Z hZ => h Z fun fr H hy => hZ fr H hy)
end
end
section
open Go.RowKit
def yD9 (ops : Array Oper) (A : List (List Nat)) : List Nat → Bool
 | [] => true
 | i :: r => (r.all fun j => (A.getD j []).contains i || (match ops[i]?, ops[j]? with
   | some oi, some oj => oi.apart ops oj
   | _, _ => false)) && yD9 ops A r
def wI1 (P : Program) (l : List Oper) (qs ls : List Nat) : Bool :=
 Region.noSelect l.toArray && Nat.beq (qs ++ ls).length l.length && decide (qs ++ ls).Nodup && extB l.toArray [] (qs ++ ls) &&
 yD9 l.toArray (ancs l) qs && (ls.all fun j => qs.all fun i => ((ancs l).getD j []).contains i || (match l.toArray[i]?, l.toArray[j]? with
   | some oi, some oj => oi.apart l.toArray oj && Nat.beq (jK8 P oi.op) 0
   | _, _ => false)) && vE2 P l.toArray (ancs l) ls
section
variable {P : Program} {ops : Array Oper} {Q : Exit → Act → World → Prop} {C : World → Prop}
def wpQ (P : Program) (ops : Array Oper) (C : World → Prop) (K : Act → Prop) : List Nat → Act → Prop
 | [], a => K a
 | i :: r, a => qOp P ops C i (wpQ P ops C K r) a
theorem yA6 {i j : Nat} {oi oj : Oper} {K : Act → Prop} {a : Act} (hi : ops[i]? = some oi) (hj : ops[j]? = some oj) (hap : oi.apart ops oj = true) (hsi : ∀ cs b, oi.op ≠ .select cs b) (hsj : ∀ cs b, oj.op ≠ .select cs b)
  (h : qOp P ops C i (qOp P ops C j K) a) : qOp P ops C j (qOp P ops C i K) a := by
 obtain ⟨v, hy, hk⟩ := yieldsIn_of_qOp hi h
 exact qOp_mono (fun b ⟨h1, h2⟩ => h1.qOp hi h2) (qOp_put hj hap hsi hsj hy hk)
theorem wI5 (hsel : ∀ (j : Nat) (o : Oper) cs b, ops[j]? = some o → o.op ≠ .select cs b) {j : Nat} {r : List Nat} {K : Act → Prop} : ∀ (p : List Nat) (a : Act),
  (∀ i ∈ p, ∃ oi oj, ops[i]? = some oi ∧ ops[j]? = some oj ∧ oi.apart ops oj = true) →
  wpQ P ops C K (p ++ j :: r) a → qOp P ops C j (wpQ P ops C K (p ++ r)) a
 | [], a, _, h => h
 | i :: p, a, hp, h => by
  obtain ⟨oi, oj, h1, h2, h3⟩ := hp i lP
  have h5 : qOp P ops C i (qOp P ops C j (wpQ P ops C K (p ++ r))) a := qOp_mono (fun b hb => wI5 hsel p b (fun k hk => hp k (lU _ hk)) hb) h
  exact yA6 h1 h2 h3 (fun cs b => hsel i oi cs b h1) (fun cs b => hsel j oj cs b h2) h5
theorem wM3 {A : List (List Nat)} (hA : ∀ j i, i ∈ A.getD j [] → Dep ops i j) : ∀ {ord : List Nat}, yD9 ops A ord = true →
  ord.Pairwise fun i j => Dep ops i j ∨ ∃ oi oj, ops[i]? = some oi ∧ ops[j]? = some oj ∧ oi.apart ops oj = true
 | [], _ => qR
 | i :: r, h => by
  simp only [yD9, xM] at h
  refine zP (fun j hj => ?_) (wM3 hA h.2)
  have := List.all_eq_true.1 h.1 j hj
  simp only [zB] at this
  rcases this with h1 | h1
  ·exact .inl (hA j i (by simpa using h1))
  ·cases ho : ops[i]? with
   | none => simp [ho] at h1
   | some oi =>
    cases ho' : ops[j]? with
    | none => simp [ho, ho'] at h1
    | some oj =>
     simp only [ho, ho'] at h1
     exact .inr ⟨oi, oj, rfl, rfl, h1⟩
structure Left (ops : Array Oper) (ord : List Nat) (listed : Array Bool) : Prop where
 nodup : ord.Nodup
 size : listed.size = ops.size
 lt : ∀ i ∈ ord, i < ops.size
 mem : ∀ k, k < ops.size → (listed.getD k true = false ↔ k ∈ ord)
 ext : Ext ops ord
 down : ∀ j o, ops[j]? = some o → j ∉ ord → ∀ e ∈ o.after, Region.binds .any e = true → e.on < ops.size ∧ e.on ∉ ord
theorem Left.listed {ord : List Nat} {listed : Array Bool} (h : Left ops ord listed) (k : Nat) (hk : k < ops.size) : listed.getD k false = true ↔ k ∉ ord := by
 rw [← h.mem k hk]
 have : k < listed.size := by rw [h.size]; exact hk
 simp [zC, this]
theorem Left.deps {ord : List Nat} {listed : Array Bool} (h : Left ops ord listed) (hedge : ∀ (j : Nat) (o : Oper), ops[j]? = some o → ∀ e ∈ o.after, Region.binds .any e = true → e.on < ops.size) {j : Nat} (hj : j ∈ Region.ready .any ops listed) : ∀ i, Dep ops i j → i ∉ ord := fun i hd => by
 obtain ⟨h0, o, ho, hall⟩ := mem_ready.1 hj
 have hone : ∀ k, Dep ops i k → k ∉ ord → i ∉ ord := by
  intro k hk
  induction hk with
  | one ho' he hb hi => intro hkn; exact hi ▸ (h.down _ _ ho' hkn _ he hb).2
  | more ho' he hb hi ih2 => intro hkn; exact ih2 (h.down _ _ ho' hkn _ he hb).2
 cases hd with
 | one ho' he hb hi =>
  rw [ho] at ho'; obtain rfl := lV ho'
  have h1 := hedge j _ ho _ he hb
  exact hi ▸ (h.listed _ h1).1 (hall _ he hb)
 | more ho' he hb hi =>
  rw [ho] at ho'; obtain rfl := lV ho'
  have h1 := hedge j _ ho _ he hb
  exact hone _ hi ((h.listed _ h1).1 (hall _ he hb))
theorem Left.step {p r : List Nat} {j : Nat} {listed : Array Bool} (h : Left ops (p ++ j :: r) listed) (hedge : ∀ (j : Nat) (o : Oper), ops[j]? = some o → ∀ e ∈ o.after, Region.binds .any e = true → e.on < ops.size) (hj : j ∈ Region.ready .any ops listed) : Left ops (p ++ r) (listed.setIfInBounds j true) := by
 obtain ⟨h0, o, ho, hall⟩ := mem_ready.1 hj
 have hjlt : j < ops.size := (Array.getElem?_eq_some_iff.1 ho).1
 have hnd' : (p ++ r).Nodup ∧ j ∉ p ++ r := by
  have := List.nodup_append.1 h.nodup
  have h2 := List.nodup_cons.1 this.2.1
  refine ⟨List.nodup_append.2 ⟨this.1, h2.2, fun x hx y hy => this.2.2 x hx y (lU _ hy)⟩, fun hm => ?_⟩
  rcases List.mem_append.1 hm with hm | hm
  ·exact this.2.2 j hm j lP rfl
  ·exact h2.1 hm
 have hsub : ∀ x, x ∈ p ++ r → x ∈ p ++ j :: r := fun x hx => by
  rcases List.mem_append.1 hx with hx | hx
  ·exact xI _ hx
  ·exact x7 _ (lU _ hx)
 refine ⟨hnd'.1, by simpa using h.size, fun i hi => h.lt i (hsub i hi), fun k hk => ?_, h.ext.drop, fun k ok hok hkn e he hb' => ?_⟩
 ·by_cases hjk : j = k
  ·subst hjk
   have : j < listed.size := by rw [h.size]; exact hjlt
   simp [zC, this]
   simpa using hnd'.2
  ·rw [getD_set_ne true hjk, h.mem k hk]
   simp only [l9, lW]
   constructor
   ·rintro (h1 | h1 | h1)
    ·exact .inl h1
    ·exact absurd h1.symm hjk
    ·exact .inr h1
   ·rintro (h1 | h1)
    ·exact .inl h1
    ·exact .inr (.inr h1)
 ·refine ⟨hedge k ok hok e he hb', fun hm => ?_⟩
  by_cases hkj : k = j
  ·subst hkj
   rw [ho] at hok; obtain rfl := lV hok
   have h1 := hedge k _ ho e he hb'
   exact (h.listed _ h1).1 (hall e he hb') (hsub _ hm)
  ·have hkn' : k ∉ p ++ j :: r := fun hm' => by
    rcases List.mem_append.1 hm' with h1 | h1
    ·exact hkn (xI _ h1)
    ·rcases List.mem_cons.1 h1 with h1 | h1
     ·exact hkj h1
     ·exact hkn (x7 _ h1)
   exact (h.down k ok hok hkn' e he hb').2 (hsub _ hm)
theorem Left.first {i : Nat} {r : List Nat} {listed : Array Bool} (h : Left ops (i :: r) listed) (hedge : ∀ (j : Nat) (o : Oper), ops[j]? = some o → ∀ e ∈ o.after, Region.binds .any e = true → e.on < ops.size) : i ∈ Region.ready .any ops listed := by
 have hi := h.lt i lP
 refine mem_ready.2 ⟨(h.mem i hi).2 lP, ops[i], zL hi, fun e he hb => ?_⟩
 have h1 := hedge i _ (zL hi) e he hb
 exact (h.listed e.on h1).2 (h.ext [] i r rfl _ (zL hi) e he hb)
def zR1 (P : Program) (ops : Array Oper) (i j : Nat) : Prop := Dep ops i j ∨ ∃ oi oj, ops[i]? = some oi ∧ ops[j]? = some oj ∧ oi.apart ops oj = true ∧ jK8 P oi.op = 0
theorem vR1 {ls : List Nat} : ∀ (qs : List Nat) (a : Act) (w : World), C w → wpQ P ops C (fun a => ∀ w, C w → wpOps P ops (QN Q) ls a w) qs a → wpOps P ops (QN Q) (qs ++ ls) a w
 | [], a, w, hC, h => h w hC
 | i :: r, a, w, hC, h => by
  rw [lL, wpOps_cons]
  exact wpOp_of_qOp hC (fun b w' hC' hb => vR1 r b w' hC' hb) h
theorem vN3 (hsel : ∀ (j : Nat) (o : Oper) cs b, ops[j]? = some o → o.op ≠ .select cs b) (hedge : ∀ (j : Nat) (o : Oper), ops[j]? = some o → ∀ e ∈ o.after, Region.binds .any e = true → e.on < ops.size) {ls : List Nat}
  (hpl : ls.Pairwise fun i j => Dep ops i j ∨ ∃ oi oj, ops[i]? = some oi ∧ ops[j]? = some oj ∧ oi.apart ops oj = true ∧ kZ6 (jK8 P oi.op) (jK8 P oj.op) = true) :
  ∀ (n : Nat) (qs : List Nat) (listed : Array Bool) (a : Act) (w : World), qs.length = n → C w → Left ops (qs ++ ls) listed →
  (qs.Pairwise fun i j => Dep ops i j ∨ ∃ oi oj, ops[i]? = some oi ∧ ops[j]? = some oj ∧ oi.apart ops oj = true) → (∀ j ∈ ls, ∀ i ∈ qs, zR1 P ops i j) →
  wpQ P ops C (fun a => ∀ w, C w → wpOps P ops (QN Q) ls a w) qs a → wpAny P .any ops (QN Q) (n + ls.length) listed a w := by
 intro n
 induction n with
 | zero =>
  intro qs listed a w hl hC hL hpq hcross h
  obtain rfl := zE hl
  simp only [lE] at hL
  rw [lA]
  exact kE7 (P := P) (Q := Q) hsel ls.length ls listed a w rfl hL.nodup hL.size hL.lt hL.mem hL.ext hL.down hedge hpl (h w hC)
 | succ n ih =>
  intro qs listed a w hl hC hL hpq hcross h
  by_cases hpure : ∀ i ∈ qs, ∀ oi, ops[i]? = some oi → jK8 P oi.op = 0
  ·-- only pure ones are left of the head
   have hord := vR1 qs a w hC h
   have hlen : (qs ++ ls).length = n + 1 + ls.length := by simp [hl]
   refine kE7 (P := P) (Q := Q) hsel _ (qs ++ ls) listed a w hlen hL.nodup hL.size hL.lt hL.mem hL.ext hL.down hedge ?_ hord
   have hz : ∀ x, kZ6 0 x = true := fun x => rfl
   refine List.pairwise_append.2 ⟨?_, hpl, fun i hi j hj => ?_⟩
   ·refine hpq.imp_of_mem fun {i j} hi _ hij => ?_
    rcases hij with hd | ⟨oi, oj, h1, h2, h3⟩
    ·exact .inl hd
    ·exact .inr ⟨oi, oj, h1, h2, h3, by rw [hpure i hi oi h1]; exact hz _⟩
   ·rcases hcross j hj i hi with hd | ⟨oi, oj, h1, h2, h3, h4⟩
    ·exact .inl hd
    ·exact .inr ⟨oi, oj, h1, h2, h3, by rw [h4]; exact hz _⟩
  obtain ⟨i0, hi0, o0, ho0, hc0⟩ : ∃ i ∈ qs, ∃ oi, ops[i]? = some oi ∧ jK8 P oi.op ≠ 0 := by
   apply Classical.byContradiction
   intro hno
   refine hpure fun i hi oi ho => ?_
   apply Classical.byContradiction
   intro hne
   exact hno ⟨i, hi, oi, ho, hne⟩
  rw [show n + 1 + ls.length = (n + ls.length) + 1 by omega]
  refine ⟨fun hnil => ?_, fun j hj => ?_⟩
  ·exfalso
   match qs, hl with
   | i :: r, _ =>
    have := hL.first hedge
    rw [hnil] at this
    cases this
  ·have hdeps := hL.deps hedge hj
   obtain ⟨h0, o, ho, hall⟩ := mem_ready.1 hj
   have hjlt : j < ops.size := (Array.getElem?_eq_some_iff.1 ho).1
   have hjm := (hL.mem j hjlt).1 h0
   have hjq : j ∈ qs := by
    rcases List.mem_append.1 hjm with h1 | h1
    ·exact h1
    ·rcases hcross j h1 i0 hi0 with hd | ⟨oi, oj, h2, _, _, h4⟩
     ·exact absurd (xI _ hi0) (hdeps i0 hd)
     ·rw [ho0] at h2
      obtain rfl := lV h2
      exact absurd h4 hc0
   obtain ⟨p, r, rfl⟩ := List.append_of_mem hjq
   have hpp := List.pairwise_append.1 hpq
   have hswap : ∀ i ∈ p, ∃ oi oj, ops[i]? = some oi ∧ ops[j]? = some oj ∧ oi.apart ops oj = true := fun i hi => by
    rcases hpp.2.2 i hi j lP with hd | hd
    ·exact absurd (xI _ (xI _ hi)) (hdeps i hd)
    ·exact hd
   have hL' : Left ops ((p ++ r) ++ ls) (listed.setIfInBounds j true) := by
    rw [xD]
    exact Left.step (by simpa [xD] using hL) hedge hj
   refine wpOp_of_qOp hC (fun b w' hC' hb => ih (p ++ r) (listed.setIfInBounds j true) b w' (by simp at hl ⊢; omega) hC' hL' ?_ (fun x hx i hi => hcross x hx i ?_) hb) (wI5 hsel p a hswap h)
   ·exact List.pairwise_append.2 ⟨hpp.1, (List.pairwise_cons.1 hpp.2.1).2, fun x hx y hy => hpp.2.2 x hx y (lU _ hy)⟩
   ·rcases List.mem_append.1 hi with hi | hi
    ·exact xI _ hi
    ·exact x7 _ (lU _ hi)
theorem vG6 : ∀ (m : Nat) (s : List Nat), s.Nodup → s.length = m → (∀ x ∈ s, x < m) → ∀ k, k < m → k ∈ s := by
 intro m
 induction m with
 | zero => intro s _ _ _ k hk; omega
 | succ m ih =>
  intro s hs hlen hlt k hk
  have hm : m ∈ s := by
   apply Classical.byContradiction
   intro hm
   have hl2 : ∀ x ∈ s, x < m := fun x hx => by
    have := hlt x hx
    have : x ≠ m := fun e => hm (e ▸ hx)
    omega
   match s, hlen with
   | y :: s', hlen =>
    have hs' := List.nodup_cons.1 hs
    have := ih s' hs'.2 (by simpa using hlen) (fun x hx => hl2 x (lU _ hx)) y (hl2 y lP)
    exact hs'.1 this
  by_cases hkm : k = m
  ·exact hkm ▸ hm
  ·have := ih (s.erase m) (hs.erase m) (by rw [List.length_erase_of_mem hm]; omega) (fun x hx => by
    have h1 := hlt x (List.mem_of_mem_erase hx)
    have h2 : x ≠ m := fun e => by subst e; exact absurd hx (List.Nodup.not_mem_erase hs)
    omega) k (by omega)
   exact List.mem_of_mem_erase this
theorem jU9 : ∀ (ord done : List Nat), extB ops done ord = true → (∀ x ∈ done, x < ops.size) → ∀ k ∈ ord, ∀ ok, ops[k]? = some ok → ∀ e ∈ ok.after, Region.binds .any e = true → e.on < ops.size := by
 intro ord
 induction ord with
 | nil => intro _ _ _ k hk; cases hk
 | cons i r ih =>
  intro done h1 h2 k hk ok hok e he hb
  simp only [extB, xM] at h1
  cases hi : ops[i]? with
  | none => rw [hi] at h1; simp at h1
  | some oi =>
   rcases List.mem_cons.1 hk with rfl | hk
   ·rw [hi] at hok; obtain rfl := lV hok
    rw [hi] at h1
    have := List.all_eq_true.1 h1.1 e (by simpa using he)
    simp only [hb, Bool.not_true, Bool.false_or] at this
    exact h2 e.on (by simpa using this)
   ·exact ih (i :: done) h1.2 (fun x hx => by
     rcases List.mem_cons.1 hx with rfl | hx
     ·exact (Array.getElem?_eq_some_iff.1 hi).1
     ·exact h2 x hx) k hk ok hok e he hb
theorem kO4 {N : Frm} {id : Nat} {l : List Oper} {a : Act} {w : World} (qs ls : List Nat) (hm : P.follows .mixedOrders = true) (hB : wI1 P l qs ls = true) (hC : C w.drew) (h : wpQ P l.toArray C (fun a => ∀ w, C w → wpOps P l.toArray (QN Q) ls a w) qs a) : wq P N (.region id l.toArray true) Q a w := by
 simp only [wI1, xM, decide_eq_true_eq] at hB
 obtain ⟨⟨⟨⟨⟨⟨hsel, hlen⟩, hnd⟩, hext⟩, hhead⟩, hcross⟩, hpairs⟩ := hB
 have hlen := x6 hlen
 obtain ⟨he1, he2⟩ := kB9 hext (by simp) hnd
 have hall : ∀ k, k < l.length → k ∈ qs ++ ls := vG6 l.length _ hnd hlen (fun x hx => by simpa using he2 x hx)
 have hedge : ∀ (j : Nat) (o : Oper), l.toArray[j]? = some o → ∀ e ∈ o.after, Region.binds .any e = true → e.on < l.toArray.size := fun j o ho e he hb =>
  jU9 _ _ hext (by simp) j (hall j (by simpa using (Array.getElem?_eq_some_iff.1 ho).1)) o ho e he hb
 refine kJ0 hm ?_
 have hA := kE8 l
 have := vN3 (P := P) (Q := Q) (C := C) (Region.noSelect_spec hsel) hedge (kX2 hA hpairs) qs.length qs (Array.replicate l.toArray.size false) a w.drew rfl hC
  ⟨hnd, by simp, he2, fun k hk => by
   have h1 : k ∈ qs ++ ls := hall k (by simpa using hk)
   have hk' : k < l.length := by simpa using hk
   have h2 : (Array.replicate l.toArray.size false).getD k true = false := by simp [zC, hk']
   exact ⟨fun _ => h1, fun _ => h2⟩, he1, fun j o ho hj => absurd (hall j (by simpa using (Array.getElem?_eq_some_iff.1 ho).1)) hj⟩
  (wM3 hA hhead) (fun j hj i hi => by
   have := List.all_eq_true.1 (List.all_eq_true.1 hcross j hj) i hi
   simp only [zB] at this
   rcases this with h1 | h1
   ·exact .inl (hA j i (by simpa using h1))
   ·cases ho : l.toArray[i]? with
    | none => rw [ho] at h1; simp at h1
    | some oi =>
     cases ho' : l.toArray[j]? with
     | none => rw [ho, ho'] at h1; simp at h1
     | some oj =>
      rw [ho, ho'] at h1
      simp only [xM] at h1
      exact .inr ⟨oi, oj, ho, ho', h1.1, x6 h1.2⟩) h
 have e : qs.length + ls.length = l.toArray.size := by simpa using hlen
 rw [e] at this
 exact this
theorem vD8 {ops : Array Oper} {K : Act → Prop} : ∀ (ord : List Nat) (a : Act), (∀ i ∈ ord, i < ops.size) → wpQuiet P ops C K (ord.filterMap (ops.toList[·]?)) a → wpQ P ops C K ord a
 | [], a, _, h => h
 | i :: r, a, hlt, h => by
  have hi := hlt i lP
  have ho : ops[i]? = some ops[i] := zL hi
  have ho' : ops.toList[i]? = some ops[i] := by simp [hi]
  rw [l8, ho'] at h
  simp only [wpQuiet] at h
  simp only [wpQ, qOp, ho]
  have ih := fun a => vD8 (K := K) r a (fun k hk => hlt k (lU _ hk))
  split
  ·rename_i hw
   rw [if_pos hw] at h
   exact Oper.quiet_mono (fun a hh => ih a hh) h
  ·rename_i hw
   rw [if_neg hw] at h
   exact ih _ h
end
section
variable {P : Program} {N : Frm} {w0 : World} {Wr : List Nat} {fr : Fr} {H : Heap} {Q : Exit → Act → World → Prop}
theorem kS2 {id : Nat} {l l1 l2 : List Oper} (qs ls : List Nat) (hm : P.follows .mixedOrders = true) (hB : wI1 P l qs ls = true) (h1 : kY1 l qs = l1) (h2 : kY1 l ls = l2)
  (h : ∀ Z : Fr → Heap → Prop, (∀ fr H, nx N w0 Wr fr H Q .normal → Z fr H) → sq P N w0 Wr l.toArray l1 fr H (fun fr' H' => sx P N w0 Wr l.toArray l2 fr' H' Z)) : awp P N w0 Wr (.region id l.toArray true) fr H Q :=
 fun a w ha hw => by
  have hlt : ∀ i ∈ qs ++ ls, i < l.toArray.size := by
   have hB' := hB
   simp only [wI1, xM, decide_eq_true_eq] at hB'
   exact (kB9 hB'.1.1.1.2 (by simp) hB'.1.1.1.1.2).2
  refine kO4 (C := Sat w0 Wr H) qs ls hm hB hw.drew (vD8 qs a (fun i hi => hlt i (xI _ hi)) ?_)
  have := h (fun fr H => nx N w0 Wr fr H Q .normal) (fun _ _ h => h) (fun a' => ∀ w', Sat w0 Wr H w' → wpOps P l.toArray (QN Q) ls a' w') (fun fr' a' hz hf w' hw' =>
   jY2 ls a' w' (fun i hi => hlt i (x7 _ hi)) (by
    have := hz (QN Q) (fun fr' H' a w hz hf hs => ⟨rfl, hz a w hf hs⟩) a' w' hf hw'
    rw [← h2] at this
    simpa [kY1] using this)) a ha
  rw [← h1] at this
  simpa [kY1] using this
theorem jX1 {id : Nat} {l l1 l2 : List Oper} {y : Code} (qs ls : List Nat) (hm : P.follows .mixedOrders = true) (hB : wI1 P l qs ls = true) (h1 : kY1 l qs = l1) (h2 : kY1 l ls = l2)
  (h : ∀ Z : Fr → Heap → Prop, (∀ fr H, awp P N w0 Wr y fr H Q → Z fr H) → sq P N w0 Wr l.toArray l1 fr H (fun fr' H' => sx P N w0 Wr l.toArray l2 fr' H' Z)) : awp P N w0 Wr (.seq (.region id l.toArray true) y) fr H Q :=
 aS (kS2 qs ls hm hB h1 h2 fun Z hZ => h Z fun fr H hy => hZ fr H hy)
end
end
section
open Go.RowKit
section
variable {P : Program} {ops : Array Oper} {Q : Exit → Act → World → Prop} {C : World → Prop} {a b : Act} {w : World} {i j : Nat} {o oi oj : Oper} {v u : Value}
def YAll (P : Program) (ops : Array Oper) (o : Oper) (v : Value) (a : Act) : Prop := ∀ w, YAt P ops o v a w
theorem YAt.uniq (h : YAt P ops o v a w) (k : YAt P ops o u a w) : v = u := by
 rcases h with ⟨h1, h2⟩ | ⟨h1, rfl⟩
 ·rcases k with ⟨k1, k2⟩ | ⟨k1, rfl⟩
  ·rw [h2] at k2; injection k2 with k2; injection k2
  ·rw [h1] at k1; cases k1
 ·rcases k with ⟨k1, k2⟩ | ⟨k1, rfl⟩
  ·rw [h1] at k1; cases k1
  ·rfl
theorem YAt.back {d : Option Nat} (hy : YAt P ops o v b w) (h : Near a d b) (hs : ∀ cs b, o.op ≠ .select cs b) (hd : ∀ t, d = some t → t ∉ o.looksAt ops) : YAt P ops o v a w := by
 obtain ⟨h1, h2⟩ := h.eval (ops := ops) o hs hd
 unfold YAt at hy
 rw [h1, h2] at hy
 exact hy
theorem kX7 {l : List (Nat × Bool)} {j : Nat} (h : j ∈ l.map Prod.fst) : ∃ b, (j, b) ∈ l := by
 obtain ⟨⟨k, b⟩, h1, rfl⟩ := List.mem_map.1 h
 exact ⟨b, h1⟩
def apB (ops : Array Oper) (i j : Nat) : Bool := match ops[i]?, ops[j]? with | some oi, some oj => oi.apart ops oj | _, _ => false
theorem yN3 {i j : Nat} (h : apB ops i j = true) : ∃ oi oj, ops[i]? = some oi ∧ ops[j]? = some oj ∧ oi.apart ops oj = true := by
 unfold apB at h
 split at h
 ·rename_i oi oj h1 h2; exact ⟨oi, oj, h1, h2, h⟩
 ·cases h
end
def Rd (w : World) (size : Nat) (A : Option Addr) (n : Nat) (xs : List Value) : Prop :=
 xs.length = n * size ∧ (A = none → n = 0) ∧ (0 < n → ∃ g o, A = some ⟨g, o, none⟩ ∧ g < w.heap.size ∧ ∀ j u, xs[j]? = some u → w.cell? ⟨g, o + j, none⟩ = some u)
section
variable {w w' W0 : World} {size n : Nat} {A : Option Addr} {xs : List Value}
theorem Rd.bel (h : Rd w size A n xs) (hb : Bel w w') : Rd w' size A n xs :=
 ⟨h.1, h.2.1, fun hn => by
  obtain ⟨g, o, a, b, c⟩ := h.2.2 hn
  exact ⟨g, o, a, uJ b hb.size, fun j u hu => ((Bel.took hb).1 _ _ b).trans (c j u hu)⟩⟩
theorem Rd.alloc (h : Rd w size A n xs) (o : Obj) : Rd (w.alloc o) size A n xs := h.bel ((Bel.refl w).alloc o)
theorem Rd.newM (w : World) (cs : Array Value) (t : TypeId) (m : Nat × Nat) (n : Nat) (hs : cs.size = n * size) : Rd (w.alloc (.cells cs t m)) size (some ⟨w.heap.size, 0, none⟩) n cs.toList := by
 refine ⟨by simpa using hs, ?_, ?_⟩
 ·intro h; exact absurd h (by simp)
 ·intro _
  refine ⟨_, _, rfl, by simp, fun j u hu => ?_⟩
  have hh : (w.alloc (.cells cs t m)).heap[w.heap.size]? = some (.cells cs t m) := by
   show (w.heap.push _)[w.heap.size]? = _
   simp
  simp only [lA]
  rw [cell_of_row _ w.heap.size j cs t m hh]
  simpa using hu
theorem Rd.new (w : World) (cs : Array Value) (t : TypeId) (n : Nat) (hs : cs.size = n * size) : Rd (w.alloc (.cells cs t)) size (some ⟨w.heap.size, 0, none⟩) n cs.toList := Rd.newM w cs t _ n hs
end
def ElemOk (P : Program) (t e : TypeId) (size bytes : Nat) : Prop :=
 P.underlying t = some (.slice e) ∧ ∃ (i : TypeInfo) (z : Value), P.info? e = some i ∧ i.zero = some z ∧ i.size = size ∧ i.bytes = bytes ∧ z.cells.size = size ∧ 0 < size
theorem ElemOk.mk_ {P : Program} {t e : TypeId} {size bytes : Nat} {z : Value} (ht : P.underlying t = some (.slice e)) (hi : (P.info? e).map (fun i => (i.zero, i.size, i.bytes)) = some (some z, size, bytes))
  (hz : z.cells.size = size) (hs : 0 < size) : ElemOk P t e size bytes := by
 obtain ⟨i, h1, h2, h3, h4⟩ := info_parts hi
 exact ⟨ht, i, z, h1, h2, h3, h4, hz, hs⟩
section
variable {P : Program}
theorem wH2 {w W0 : World} {t ty e : TypeId} {size bytes : Nat} (hE : ElemOk P t e size bytes) {base : Nat} (hW : Bel W0 w) (hbase : W0.heap.size ≤ base) (hbw : base ≤ w.heap.size)
  {v : Value} {n : Nat} {xs : List Value} (hown : w.ownsRow base e size v n xs) {A : Option Addr} {m c : Nat} {news : List Value} (hr : Rd w size A m news) (h1 : ∀ u ∈ news, u.oneCell' = true)
  (h63 : n + m ≤ maxLen) (hby : (n + m) * bytes ≤ 140737488355328) :
  ∃ v' w', (Builtin.append_ #[t, t] ty #[v, .slice A m c]).run P w = .ok v' w' ∧ w'.ownsRow base e size v' (n + m) (xs ++ news) ∧ Bel W0 w' ∧ w.grownBy w' v.ownBlock ∧
   (v'.ownBlock = v.ownBlock ∨ v'.ownBlock = some w.heap.size) := by
 obtain ⟨ht, i, z, hi, hz, hsize, hbs, hzs, hsz⟩ := hE
 have bel : ∀ w', w.grownBy w' v.ownBlock → Bel W0 w' := fun w' hg =>
  Below.grown hW hg hW.size (fun k hk => by have := (World.ownsRow.lt hown k hk).1; omega)
 rcases A with _ | ad
 ·have hm := hr.2.1 rfl
  subst hm
  have hn : news = [] := zE (by simpa using hr.1)
  subst hn
  refine ⟨v, w, ?_, by simpa using hown, hW, World.grownBy.refl w _, .inl rfl⟩
  rcases hown.2 with ⟨rfl, rfl⟩ | ⟨g, cap, cur, rfl, _, _, hnc, _⟩
  ·simp [Builtin.append_, run_underlying ht, sizeOf, typeInfo, hi, Builtin.lenOf, Builtin.firstCells]
  ·simp [Builtin.append_, run_underlying ht, sizeOf, typeInfo, hi, Builtin.lenOf, Builtin.firstCells, hnc, storeCells]
 ·have hcells : ∀ j u, news[j]? = some u → w.cell? (ad.add j) = some u := fun j u hu => by
   have hj : j < news.length := (List.getElem?_eq_some_iff.1 hu).1
   have hm : 0 < m := by
    rcases zM m with h0 | h0
    ·have hl := hr.1
     rw [h0, xH] at hl
     omega
    ·exact h0
   obtain ⟨g, o, ha, _, hc⟩ := hr.2.2 hm
   obtain rfl := lV ha
   have := hc j u hu
   unfold Addr.add
   by_cases hj : j = 0
   ·subst hj; simpa using this
   ·simpa [hj] using this
  obtain ⟨v', w', hrun, h2, h3, _, h5⟩ := run_append_own_at (P := P) w base t ty e i z size bytes ht hi hz hsize hbs hzs hsz v n xs hown ad m c news hr.1 hcells h1 h63 hby hbw
  exact ⟨v', w', hrun, h2, bel _ h3, h3, h5⟩
theorem zD1 {w W0 : World} {o : Oper} {a : Act} {K : Act → World → Prop} {Q : Exit → Act → World → Prop} {t e : TypeId} {size bytes : Nat} (hE : ElemOk P t e size bytes) (s x : Operand)
  (ho : o.op = .call { callee := .builtin .append, args := #[s, x], argTypes := #[t, t] }) {base : Nat} (hW : Bel W0 w) (hbase : W0.heap.size ≤ base) (hbw : base ≤ w.heap.size)
  {v : Value} {n : Nat} {xs : List Value} (hs : a.eval s = v) (hown : w.ownsRow base e size v n xs) {A : Option Addr} {m c : Nat} {news : List Value} (hx : a.eval x = .slice A m c) (hr : Rd w size A m news) (h1 : ∀ u ∈ news, u.oneCell' = true)
  (h63 : n + m ≤ maxLen) (hby : (n + m) * bytes ≤ 140737488355328)
  (h : ∀ v' w', w'.ownsRow base e size v' (n + m) (xs ++ news) → Bel W0 w' → w.grownBy w' v.ownBlock → (v'.ownBlock = v.ownBlock ∨ v'.ownBlock = some w.heap.size) → K (a.put o.dst v') w') : o.wp P a w K Q := by
 obtain ⟨v', w', hrun, h2, h3, h4, h5⟩ := wH2 (P := P) (ty := o.type) (c := c) hE hW hbase hbw hown hr h1 h63 hby
 unfold Oper.wp execOp
 simp only [ho, resolve, invoke, builtin, lJ, l7, lR, uB, xR, qT, hs, hx, hrun]
 exact h v' w' h2 h3 h4 h5
theorem kP0 {w : World} {ops : Array Oper} {rest : List Oper} {o : Oper} {a : Act} {Q : Exit → Act → World → Prop} (W0 : World) {t e : TypeId} {size bytes : Nat} (hE : ElemOk P t e size bytes) (hgd : o.guard = none) (s x : Operand)
  (ho : o.op = .call { callee := .builtin .append, args := #[s, x], argTypes := #[t, t] }) {base : Nat} (hW : Bel W0 w) (hbase : W0.heap.size ≤ base) (hbw : base ≤ w.heap.size)
  {v : Value} {n : Nat} {xs : List Value} (hs : a.eval s = v) (hown : w.ownsRow base e size v n xs) {A : Option Addr} {m c : Nat} {news : List Value} (hx : a.eval x = .slice A m c) (hr : Rd w size A m news) (h1 : ∀ u ∈ news, u.oneCell' = true)
  (h63 : n + m ≤ maxLen) (hby : (n + m) * bytes ≤ 140737488355328)
  (h : ∀ v' w', w'.ownsRow base e size v' (n + m) (xs ++ news) → Bel W0 w' → w.grownBy w' v.ownBlock → (v'.ownBlock = v.ownBlock ∨ v'.ownBlock = some w.heap.size) → wpList P ops Q rest (a.put o.dst v') w') : wpList P ops Q (o :: rest) a w :=
 wpList_plain hgd fun _ hK => zD1 hE s x ho hW hbase hbw hs hown hx hr h1 h63 hby fun v' w' h2 h3 h4 h5 => hK _ _ (h v' w' h2 h3 h4 h5)
end
def bv (l : List UInt8) : List Value := l.map fun b => .int .u8 (b.toNat : Int)
theorem jF9 (l : List UInt8) : (bv l).length = l.length := by simp [bv]
theorem jP4 (a b : List UInt8) : bv (a ++ b) = bv a ++ bv b := by simp [bv]
theorem wS7 (l : List UInt8) : ∀ u ∈ bv l, u.oneCell' = true := by
 intro u hu
 simp only [bv, xG] at hu
 obtain ⟨b, _, rfl⟩ := hu
 rfl
theorem zQ5 (l : List UInt8) (k : Nat) (h : k < l.length) : (bv l)[k]? = some (.int .u8 (l[k].toNat : Int)) := by simp [bv, h]
@[simp, go_sem] theorem str_toList (l : List UInt8) : (str l).toList = l := by rw [ByteArray.toList_eq]; rfl
@[go_sem] theorem str_append (a b : List UInt8) : str a ++ str b = str (a ++ b) := by
 have h : (str a ++ str b).data.toList = a ++ b := by
  rw [ByteArray.data_append]
  simp [str]
 obtain ⟨l, e⟩ := vC3 (str a ++ str b)
 rw [e, jZ8] at h
 rw [e, h]
@[go_sem] theorem str_extract (l : List UInt8) (i j : Nat) : (str l).extract i j = str ((l.drop i).take (j - i)) := by
 have h : ((str l).extract i j).data.toList = (l.drop i).take (j - i) := by
  rw [ByteArray.data_extract]
  simp [str]
 obtain ⟨m, e⟩ := vC3 ((str l).extract i j)
 rw [e, jZ8] at h
 rw [e, h]
@[go_sem] theorem str_at (l : List UInt8) (i : Nat) (h : i < (str l).size) : (str l)[i] = l[i]'(by rw [str_size] at h; exact h) := rfl
theorem wH0 {P : Program} {w : World} {A : Option Addr} {l : List UInt8} {n c : Nat} (hr : Rd w 1 A n (bv l)) (src e dst : TypeId) (hs : P.underlying src = some (.slice e)) (he : P.underlying e = some (.int .u8)) (hd : P.underlying dst = some .string) :
  (convert src dst (.slice A n c)).run P w = .ok (.string (str l)) w := by
 have hl : n = l.length := by have := hr.1; simp [jF9] at this; exact this.symm
 subst hl
 rcases A with _ | ad
 ·have h0 := hr.2.1 rfl
  obtain rfl : l = [] := zE h0
  exact run_convert_bytes_nil w src e hs he _ c dst hd
 rcases zM l.length with h0 | h0
 ·obtain rfl : l = [] := zE h0
  obtain ⟨i, _⟩ : ∃ i : Nat, i = i := ⟨0, rfl⟩
  rw [run_convert_bytes_string w src dst e _ _ c hs he hd, run_bytesToString w _ _ c [] (by simp [loadCells, loadCellsFrom])]
  rfl
 ·obtain ⟨g, o, ha, _, hc⟩ := hr.2.2 h0
  obtain rfl := lV ha
  have := run_convert_bytes_arg (P := P) w src e hs he g o l.length c (l.map fun b => (b.toNat : Int)) (by simp) (fun i hi => by
   rw [hc i _ (zQ5 l i hi)]
   simp [List.getD, hi]) dst hd
  rw [this]
  have e2 : strOfNums (l.map fun b => (b.toNat : Int)) = str l := by
   unfold strOfNums str
   congr 1
   simp only [List.map_map]
   congr 1
   conv => rhs; rw [← List.map_id l]
   apply List.map_congr_left
   intro b _
   simp
  rw [e2]
def RowP (e : TypeId) (size n c : Nat) (xs : List Value) (o : Obj) : Prop :=
 ∃ cur : Array Value, o = .cells cur e (0, 0) ∧ n ≤ c ∧ c ≤ maxLen ∧ cur.size = c * size ∧ cur.toList.take (n * size) = xs ∧ xs.length = n * size
def rowE (v : Value) (e : TypeId) (size : Nat) (xs : List Value) : Heap :=
 match v with
 | .slice (some a) n c => [.ob a.block (RowP e size n c xs)]
 | _ => []
def RowOk (v : Value) (n : Nat) : Prop := (v = .slice none 0 0 ∧ n = 0) ∨ ∃ g c, v = .slice (some ⟨g, 0, none⟩) n c
def SlOk (A : Option Addr) (n : Nat) : Prop := (A = none ∧ n = 0) ∨ ∃ g o, A = some ⟨g, o, none⟩
def roE (A : Option Addr) (xs : List Value) : Heap :=
 match A with
 | some a => [.ro a.block a.off xs]
 | none => []
theorem SlOk.some {A : Option Addr} {n : Nat} (h : SlOk A n) (hn : 0 < n) : ∃ g o, A = Option.some ⟨g, o, none⟩ := by
 rcases h with ⟨_, rfl⟩ | h
 ·omega
 ·exact h
theorem RowOk.nil : RowOk (.slice none 0 0) 0 := .inl ⟨rfl, rfl⟩
abbrev kI := @RowOk.nil
theorem RowOk.form {v : Value} {n : Nat} (h : RowOk v n) : ∃ A c, v = .slice A n c ∧ SlOk A n := by
 rcases h with ⟨rfl, rfl⟩ | ⟨g, c, rfl⟩
 ·exact ⟨none, 0, rfl, .inl ⟨rfl, rfl⟩⟩
 ·exact ⟨_, c, rfl, .inr ⟨g, 0, rfl⟩⟩
theorem RowOk.some {v : Value} {n : Nat} (h : RowOk v n) (hn : 0 < n) : ∃ g c, v = .slice (Option.some ⟨g, 0, none⟩) n c := by
 rcases h with ⟨_, rfl⟩ | h
 ·omega
 ·exact h
theorem RowOk.mk (g n c : Nat) : RowOk (.slice (Option.some ⟨g, 0, none⟩) n c) n := .inr ⟨g, c, rfl⟩
theorem HLe.sub {H' H : Heap} (h : H'.Sublist H) : HLe H' H := fun _ _ _ hw => hw.sub h
abbrev kA := @HLe.sub
theorem HLe.trans {a b c : Heap} (h : HLe a b) (k : HLe b c) : HLe a c := fun _ _ _ hw => h _ _ _ (k _ _ _ hw)
theorem Enters.mk {P : Program} {f : FuncId} {fn : Func} (hf : P.funcs[f]? = some fn) (hn : (fn.name == "runtime.NumGoroutine") = false) (hb : fn.body.isNone = false) : Enters P f := ⟨fn, hf, hn, hb⟩
theorem Fn.of_bel {P : Program} {f : FuncId} {vs : List Value} {v : Value} (hE : Enters P f) (h : ∀ w, Calls P f vs.toArray w fun e w' => e = .returned v ∧ Bel w w') : Fn P f vs [] fun u _ => u = v :=
 ⟨hE, fun w hw => (h w).mono fun e w' ⟨he, hb⟩ => ⟨v, [], he, rfl, ⟨Only.of_bel hb, by simp, qR⟩⟩⟩
theorem Fn.of_same {P : Program} {f : FuncId} {vs : List Value} {v : Value} (hE : Enters P f) (h : ∀ w, Calls P f vs.toArray w fun e w' => e = .returned v ∧ w = w') : Fn P f vs [] fun u _ => u = v :=
 Fn.of_bel hE fun w => (h w).mono fun e w' ⟨he, hb⟩ => ⟨he, hb ▸ Bel.refl w⟩
section
variable {w0 w w' : World} {Wr : List Nat} {H H1 : Heap} {size n m c g o i : Nat} {e : TypeId} {xs : List Value} {A : Option Addr} {v : Value}
theorem jI0 (hH : H[i]? = some (.own g e xs)) (hl : xs.length = n * size) (hw : Sat w0 Wr H w) : Rd w size (some ⟨g, 0, none⟩) n xs :=
 ⟨hl, fun h => (by cases h), fun _ => ⟨g, 0, rfl, Ent.lt (hw.mem hH), fun j u hu => by rw [lA]; exact (Ent.cell (hw.mem hH) j).trans hu⟩⟩
theorem yA3 (hH : H[i]? = some (.ro g o xs)) (hl : xs.length = n * size) (hw : Sat w0 Wr H w) : Rd w size (some ⟨g, o, none⟩) n xs :=
 ⟨hl, fun h => (by cases h), fun _ => ⟨g, o, rfl, (hw.mem hH).1, (hw.mem hH).2⟩⟩
theorem jS6 (hH : H[i]? = some (.ob g (RowP e size n c xs))) (hw : Sat w0 Wr H w) : Rd w size (some ⟨g, 0, none⟩) n xs := by
 obtain ⟨ob, h1, cur, rfl, h2, h3, h4, h5, h6⟩ := hw.mem hH
 refine ⟨h6, fun h => (by cases h), fun _ => ⟨g, 0, rfl, Ent.lt (hw.mem hH), fun j u hu => ?_⟩⟩
 rw [lA, cell_of_row w g j cur e (0, 0) h1]
 have hj : j < xs.length := (List.getElem?_eq_some_iff.1 hu).1
 rw [← h5, List.getElem?_take_of_lt (by omega)] at hu
 simpa using hu
theorem zG5 {A : Option Addr} (hA : A = none) : Rd w size A 0 [] := ⟨by simp, fun _ => rfl, fun h => absurd h (by omega)⟩
theorem yJ6 (hA : SlOk A n) (hH : ∀ x ∈ roE A xs, x ∈ H) (hl : xs.length = n * size) (hw : Sat w0 Wr H w) : Rd w size A n xs := by
 rcases hA with ⟨rfl, rfl⟩ | ⟨g, o, rfl⟩
 ·exact ⟨hl, fun _ => rfl, fun h => absurd h (by omega)⟩
 ·obtain ⟨i, hi⟩ := List.mem_iff_getElem?.1 (hH _ lP)
  exact yA3 hi hl hw
theorem jL3 (hv : RowOk (.slice A n c) n) (hl : xs.length = n * size) (hH : ∀ x ∈ rowE (.slice A n c) e size xs, x ∈ H) (hw : Sat w0 Wr H w) : Rd w size A n xs := by
 rcases hv with ⟨h, rfl⟩ | ⟨g, c', h⟩
 ·injection h with h1; subst h1
  exact ⟨hl, fun _ => rfl, fun h => absurd h (by omega)⟩
 ·injection h with h1 h2 h3; subst h1; subst h3
  obtain ⟨i, hi⟩ := List.mem_iff_getElem?.1 (hH _ lP)
  exact jS6 hi hw
theorem kQ2 {H1 : Heap} (hv : RowOk v n) (hl : xs.length = n * size) (hw : Sat w0 Wr (rowE v e size xs ++ H1) w) : w.ownsRow 0 e size v n xs := by
 rcases hv with ⟨rfl, rfl⟩ | ⟨g, c, rfl⟩
 ·exact ⟨hl, .inl ⟨rfl, rfl⟩⟩
 ·obtain ⟨ob, h1, cur, rfl, h2, h3, h4, h5, h6⟩ := hw.mem (i := 0) (e := .ob g (RowP e size n c xs)) rfl
  exact ⟨hl, .inr ⟨g, c, cur, rfl, lZ _, h1, h2, h3, h4, h5⟩⟩
theorem jO7 {base : Nat} (h : w.ownsRow base e size v n xs) : RowOk v n ∧ (∀ g c, v = .slice (some ⟨g, 0, none⟩) n c → base ≤ g ∧ (Ent.ob g (RowP e size n c xs)).holds w) := by
 obtain ⟨hl, h | ⟨g, cap, cur, rfl, hb, hh, h1, h2, h3, h4⟩⟩ := h
 ·obtain ⟨rfl, rfl⟩ := h
  exact ⟨.inl ⟨rfl, rfl⟩, fun g c hv => by cases hv⟩
 ·refine ⟨.inr ⟨g, cap, rfl⟩, fun g' c hv => ?_⟩
  injection hv with hv1 hv2 hv3
  injection hv1 with hv1
  injection hv1 with hv1
  subst hv1; subst hv3
  exact ⟨hb, _, hh, cur, rfl, h1, h2, h3, h4, hl⟩
theorem Sat.row (h : Sat w0 Wr H w) (hb : Bel w w') (ho : w'.ownsRow w.heap.size e size v n xs) : Sat w0 Wr (rowE v e size xs ++ H) w' := by
 obtain ⟨h1, h2⟩ := jO7 ho
 rcases h1 with ⟨rfl, rfl⟩ | ⟨g, c, rfl⟩
 ·exact h.bel hb
 ·obtain ⟨h3, h4⟩ := h2 g c rfl
  exact h.fresh h4 hb h3
theorem Bel.emp (w : World) : Bel { w with heap := #[] } w := ⟨rfl, rfl, rfl, lZ _, fun k hk => by simp at hk⟩
theorem Sat.app {H1 : Heap} {v' : Value} {n' : Nat} {ys : List Value} (h : Sat w0 Wr (rowE v e size xs ++ H1) w) (hv : RowOk v n) (ho : w'.ownsRow 0 e size v' n' ys) (hg : w.grownBy w' v.ownBlock) (hb : v'.ownBlock = v.ownBlock ∨ v'.ownBlock = some w.heap.size) :
  Sat w0 Wr (rowE v' e size ys ++ H1) w' := by
 obtain ⟨h1, h2⟩ := jO7 ho
 have hsub : Sat w0 Wr H1 w := h.sub (lX _ _)
 have hrest : ∀ x ∈ H1, some x.g ≠ v.ownBlock := fun x hx => by
  rcases hv with ⟨rfl, rfl⟩ | ⟨g, c, rfl⟩
  ·exact fun hh => by cases hh
  ·intro hh
   have hgx : x.g = g := by simpa [Value.ownBlock] using hh
   have := (List.pairwise_append.1 h.sep).2.2 (.ob g (RowP e size n c xs)) lP x hx
   exact this rfl hgx.symm
 have hvg : ∀ k, v.ownBlock = some k → k ∈ Wr ∨ w0.heap.size ≤ k := fun k hk => by
  rcases hv with ⟨rfl, rfl⟩ | ⟨g, c, rfl⟩
  ·cases hk
  ·have : g = k := by simpa [Value.ownBlock] using hk
   subst this
   exact (h.ents (.ob g (RowP e size n c xs)) (xI _ lP)).2 rfl
 have honly : Only Wr w0 w' := by
  refine ⟨hg.os.trans h.only.os, hg.tape.trans h.only.tape, hg.output.trans h.only.output, uI h.only.size hg.size, fun i hi hn => ?_⟩
  refine (hg.block i (uJ hi h.only.size) (fun hh => ?_)).trans (h.only.block i hi hn)
  rcases hvg i hh.symm with h3 | h3
  ·exact hn h3
  ·omega
 have hkeep : ∀ x ∈ H1, x.holds w' ∧ (x.wr = true → x.g ∈ Wr ∨ w0.heap.size ≤ x.g) := fun x hx => by
  have hx1 := hsub.ents x hx
  exact ⟨Ent.keep hx1.1 hg.size (hg.block _ (Ent.lt hx1.1) (hrest x hx)), hx1.2⟩
 rcases h1 with ⟨rfl, rfl⟩ | ⟨g', c', rfl⟩
 ·exact ⟨honly, hkeep, hsub.sep⟩
 ·have h4 := (h2 g' c' rfl).2
  have hb' : some g' = v.ownBlock ∨ g' = w.heap.size := by
   rcases hb with hb | hb
   ·exact .inl (by simpa [Value.ownBlock] using hb)
   ·exact .inr (by simpa [Value.ownBlock] using hb)
  refine ⟨honly, ?_, zP ?_ hsub.sep⟩
  ·intro x hx
   rcases List.mem_cons.1 hx with rfl | hx
   ·refine ⟨h4, fun _ => ?_⟩
    rcases hb' with hb' | hb'
    ·exact hvg g' hb'.symm
    ·exact .inr (by show w0.heap.size ≤ g'; rw [hb']; exact h.only.size)
   ·exact hkeep x hx
  ·intro x hx _
   show g' ≠ x.g
   rcases hb' with hb' | hb'
   ·exact fun hh => hrest x hx (hh ▸ hb')
   ·have := Ent.lt (hsub.ents x hx).1
    omega
end
section
variable {P : Program} {N : Frm} {w0 : World} {Wr : List Nat} {ops : Array Oper} {rest : List Oper} {fr : Fr} {H H1 : Heap} {Z : Fr → Heap → Prop}
variable {d ty : Nat} {pos : String} {after : Array Edge}
theorem wE3 {t e : TypeId} {size bytes n m c : Nat} {s x : Operand} {v : Value} {xs news : List Value} {A : Option Addr} (hE : ElemOk P t e size bytes) (hs : ev fr s = some v) (hv : RowOk v n) (hl : xs.length = n * size) (hx : ev fr x = some (.slice A m c))
  (hr : ∀ w, Sat w0 Wr H w → Rd w size A m news) (h1 : news.all Value.oneCell' = true) (h63 : n + m ≤ maxLen) (hby : (n + m) * bytes ≤ 140737488355328) (hH : HLe (rowE v e size xs ++ H1) H) (hN : bN d N)
  (h : ∀ v', RowOk v' (n + m) → sx P N w0 Wr ops rest ((d, v') :: fr) (rowE v' e size (xs ++ news) ++ H1) Z) :
  sx P N w0 Wr ops (⟨some d, .call { callee := .builtin .append, args := #[s, x], argTypes := #[t, t] }, ty, pos, after, none⟩ :: rest) fr H Z := by
 refine jI7 (R := fun v' H' => RowOk v' (n + m) ∧ H' = rowE v' e size (xs ++ news) ++ H1) hN (fun a w ha hw => ?_) (fun v' H' hR => by obtain ⟨h2, rfl⟩ := hR; exact h v' h2)
 have hw' := hH _ _ _ hw
 have hown := kQ2 hv hl hw'
 obtain ⟨v', w', hrun, h2, h3, h4, h5⟩ := wH2 (P := P) (W0 := { w with heap := #[] }) (ty := ty) (c := c) hE (Bel.emp w) (xP _) (lZ _) hown (hr w hw) (fun u hu => List.all_eq_true.1 h1 u hu) h63 hby
 refine ⟨v', w', _, ?_, ⟨(jO7 h2).1, rfl⟩, hw'.app hv h2 h4 h5⟩
 simp only [execOp, resolve, uB, xR, qT, ha.eval hs, ha.eval hx, lJ, l7, lR, invoke, builtin, hrun]
theorem vP3 {f : FuncId} {xs : List Operand} {vs : List Value} {ts : Array TypeId} {e : TypeId} {size n : Nat} {ys : List Value} (hE : Enters P f) (hx : evs fr xs = some vs) (hN : bN d N)
  (hc : ∀ w, Sat w0 Wr H w → Calls P f vs.toArray w fun x w' => ∃ A c, x = .returned (.slice A n c) ∧ w'.ownsRow w.heap.size e size (.slice A n c) n ys ∧ (A = none → n = 0 ∧ c = 0) ∧ Bel w w')
  (h : ∀ v, RowOk v n → sx P N w0 Wr ops rest ((d, v) :: fr) (rowE v e size ys ++ H) Z) :
  sx P N w0 Wr ops (⟨some d, .call { callee := .value (.func f), args := xs.toArray, argTypes := ts }, ty, pos, after, none⟩ :: rest) fr H Z :=
 jN9 (R := fun v H' => RowOk v n ∧ H' = rowE v e size ys ++ H) hE hx hN (fun w hw => (hc w hw).mono fun x w' he => by
  obtain ⟨A, c, rfl, h1, _, h2⟩ := he
  exact ⟨_, _, rfl, ⟨(jO7 h1).1, rfl⟩, hw.row h2 h1⟩) (fun v H' hR => by obtain ⟨h1, rfl⟩ := hR; exact h v h1)
theorem kP3 {t : TypeId} {x : Operand} {g o q n size m : Nat} {xs : List Value} {agg : Bool} {v : Value} (k : Nat) (hx : ev fr x = some (ptr g q)) (hq : q = o + k) (hr : ∀ w, Sat w0 Wr H w → Rd w size (some ⟨g, o, none⟩) n xs) (hn0 : 0 < n) (ht : tyAgg P t = some agg) (hn : tySize P t = some m) (hv : rdV agg m xs k = some v) : ∀ a w, FrOk N fr a → Sat w0 Wr H w → (execOp a.eval ⟨some d, .load t x, ty, pos, after, none⟩).run P w = .ok (.value v) w := fun a w ha hw => by
  subst hq
  obtain ⟨g', o', hA, hlt, hc⟩ := (hr w hw).2.2 hn0
  injection hA with hA
  injection hA with h1 h2 _
  subst h1; subst h2
  simp only [execOp, Instr.loadAt, ha.eval hx, ptr, Instr.sureAddr, lJ, l7, lR]
  have : (loadVar t ⟨g, o + k, none⟩).run P w = .ok v w := by
   unfold loadVar
   simp only [lJ, kA0 ht, lR]
   cases agg with
   | false => simp [load, Sem.run, hc k v hv]
   | true =>
    simp only [rdV, cond_true] at hv
    cases hb : Nat.ble (k + m) xs.length with
    | false => rw [hb] at hv; cases hv
    | true =>
     rw [hb] at hv
     obtain rfl := lV hv
     have hle := zR hb
     simp only [if_true, lJ, jC5 hn, lR, loadCells]
     rw [jO3 (P := P) ⟨g, o + k, none⟩ m 0 #[] ((xs.drop k).take m) (by simp; omega) (fun j u hu => by
      have e : Addr.add ⟨g, o + k, none⟩ (0 + j) = ⟨g, o + (k + j), none⟩ := by rw [jG5]; congr 1; omega
      rw [e]
      refine hc _ _ ?_
      rw [zS] at hu
      split at hu
      ·rw [← hu, zJ]
      ·cases hu)]
     simp
  rw [this]
  rfl
theorem jN2 {t : TypeId} {x : Operand} {g o q n size m : Nat} {xs : List Value} {agg : Bool} {v : Value} (k : Nat) (hx : ev fr x = some (ptr g q)) (hq : q = o + k) (hr : ∀ w, Sat w0 Wr H w → Rd w size (some ⟨g, o, none⟩) n xs) (hn0 : 0 < n) (ht : tyAgg P t = some agg) (hn : tySize P t = some m) (hv : rdV agg m xs k = some v) (hN : bN d N)
  (h : sx P N w0 Wr ops rest ((d, v) :: fr) H Z) : sx P N w0 Wr ops (⟨some d, .load t x, ty, pos, after, none⟩ :: rest) fr H Z := jE4 v hN (kP3 k hx hq hr hn0 ht hn hv) h
theorem jO9 {s t : TypeId} {x : Operand} {A : Option Addr} {n c : Nat} {l : List UInt8} {e : TypeId} (hs : P.underlying s = some (.slice e)) (he : P.underlying e = some (.int .u8)) (ht : P.underlying t = some .string) (hx : ev fr x = some (.slice A n c))
  (hr : ∀ w, Sat w0 Wr H w → Rd w 1 A n (bv l)) (hN : bN d N)
  (h : sx P N w0 Wr ops rest ((d, .string (str l)) :: fr) H Z) : sx P N w0 Wr ops (⟨some d, .convert s t x, ty, pos, after, none⟩ :: rest) fr H Z :=
 jE4 _ hN (fun a w ha hw => by
  simp only [execOp, ha.eval hx, lJ, wH0 (hr w hw) s e t hs he ht, lR, l7]) h
theorem wY4 (i : Nat) {t e e' : TypeId} {x : Operand} {g n c : Nat} {cs : List Value} (ht : P.underlying t = some (.slice e)) (he : P.underlying e = some (.int .u8)) (hx : ev fr x = some (.slice (some ⟨g, 0, none⟩) n c)) (hH : H[i]? = some (.own g e' cs)) (hN : bN d N)
  (h : sx P N w0 Wr ops rest ((d, .slice (some ⟨g, 0, none⟩) n c) :: fr) (H.set i (.ro g 0 cs)) Z) : sx P N w0 Wr ops (⟨some d, .convert t t x, ty, pos, after, none⟩ :: rest) fr H Z := by
 refine jI7 (R := fun v H' => v = .slice (some ⟨g, 0, none⟩) n c ∧ H' = H.set i (.ro g 0 cs)) hN (fun a w ha hw => ?_) (fun v H' hR => by obtain ⟨rfl, rfl⟩ := hR; exact h)
 have hm := hw.mem hH
 have hm' : w.heap[g]? = some (.cells cs.toArray e' (0, 0)) := hm
 have hsh : w.shape? g = some (e', cs.length) := by simp [World.shape?, hm']
 refine ⟨_, w.freeze ⟨g, cs.length, none⟩ 1, _, ?_, ⟨rfl, rfl⟩, hw.turn hH rfl (e' := .ro g 0 cs) rfl ?_ ?_⟩
 ·simp [execOp, ha.eval hx, convert, lJ, run_underlying ht, run_underlying he, markStringish, shape, freeze, Sem.run, hsh]
 ·refine ⟨rfl, rfl, rfl, by simp [World.freeze], fun k _ hk => ?_⟩
  have hk' : g ≠ k := fun e => hk (by simp [Ent.g, e])
  simp [World.freeze, z6, hk']
 ·have hl := Ent.lt hm
  refine ⟨by simpa [World.freeze, Ent.g] using hl, fun j u hu => ?_⟩
  have hh : (w.freeze ⟨g, cs.length, none⟩ 1).heap[g]? = some (.cells cs.toArray e' (cs.length, cs.length + 1)) := by
   simp [World.freeze, z6, hm']
  rw [lA]
  simp only [World.cell?, hh]
  simpa using hu
theorem kV3 {t e : TypeId} {size bytes n cap m c : Nat} {s x : Operand} {b b' : Addr} {xs news : List Value} (hE : ElemOk P t e size bytes) (hs : ev fr s = some (.slice (some b) n cap)) (hx : ev fr x = some (.slice (some b') m c))
  (hr : ∀ w, Sat w0 Wr H w → Rd w size (some b) n xs) (hr' : ∀ w, Sat w0 Wr H w → Rd w size (some b') m news) (hn0 : 0 < n) (hm0 : 0 < m) (hfull : cap < n + m) (h63 : n + m ≤ maxLen) (hby : (n + m) * bytes ≤ 140737488355328) (hN : bN d N)
  (h : ∀ v', RowOk v' (n + m) → sx P N w0 Wr ops rest ((d, v') :: fr) (rowE v' e size (xs ++ news) ++ H) Z) :
  sx P N w0 Wr ops (⟨some d, .call { callee := .builtin .append, args := #[s, x], argTypes := #[t, t] }, ty, pos, after, none⟩ :: rest) fr H Z := by
 refine jI7 (R := fun v' H' => RowOk v' (n + m) ∧ H' = rowE v' e size (xs ++ news) ++ H) hN (fun a w ha hw => ?_) (fun v' H' hR => by obtain ⟨h2, rfl⟩ := hR; exact h v' h2)
 obtain ⟨ht, i, z, hi, hz, hsize, hbs, hzs, hsz⟩ := hE
 have cells : ∀ {A : Addr} {k : Nat} {ys : List Value}, Rd w size (some A) k ys → 0 < k → ys.length = k * size ∧ ∀ j u, ys[j]? = some u → w.cell? (A.add j) = some u := fun hR hk => by
  obtain ⟨g, o, hA, _, hc⟩ := hR.2.2 hk
  obtain rfl := lV hA
  exact ⟨hR.1, fun j u hu => by rw [jG5]; exact hc j u hu⟩
 obtain ⟨l1, c1⟩ := cells (hr w hw) hn0
 obtain ⟨l2, c2⟩ := cells (hr' w hw) hm0
 obtain ⟨v', w', hrun, h2, h3⟩ := run_append_arg_grows (P := P) w t ty e i z size bytes ht hi hz hsize hbs hzs hsz b n cap xs l1 c1 b' m c news l2 c2 hfull h63 hby
 refine ⟨v', w', _, ?_, ⟨(jO7 h2).1, rfl⟩, hw.row ⟨h3.os, h3.tape, h3.output, h3.size, fun k hk => h3.block k hk (by simp)⟩ h2⟩
 simp only [execOp, resolve, uB, xR, qT, ha.eval hs, ha.eval hx, lJ, l7, lR, invoke, builtin, hrun]
end
end
section
open Go.RowKit
section
variable {P : Program} {N : Frm} {w0 : World} {Wr : List Nat} {ops : Array Oper} {rest : List Oper} {fr : Fr} {H : Heap} {Z : Fr → Heap → Prop}
variable {d ty : Nat} {pos : String} {after : Array Edge}
theorem jU5 {t : TypeId} {x : Operand} {g o q n size m : Nat} {xs : List Value} {agg : Bool} {v : Value} (k : Nat) (hx : ev fr x = some (ptr g q)) (hq : q = o + k) (hr : ∀ w, Sat w0 Wr H w → Rd w size (some ⟨g, o, none⟩) n xs) (hn0 : 0 < n) (ht : tyAgg P t = some agg) (hn : tySize P t = some m) (hv : rdV agg m xs k = some v) (hN : bN d N)
  (h : sq P N w0 Wr ops rest ((d, v) :: fr) H Z) : sq P N w0 Wr ops (⟨some d, .load t x, ty, pos, after, none⟩ :: rest) fr H Z := jJ0 v hN (kP3 k hx hq hr hn0 ht hn hv) h
theorem yR2 {s t : TypeId} {x : Operand} {A : Option Addr} {n c : Nat} {l : List UInt8} {e : TypeId} (hs : P.underlying s = some (.slice e)) (he : P.underlying e = some (.int .u8)) (ht : P.underlying t = some .string) (hx : ev fr x = some (.slice A n c))
  (hr : ∀ w, Sat w0 Wr H w → Rd w 1 A n (bv l)) (hN : bN d N)
  (h : sq P N w0 Wr ops rest ((d, .string (str l)) :: fr) H Z) : sq P N w0 Wr ops (⟨some d, .convert s t x, ty, pos, after, none⟩ :: rest) fr H Z :=
 jJ0 _ hN (fun a w ha hw => by
  simp only [execOp, ha.eval hx, lJ, wH0 (hr w hw) s e t hs he ht, lR, l7]) h
end
end
section
open Go.RowKit
def Wp (P : Program) (ops : Array Oper) (K : Act → Prop) : List Oper → Act → Prop
 | [], a => K a
 | o :: r, a => ∃ v, YAll P ops o v a ∧ Wp P ops K r (a.put o.dst v)
def sp (P : Program) (N : Frm) (w0 : World) (Wr : List Nat) (ops : Array Oper) (l : List Oper) (fr : Fr) (H : Heap) (Z : Fr → Heap → Prop) : Prop :=
 ∀ (K : Act → Prop), (∀ fr' a, Z fr' H → FrOk N fr' a → K a) → ∀ a, FrOk N fr a → Wp P ops K l a
section
variable {P : Program} {N : Frm} {w0 : World} {Wr : List Nat} {ops : Array Oper} {rest : List Oper} {fr : Fr} {H : Heap} {Z : Fr → Heap → Prop}
variable {d ty : Nat} {pos : String} {after : Array Edge}
theorem kF3 (h : Z fr H) : sp P N w0 Wr ops [] fr H Z := fun _ hK a ha => hK _ a h ha
theorem yJ1 {op : Op} {d ty : Nat} {pos : String} {after : Array Edge} (v : Value) (hN : bN d N)
  (hrun : ∀ (a : Act) (w : World), FrOk N fr a → True → (execOp a.eval ⟨some d, op, ty, pos, after, none⟩).run P w = .ok (.value v) w)
  (h : sp P N w0 Wr ops rest ((d, v) :: fr) H Z) : sp P N w0 Wr ops (⟨some d, op, ty, pos, after, none⟩ :: rest) fr H Z :=
 fun K hK a ha => ⟨v, fun w => .inl ⟨rfl, hrun a w ha trivial⟩, h K hK _ (ha.put hN v)⟩
theorem jP9 {s i : Nat} {x : Operand} {g o off n o' : Nat} {b : Bool} (hx : ev fr x = some (ptr g o)) (hf : tyF P s i = some (off, n, b)) (ho : o + off = o') (hN : bN d N)
  (h : sp P N w0 Wr ops rest ((d, ptr g o') :: fr) H Z) : sp P N w0 Wr ops (⟨some d, .fieldAddr s x i, ty, pos, after, none⟩ :: rest) fr H Z := yJ1 _ hN (fun a w q _ => sFAc hx hf ho a w q) h
theorem jO2 {t e n g o len : Nat} {x y : Operand} {k : IntKind} {i : Int} (o' : Nat) (ht : P.underlying t = some (.array len e)) (hs : tySize P e = some n) (hx : ev fr x = some (ptr g o)) (hy : ev fr y = some (.int k i)) (hi : 0 ≤ i ∧ i < len) (ho : o + i.toNat * n = o') (hN : bN d N)
  (h : sp P N w0 Wr ops rest ((d, ptr g o') :: fr) H Z) : sp P N w0 Wr ops (⟨some d, .indexAddr t x y, ty, pos, after, none⟩ :: rest) fr H Z :=
 yJ1 _ hN (fun a w ha _ => by
  subst ho
  simp only [execOp, Instr.indexAt, ha.eval hx, ha.eval hy, asIntOf, lJ, l7, run_underlying ht, lR, ptr, Instr.sureAddr, if_pos hi, jC5 hs, jG5]) h
theorem kG7 {Q Q' : Exit → Act → World → Prop} {i : Nat} {o : Oper} {K : Act → World → Prop} {a : Act} {w : World} (hi : ops[i]? = some o) (h : wpOp P ops (QN Q) i K a w) : wpOp P ops (QN Q') i K a w := by
 rw [jJ5 hi] at h ⊢
 split
 ·rename_i hw
  rw [if_pos hw] at h
  unfold Oper.wp at h ⊢
  cases hr : (execOp a.eval o).run P w with
  | ok n w' =>
   rw [hr] at h
   cases n <;> simp only [Oper.upon] at h ⊢ <;> try exact h
   refine Calls.mono h fun e w'' he => ?_
   cases e with
   | returned x => exact he
   | panicked c => cases he.1
   | outgrown => exact (jV3 he).elim
  | halt x w' =>
   rw [hr] at h
   cases x <;> simp only [Oper.upon] at h ⊢ <;> first | exact h | (cases h.1)
 ·rename_i hw
  rw [if_neg hw] at h
  exact h
end
end
section
open Go.RowKit
section
variable {P : Program} {ops : Array Oper} {Q : Exit → Act → World → Prop} {C : World → Prop} {a b : Act} {w : World} {i j : Nat} {o oi oj : Oper} {v u : Value}
def YC (P : Program) (ops : Array Oper) (C : World → Prop) (o : Oper) (v : Value) (a : Act) : Prop := ∀ w, C w → YAt P ops o v a w
def vst (P : Program) (ops : Array Oper) (C : World → Prop) (Q : Exit → Act → World → Prop) (x : Nat × Bool) (K : Act → World → Prop) (a : Act) (w : World) : Prop :=
 match x.2 with
 | true => ∃ o v, ops[x.1]? = some o ∧ YC P ops C o v a ∧ K (a.put o.dst v) w
 | false => wpOp P ops (QN Q) x.1 (fun a w' => C w' ∧ K a w') a w
def Wv (P : Program) (ops : Array Oper) (C : World → Prop) (Q : Exit → Act → World → Prop) : List (Nat × Bool) → Act → World → Prop
 | [], a, w => QN Q .normal a w
 | x :: r, a, w => vst P ops C Q x (Wv P ops C Q r) a w
theorem wW8 {x : Nat × Bool} {K K' : Act → World → Prop} (h : ∀ a w, K a w → K' a w) (hh : vst P ops C Q x K a w) : vst P ops C Q x K' a w := by
 unfold vst at hh ⊢
 split
 ·rename_i hx
  rw [hx] at hh
  obtain ⟨o, v, h1, h2, h3⟩ := hh
  exact ⟨o, v, h1, h2, h _ _ h3⟩
 ·rename_i hx
  rw [hx] at hh
  exact wpOp_mono (fun a w ⟨hc, hk⟩ => ⟨hc, h a w hk⟩) hh
theorem vN7 {x : Nat × Bool} {K : Act → World → Prop} (hC : C w) (hh : vst P ops C Q x K a w) : wpOp P ops (QN Q) x.1 (fun a w' => C w' ∧ K a w') a w := by
 unfold vst at hh
 split at hh
 ·obtain ⟨o, v, h1, h2, h3⟩ := hh
  exact (h2 w hC).wp h1 ⟨hC, h3⟩
 ·exact hh
theorem kT2 {x y : Nat × Bool} {K : Act → World → Prop} (hi : ops[x.1]? = some oi) (hj : ops[y.1]? = some oj) (hap : oi.apart ops oj = true) (hsi : ∀ cs b, oi.op ≠ .select cs b) (hsj : ∀ cs b, oj.op ≠ .select cs b)
  (hc : x.2 = true ∨ y.2 = true) (h : vst P ops C Q x (vst P ops C Q y K) a w) : vst P ops C Q y (vst P ops C Q x K) a w := by
 obtain ⟨h1, h2, h3⟩ := Oper.apart_spec hap
 have h4 : ∀ t, oj.dst = some t → oi.dst ≠ some t := fun t ht hi' => h2 t hi' ht
 obtain ⟨i, bi⟩ := x
 obtain ⟨j, bj⟩ := y
 cases bi <;> cases bj
 ·simp at hc
 ·simp only [vst] at h ⊢
  have h' := jY6 hi h
  by_cases hv : ∃ v, YC P ops C oj v a
  ·obtain ⟨v, hv⟩ := hv
   refine ⟨oj, v, hj, hv, ?_⟩
   rw [jR3 hi hsi h3 h4]
   refine wpOp_mono (fun b w' hb => ?_) h'
   obtain ⟨⟨hC', o, u, e, hu, hk⟩, hn⟩ := hb
   rw [hj] at e; obtain rfl := lV e
   have : u = v := (hu w' hC').uniq ((hv w' hC').near hn hsj h1)
   exact ⟨hC', this ▸ hk⟩
  ·refine (kO9 hi (wpOp_mono (fun b w' hb => ?_) h')).elim
   obtain ⟨⟨hC', o, u, e, hu, hk⟩, hn⟩ := hb
   rw [hj] at e; obtain rfl := lV e
   exact hv ⟨u, fun w'' hC'' => (hu w'' hC'').back hn hsj h1⟩
 ·simp only [vst] at h ⊢
  obtain ⟨o, v, e, hv, hk⟩ := h
  rw [hi] at e; obtain rfl := lV e
  rw [jR3 hj hsj h1 h2] at hk
  exact wpOp_mono (fun b w' ⟨⟨hC', hb⟩, hn⟩ => ⟨hC', oi, v, hi, fun w'' hC'' => (hv w'' hC'').near hn hsi h3, hb⟩) (jY6 hj hk)
 ·simp only [vst] at h ⊢
  obtain ⟨o, v, e, hv, o', u, e', hu, hk⟩ := h
  rw [hi] at e; obtain rfl := lV e
  rw [hj] at e'; obtain rfl := lV e'
  exact ⟨oj, u, hj, fun w'' hC'' => (hu w'' hC'').back ⟨v, rfl⟩ hsj h1, oi, v, hi, fun w'' hC'' => (hv w'' hC'').near ⟨u, rfl⟩ hsi h3, by rw [← Act.put_comm a v u h2]; exact hk⟩
def MayV (ops : Array Oper) (x y : Nat × Bool) : Prop := ∃ oi oj, ops[x.1]? = some oi ∧ ops[y.1]? = some oj ∧ oi.apart ops oj = true ∧ (x.2 = true ∨ y.2 = true)
theorem kJ2 (hsel : ∀ (j : Nat) (o : Oper) cs b, ops[j]? = some o → o.op ≠ .select cs b) {y : Nat × Bool} {r : List (Nat × Bool)} : ∀ (p : List (Nat × Bool)) (a : Act) (w : World),
  (∀ x ∈ p, MayV ops x y) → Wv P ops C Q (p ++ y :: r) a w → vst P ops C Q y (Wv P ops C Q (p ++ r)) a w
 | [], a, w, _, h => h
 | x :: p, a, w, hp, h => by
  obtain ⟨oi, oj, h1, h2, h3, h4⟩ := hp x lP
  have h5 : vst P ops C Q x (vst P ops C Q y (Wv P ops C Q (p ++ r))) a w := wW8 (fun b w' hb => kJ2 hsel p b w' (fun k hk => hp k (lU _ hk)) hb) h
  exact kT2 h1 h2 h3 (fun cs b => hsel x.1 oi cs b h1) (fun cs b => hsel y.1 oj cs b h2) h4 h5
theorem yH3 (hsel : ∀ (j : Nat) (o : Oper) cs b, ops[j]? = some o → o.op ≠ .select cs b) (hedge : ∀ (j : Nat) (o : Oper), ops[j]? = some o → ∀ e ∈ o.after, Region.binds .any e = true → e.on < ops.size) :
  ∀ (n : Nat) (ord : List (Nat × Bool)) (listed : Array Bool) (a : Act) (w : World), ord.length = n → C w → Left ops (ord.map Prod.fst) listed →
  (ord.Pairwise fun x y => Dep ops x.1 y.1 ∨ MayV ops x y) → Wv P ops C Q ord a w → wpAny P .any ops (QN Q) n listed a w := by
 intro n
 induction n with
 | zero =>
  intro ord listed a w hl hC hL hp h
  obtain rfl := zE hl
  refine ⟨List.eq_nil_iff_forall_not_mem.2 fun j hj => ?_, h⟩
  obtain ⟨h0, o, ho, _⟩ := mem_ready.1 hj
  have := (hL.mem j (Array.getElem?_eq_some_iff.1 ho).1).1 h0
  simp at this
 | succ n ih =>
  intro ord listed a w hl hC hL hp h
  refine ⟨fun hnil => ?_, fun j hj => ?_⟩
  ·exfalso
   match ord, hl with
   | x :: r, _ =>
    have := hL.first hedge
    rw [hnil] at this
    cases this
  ·have hdeps := hL.deps hedge hj
   obtain ⟨h0, o, ho, hall⟩ := mem_ready.1 hj
   have hjm := (hL.mem j (Array.getElem?_eq_some_iff.1 ho).1).1 h0
   obtain ⟨bj, hjb⟩ := kX7 hjm
   obtain ⟨p, r, rfl⟩ := List.append_of_mem hjb
   have hpp := List.pairwise_append.1 hp
   have hswap : ∀ x ∈ p, MayV ops x (j, bj) := fun x hx => by
    rcases hpp.2.2 x hx (j, bj) lP with hd | hd
    ·exact absurd (List.mem_map.2 ⟨x, xI _ hx, rfl⟩) (hdeps x.1 hd)
    ·exact hd
   have hL' : Left ops ((p ++ r).map Prod.fst) (listed.setIfInBounds j true) := by
    rw [x0]
    exact Left.step (by simpa using hL) hedge hj
   refine wpOp_mono (fun b w' hb => ih (p ++ r) _ b w' (by simp at hl ⊢; omega) hb.1 hL' ?_ hb.2) (vN7 hC (kJ2 hsel p a w hswap h))
   exact List.pairwise_append.2 ⟨hpp.1, (List.pairwise_cons.1 hpp.2.1).2, fun x hx y hy => hpp.2.2 x hx y (lU _ hy)⟩
def vB (ops : Array Oper) (A : List (List Nat)) : List (Nat × Bool) → Bool
 | [] => true
 | x :: r => (r.all fun y => (A.getD y.1 []).contains x.1 || (apB ops x.1 y.1 && (x.2 || y.2))) && vB ops A r
theorem yO9 {A : List (List Nat)} (hA : ∀ j i, i ∈ A.getD j [] → Dep ops i j) : ∀ {l : List (Nat × Bool)}, vB ops A l = true → l.Pairwise fun x y => Dep ops x.1 y.1 ∨ MayV ops x y
 | [], _ => qR
 | x :: r, h => by
  simp only [vB, xM] at h
  refine zP (fun y hy => ?_) (yO9 hA h.2)
  have := List.all_eq_true.1 h.1 y hy
  simp only [zB, xM] at this
  rcases this with h1 | ⟨h1, h2⟩
  ·exact .inl (hA _ _ (by simpa using h1))
  ·obtain ⟨oi, oj, e1, e2, e3⟩ := yN3 h1
   exact .inr ⟨oi, oj, e1, e2, e3, h2⟩
def vG1 (l : List Oper) (ls : List (Nat × Bool)) : Bool :=
 Region.noSelect l.toArray && Nat.beq ls.length l.length && decide (ls.map Prod.fst).Nodup && extB l.toArray [] (ls.map Prod.fst) && vB l.toArray (ancs l) ls
theorem jW8 {N : Frm} {id : Nat} {l : List Oper} {a : Act} {w : World} (ls : List (Nat × Bool)) (hm : P.follows .mixedOrders = true) (hB : vG1 l ls = true) (hC : C w.drew) (h : Wv P l.toArray C Q ls a w.drew) : wq P N (.region id l.toArray true) Q a w := by
 simp only [vG1, xM, decide_eq_true_eq] at hB
 obtain ⟨⟨⟨⟨hsel, hlen⟩, hnd⟩, hext⟩, hpairs⟩ := hB
 have hlen := x6 hlen
 obtain ⟨he1, he2⟩ := kB9 hext (by simp) hnd
 have hall : ∀ k, k < l.length → k ∈ ls.map Prod.fst := vG6 l.length _ hnd (by simpa using hlen) (fun x hx => by simpa using he2 x hx)
 have hedge : ∀ (j : Nat) (o : Oper), l.toArray[j]? = some o → ∀ e ∈ o.after, Region.binds .any e = true → e.on < l.toArray.size := fun j o ho e he hb =>
  jU9 _ _ hext (by simp) j (hall j (by simpa using (Array.getElem?_eq_some_iff.1 ho).1)) o ho e he hb
 refine kJ0 hm ?_
 have hA := kE8 l
 have := yH3 (P := P) (Q := Q) (C := C) (Region.noSelect_spec hsel) hedge ls.length ls (Array.replicate l.toArray.size false) a w.drew rfl hC
  ⟨hnd, by simp, he2, fun k hk => by
   have h1 : k ∈ ls.map Prod.fst := hall k (by simpa using hk)
   have hk' : k < l.length := by simpa using hk
   have h2 : (Array.replicate l.toArray.size false).getD k true = false := by simp [zC, hk']
   exact ⟨fun _ => h1, fun _ => h2⟩, he1, fun j o ho hj => absurd (hall j (by simpa using (Array.getElem?_eq_some_iff.1 ho).1)) hj⟩
  (yO9 hA hpairs) h
 have e : ls.length = l.toArray.size := by simpa using hlen
 rw [e] at this
 exact this
end
def tv (P : Program) (N : Frm) (w0 : World) (Wr : List Nat) (ops : Array Oper) (e0 : Ent) (xs : List (Nat × Bool)) (fr : Fr) (H : Heap) (Z : Fr → Heap → Prop) : Prop :=
 ∀ (Q : Exit → Act → World → Prop), (∀ fr' H' a w, Z fr' H' → FrOk N fr' a → Sat w0 Wr H' w → Q .normal a w) → ∀ a w, FrOk N fr a → Sat w0 Wr H w → Wv P ops e0.holds Q xs a w
section
variable {P : Program} {N : Frm} {w0 : World} {Wr : List Nat} {ops : Array Oper} {fr : Fr} {H : Heap} {Z : Fr → Heap → Prop} {e0 : Ent}
variable {d ty : Nat} {pos : String} {after : Array Edge}
theorem zD8 (h : Z fr H) : tv P N w0 Wr ops e0 [] fr H Z := fun _ hQ a w ha hw => ⟨rfl, hQ _ _ a w h ha hw⟩
theorem tv_p {i : Nat} {o : Oper} {xs : List (Nat × Bool)} (ho : ops[i]? = some o) (h : sp P N w0 Wr ops [o] fr H fun fr' H' => tv P N w0 Wr ops e0 xs fr' H' Z) : tv P N w0 Wr ops e0 ((i, true) :: xs) fr H Z :=
 fun Q hQ a w ha hw => by
  obtain ⟨v, hv, hk⟩ := h (fun a => Wv P ops e0.holds Q xs a w) (fun fr' a ht hf => ht Q hQ a w hf hw) a ha
  exact ⟨o, v, ho, fun w _ => hv w, hk⟩
theorem kU8 {t : TypeId} {x : Operand} {g o i : Nat} {e : TypeId} {cs : List Value} {agg : Bool} {n : Nat} {v : Value} {xs : List (Nat × Bool)} (ho : ops[i]? = some ⟨some d, .load t x, ty, pos, after, none⟩) (hx : ev fr x = some (ptr g o)) (ht : tyAgg P t = some agg) (hn : tySize P t = some n) (hv : rdV agg n cs o = some v) (hN : bN d N)
  (h : tv P N w0 Wr ops (.own g e cs) xs ((d, v) :: fr) H Z) : tv P N w0 Wr ops (.own g e cs) ((i, true) :: xs) fr H Z :=
 fun Q hQ a w ha hw => ⟨_, v, ho, fun w hc => .inl ⟨rfl, by
  have hc := Ent.cell hc
  simp only [execOp, Instr.loadAt, ha.eval hx, ptr, Instr.sureAddr, lJ, l7, lR]
  rw [jP2 ht hn hv (fun j u hu => (hc j).trans hu)]
  rfl⟩, h Q hQ _ w (ha.put hN v) hw⟩
theorem tv_g (k : Nat) {i : Nat} {o : Oper} {xs : List (Nat × Bool)} (ho : ops[i]? = some o) (h : sx P N w0 Wr ops [o] fr H fun fr' H' => H'[k]? = some e0 ∧ tv P N w0 Wr ops e0 xs fr' H' Z) : tv P N w0 Wr ops e0 ((i, false) :: xs) fr H Z :=
 fun Q hQ a w ha hw => by
  have h1 := h (QN fun _ a w => e0.holds w ∧ Wv P ops e0.holds Q xs a w) (fun fr' H' a w ht hf hS => ⟨rfl, hS.mem ht.1, ht.2 Q hQ a w hf hS⟩) a w ha hw
  show wpOp P ops (QN Q) i (fun a w' => e0.holds w' ∧ Wv P ops e0.holds Q xs a w') a w
  refine kG7 (Q := fun _ a w => e0.holds w ∧ Wv P ops e0.holds Q xs a w) ho ?_
  unfold wpOp
  simp only [ho]
  unfold wpList at h1
  split
  ·rename_i hw'
   rw [if_pos hw'] at h1
   exact h1.imp (Oper.wp_mono fun a w hh => hh.2) id
  ·rename_i hw'
   rw [if_neg hw'] at h1
   exact h1.2
theorem vZ5 {Q : Exit → Act → World → Prop} {id : Nat} {l : List Oper} (k : Nat) (ls : List (Nat × Bool)) (hm : P.follows .mixedOrders = true) (hB : vG1 l ls = true) (hk : H[k]? = some e0)
  (h : ∀ Z : Fr → Heap → Prop, (∀ fr H, nx N w0 Wr fr H Q .normal → Z fr H) → tv P N w0 Wr l.toArray e0 ls fr H Z) : awp P N w0 Wr (.region id l.toArray true) fr H Q :=
 fun a w ha hw => jW8 (C := e0.holds) ls hm hB (hw.drew.mem hk)
  (h (fun fr H => nx N w0 Wr fr H Q .normal) (fun _ _ h => h) Q (fun fr' H' a w hz hf hs => hz a w hf hs) a w.drew ha hw.drew)
theorem kO7 {Q : Exit → Act → World → Prop} {id : Nat} {l : List Oper} {y : Code} (k : Nat) (ls : List (Nat × Bool)) (hm : P.follows .mixedOrders = true) (hB : vG1 l ls = true) (hk : H[k]? = some e0)
  (h : ∀ Z : Fr → Heap → Prop, (∀ fr H, awp P N w0 Wr y fr H Q → Z fr H) → tv P N w0 Wr l.toArray e0 ls fr H Z) : awp P N w0 Wr (.seq (.region id l.toArray true) y) fr H Q :=
 aS (vZ5 k ls hm hB hk fun Z hZ => h Z fun fr H hy => hZ fr H hy)
end
end
section
open Go.RowKit
section
variable {P : Program} {N : Frm} {w0 : World} {Wr : List Nat} {ops : Array Oper} {rest : List Oper} {fr : Fr} {H H1 : Heap} {Z : Fr → Heap → Prop}
variable {d ty : Nat} {pos : String} {after : Array Edge}
theorem jU0 {op : Op} {j t : Nat} {b' : Bool} {oj : Oper} (hj : ops[j]? = some oj) (ht : oj.dst = some t) (hb : lk fr t = some undef) (hN : bN d N)
  (h : sx P N w0 Wr ops rest ((d, undef) :: fr) H Z) : sx P N w0 Wr ops (⟨some d, op, ty, pos, after, some (j, b')⟩ :: rest) fr H Z :=
 fun Q hQ a w ha hw => by
  have hy : yielded ops a.tmps j = none := by
   have := ha.at_ t _ hb
   simp [yielded, hj, ht, this, undef]
  unfold wpList
  have h2 : Region.wanted (⟨some d, op, ty, pos, after, some (j, b')⟩ : Oper) (yielded ops a.tmps) = false := by simp [Region.wanted, hy]
  rw [if_neg (by simp [h2])]
  exact h Q hQ _ w (ha.put hN undef) hw
theorem jR7 {op : Op} {j t : Nat} {b' : Bool} {oj : Oper} (hj : ops[j]? = some oj) (ht : oj.dst = some t) (hb : lk fr t = some undef) (hN : bN d N)
  (h : sq P N w0 Wr ops rest ((d, undef) :: fr) H Z) : sq P N w0 Wr ops (⟨some d, op, ty, pos, after, some (j, b')⟩ :: rest) fr H Z :=
 fun Q hQ a ha => by
  have hy : yielded ops a.tmps j = none := by
   have := ha.at_ t _ hb
   simp [yielded, hj, ht, this, undef]
  unfold wpQuiet
  have h2 : Region.wanted (⟨some d, op, ty, pos, after, some (j, b')⟩ : Oper) (yielded ops a.tmps) = false := by simp [Region.wanted, hy]
  rw [if_neg (by simp [h2])]
  exact h Q hQ _ (ha.put hN undef)
end
end
section
theorem jF1 : Tryz.prog.follows .mixedOrders = true := by kernel_rfl
theorem tA (n : Nat) (b : Bool) (h : tyAgg Tryz.prog n = some b := by kernel_rfl) : tyAgg Tryz.prog n = some b := h
theorem tB (n k : Nat) (h : tySize Tryz.prog n = some k := by kernel_rfl) : tySize Tryz.prog n = some k := h
theorem tC (n : Nat) (b : List Value) (h : tyZero Tryz.prog n = some b := by kernel_rfl) : tyZero Tryz.prog n = some b := h
theorem tD (n k : Nat) (b : Nat × Nat × Bool) (h : tyF Tryz.prog n k = some b := by kernel_rfl) : tyF Tryz.prog n k = some b := h
abbrev tyA3 := tA 3 false
abbrev tyS3 := tB 3 1
abbrev tyZ3 := tC 3 [.int .i64 0]
abbrev tyA4 := tA 4 false
abbrev tyS4 := tB 4 1
abbrev tyZ4 := tC 4 [.bool false]
abbrev tyA5 := tA 5 false
abbrev tyS5 := tB 5 1
abbrev tyZ5 := tC 5 [.int .u8 0]
abbrev tyA9 := tA 9 false
abbrev tyS9 := tB 9 1
abbrev tyZ9 := tC 9 [.string ⟨#[]⟩]
abbrev tyA23 := tA 23 true
abbrev tyS23 := tB 23 3
abbrev vH9 := tD 23 0 (0, 1, false)
abbrev vH8 := tD 23 1 (1, 1, false)
abbrev kU2 := tD 23 2 (2, 1, false)
abbrev tyA25 := tA 25 false
abbrev tyS25 := tB 25 1
abbrev tyA30 := tA 30 false
abbrev tyS30 := tB 30 1
abbrev tyZ30 := tC 30 [.int .i64 0]
abbrev tyA33 := tA 33 true
abbrev tyS33 := tB 33 3
abbrev wC1 := tD 33 0 (0, 1, false)
abbrev wC0 := tD 33 1 (1, 1, false)
abbrev wB9 := tD 33 2 (2, 1, false)
abbrev tyA40 := tA 40 true
abbrev tyS40 := tB 40 2
abbrev tyZ40 := tC 40 [.int .i64 0, .int .i64 0]
abbrev kT9 := tD 40 0 (0, 1, false)
abbrev kJ7 := tD 40 1 (1, 1, false)
abbrev tyA42 := tA 42 true
abbrev tyS42 := tB 42 4
abbrev tyZ42 := tC 42 [.string ⟨#[]⟩, .string ⟨#[]⟩, .int .i64 0, .int .i64 0]
theorem tyP42 : tyPlaces Tryz.prog 42 = some [(0, 1), (1, 1), (2, 2)] := by kernel_rfl
abbrev wB8 := tD 42 0 (0, 1, false)
abbrev wB7 := tD 42 1 (1, 1, false)
abbrev wB6 := tD 42 2 (2, 2, true)
abbrev tyA50 := tA 50 false
abbrev tyS50 := tB 50 1
abbrev tyA52 := tA 52 true
abbrev tyS52 := tB 52 3
abbrev tyZ52 := tC 52 [.int .i64 0, .slice none 0 0, .string ⟨#[]⟩]
theorem tyP52 : tyPlaces Tryz.prog 52 = some [(0, 1), (1, 1), (2, 1)] := by kernel_rfl
abbrev vH7 := tD 52 0 (0, 1, false)
abbrev jT3 := tD 52 1 (1, 1, false)
abbrev kJ6 := tD 52 2 (2, 1, false)
abbrev tyA54 := tA 54 true
abbrev tyS54 := tB 54 2
abbrev tyZ54 := tC 54 [.int .i64 0, .int .i64 0]
theorem tyP54 : tyPlaces Tryz.prog 54 = some [(0, 1), (1, 1)] := by kernel_rfl
abbrev kD1 := tD 54 0 (0, 1, false)
abbrev jT2 := tD 54 1 (1, 1, false)
abbrev tyA56 := tA 56 false
abbrev tyS56 := tB 56 1
abbrev tyA58 := tA 58 true
abbrev tyS58 := tB 58 1
abbrev tyZ58 := tC 58 [.slice none 0 0]
theorem tyP58 : tyPlaces Tryz.prog 58 = some [(0, 1)] := by kernel_rfl
abbrev jX6 := tD 58 0 (0, 1, false)
abbrev tyA61 := tA 61 false
abbrev tyS61 := tB 61 1
abbrev tyZ61 := tC 61 [.int .u64 0]
abbrev tyA63 := tA 63 true
abbrev tyS63 := tB 63 2
abbrev tyZ63 := tC 63 [.int .u64 0, .string ⟨#[]⟩]
theorem tyP63 : tyPlaces Tryz.prog 63 = some [(0, 1), (1, 1)] := by kernel_rfl
abbrev kD0 := tD 63 0 (0, 1, false)
abbrev wB5 := tD 63 1 (1, 1, false)
abbrev tyA66 := tA 66 true
abbrev tyS66 := tB 66 3
abbrev tyZ66 := tC 66 [.int .i64 0, .int .u8 0, .string ⟨#[]⟩]
theorem tyP66 : tyPlaces Tryz.prog 66 = some [(0, 1), (1, 1), (2, 1)] := by kernel_rfl
abbrev vH6 := tD 66 0 (0, 1, false)
abbrev wB4 := tD 66 1 (1, 1, false)
abbrev wB3 := tD 66 2 (2, 1, false)
abbrev tyZ71 := tC 71 [.string ⟨#[]⟩, .string ⟨#[]⟩, .string ⟨#[]⟩, .bool false, .string ⟨#[]⟩, .int .i64 0]
theorem tyP71 : tyPlaces Tryz.prog 71 = some [(0, 3), (3, 1), (4, 1), (5, 1)] := by kernel_rfl
abbrev yP6 := tD 71 0 (0, 3, true)
abbrev vH5 := tD 71 1 (3, 1, false)
abbrev jX5 := tD 71 2 (4, 1, false)
abbrev wB2 := tD 71 3 (5, 1, false)
abbrev tyA72 := tA 72 false
abbrev tyS72 := tB 72 1
abbrev tyZ74 := tC 74 [.bool false, .int .i64 0, .slice none 0 0, .int .i64 0]
theorem tyP74 : tyPlaces Tryz.prog 74 = some [(0, 1), (1, 1), (2, 1), (3, 1)] := by kernel_rfl
abbrev yP5 := tD 74 0 (0, 1, false)
abbrev kC9 := tD 74 1 (1, 1, false)
abbrev jL7 := tD 74 2 (2, 1, false)
abbrev wB1 := tD 74 3 (3, 1, false)
abbrev tyZ79 := tC 79 [.pointer none, .slice none 0 0]
abbrev jI1 := tD 79 1 (1, 1, false)
abbrev tyA81 := tA 81 true
abbrev tyS81 := tB 81 4
abbrev tyZ81 := tC 81 [.string ⟨#[]⟩, .string ⟨#[]⟩, .int .i64 0, .int .i64 0]
theorem tyP81 : tyPlaces Tryz.prog 81 = some [(0, 1), (1, 1), (2, 2)] := by kernel_rfl
abbrev vH4 := tD 81 0 (0, 1, false)
abbrev kT8 := tD 81 1 (1, 1, false)
abbrev vH3 := tD 81 2 (2, 2, true)
abbrev tyA94 := tA 94 false
abbrev tyS94 := tB 94 1
abbrev tyA97 := tA 97 true
abbrev tyS97 := tB 97 2
abbrev tyZ97 := tC 97 [.string ⟨#[]⟩, .string ⟨#[]⟩]
theorem tyP97 : tyPlaces Tryz.prog 97 = some [(0, 1), (1, 1)] := by kernel_rfl
abbrev kJ5 := tD 97 0 (0, 1, false)
abbrev kJ4 := tD 97 1 (1, 1, false)
abbrev tyZ105 := tC 105 [.int .i64 0]
abbrev tyA114 := tA 114 false
abbrev tyS114 := tB 114 1
abbrev tyZ114 := tC 114 [.slice none 0 0]
abbrev tyA122 := tA 122 true
abbrev tyS122 := tB 122 2
abbrev tyZ122 := tC 122 [.int .u64 0, .int .u64 0]
theorem tyP122 : tyPlaces Tryz.prog 122 = some [(0, 1), (1, 1)] := by kernel_rfl
abbrev kH5 := tD 122 0 (0, 1, false)
abbrev kU7 := tD 122 1 (1, 1, false)
abbrev tyA124 := tA 124 true
abbrev tyS124 := tB 124 24
abbrev tyZ124 := tC 124 [.int .u64 0, .int .u64 0, .int .u64 0, .int .u64 0, .int .u64 0, .int .u64 0, .int .u64 0, .int .u64 0, .int .u64 0, .int .u64 0, .int .u64 0, .bool false, .int .u8 0, .int .u8 0, .int .u8 0, .int .i64 0, .int .i64 0, .int .i64 0, .int .i64 0, .int .i64 0, .int .i64 0, .int .i64 0, .int .i64 0, .int .i64 0]
theorem tyP124 : tyPlaces Tryz.prog 124 = some [(0, 2), (2, 2), (4, 2), (6, 2), (8, 1), (9, 1), (10, 1), (11, 1), (12, 1), (13, 1), (14, 1), (15, 1), (16, 1), (17, 1), (18, 1), (19, 1), (20, 1), (21, 1), (22, 1), (23, 1)] := by kernel_rfl
abbrev kH4 := tD 124 0 (0, 2, true)
abbrev kH3 := tD 124 1 (2, 2, true)
abbrev kH2 := tD 124 2 (4, 2, true)
abbrev kH1 := tD 124 3 (6, 2, true)
abbrev vO7 := tD 124 4 (8, 1, false)
abbrev vO6 := tD 124 5 (9, 1, false)
abbrev vO5 := tD 124 6 (10, 1, false)
abbrev vO4 := tD 124 7 (11, 1, false)
abbrev kU6 := tD 124 8 (12, 1, false)
abbrev kU5 := tD 124 9 (13, 1, false)
abbrev kK0 := tD 124 10 (14, 1, false)
abbrev jQ6 := tD 124 11 (15, 1, false)
abbrev jT8 := tD 124 12 (16, 1, false)
abbrev jT7 := tD 124 13 (17, 1, false)
abbrev jT6 := tD 124 14 (18, 1, false)
abbrev jT5 := tD 124 15 (19, 1, false)
abbrev jT4 := tD 124 16 (20, 1, false)
abbrev jZ1 := tD 124 17 (21, 1, false)
abbrev kJ9 := tD 124 18 (22, 1, false)
abbrev kJ8 := tD 124 19 (23, 1, false)
abbrev tyA126 := tA 126 true
abbrev tyS126 := tB 126 4
abbrev tyZ126 := tC 126 [.string ⟨#[]⟩, .string ⟨#[]⟩, .string ⟨#[]⟩, .string ⟨#[]⟩]
abbrev tyZ138 := tC 138 [.slice none 0 0, .slice none 0 0, .string ⟨#[]⟩, .string ⟨#[]⟩, .int .i64 0, .int .i64 0]
theorem tyP138 : tyPlaces Tryz.prog 138 = some [(0, 1), (1, 1), (2, 4)] := by kernel_rfl
abbrev kU4 := tD 138 0 (0, 1, false)
abbrev kH0 := tD 138 1 (1, 1, false)
abbrev jZ0 := tD 138 2 (2, 4, true)
abbrev tyA139 := tA 139 false
abbrev tyS139 := tB 139 1
abbrev tyA141 := tA 141 true
abbrev tyS141 := tB 141 1
abbrev tyZ141 := tC 141 [.nilFunc]
theorem tyP141 : tyPlaces Tryz.prog 141 = some [(0, 1)] := by kernel_rfl
abbrev wX2 := tD 141 0 (0, 1, false)
abbrev tyA176 := tA 176 false
abbrev tyS176 := tB 176 1
abbrev tyZ176 := tC 176 [.slice none 0 0]
abbrev tyA178 := tA 178 false
abbrev tyS178 := tB 178 1
abbrev tyZ178 := tC 178 [.nilFunc]
abbrev tyA180 := tA 180 false
abbrev tyS180 := tB 180 1
abbrev tyA182 := tA 182 true
abbrev tyS182 := tB 182 4
abbrev tyZ182 := tC 182 [.int .u64 0, .int .u64 0, .int .u32 0, .int .u32 0]
theorem tyP182 : tyPlaces Tryz.prog 182 = some [(0, 1), (1, 1), (2, 1), (3, 1)] := by kernel_rfl
abbrev jJ7 := tD 182 0 (0, 1, false)
abbrev jH0 := tD 182 1 (1, 1, false)
abbrev jJ6 := tD 182 2 (2, 1, false)
abbrev jM4 := tD 182 3 (3, 1, false)
abbrev tyZ184 := tC 184 [.int .u64 0, .int .u64 0, .int .u32 0, .int .u32 0]
theorem tyP184 : tyPlaces Tryz.prog 184 = some [(0, 4)] := by kernel_rfl
abbrev jV6 := tD 184 0 (0, 4, true)
abbrev tyA185 := tA 185 false
abbrev tyS185 := tB 185 1
abbrev tyZ185 := tC 185 [.pointer none]
abbrev tyA191 := tA 191 true
abbrev tyS191 := tB 191 2
abbrev tyZ191 := tC 191 [.int .u64 0, .int .u32 0]
theorem tyP191 : tyPlaces Tryz.prog 191 = some [(0, 1), (1, 1)] := by kernel_rfl
abbrev kU3 := tD 191 0 (0, 1, false)
abbrev vO3 := tD 191 1 (1, 1, false)
abbrev tyA199 := tA 199 false
abbrev tyS199 := tB 199 1
abbrev tyZ199 := tC 199 [.slice none 0 0]
abbrev tyA201 := tA 201 false
abbrev tyS201 := tB 201 1
abbrev tyZ201 := tC 201 [.slice none 0 0]
abbrev tyA206 := tA 206 true
abbrev tyS206 := tB 206 4
abbrev tyZ206 := tC 206 [.int .u64 0, .int .u64 0, .int .u64 0, .int .u64 0]
abbrev tyA207 := tA 207 true
abbrev tyS207 := tB 207 8
abbrev tyZ207 := tC 207 [.int .u64 0, .int .u64 0, .int .u64 0, .int .u64 0, .int .u64 0, .int .u64 0, .int .u64 0, .int .u64 0]
abbrev tyA243 := tA 243 false
abbrev tyS243 := tB 243 1
abbrev tyA261 := tA 261 true
abbrev tyS261 := tB 261 3
abbrev tyZ261 := tC 261 [.int .i64 0, .int .i64 0, .int .i64 0]
theorem tyP261 : tyPlaces Tryz.prog 261 = some [(0, 2), (2, 1)] := by kernel_rfl
abbrev kG9 := tD 261 0 (0, 2, true)
abbrev kG8 := tD 261 1 (2, 1, false)
abbrev tyA285 := tA 285 false
abbrev tyS285 := tB 285 1
abbrev tyZ287 := tC 287 [.string ⟨#[]⟩, .int .i64 0, .int .i64 0]
theorem tyP287 : tyPlaces Tryz.prog 287 = some [(0, 1), (1, 1), (2, 1)] := by kernel_rfl
abbrev jL0 := tD 287 0 (0, 1, false)
abbrev jG9 := tD 287 1 (1, 1, false)
abbrev vO2 := tD 287 2 (2, 1, false)
abbrev tyA291 := tA 291 false
abbrev tyS291 := tB 291 1
abbrev tyA292 := tA 292 false
abbrev tyS292 := tB 292 1
abbrev tyZ294 := tC 294 [.slice none 0 0, .slice none 0 0, .map none]
theorem tyP294 : tyPlaces Tryz.prog 294 = some [(0, 1), (1, 1), (2, 1)] := by kernel_rfl
abbrev jY9 := tD 294 0 (0, 1, false)
abbrev jY8 := tD 294 1 (1, 1, false)
abbrev jV5 := tD 294 2 (2, 1, false)
abbrev tyZ312 := tC 312 [.int .u64 0, .int .u32 0]
theorem tyP312 : tyPlaces Tryz.prog 312 = some [(0, 1), (1, 1)] := by kernel_rfl
abbrev tyA317 := tA 317 true
abbrev tyS317 := tB 317 3
abbrev tyZ317 := tC 317 [.string ⟨#[]⟩, .int .i64 0, .int .i64 0]
theorem tyP317 : tyPlaces Tryz.prog 317 = some [(0, 1), (1, 1), (2, 1)] := by kernel_rfl
abbrev vO1 := tD 317 0 (0, 1, false)
abbrev jN8 := tD 317 1 (1, 1, false)
abbrev jV4 := tD 317 2 (2, 1, false)
abbrev tyZ329 := tC 329 [.int .i64 0, .int .i64 0, .string ⟨#[]⟩]
theorem tyP329 : tyPlaces Tryz.prog 329 = some [(0, 2), (2, 1)] := by kernel_rfl
abbrev kU1 := tD 329 0 (0, 2, true)
abbrev vO0 := tD 329 1 (2, 1, false)
abbrev tyZ359 := tC 359 [.string ⟨#[]⟩, .int .i64 0, .int .i64 0]
theorem tyP359 : tyPlaces Tryz.prog 359 = some [(0, 3)] := by kernel_rfl
abbrev vN9 := tD 359 0 (0, 3, true)
abbrev tyZ366 := tC 366 [.int .u8 0, .int .u8 0, .int .u8 0, .int .u8 0, .int .u8 0, .int .u8 0, .int .u8 0, .int .u8 0, .int .u8 0, .int .u8 0, .int .u8 0, .int .u8 0, .int .u8 0, .int .u8 0, .int .u8 0, .int .u8 0, .int .u8 0, .int .u8 0, .int .u8 0, .int .u8 0, .int .u8 0, .int .u8 0, .int .u8 0, .int .u8 0]
abbrev tyS380 := tB 380 2
abbrev tyA383 := tA 383 false
abbrev tyS383 := tB 383 1
abbrev tyZ385 := tC 385 [.int .u64 0, .nilFunc]
theorem tyP385 : tyPlaces Tryz.prog 385 = some [(0, 1), (1, 1)] := by kernel_rfl
abbrev kU0 := tD 385 0 (0, 1, false)
abbrev wX1 := tD 385 1 (1, 1, false)
end
section
open Go.RowKit
@[go_sem] theorem bel_a1 (a : World) (o1 : Obj) : Bel a (a.alloc o1) ↔ True := ⟨fun _ => trivial, fun _ => (Bel.refl a).alloc o1⟩
@[go_sem] theorem bel_a2 (a : World) (o1 o2 : Obj) : Bel a ((a.alloc o1).alloc o2) ↔ True := ⟨fun _ => trivial, fun _ => ((Bel.refl a).alloc o1).alloc o2⟩
@[go_sem] theorem bel_a3 (a : World) (o1 o2 o3 : Obj) : Bel a (((a.alloc o1).alloc o2).alloc o3) ↔ True := ⟨fun _ => trivial, fun _ => (((Bel.refl a).alloc o1).alloc o2).alloc o3⟩
@[go_sem] theorem bel_a4 (a : World) (o1 o2 o3 o4 : Obj) : Bel a ((((a.alloc o1).alloc o2).alloc o3).alloc o4) ↔ True := ⟨fun _ => trivial, fun _ => ((((Bel.refl a).alloc o1).alloc o2).alloc o3).alloc o4⟩
section plain
variable {κ ν : Type} [DecidableEq κ]
def aget : List (κ × ν) → κ → Option ν
 | [], _ => none
 | (a, v) :: r, k => if a = k then some v else aget r k
def aput : List (κ × ν) → κ → ν → List (κ × ν)
 | [], k, v => [(k, v)]
 | (a, x) :: r, k, v => if a = k then (k, v) :: r else (a, x) :: aput r k v
def adel : List (κ × ν) → κ → List (κ × ν)
 | [], _ => []
 | (a, x) :: r, k => if a = k then r else (a, x) :: adel r k
def jF2 (M : List (κ × ν)) : List κ := M.map Prod.fst
theorem kO0 : ∀ {M : List (κ × ν)} {k : κ}, aget M k = none ↔ k ∉ jF2 M
 | [], k => by simp [aget, jF2]
 | (a, v) :: r, k => by
  have ih := kO0 (M := r) (k := k)
  unfold aget
  by_cases h : a = k
  ·simp [h, jF2]
  ·simp only [h, if_false, ih]
   simp only [jF2, xR, lW, not_or]
   exact ⟨fun x => ⟨fun e => h e.symm, x⟩, fun x => x.2⟩
theorem kC6 : ∀ (M : List (κ × ν)) (k k' : κ) (v : ν), aget (aput M k v) k' = if k = k' then some v else aget M k'
 | [], k, k', v => by simp [aput, aget]
 | (a, x) :: r, k, k', v => by
  unfold aput
  by_cases h : a = k
  ·subst h
   simp only [if_true, aget]
   by_cases h2 : a = k' <;> simp [h2]
  ·simp only [h, if_false, aget, kC6 r k k' v]
   by_cases h2 : a = k'
   ·subst h2
    have : ¬ k = a := fun e => h e.symm
    simp [this]
   ·simp [h2]
theorem kG2 : ∀ {M : List (κ × ν)} {k : κ} (v : ν), k ∈ jF2 M → jF2 (aput M k v) = jF2 M
 | [], k, v, h => by simp [jF2] at h
 | (a, x) :: r, k, v, h => by
  unfold aput
  by_cases e : a = k
  ·subst e; simp [jF2]
  ·have h2 : k ∈ jF2 r := by
    simp only [jF2, xR, lW] at h ⊢
    rcases h with h | h
    ·exact absurd h.symm e
    ·exact h
   have ih := kG2 v h2
   simp only [e, if_false, jF2, xR] at ih ⊢
   rw [ih]
theorem kC5 : ∀ {M : List (κ × ν)} {k : κ} (v : ν), k ∉ jF2 M → jF2 (aput M k v) = jF2 M ++ [k]
 | [], k, v, h => by simp [aput, jF2]
 | (a, x) :: r, k, v, h => by
  have h2 : k ≠ a ∧ k ∉ jF2 r := by simpa [jF2] using h
  have ih := kC5 v h2.2
  unfold aput
  simp only [show ¬ a = k from fun e => h2.1 e.symm, if_false, jF2, xR] at ih ⊢
  rw [ih]
  rfl
theorem kB0 {M : List (κ × ν)} (h : (jF2 M).Nodup) (k : κ) (v : ν) : (jF2 (aput M k v)).Nodup := by
 by_cases hk : k ∈ jF2 M
 ·rw [kG2 v hk]; exact h
 ·rw [kC5 v hk, qW]
  exact ⟨h, by simp, fun a ha b hb => by simp at hb; subst hb; exact fun e => hk (e ▸ ha)⟩
theorem vG5 : ∀ (M : List (κ × ν)) (k : κ), (k ∉ jF2 M ∧ aget M k = none ∧ (∀ v, aput M k v = M ++ [(k, v)]) ∧ adel M k = M) ∨
  ∃ M1 x M2, M = M1 ++ (k, x) :: M2 ∧ k ∉ jF2 M1 ∧ aget M k = some x ∧ (∀ v, aput M k v = M1 ++ (k, v) :: M2) ∧ adel M k = M1 ++ M2
 | [], k => .inl ⟨by simp [jF2], rfl, fun _ => rfl, rfl⟩
 | (a, x) :: r, k => by
  by_cases h : a = k
  ·subst h
   exact .inr ⟨[], x, r, rfl, by simp [jF2], by simp [aget], fun v => by simp [aput], by simp [adel]⟩
  ·rcases vG5 r k with ⟨h1, h2, h3, h4⟩ | ⟨M1, y, M2, rfl, h1, h2, h3, h4⟩
   ·refine .inl ⟨?_, by simp [aget, h, h2], fun v => by simp [aput, h, h3], by simp [adel, h, h4]⟩
    simp only [jF2, xR, lW, not_or] at h1 ⊢
    exact ⟨fun e => h e.symm, h1⟩
   ·refine .inr ⟨(a, x) :: M1, y, M2, rfl, ?_, by simp [aget, h, h2], fun v => by simp [aput, h, h3], by simp [adel, h, h4]⟩
    simp only [jF2, xR, lW, not_or] at h1 ⊢
    exact ⟨fun e => h e.symm, h1⟩
end plain
structure KeyOk (P : Program) (K : TypeId) {κ : Type} [DecidableEq κ] (encK : κ → Value) : Prop where
 eq : ∀ (a b : κ) (w : World), (Op.equal K (encK a) (encK b)).run P w = .ok (decide (a = b)) w
 chk : ∀ (e : Bool) (a : κ) (w : World), (Instr.checkKey e 10000 K (encK a)).run P w = .ok () w
 und : ∃ d, P.underlying K = some d ∧ ((∀ a b : κ, Instr.sameNow d (encK a) (encK b) = none) ∨ (∀ a b : κ, Instr.sameNow d (encK a) (encK b) = some (decide (a = b))))
 same : ∀ a : κ, Instr.sameBits 10000 (encK a) (encK a) = true
section
variable {κ ν : Type} [DecidableEq κ] {encK : κ → Value} {encV : ν → Value}
def MapIs (encK : κ → Value) (encV : ν → Value) (w : World) (b : Nat) (M : List (κ × ν)) : Prop :=
 ∃ es clock, w.heap[b]? = some (.map es clock) ∧ es.toList.map (fun e : MapEntry => (e.key, e.val)) = M.map (fun x => (encK x.1, encV x.2)) ∧ (jF2 M).Nodup
def OnlyMap (w w' : World) (b : Nat) : Prop := ∃ o, w' = { w with heap := w.heap.setIfInBounds b o }
variable {P : Program} {K : TypeId}
theorem jR9 (h : KeyOk P K encK) (w : World) (k : κ) (es : List MapEntry) (M : List (κ × ν)) (hes : es.map (fun e : MapEntry => (e.key, e.val)) = M.map (fun x => (encK x.1, encV x.2))) :
  (k ∉ jF2 M → (Instr.findKey K (encK k) es).run P w = .ok none w) ∧
  (∀ M1 x M2, M = M1 ++ (k, x) :: M2 → k ∉ jF2 M1 → (Instr.findKey K (encK k) es).run P w = .ok (some (M1.length, encV x)) w) := by
 obtain ⟨d, hd, hn⟩ := h.und
 have ask : ∀ (M : List (κ × ν)) (es : List MapEntry) (i : Nat), es.map (fun e : MapEntry => (e.key, e.val)) = M.map (fun x => (encK x.1, encV x.2)) →
   (k ∉ jF2 M → (Instr.findAsking K (encK k) es i).run P w = .ok none w) ∧
   (∀ M1 x M2, M = M1 ++ (k, x) :: M2 → k ∉ jF2 M1 → (Instr.findAsking K (encK k) es i).run P w = .ok (some (i + M1.length, encV x)) w) := by
  intro M
  induction M with
  | nil =>
   intro es i hes
   have : es = [] := by simpa using hes
   subst this
   exact ⟨fun _ => by simp [Instr.findAsking], fun M1 x M2 e => by simp at e⟩
  | cons y M ih =>
   intro es i hes
   match es, hes with
   | e :: es, hes =>
    simp only [xR, List.cons.injEq, Prod.mk.injEq] at hes
    obtain ⟨⟨e1, e2⟩, hes⟩ := hes
    obtain ⟨ih1, ih2⟩ := ih es (i + 1) hes
    refine ⟨fun hk => ?_, fun M1 x M2 eM hk => ?_⟩
    ·have hk2 : k ≠ y.1 ∧ k ∉ jF2 M := by simpa [jF2] using hk
     simp [Instr.findAsking, e1, h.eq, hk2.1, ih1 hk2.2]
    ·rcases M1 with _ | ⟨z, M1⟩
     ·simp only [lE, List.cons.injEq] at eM
      obtain ⟨rfl, rfl⟩ := eM
      simp [Instr.findAsking, e1, e2, h.eq]
     ·simp only [lL, List.cons.injEq] at eM
      obtain ⟨rfl, rfl⟩ := eM
      have hk2 : k ≠ y.1 ∧ k ∉ jF2 M1 := by simpa [jF2] using hk
      simp [Instr.findAsking, e1, h.eq, hk2.1, ih2 M1 x M2 rfl hk2.2, qP, Nat.add_comm 1]
 rcases hn with hn | hn
 case inr =>
  have now : ∀ (M : List (κ × ν)) (es : List MapEntry) (i : Nat), es.map (fun e : MapEntry => (e.key, e.val)) = M.map (fun x => (encK x.1, encV x.2)) →
    (k ∉ jF2 M → Instr.findNow d (encK k) es i = some none) ∧
    (∀ M1 x M2, M = M1 ++ (k, x) :: M2 → k ∉ jF2 M1 → Instr.findNow d (encK k) es i = some (some (i + M1.length, encV x))) := by
   intro M
   induction M with
   | nil =>
    intro es i hes
    have : es = [] := by simpa using hes
    subst this
    exact ⟨fun _ => by simp [Instr.findNow], fun M1 x M2 e => by simp at e⟩
   | cons y M ih =>
    intro es i hes
    match es, hes with
    | e :: es, hes =>
     simp only [xR, List.cons.injEq, Prod.mk.injEq] at hes
     obtain ⟨⟨e1, e2⟩, hes⟩ := hes
     obtain ⟨ih1, ih2⟩ := ih es (i + 1) hes
     refine ⟨fun hk => ?_, fun M1 x M2 eM hk => ?_⟩
     ·have hk2 : k ≠ y.1 ∧ k ∉ jF2 M := by simpa [jF2] using hk
      simp [Instr.findNow, e1, hn, hk2.1, ih1 hk2.2]
     ·rcases M1 with _ | ⟨z, M1⟩
      ·simp only [lE, List.cons.injEq] at eM
       obtain ⟨rfl, rfl⟩ := eM
       simp [Instr.findNow, e1, e2, hn]
      ·simp only [lL, List.cons.injEq] at eM
       obtain ⟨rfl, rfl⟩ := eM
       have hk2 : k ≠ y.1 ∧ k ∉ jF2 M1 := by simpa [jF2] using hk
       simp [Instr.findNow, e1, hn, hk2.1, ih2 M1 x M2 rfl hk2.2, qP, Nat.add_comm 1]
  obtain ⟨n1, n2⟩ := now M es 0 hes
  exact ⟨fun hk => by simp [Instr.findKey, run_underlying hd, n1 hk], fun M1 x M2 e hk => by simp [Instr.findKey, run_underlying hd, n2 M1 x M2 e hk]⟩
 have key : (Instr.findKey K (encK k) es).run P w = (Instr.findAsking K (encK k) es 0).run P w := by
  match es, M, hes with
  | [], _, _ => simp [Instr.findKey, run_underlying hd, Instr.findNow, Instr.findAsking]
  | e :: es, y :: M, hes =>
   simp only [xR, List.cons.injEq, Prod.mk.injEq] at hes
   have : Instr.findNow d (encK k) (e :: es) 0 = none := by simp [Instr.findNow, hes.1.1, hn]
   simp [Instr.findKey, run_underlying hd, this]
 rw [key]
 have := ask M es 0 hes
 simpa using this
theorem kI1 (h : KeyOk P K encK) {T E : TypeId} (hT : P.underlying T = some (.map K E)) {w : World} {b : Nat} {M : List (κ × ν)} (hm : MapIs encK encV w b M) {z : Value} (hz : (zeroValue E).run P w = .ok z w) (k : κ) (ok : Bool) :
  (Instr.lookup T (.map (some b)) (encK k) ok).run P w = .ok (if ok then .tuple #[((aget M k).map encV).getD z, .bool (aget M k).isSome] else ((aget M k).map encV).getD z) w := by
 obtain ⟨es, clock, hb, hes, _⟩ := hm
 obtain ⟨f1, f2⟩ := jR9 h w k es.toList M hes
 rcases vG5 M k with ⟨h1, h2, _, _⟩ | ⟨M1, x, M2, e, h1, h2, _, _⟩
 ·rw [h2]
  cases ok <;> simp [Instr.lookup, run_underlying hT, MapKept.run_getObj_map hb, h.chk, f1 h1, hz, Result.andThen]
 ·rw [h2]
  cases ok <;> simp [Instr.lookup, run_underlying hT, MapKept.run_getObj_map hb, h.chk, f2 M1 x M2 e h1, Result.andThen]
theorem kB5 (w : World) {b : Nat} {o : Obj} (hb : w.heap[b]? = some o) (o' : Obj) : ({ w with heap := w.heap.setIfInBounds b o' } : World).heap[b]? = some o' := by
 have := (Array.getElem?_eq_some_iff.1 hb).1
 simp [this]
theorem kW1 (h : KeyOk P K encK) {T E : TypeId} (hT : P.underlying T = some (.map K E)) {w : World} {b : Nat} {M : List (κ × ν)} (hm : MapIs encK encV w b M) (k : κ) (v : ν) :
  ∃ w', (Instr.mapUpdate T (.map (some b)) (encK k) (encV v)).run P w = .ok () w' ∧ MapIs encK encV w' b (aput M k v) ∧ OnlyMap w w' b := by
 obtain ⟨es, clock, hb, hes, hnd⟩ := hm
 obtain ⟨f1, f2⟩ := jR9 h w k es.toList M hes
 rcases vG5 M k with ⟨h1, h2, h3, _⟩ | ⟨M1, x, M2, e, h1, h2, h3, _⟩
 ·refine ⟨_, ?_, ⟨es.push { key := encK k, val := encV v, born := clock }, clock + 1, kB5 w hb _, ?_, kB0 hnd k v⟩, ⟨_, rfl⟩⟩
  ·simp [Instr.mapUpdate, run_underlying hT, MapKept.run_getObj_map hb, h.chk, f1 h1, MapKept.run_setObj_map _ hb, Result.andThen]
  ·rw [h3]; simp [hes]
 ·have hlen : M1.length < es.toList.length := by
   have := congrArg List.length hes
   rw [e] at this
   simp at this
   simp [this]
  have hold : ((es[M1.length]?).map (·.key)).getD (encK k) = encK k := by
   have := congrArg (fun l => l[M1.length]?) hes
   simp only [xZ] at this
   rw [e] at this
   simp only [qH (xP _), uK, xA, qG, z9] at this
   cases hq : es[M1.length]? with
   | none => simp
   | some q =>
    rw [hq] at this
    simp only [qG, qD, Prod.mk.injEq] at this
    simp [this.1]
  refine ⟨_, ?_, ⟨es.modify M1.length fun e => { e with key := encK k, val := encV v }, clock, kB5 w hb _, ?_, kB0 hnd k v⟩, ⟨_, rfl⟩⟩
  ·simp [Instr.mapUpdate, run_underlying hT, MapKept.run_getObj_map hb, h.chk, f2 M1 x M2 e h1, hold, Instr.keyThatStays, h.same, MapKept.run_setObj_map _ hb, Result.andThen]
  ·rw [h3]
   apply List.ext_getElem?
   intro j
   have hj := congrArg (fun l => l[j]?) hes
   simp only [xZ, z9] at hj
   simp only [xZ, z9, z6]
   rw [e] at hj
   by_cases hjm : M1.length = j
   ·subst hjm
    simp only [qH (xP _), uK, xA, qG, if_true] at hj ⊢
    cases hq : es[M1.length]? with
    | none => rw [hq] at hj; simp at hj
    | some q => simp
   ·simp only [hjm, if_false]
    rw [hj]
    congr 1
    by_cases hlt : j < M1.length
    ·rw [qE hlt, qE hlt]
    ·rw [qH (by omega), qH (by omega)]
     obtain ⟨i, hi⟩ : ∃ i, j - M1.length = i + 1 := ⟨j - M1.length - 1, by omega⟩
     rw [hi]
     rfl
theorem vJ5 {T E ty : TypeId} (hT : P.underlying T = some (.map K E)) {w : World} {b : Nat} {M : List (κ × ν)} (hm : MapIs encK encV w b M) :
  (Builtin.len_ #[T] ty #[.map (some b)]).run P w = .ok (.int .i64 (M.length : Nat)) w := by
 obtain ⟨es, clock, hb, hes, _⟩ := hm
 have e : es.size = M.length := by simpa using congrArg List.length hes
 simp [Builtin.len_, run_underlying hT, MapKept.run_getObj_map hb, goInt, Result.andThen, e]
theorem MapIs.made (encK : κ → Value) (encV : ν → Value) (w : World) : MapIs encK encV (w.alloc (.map #[] 0)) w.heap.size [] :=
 ⟨#[], 0, by show (w.heap.push _)[w.heap.size]? = _; simp, by simp, by simp [jF2]⟩
end
end
end Go.Proofs.YteofkgedfjffcaaGreatDoor
