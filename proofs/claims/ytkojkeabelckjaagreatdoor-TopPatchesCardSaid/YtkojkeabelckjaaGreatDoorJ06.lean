/- Walks and plain laws for this claim (texts Gsx4, joined). Each theorem states its own conditions. -/
import Derived.Test.YtkojkeabelckjaaGreatDoorJ02
import Derived.Test.YtkojkeabelckjaaGreatDoorJ05
import Derived.Test.YtkojkeabelckjaaGreatDoorJ04
import Derived.Laws.Externs
import Derived.MapKept

set_option linter.all false
namespace Go.Proofs.YtkojkeabelckjaaGreatDoor
open Go.RowKit
section
variable {κ ν : Type} [DecidableEq κ] (encK : κ → Value) (encV : ν → Value)
def MapP (M : List (κ × ν)) (o : Obj) : Prop :=
 ∃ es clock, o = .map es clock ∧ es.toList.map (fun e : MapEntry => (e.key, e.val)) = M.map (fun x => (encK x.1, encV x.2)) ∧ (jE1 M).Nodup
abbrev mapE (b : Nat) (M : List (κ × ν)) : Ent := .ob b (MapP encK encV M)
variable {encK encV} {b : Nat} {M : List (κ × ν)} {w w' : World}
theorem mapE_is : (mapE encK encV b M).holds w ↔ MapIs encK encV w b M := by
 constructor
 ·rintro ⟨o, h1, es, clock, rfl, h2, h3⟩
  exact ⟨es, clock, h1, h2, h3⟩
 ·rintro ⟨es, clock, h1, h2, h3⟩
  exact ⟨_, h1, es, clock, rfl, h2, h3⟩
theorem OnlyMap.only (h : OnlyMap w w' b) : Only [b] w w' := by
 obtain ⟨x, rfl⟩ := h
 refine ⟨rfl, rfl, rfl, by simp, fun i _ hn => ?_⟩
 have : b ≠ i := fun e => hn (by simp [e])
 simp [Array.getElem?_setIfInBounds_ne this]
end
section
variable {P : Program} {N : Frm} {w0 : World} {Wr : List Nat} {ops : Array Oper} {rest : List Oper} {fr : Fr} {H : Heap} {Z : Fr → Heap → Prop}
variable {d ty : Nat} {pos : String} {after : Array Edge}
variable {κ ν : Type} [DecidableEq κ] {encK : κ → Value} {encV : ν → Value} {K T E : TypeId}
theorem sx_lookup {κ ν : Type} [DecidableEq κ] {encK : κ → Value} {encV : ν → Value} {K T E : TypeId} (i : Nat) (hK : KeyOk P K encK) (hT : P.underlying T = some (.map K E)) {z : Value} (hz : ∀ w, (zeroValue E).run P w = .ok z w) {x y : Operand} {b : Nat} {M : List (κ × ν)} (k : κ) {ok : Bool} (v : Value)
  (hx : ev fr x = some (.map (some b))) (hy : ev fr y = some (encK k)) (hH : H[i]? = some (mapE encK encV b M)) (hv : (if ok = true then Value.tuple #[((aget M k).map encV).getD z, .bool (aget M k).isSome] else ((aget M k).map encV).getD z) = v) (hN : Nat.ble (d + 1) N.n = true)
  (h : sx P N w0 Wr ops rest ((d, v) :: fr) H Z) : sx P N w0 Wr ops (⟨some d, .lookup T x y ok, ty, pos, after, none⟩ :: rest) fr H Z :=
 jE3 v hN (fun a w ha hw => by
  subst hv
  have := run_look hK hT (mapE_is.1 (hw.mem hH)) (hz w) k ok
  simp only [execOp, ha.eval hx, ha.eval hy, Sem.run_bind, this, Result.andThen_ok]
  rfl) h
theorem sx_mapUpdate (i : Nat) (hK : KeyOk P K encK) (hT : P.underlying T = some (.map K E)) {x y u : Operand} {b : Nat} {M : List (κ × ν)} (k : κ) (v : ν)
  (hx : ev fr x = some (.map (some b))) (hy : ev fr y = some (encK k)) (hu : ev fr u = some (encV v)) (hH : H[i]? = some (mapE encK encV b M)) {H2 : Heap} (hs : H.set i (mapE encK encV b (aput M k v)) = H2)
  (h : sx P N w0 Wr ops rest fr H2 Z) : sx P N w0 Wr ops (⟨none, .mapUpdate T x y u, ty, pos, after, none⟩ :: rest) fr H Z :=
 sx_do (fun a w ha hw => by
  subst hs
  obtain ⟨w', h1, h2, h3⟩ := run_store_map hK hT (mapE_is.1 (hw.mem hH)) k v
  refine ⟨w', ?_, hw.turn hH rfl rfl h3.only (mapE_is.2 h2)⟩
  simp only [execOp, ha.eval hx, ha.eval hy, ha.eval hu, Sem.run_bind, h1, Result.andThen_ok]
  rfl) h
theorem sx_makeMap {t : TypeId} (hN : Nat.ble (d + 1) N.n = true) (encK : κ → Value) (encV : ν → Value)
  (h : ∀ b, sx P N w0 Wr ops rest ((d, .map (some b)) :: fr) (mapE encK encV b [] :: H) Z) : sx P N w0 Wr ops (⟨some d, .makeMap t none, ty, pos, after, none⟩ :: rest) fr H Z := by
 refine sx_make (R := fun v H' => ∃ b, v = .map (some b) ∧ H' = mapE encK encV b [] :: H) hN (fun a w ha hw => ?_) (fun v H' hR => by obtain ⟨b, rfl, rfl⟩ := hR; exact h b)
 refine ⟨.map (some w.heap.size), w.alloc (.map #[] 0), _, ?_, ⟨w.heap.size, rfl, rfl⟩, hw.fresh (mapE_is.2 (MapIs.made encK encV w)) ((Bel.refl w).alloc _) (Nat.le_refl _)⟩
 simp [execOp, Instr.makeMap]
end
end Go.Proofs.YtkojkeabelckjaaGreatDoor
namespace Go.Proofs.YtkojkeabelckjaaGreatDoor
open Go.RowKit
def Wpv (P : Program) (ops : Array Oper) (C : World → Prop) (K : Act → Prop) : List Oper → Act → Prop
 | [], a => K a
 | o :: r, a => ∃ v, YC P ops C o v a ∧ Wpv P ops C K r (a.put o.dst v)
def sv (P : Program) (N : Frm) (w0 : World) (Wr : List Nat) (ops : Array Oper) (l : List Oper) (fr : Fr) (H : Heap) (Z : Fr → Heap → Prop) : Prop :=
 ∀ (K : Act → Prop), (∀ fr' a, Z fr' H → FrOk N fr' a → K a) → ∀ a, FrOk N fr a → Wpv P ops (Sat w0 Wr H) K l a
def tw (P : Program) (N : Frm) (w0 : World) (Wr : List Nat) (ops : Array Oper) (H0 : Heap) (xs : List (Nat × Bool)) (fr : Fr) (H : Heap) (Z : Fr → Heap → Prop) : Prop :=
 ∀ (Q : Exit → Act → World → Prop), (∀ fr' H' a w, Z fr' H' → FrOk N fr' a → Sat w0 Wr H' w → Q .normal a w) → ∀ a w, FrOk N fr a → Sat w0 Wr H w → Wv P ops (Sat w0 Wr H0) Q xs a w
section
variable {P : Program} {N : Frm} {w0 : World} {Wr : List Nat} {ops : Array Oper} {rest : List Oper} {fr : Fr} {H H0 : Heap} {Z : Fr → Heap → Prop}
variable {d ty : Nat} {pos : String} {after : Array Edge}
theorem vN (h : Z fr H) : sv P N w0 Wr ops [] fr H Z := fun _ hK a ha => hK _ a h ha
theorem sv_val {op : Op} {d ty : Nat} {pos : String} {after : Array Edge} (v : Value) (hN : Nat.ble (d + 1) N.n = true)
  (hrun : ∀ (a : Act) (w : World), FrOk N fr a → Sat w0 Wr H w → (execOp a.eval ⟨some d, op, ty, pos, after, none⟩).run P w = .ok (.value v) w)
  (h : sv P N w0 Wr ops rest ((d, v) :: fr) H Z) : sv P N w0 Wr ops (⟨some d, op, ty, pos, after, none⟩ :: rest) fr H Z :=
 fun K hK a ha => ⟨v, fun w hw => .inl ⟨rfl, hrun a w ha hw⟩, h K hK _ (ha.put hN v)⟩
theorem jA3 {x : Operand} {v : Value} (hx : ev fr x = some v) (hN : Nat.ble (d + 1) N.n = true) (h : sv P N w0 Wr ops rest ((d, v) :: fr) H Z) : sv P N w0 Wr ops (⟨some d, .move x, ty, pos, after, none⟩ :: rest) fr H Z :=
 sv_val v hN (fun a w ha _ => by rw [← ha.eval hx]; rfl) h
theorem jD7 {x : Operand} {v : Value} (hx : ev fr x = some v) (hN : Nat.ble (d + 1) N.n = true) (h : sv P N w0 Wr ops rest ((d, v) :: fr) H Z) : sv P N w0 Wr ops (⟨some d, .assign x, ty, pos, after, none⟩ :: rest) fr H Z :=
 sv_val v hN (fun a w ha _ => by rw [← ha.eval hx]; rfl) h
theorem jF6 {x : Operand} {g o : Nat} (hx : ev fr x = some (ptr g o)) (hN : Nat.ble (d + 1) N.n = true) (h : sv P N w0 Wr ops rest ((d, ptr g o) :: fr) H Z) : sv P N w0 Wr ops (⟨some d, .nilCheck x, ty, pos, after, none⟩ :: rest) fr H Z :=
 sv_val _ hN (fun a w ha _ => by simp only [execOp, ha.eval hx, ptr]; rfl) h
theorem jE6 (i : Nat) {t : TypeId} {x : Operand} {g o : Nat} {e : TypeId} {cs : List Value} {agg : Bool} {n : Nat} {v : Value} (hx : ev fr x = some (ptr g o)) (hH : H[i]? = some (.own g e cs)) (ht : tyAgg P t = some agg) (hn : tySize P t = some n) (hv : rdV agg n cs o = some v) (hN : Nat.ble (d + 1) N.n = true)
  (h : sv P N w0 Wr ops rest ((d, v) :: fr) H Z) : sv P N w0 Wr ops (⟨some d, .load t x, ty, pos, after, none⟩ :: rest) fr H Z :=
 sv_val v hN (fun a w ha hw => by
  have hc := Ent.cell (hw.mem hH)
  simp only [execOp, Instr.loadAt, ha.eval hx, ptr, Instr.sureAddr, Sem.run_bind, Sem.run_pure, Result.andThen_ok]
  rw [run_loadVar ht hn hv (fun j u hu => (hc j).trans hu)]
  rfl) h
theorem sv_loadA (i : Nat) {t : TypeId} {x : Operand} {g o : Nat} {e : TypeId} {cs cs' : List Value} {n : Nat} (hx : ev fr x = some (ptr g o)) (hH : H[i]? = some (.own g e cs)) (ht : tyAgg P t = some true) (hn : tySize P t = some n) (hle : Nat.ble (o + n) cs.length = true) (hv : (cs.drop o).take n = cs') (hN : Nat.ble (d + 1) N.n = true)
  (h : sv P N w0 Wr ops rest ((d, .agg cs'.toArray) :: fr) H Z) : sv P N w0 Wr ops (⟨some d, .load t x, ty, pos, after, none⟩ :: rest) fr H Z :=
 jE6 i hx hH ht hn (by subst hv; simp [rdV, hle]) hN h
theorem jF7 (i : Nat) {t : TypeId} {x : Operand} {g o o' : Nat} {cs : List Value} {agg : Bool} {n : Nat} {v : Value} (hx : ev fr x = some (ptr g o)) (hH : H[i]? = some (.ro g o' cs)) (k : Nat) (ho : o = o' + k) (ht : tyAgg P t = some agg) (hn : tySize P t = some n) (hv : rdV agg n cs k = some v) (hN : Nat.ble (d + 1) N.n = true)
  (h : sv P N w0 Wr ops rest ((d, v) :: fr) H Z) : sv P N w0 Wr ops (⟨some d, .load t x, ty, pos, after, none⟩ :: rest) fr H Z :=
 sv_val v hN (fun a w ha hw => by
  subst ho
  have hc := (hw.mem hH).2
  simp only [execOp, Instr.loadAt, ha.eval hx, ptr, Instr.sureAddr, Sem.run_bind, Sem.run_pure, Result.andThen_ok]
  have : (loadVar t ⟨g, o' + k, none⟩).run P w = .ok v w := by
   unfold loadVar
   simp only [Sem.run_bind, run_isAgg ht, Result.andThen_ok]
   cases agg with
   | false => simp [load, Sem.run, hc k v hv]
   | true =>
    simp only [rdV, cond_true] at hv
    cases hb : Nat.ble (k + n) cs.length with
    | false => rw [hb] at hv; cases hv
    | true =>
     rw [hb] at hv
     obtain rfl := Option.some.inj hv
     have hle := Nat.le_of_ble_eq_true hb
     simp only [if_true, Sem.run_bind, jB2 hn, Result.andThen_ok, loadCells]
     rw [run_loadCells (P := P) ⟨g, o' + k, none⟩ n 0 #[] ((cs.drop k).take n) (by simp; omega) (fun j u hu => by
      have e : Addr.add ⟨g, o' + k, none⟩ (0 + j) = ⟨g, o' + (k + j), none⟩ := by unfold Addr.add; split <;> simp_all <;> omega
      rw [e]
      refine hc _ _ ?_
      rw [List.getElem?_take] at hu
      split at hu
      ·rw [← hu, List.getElem?_drop]
      ·cases hu)]
     simp
  rw [this]
  rfl) h
theorem jA2 {s i : Nat} {x : Operand} {g o off n o' : Nat} {b : Bool} (hx : ev fr x = some (ptr g o)) (hf : tyF P s i = some (off, n, b)) (ho : o + off = o') (hN : Nat.ble (d + 1) N.n = true)
  (h : sv P N w0 Wr ops rest ((d, ptr g o') :: fr) H Z) : sv P N w0 Wr ops (⟨some d, .fieldAddr s x i, ty, pos, after, none⟩ :: rest) fr H Z :=
 sv_val _ hN (fun a w ha _ => by
  subst ho
  unfold tyF at hf
  cases hu : P.underlying s with
  | none => simp [hu] at hf
  | some dd =>
   cases dd <;> simp only [hu] at hf <;> try cases hf
   rename_i fs
   cases hi : fs[i]? with
   | none => simp [hi] at hf
   | some f =>
    simp only [hi, Option.bind_some] at hf
    cases hs : tySize P f.type with
    | none => simp [hs] at hf
    | some m =>
     cases hb : tyAgg P f.type with
     | none => simp [hs, hb] at hf
     | some bb =>
      simp only [hs, hb, Option.bind_some] at hf
      split at hf
      ·cases hf
      ·rename_i hm
       simp only [Option.some.injEq, Prod.mk.injEq] at hf
       obtain ⟨rfl, rfl, rfl⟩ := hf
       have e : Addr.add ⟨g, o, none⟩ f.offset = ⟨g, o + f.offset, none⟩ := by unfold Addr.add; split <;> simp_all
       simp only [execOp, Instr.fieldAt, ha.eval hx, ptr, Sem.run_bind, run_underlying hu, Result.andThen_ok, hi, Instr.sureAddr, Sem.run_pure, fieldPlace, jB2 hs, hm, if_false, e]) h
theorem sv_int2 {op : BinOp} {t t' : TypeId} {x y : Operand} {k : IntKind} {m n : Int} (v : Value) (hx : ev fr x = some (.int k m)) (hy : ev fr y = some (.int k n)) (hv : ∀ w, (binOp op t (.int k m) (.int k n)).run P w = .ok v w) (hN : Nat.ble (d + 1) N.n = true)
  (h : sv P N w0 Wr ops rest ((d, v) :: fr) H Z) : sv P N w0 Wr ops (⟨some d, .binOp op t x y t', ty, pos, after, none⟩ :: rest) fr H Z :=
 sv_val v hN (fun a w ha _ => by
  have hg : (eqGuard op t x y (.int k m) (.int k n)).run P w = .ok () w := by
   unfold eqGuard
   split <;> rfl
  simp only [execOp, ha.eval hx, ha.eval hy, Sem.run_bind, hg, Result.andThen_ok, hv w]
  rfl) h
theorem sv_add {t t' : TypeId} {x y : Operand} {k : IntKind} {m n : Int} (hx : ev fr x = some (.int k m)) (hy : ev fr y = some (.int k n)) (r : Int) (hr : k.wrap (m + n) = r) (hN : Nat.ble (d + 1) N.n = true)
  (h : sv P N w0 Wr ops rest ((d, .int k r) :: fr) H Z) : sv P N w0 Wr ops (⟨some d, .binOp .add t x y t', ty, pos, after, none⟩ :: rest) fr H Z :=
 sv_int2 _ hx hy (fun w => by subst hr; simp [binOp, Op.intArith]) hN h
theorem sv_eql {t t' : TypeId} {x y : Operand} {k : IntKind} {m n : Int} (hx : ev fr x = some (.int k m)) (hy : ev fr y = some (.int k n)) (hN : Nat.ble (d + 1) N.n = true)
  (h : sv P N w0 Wr ops rest ((d, .bool (m == n)) :: fr) H Z) : sv P N w0 Wr ops (⟨some d, .binOp .eql t x y t', ty, pos, after, none⟩ :: rest) fr H Z :=
 sv_int2 _ hx hy (fun w => by simp [binOp, Op.intCmp]) hN h
theorem jG6 {x : Operand} {i : Nat} {vs : List Value} {v : Value} (hx : ev fr x = some (.tuple vs.toArray)) (hv : vs[i]? = some v) (hN : Nat.ble (d + 1) N.n = true)
  (h : sv P N w0 Wr ops rest ((d, v) :: fr) H Z) : sv P N w0 Wr ops (⟨some d, .extract x i, ty, pos, after, none⟩ :: rest) fr H Z :=
 sv_val v hN (fun a w ha _ => by
  have : vs.toArray[i]? = some v := by simpa using hv
  simp only [execOp, ha.eval hx, Instr.extract, this]; rfl) h
theorem sv_len {x : Operand} {t e : TypeId} {A : Option Addr} {n c : Nat} (ht : P.underlying t = some (.slice e)) (hx : ev fr x = some (.slice A n c)) (hN : Nat.ble (d + 1) N.n = true)
  (h : sv P N w0 Wr ops rest ((d, .int .i64 n) :: fr) H Z) : sv P N w0 Wr ops (⟨some d, .call { callee := .builtin .len, args := #[x], argTypes := #[t] }, ty, pos, after, none⟩ :: rest) fr H Z :=
 sv_val _ hN (fun a w ha _ => by
  have := ha.eval hx
  simp [execOp, resolve, invoke, builtin, this, Sem.run_bind, Builtin.len_, run_underlying ht, goInt]) h
theorem sv_indexS {t : Nat} {x y : Operand} {l : List UInt8} {k : IntKind} {i : Int} {c : UInt8} (ht : P.underlying t = some .string) (hx : ev fr x = some (.string (str l))) (hy : ev fr y = some (.int k i)) (hi : 0 ≤ i) (hv : l[i.toNat]? = some c) (hN : Nat.ble (d + 1) N.n = true)
  (h : sv P N w0 Wr ops rest ((d, .int .u8 (c.toNat : Int)) :: fr) H Z) : sv P N w0 Wr ops (⟨some d, .index t x y, ty, pos, after, none⟩ :: rest) fr H Z :=
 sv_val _ hN (fun a w ha _ => by
  have : (str l)[i.toNat]? = some c := by
   have hl := (List.getElem?_eq_some_iff.1 hv)
   obtain ⟨h1, h2⟩ := hl
   have h3 : i.toNat < (str l).size := by rw [str_size]; exact h1
   rw [getElem?_pos (str l) i.toNat h3]
   congr 1
  simp only [execOp, Instr.index, ha.eval hx, ha.eval hy, asIntOf, Sem.run_bind, Sem.run_pure, run_underlying ht, Result.andThen_ok, if_pos hi, this]) h
theorem jC9 {t e n g o len c : Nat} {x y : Operand} {k : IntKind} {i : Int} (o' : Nat) (ht : P.underlying t = some (.slice e)) (hs : tySize P e = some n) (hx : ev fr x = some (.slice (some ⟨g, o, none⟩) len c)) (hy : ev fr y = some (.int k i)) (hi : 0 ≤ i ∧ i < len) (ho : o + i.toNat * n = o') (hN : Nat.ble (d + 1) N.n = true)
  (h : sv P N w0 Wr ops rest ((d, ptr g o') :: fr) H Z) : sv P N w0 Wr ops (⟨some d, .indexAddr t x y, ty, pos, after, none⟩ :: rest) fr H Z :=
 sv_val _ hN (fun a w ha _ => by
  subst ho
  simp only [execOp, Instr.indexAt, ha.eval hx, ha.eval hy, asIntOf, Sem.run_bind, Sem.run_pure, run_underlying ht, Result.andThen_ok, if_pos hi, jB2 hs, jH6]
  rfl) h
theorem sv_indexAddrA {t e n g o len : Nat} {x y : Operand} {k : IntKind} {i : Int} (o' : Nat) (ht : P.underlying t = some (.array len e)) (hs : tySize P e = some n) (hx : ev fr x = some (ptr g o)) (hy : ev fr y = some (.int k i)) (hi : 0 ≤ i ∧ i < len) (ho : o + i.toNat * n = o') (hN : Nat.ble (d + 1) N.n = true)
  (h : sv P N w0 Wr ops rest ((d, ptr g o') :: fr) H Z) : sv P N w0 Wr ops (⟨some d, .indexAddr t x y, ty, pos, after, none⟩ :: rest) fr H Z :=
 sv_val _ hN (fun a w ha _ => by
  subst ho
  simp only [execOp, Instr.indexAt, ha.eval hx, ha.eval hy, asIntOf, Sem.run_bind, Sem.run_pure, run_underlying ht, Result.andThen_ok, ptr, Instr.sureAddr, if_pos hi, jB2 hs, jH6]) h
theorem sv_sliceS {t : TypeId} {x : Operand} {lo hi : Option Operand} {l : List UInt8} {i j : Int} (m : List UInt8) (ht : P.underlying t = some .string) (hx : ev fr x = some (.string (str l))) (hl : bnd fr 0 lo = some i) (hh : bnd fr (l.length : Int) hi = some j) (h0 : 0 ≤ i) (h1 : i ≤ j) (h2 : j ≤ l.length) (hm : (l.drop i.toNat).take (j.toNat - i.toNat) = m) (hN : Nat.ble (d + 1) N.n = true)
  (h : sv P N w0 Wr ops rest ((d, .string (str m)) :: fr) H Z) : sv P N w0 Wr ops (⟨some d, .slice t x lo hi none, ty, pos, after, none⟩ :: rest) fr H Z :=
 sv_val _ hN (fun a w ha _ => by
  subst hm
  have hb := jH7 (P := P) (isS := false) (len := (str l).size) (cap := (str l).size) (w := w) ha hl (by rw [str_size]; exact hh) h0 h1 (by rw [str_size]; exact h2)
  simp only [execOp, Instr.sliceAt, Instr.slice, ha.eval hx, Sem.run_bind, run_underlying ht, Result.andThen_ok, Option.map_none, Option.isSome_none, Bool.false_eq_true, if_false, hb, Sem.run_pure, str_cut]) h
theorem sv_slice {t e n g o len c : Nat} {x : Operand} {lo hi : Option Operand} {i j : Int} (ht : P.underlying t = some (.slice e)) (hs : tySize P e = some n) (hx : ev fr x = some (.slice (some ⟨g, o, none⟩) len c)) (hl : bnd fr 0 lo = some i) (hh : bnd fr (len : Int) hi = some j) (h0 : 0 ≤ i) (h1 : i ≤ j) (h2 : j ≤ c) (hN : Nat.ble (d + 1) N.n = true)
  (h : ∀ o', (i < j → o' = o + i.toNat * n) → sv P N w0 Wr ops rest ((d, .slice (some ⟨g, o', none⟩) (j.toNat - i.toNat) (c - i.toNat)) :: fr) H Z) : sv P N w0 Wr ops (⟨some d, .slice t x lo hi none, ty, pos, after, none⟩ :: rest) fr H Z :=
 sv_val (.slice (some ⟨g, (if c = i.toNat then o else o + i.toNat * n), none⟩) (j.toNat - i.toNat) (c - i.toNat)) hN (fun a w ha _ => by
  have hb := jH7 (P := P) (isS := true) (len := len) (cap := c) (w := w) ha hl hh h0 h1 h2
  simp only [execOp, Instr.sliceAt, Instr.slice, ha.eval hx, Sem.run_bind, run_underlying ht, Result.andThen_ok, Option.map_none, hb, Sem.run_pure, jB2 hs, Option.map_some, jH6]
  by_cases hc : c = i.toNat <;> simp [hc]) (h _ (fun hlt => by rw [if_neg (by omega)]))
theorem sv_build {t : TypeId} {parts : List (Nat × Operand)} {pv : List (Nat × Value)} {z cs cs' : List Value} {pl : List (Nat × Nat)} (hz : tyZero P t = some z) (hp : tyPlaces P t = some pl) (hx : evParts fr parts = some pv) (hf : fillV (pl[·]?) z (celled pv) = some cs) (hn : cs = cs') (hN : Nat.ble (d + 1) N.n = true)
  (h : sv P N w0 Wr ops rest ((d, .agg cs'.toArray) :: fr) H Z) : sv P N w0 Wr ops (⟨some d, .build t parts.toArray, ty, pos, after, none⟩ :: rest) fr H Z :=
 sv_val _ hN (fun a w ha _ => by
  subst hn
  obtain ⟨v, h1, h2⟩ := run_zero (w := w) hz
  unfold tyPlaces at hp
  cases hu : P.underlying t with
  | none => simp [hu] at hp
  | some dd =>
   cases dd <;> simp only [hu] at hp <;> try cases hp
   rename_i fs
   have hpl := places_ok (P := P) fs.toList pl w hp
   have hpl' : (fs.mapM (m := Sem) fun f => do pure (f.offset, ← sizeOf f.type)).run P w = .ok pl.toArray w := by
    rw [← Array.toArray_toList (xs := fs), List.mapM_toArray]
    rw [Sem.run_map, hpl]
    rfl
   have hfl : Instr.fill (fun i => pl.toArray[i]?) v.cells pv = some cs.toArray := fill_ok _ pv v.cells cs (by rw [h2]; simpa using hf)
   have hpv := ha.parts hx
   have hpv' : (parts.toArray.map fun (p : Nat × Operand) => (p.1, a.eval p.2)).toList = pv := by simpa using hpv
   simp only [execOp, Instr.build, Sem.run_bind, h1, Result.andThen_ok, run_underlying hu, hpl', hpv', hfl]
   rfl) h
theorem sv_buildA {t e len n : TypeId} {parts : List (Nat × Operand)} {pv : List (Nat × Value)} {z cs cs' : List Value} (hz : tyZero P t = some z) (ht : P.underlying t = some (.array len e)) (hs : tySize P e = some n) (hx : evParts fr parts = some pv) (hf : fillV (fun i => some (i * n, n)) z (celled pv) = some cs) (hn : cs = cs') (hN : Nat.ble (d + 1) N.n = true)
  (h : sv P N w0 Wr ops rest ((d, .agg cs'.toArray) :: fr) H Z) : sv P N w0 Wr ops (⟨some d, .build t parts.toArray, ty, pos, after, none⟩ :: rest) fr H Z :=
 sv_val _ hN (fun a w ha _ => by
  subst hn
  obtain ⟨v, h1, h2⟩ := run_zero (w := w) hz
  have hfl : Instr.fill (fun i => some (i * n, n)) v.cells pv = some cs.toArray := fill_ok _ pv v.cells cs (by rw [h2]; simpa using hf)
  have hpv := ha.parts hx
  have hpv' : (parts.toArray.map fun (p : Nat × Operand) => (p.1, a.eval p.2)).toList = pv := by simpa using hpv
  simp only [execOp, Instr.build, Sem.run_bind, h1, Result.andThen_ok, run_underlying ht, jB2 hs, hpv', hfl]
  rfl) h
theorem sv_pick {c x y : Operand} {b : Bool} {v : Value} (hc : ev fr c = some (.bool b)) (hx : ev fr (bif b then x else y) = some v) (hN : Nat.ble (d + 1) N.n = true)
  (h : sv P N w0 Wr ops rest ((d, v) :: fr) H Z) : sv P N w0 Wr ops (⟨some d, .pick c x y, ty, pos, after, none⟩ :: rest) fr H Z :=
 sv_val v hN (fun a w ha _ => by
  cases b <;> simp only [cond_true, cond_false] at hx <;> simp [execOp, ha.eval hc, ha.eval hx, asBool]) h
theorem sv_lookup {κ ν : Type} [DecidableEq κ] {encK : κ → Value} {encV : ν → Value} {K T E : TypeId} (i : Nat) (hK : KeyOk P K encK) (hT : P.underlying T = some (.map K E)) {z : Value} (hz : ∀ w, (zeroValue E).run P w = .ok z w) {x y : Operand} {b : Nat} {M : List (κ × ν)} (k : κ) {ok : Bool} (v : Value)
  (hx : ev fr x = some (.map (some b))) (hy : ev fr y = some (encK k)) (hH : H[i]? = some (mapE encK encV b M)) (hv : (if ok = true then Value.tuple #[((aget M k).map encV).getD z, .bool (aget M k).isSome] else ((aget M k).map encV).getD z) = v) (hN : Nat.ble (d + 1) N.n = true)
  (h : sv P N w0 Wr ops rest ((d, v) :: fr) H Z) : sv P N w0 Wr ops (⟨some d, .lookup T x y ok, ty, pos, after, none⟩ :: rest) fr H Z :=
 sv_val v hN (fun a w ha hw => by
  subst hv
  have := run_look hK hT (mapE_is.1 (hw.mem hH)) (hz w) k ok
  simp only [execOp, ha.eval hx, ha.eval hy, Sem.run_bind, this, Result.andThen_ok]
  rfl) h
theorem jH2 (h : Z fr H) : tw P N w0 Wr ops H0 [] fr H Z := fun _ hQ a w ha hw => ⟨rfl, hQ _ _ a w h ha hw⟩
theorem tw_p {i : Nat} {o : Oper} {xs : List (Nat × Bool)} (ho : ops[i]? = some o) (h : sv P N w0 Wr ops [o] fr H0 fun fr' _ => tw P N w0 Wr ops H0 xs fr' H Z) : tw P N w0 Wr ops H0 ((i, true) :: xs) fr H Z :=
 fun Q hQ a w ha hw => by
  obtain ⟨v, hv, hk⟩ := h (fun a => Wv P ops (Sat w0 Wr H0) Q xs a w) (fun fr' a ht hf => ht Q hQ a w hf hw) a ha
  exact ⟨o, v, ho, hv, hk⟩
theorem tw_g {i : Nat} {o : Oper} {xs : List (Nat × Bool)} (ho : ops[i]? = some o) (h : sx P N w0 Wr ops [o] fr H fun fr' H' => HLe H0 H' ∧ tw P N w0 Wr ops H0 xs fr' H' Z) : tw P N w0 Wr ops H0 ((i, false) :: xs) fr H Z :=
 fun Q hQ a w ha hw => by
  have h1 := h (QN fun _ a w => Sat w0 Wr H0 w ∧ Wv P ops (Sat w0 Wr H0) Q xs a w) (fun fr' H' a w ht hf hS => ⟨rfl, ht.1 _ _ _ hS, ht.2 Q hQ a w hf hS⟩) a w ha hw
  show wpOp P ops (QN Q) i (fun a w' => Sat w0 Wr H0 w' ∧ Wv P ops (Sat w0 Wr H0) Q xs a w') a w
  refine wpOp_any (Q := fun _ a w => Sat w0 Wr H0 w ∧ Wv P ops (Sat w0 Wr H0) Q xs a w) ho ?_
  unfold wpOp
  simp only [ho]
  unfold wpList at h1
  split
  ·rename_i hw'
   rw [if_pos hw'] at h1
   exact h1.imp (Oper.wp_mono fun a w hh => hh.2) id
  ·rename_i hw'
   rw [if_neg hw'] at h1
   exact h1.2
theorem aww_region {Q : Exit → Act → World → Prop} {id : Nat} {l : List Oper} (H0 : Heap) (ls : List (Nat × Bool)) (hm : P.follows .mixedOrders = true) (hB : calmB l ls = true) (hk : HLe H0 H)
  (h : ∀ Z : Fr → Heap → Prop, (∀ fr H, nx N w0 Wr fr H Q .normal → Z fr H) → tw P N w0 Wr l.toArray H0 ls fr H Z) : awp P N w0 Wr (.region id l.toArray true) fr H Q :=
 fun a w ha hw => wp_region_calm (C := Sat w0 Wr H0) ls hm hB (hk _ _ _ hw.drew)
  (h (fun fr H => nx N w0 Wr fr H Q .normal) (fun _ _ h => h) Q (fun fr' H' a w hz hf hs => hz a w hf hs) a w.drew ha hw.drew)
theorem jD0 {Q : Exit → Act → World → Prop} {id : Nat} {l : List Oper} {y : Code} (H0 : Heap) (ls : List (Nat × Bool)) (hm : P.follows .mixedOrders = true) (hB : calmB l ls = true) (hk : HLe H0 H)
  (h : ∀ Z : Fr → Heap → Prop, (∀ fr H, awp P N w0 Wr y fr H Q → Z fr H) → tw P N w0 Wr l.toArray H0 ls fr H Z) : awp P N w0 Wr (.seq (.region id l.toArray true) y) fr H Q :=
 aS (aww_region H0 ls hm hB hk fun Z hZ => h Z fun fr H hy => hZ fr H hy)
end
end Go.Proofs.YtkojkeabelckjaaGreatDoor
namespace Go.Proofs.YtkojkeabelckjaaGreatDoor
open Go.RowKit
def Ro (T : Heap) : Prop := ∀ e ∈ T, e.wr = false
theorem Ro.nil : Ro [] := fun _ h => by cases h
theorem Ro.roE (A : Option Addr) (xs : List Value) : Ro (roE A xs) := fun e he => by
 unfold Go.Proofs.YtkojkeabelckjaaGreatDoor.roE at he
 split at he
 ·rw [List.mem_singleton.1 he]; rfl
 ·cases he
theorem Ro.append {T U : Heap} (h : Ro T) (k : Ro U) : Ro (T ++ U) := fun e he => (List.mem_append.1 he).elim (h e) (k e)
theorem Ro.filter {T : Heap} (h : Ro T) : T.filter Ent.wr = [] := List.filter_eq_nil_iff.2 fun e he => by simp [h e he]
theorem Ro.wrs {T : Heap} (h : Ro T) (A : Heap) : wrs (A ++ T) = wrs A := by simp [Go.Proofs.YtkojkeabelckjaaGreatDoor.wrs, List.filter_append, h.filter]
section
variable {w0 w w' : World} {Wr : List Nat} {H H' T U : Heap} {idxs ks : List Nat}
theorem apart_any (h : Sat w0 Wr H w) {a b : Ent} (ha : a ∈ H) (hb : b ∈ H) (hr : b.wr = false) : a.apart b := by
 obtain ⟨i, hi⟩ := List.mem_iff_getElem?.1 ha
 obtain ⟨j, hj⟩ := List.mem_iff_getElem?.1 hb
 by_cases hij : i = j
 ·subst hij
  have : a = b := Option.some.inj (hi.symm.trans hj)
  subst this
  intro hw
  simp [hr] at hw
 ·exact h.sep.at_ hij hi hj
theorem HLe.drop (n : Nat) {a b : Heap} (h : b.drop n = a) : HLe a b := HLe.sub (h ▸ List.drop_sublist n b)
theorem Sat.freeze {e e' : Ent} (h : Sat w0 Wr (e :: H) w) (hw : e.wr = true) (hw' : e'.wr = false) (hg : e'.g = e.g) (hh : e.holds w → e'.holds w) : Sat w0 Wr (e' :: H) w := by
 refine ⟨h.only, fun x hx => ?_, ?_⟩
 ·rcases List.mem_cons.1 hx with rfl | hx
  ·exact ⟨hh (h.ents e List.mem_cons_self).1, fun hx => by rw [hw'] at hx; cases hx⟩
  ·exact h.ents x (List.mem_cons_of_mem _ hx)
 ·have hp := List.pairwise_cons.1 h.sep
  refine List.Pairwise.cons (fun x hx _ => ?_) hp.2
  rw [hg]
  exact hp.1 x hx (by simp [hw])
theorem own_ro {e : TypeId} {g : Nat} {xs : List Value} (H : Heap) : HLe (.ro g 0 xs :: H) (.own g e xs :: H) := fun w0 Wr w h =>
 h.freeze rfl rfl rfl fun hh => ⟨Ent.lt hh, fun j u hu => by rw [Nat.zero_add]; exact (Ent.cell hh j).trans hu⟩
end
section
variable {P : Program} {N : Frm} {w0 : World} {Wr : List Nat} {ops : Array Oper} {rest : List Oper} {fr : Fr} {H H1 T U : Heap} {Z : Fr → Heap → Prop}
variable {d ty : Nat} {pos : String} {after : Array Edge}
theorem jC1 {l : List Oper} (H' : Heap) (hk : HLe H' H) (h : sx P N w0 Wr ops l fr H' Z) : sx P N w0 Wr ops l fr H Z :=
 fun Q hQ a w ha hw => h Q hQ a w ha (hk _ _ _ hw)
theorem jD6 {f : FuncId} {xs : List Operand} {vs : List Value} {ts : Array TypeId} {v : Value} (U : Heap) (hc : Fn P f vs U fun u _ => u = v) (hx : evs fr xs = some vs) (hU : U.Sublist H) (hroU : Ro U) (hN : Nat.ble (d + 1) N.n = true)
  (h : sx P N w0 Wr ops rest ((d, v) :: fr) H Z) :
  sx P N w0 Wr ops (⟨some d, .call { callee := .value (.func f), args := xs.toArray, argTypes := ts }, ty, pos, after, none⟩ :: rest) fr H Z :=
 sx_callW (R := fun u H' => u = v ∧ H' = H) hc.1 hx hN (fun w hw => by
  have hpre : Sat w (wrs U) U w := ⟨Only.refl _ _, fun e he => ⟨(hw.ents e (hU.subset he)).1, fun h => .inl (mem_wrs.2 ⟨e, he, h, rfl⟩)⟩, hw.sep.sublist hU⟩
  exact (hc.2 w hpre).mono fun e w' he => by
   obtain ⟨u, H', h1, h2, h3⟩ := he
   have h0 : wrs U = [] := by have := hroU.wrs []; simpa [wrs] using this
   rw [h0] at h3
   exact ⟨u, H, h1, ⟨h2, rfl⟩, hw.bel h3.only.bel⟩) (fun u H' hR => by obtain ⟨rfl, rfl⟩ := hR; exact h)
theorem sx_callRT {f : FuncId} {xs : List Operand} {vs : List Value} {ts : Array TypeId} {e : TypeId} {size n : Nat} {ys : List Value} (U : Heap) (hc : Fn P f vs U fun u H' => RowOk u n ∧ H' = rowE u e size ys) (hx : evs fr xs = some vs) (hU : U.Sublist H) (hroU : Ro U) (hN : Nat.ble (d + 1) N.n = true)
  (h : ∀ v, RowOk v n → sx P N w0 Wr ops rest ((d, v) :: fr) (rowE v e size ys ++ H) Z) :
  sx P N w0 Wr ops (⟨some d, .call { callee := .value (.func f), args := xs.toArray, argTypes := ts }, ty, pos, after, none⟩ :: rest) fr H Z :=
 sx_callW (R := fun u H' => RowOk u n ∧ H' = rowE u e size ys ++ H) hc.1 hx hN (fun w hw => by
  have hpre : Sat w (wrs U) U w := ⟨Only.refl _ _, fun e he => ⟨(hw.ents e (hU.subset he)).1, fun h => .inl (mem_wrs.2 ⟨e, he, h, rfl⟩)⟩, hw.sep.sublist hU⟩
  exact (hc.2 w hpre).mono fun x w' he => by
   obtain ⟨u, H', h1, ⟨h2, rfl⟩, h3⟩ := he
   have h0 : wrs U = [] := by have := hroU.wrs []; simpa [wrs] using this
   rw [h0] at h3
   have hb := h3.only.bel
   refine ⟨u, _, h1, ⟨h2, rfl⟩, ?_⟩
   rcases h2 with ⟨rfl, rfl⟩ | ⟨g, c, rfl⟩
   ·exact hw.bel hb
   ·have hm := h3.ents (.ob g (RowP e size n c ys)) List.mem_cons_self
    refine hw.fresh hm.1 hb ?_
    rcases hm.2 rfl with h4 | h4
    ·cases h4
    ·exact h4) (fun u H' hR => by obtain ⟨h1, rfl⟩ := hR; exact h u h1)
end
/- Rows of elements of so many cells. -/
section
variable {α : Type} {f : α → List Value} {n : Nat}
theorem fm_len (hf : ∀ x, (f x).length = n) : ∀ L : List α, (L.flatMap f).length = L.length * n
 | [] => by simp
 | x :: L => by rw [List.flatMap_cons, List.length_append, hf, fm_len hf L, List.length_cons, Nat.succ_mul, Nat.add_comm]
theorem fm_drop (hf : ∀ x, (f x).length = n) : ∀ (L : List α) (i : Nat), (L.flatMap f).drop (i * n) = (L.drop i).flatMap f
 | L, 0 => by simp
 | [], i + 1 => by simp
 | x :: L, i + 1 => by
  rw [List.flatMap_cons, List.drop_succ_cons, ← fm_drop hf L i, Nat.succ_mul, Nat.add_comm, ← List.drop_drop, ← hf x, List.drop_left]
theorem fm_split {L : List α} {i : Nat} {x : α} (h : L[i]? = some x) : L.drop i = x :: L.drop (i + 1) := by
 obtain ⟨h1, h2⟩ := List.getElem?_eq_some_iff.1 h
 rw [List.drop_eq_getElem_cons h1, h2]
theorem fm_at (hf : ∀ x, (f x).length = n) {L : List α} {i : Nat} {x : α} (h : L[i]? = some x) : ((L.flatMap f).drop (i * n)).take n = f x := by
 rw [fm_drop hf, fm_split h, List.flatMap_cons, ← hf x, List.take_left]
theorem fm_rd (hf : ∀ x, (f x).length = n) {L : List α} {i : Nat} {x : α} (h : L[i]? = some x) : rdV true n (L.flatMap f) (i * n) = some (.agg (f x).toArray) := by
 have h1 := (List.getElem?_eq_some_iff.1 h).1
 have h2 : i * n + n ≤ L.length * n := by rw [← Nat.succ_mul]; exact Nat.mul_le_mul_right _ h1
 have h3 : Nat.ble (i * n + n) (L.flatMap f).length = true := Nat.ble_eq_true_of_le (by rw [fm_len hf]; exact h2)
 unfold rdV
 rw [cond_true, h3, cond_true, fm_at hf h]
theorem fm_rd1 (hf : ∀ x, (f x).length = n) {L : List α} {i j : Nat} {x : α} {v : Value} (h : L[i]? = some x) (hj : (f x)[j]? = some v) : rdV false 1 (L.flatMap f) (i * n + j) = some v := by
 have h1 := (List.getElem?_eq_some_iff.1 hj).1
 unfold rdV
 rw [cond_false, ← List.getElem?_drop, ← List.getElem?_take_of_lt (show j < n by rw [← hf x]; exact h1), fm_at hf h]
 exact hj
theorem fm_snoc (L : List α) (x : α) : (L ++ [x]).flatMap f = L.flatMap f ++ f x := by simp
theorem fm_take {L : List α} {i : Nat} {x : α} (h : L[i]? = some x) : (L.take (i + 1)).flatMap f = (L.take i).flatMap f ++ f x := by
 obtain ⟨h1, h2⟩ := List.getElem?_eq_some_iff.1 h
 rw [List.take_succ_eq_append_getElem h1, fm_snoc, h2]
end
theorem HLe.swap (A T : Heap) : HLe (T ++ A) (A ++ T) := fun _ _ _ hw => hw.perm List.perm_append_comm
section
variable {α : Type} {f : α → List Value} {n : Nat}
end
section
variable {P : Program} {N : Frm} {w0 : World} {Wr : List Nat} {ops : Array Oper} {rest : List Oper} {fr : Fr} {H H1 T U : Heap} {Z : Fr → Heap → Prop}
variable {d ty : Nat} {pos : String} {after : Array Edge}
theorem sx_callRE {f : FuncId} {xs : List Operand} {vs : List Value} {ts : Array TypeId} {e : TypeId} {size n : Nat} {ys : List Value} (U : Heap) (hc : Fn P f vs U fun u H' => RowOk u n ∧ H' = rowE u e size ys) (hx : evs fr xs = some vs) (hU : U.Sublist H) (hroU : Ro U) (hN : Nat.ble (d + 1) N.n = true)
  (h : ∀ v, RowOk v n → sx P N w0 Wr ops rest ((d, v) :: fr) (H ++ rowE v e size ys) Z) :
  sx P N w0 Wr ops (⟨some d, .call { callee := .value (.func f), args := xs.toArray, argTypes := ts }, ty, pos, after, none⟩ :: rest) fr H Z :=
 sx_callRT U hc hx hU hroU hN fun v hv => jC1 _ (HLe.swap _ _) (h v hv)
theorem jD2 {t e : TypeId} {size bytes n m c : Nat} {s x : Operand} {v : Value} {xs news : List Value} {A : Option Addr} (H1 : Heap) (hE : ElemOk P t e size bytes) (hs : ev fr s = some v) (hv : RowOk v n) (hl : xs.length = n * size) (hx : ev fr x = some (.slice A m c))
  (hr : ∀ w, Sat w0 Wr H w → Rd w size A m news) (h1 : news.all Value.oneCell' = true) (h63 : n + m ≤ maxLen) (hby : (n + m) * bytes ≤ 140737488355328) (hH : HLe (H1 ++ rowE v e size xs) H) (hN : Nat.ble (d + 1) N.n = true)
  (h : ∀ v', RowOk v' (n + m) → sx P N w0 Wr ops rest ((d, v') :: fr) (H1 ++ rowE v' e size (xs ++ news)) Z) :
  sx P N w0 Wr ops (⟨some d, .call { callee := .builtin .append, args := #[s, x], argTypes := #[t, t] }, ty, pos, after, none⟩ :: rest) fr H Z :=
 sx_append hE hs hv hl hx hr h1 h63 hby ((HLe.swap _ _).trans hH) hN fun v' hv' => jC1 _ (HLe.swap _ _) (h v' hv')
end
theorem awp_meet {P : Program} {N : Frm} {w0 : World} {Wr : List Nat} {fr : Fr} {H : Heap} {Q : Exit → Act → World → Prop} {x : Code} {ι : Type} (F : ι → Fr) (HH : ι → Heap) (I : ι → Prop)
  (hx : awp P N w0 Wr x fr H (Exit.then (fun a w => ∃ j, I j ∧ FrOk N (F j) a ∧ Sat w0 Wr (HH j) w) Q)) (hy : ∀ j, I j → nx N w0 Wr (F j) (HH j) Q .normal) : awp P N w0 Wr x fr H Q :=
 fun a w ha hw => wq_mono (fun e a w h => by
  cases e <;> first | exact h | (obtain ⟨j, hj, h1, h2⟩ := h; exact hy j hj a w h1 h2)) (hx a w ha hw)
theorem jH5 {P : Program} {n : Nat} {ro : Option Nat} {w0 : World} {Wr : List Nat} {fr : Fr} {H : Heap} {fn : Func} {R : Value → Heap → Prop} {r s t : ResultVar} {v u x : Value} (HH : Heap) (hr : fn.results = #[r, s, t]) (h1 : ResOk P fr H r v) (h2 : ResOk P fr H s u) (h3 : ResOk P fr H t x) (hk : HLe HH H) (hR : R (.tuple #[v, u, x]) HH) : nx ⟨n, ro, []⟩ w0 Wr fr H (bodyPost P fn (FnPost w0 Wr R)) .ret :=
 fun a w ha hw => ⟨ha.defers, _, by
  have e1 := h1.run' ha hw
  have e2 := h2.run' ha hw
  have e3 := h3.run' ha hw
  rw [results_eq]
  simp [hr, Sem.run_bind, e1, e2, e3], _, HH, rfl, hR, hk _ _ _ hw⟩
def jH1 (A : Option Addr) (n : Nat) : Prop := 0 < n → ∃ g o, A = some ⟨g, o, none⟩
theorem SlOk.arg {A : Option Addr} {n : Nat} (h : SlOk A n) : jH1 A n := fun hn => h.some hn
end Go.Proofs.YtkojkeabelckjaaGreatDoor
namespace Go.Proofs.YtkojkeabelckjaaGreatDoor
open Go.RowKit
def gsOf (ord : List (Nat × Bool)) : List Nat := (ord.filter fun x => !x.2).map Prod.fst
def covB (A : List (List Nat)) (pl : Nat → Bool) : Nat → List (List Nat) → Bool
 | 0, _ => true
 | n + 1, G => match G with
  | [] => false
  | g0 :: _ => g0.all fun j => (g0.any fun i => (A.getD j []).contains i) || (!((G.filter fun g => g.head? == some j).isEmpty) && (pl j || Nat.beq (G.filter fun g => g.head? == some j).length 1) && covB A pl n ((G.filter fun g => g.head? == some j).map List.tail))
theorem gs_mem {ord : List (Nat × Bool)} {j : Nat} (h : (j, false) ∈ ord) : j ∈ gsOf ord := List.mem_map.2 ⟨(j, false), List.mem_filter.2 ⟨h, rfl⟩, rfl⟩
theorem gs_in {ord : List (Nat × Bool)} {j : Nat} (h : j ∈ gsOf ord) : (j, false) ∈ ord := by
 obtain ⟨⟨i, b⟩, h1, rfl⟩ := List.mem_map.1 h
 obtain ⟨h2, h3⟩ := List.mem_filter.1 h1
 cases b with
 | false => exact h2
 | true => simp at h3
section
variable {P : Program} {ops : Array Oper} {Q : Exit → Act → World → Prop} {C : World → Prop} {A : List (List Nat)}
def MayK (ops : Array Oper) (x y : Nat × Bool) : Prop := Dep ops x.1 y.1 ∨ MayV ops x y ∨ (x.2 = false ∧ y.2 = false)
structure OrdK (P : Program) (ops : Array Oper) (Q : Exit → Act → World → Prop) (C : World → Prop) (n : Nat) (listed : Array Bool) (a : Act) (w : World) (ord : List (Nat × Bool)) : Prop where
 len : ord.length = n
 left : Left ops (ord.map Prod.fst) listed
 pair : ord.Pairwise (MayK ops)
 goes : Wv P ops C Q ord a w
def Det (P : Program) (ops : Array Oper) (j : Nat) : Prop := ∀ o, ops[j]? = some o → ∀ ρ w n w', (execOp ρ o).run P w = .ok n w' → (∃ v, n = .value v) ∨ n = .skip
theorem wpOp_all {ι : Type} {S : List ι} {K : ι → Act → World → Prop} {j : Nat} {a : Act} {w : World} (hS : S ≠ []) (hd : Det P ops j ∨ S.length = 1) (h : ∀ s ∈ S, wpOp P ops (QN Q) j (K s) a w) : wpOp P ops (QN Q) j (fun b w' => ∀ s ∈ S, K s b w') a w := by
 rcases hd with hd | hd
 ·obtain ⟨s0, hs0⟩ := List.exists_mem_of_ne_nil S hS
  cases ho : ops[j]? with
  | none =>
   unfold wpOp at h ⊢
   simp only [ho] at h ⊢
   exact h
  | some o =>
   rw [wpOp_iff ho]
   have h' := fun s hs => (wpOp_iff ho).1 (h s hs)
   split
   ·rename_i hw
    simp only [hw, if_true] at h'
    have h0 := h' s0 hs0
    unfold Oper.wp at h' h0 ⊢
    cases hr : (execOp a.eval o).run P w with
    | ok n w' =>
     rw [hr] at h0
     simp only [hr] at h'
     rcases hd o ho _ _ _ _ hr with ⟨v, rfl⟩ | rfl
     ·exact h'
     ·exact h'
    | halt x w' =>
     rw [hr] at h0
     cases x <;> simp only [Oper.upon] at h0 <;> first | exact h0.elim | (cases h0.1)
   ·rename_i hw
    simp only [hw] at h'
    exact fun s hs => by simpa using h' s hs
 ·match S, hd with
  | [s], _ => exact wpOp_mono (fun b w' hb s' hs' => by rw [List.mem_singleton.1 hs']; exact hb) (h s List.mem_cons_self)
theorem any_of_k {pl : Nat → Bool} (hpl : ∀ j, pl j = true → Det P ops j) (hA : ∀ j i, i ∈ A.getD j [] → Dep ops i j) (hsel : ∀ (j : Nat) (o : Oper) cs b, ops[j]? = some o → o.op ≠ .select cs b) (hedge : ∀ (j : Nat) (o : Oper), ops[j]? = some o → ∀ e ∈ o.after, Region.binds .any e = true → e.on < ops.size) (fl : Nat → Bool) :
  ∀ (n m : Nat) (S : List (List (Nat × Bool))) (listed : Array Bool) (a : Act) (w : World), S ≠ [] → covB A pl m (S.map gsOf) = true → (∀ ord ∈ S, (gsOf ord).length ≤ m) → C w → (∀ ord ∈ S, ∀ x ∈ ord, x.2 = fl x.1) → (∀ ord ∈ S, OrdK P ops Q C n listed a w ord) → wpAny P .any ops (QN Q) n listed a w := by
 intro n
 induction n with
 | zero =>
  intro m S listed a w hS _ _ hC _ h
  obtain ⟨ord, hord⟩ := List.exists_mem_of_ne_nil S hS
  obtain ⟨hl, hL, hp, h⟩ := h ord hord
  obtain rfl := List.eq_nil_of_length_eq_zero hl
  refine ⟨List.eq_nil_iff_forall_not_mem.2 fun j hj => ?_, h⟩
  obtain ⟨h0, o, ho, _⟩ := mem_ready.1 hj
  have := (hL.mem j (Array.getElem?_eq_some_iff.1 ho).1).1 h0
  simp at this
 | succ n ih =>
  intro m S listed a w hS hc hm hC hfl h
  obtain ⟨ord0, hord0⟩ := List.exists_mem_of_ne_nil S hS
  refine ⟨fun hnil => ?_, fun j hj => ?_⟩
  ·exfalso
   obtain ⟨hl, hL, hp, h⟩ := h ord0 hord0
   match ord0, hl with
   | x :: r, _ =>
    have := hL.first hedge
    rw [hnil] at this
    cases this
  ·obtain ⟨h0, o, ho, hall⟩ := mem_ready.1 hj
   have split : ∀ ord ∈ S, ∃ p r, ord = p ++ (j, fl j) :: r ∧ (∀ x ∈ p, MayV ops x (j, fl j) ∨ (x.2 = false ∧ fl j = false)) ∧ Left ops ((p ++ r).map Prod.fst) (listed.setIfInBounds j true) ∧ (p ++ r).Pairwise (MayK ops) ∧ (p ++ r).length = n := fun ord hord => by
    obtain ⟨hl, hL, hp, _⟩ := h ord hord
    have hdeps := hL.deps hedge hj
    have hjm := (hL.mem j (Array.getElem?_eq_some_iff.1 ho).1).1 h0
    obtain ⟨bj, hjb⟩ := mem_fst hjm
    have hb : bj = fl j := hfl ord hord _ hjb
    subst hb
    obtain ⟨p, r, rfl⟩ := List.append_of_mem hjb
    have hpp := List.pairwise_append.1 hp
    refine ⟨p, r, rfl, fun x hx => ?_, ?_, List.pairwise_append.2 ⟨hpp.1, (List.pairwise_cons.1 hpp.2.1).2, fun x hx y hy => hpp.2.2 x hx y (List.mem_cons_of_mem _ hy)⟩, by simp at hl ⊢; omega⟩
    ·rcases hpp.2.2 x hx (j, fl j) List.mem_cons_self with hd | hd | hd
     ·exact absurd (List.mem_map.2 ⟨x, List.mem_append_left _ hx, rfl⟩) (hdeps x.1 hd)
     ·exact .inl hd
     ·exact .inr hd
    ·rw [List.map_append]
     exact Left.step (by simpa using hL) hedge hj
   cases hf : fl j with
   | true =>
    have step : ∀ ord ∈ S, ∃ v, YC P ops C o v a ∧ ∃ ord', gsOf ord' = gsOf ord ∧ (∀ x ∈ ord', x ∈ ord) ∧ OrdK P ops Q C n (listed.setIfInBounds j true) (a.put o.dst v) w ord' := fun ord hord => by
     obtain ⟨p, r, rfl, hp, hL', hpw, hl⟩ := split ord hord
     rw [hf] at hp
     have hg := v_front hsel p a w (fun x hx => (hp x hx).elim id (fun h => by cases h.2)) (by have := (h _ hord).goes; rwa [hf] at this)
     simp only [vst] at hg
     obtain ⟨o', v, e, hv, hk⟩ := hg
     rw [ho] at e; obtain rfl := Option.some.inj e
     exact ⟨v, hv, p ++ r, by simp [gsOf, hf, List.filter_append], fun x hx => by rcases List.mem_append.1 hx with hx | hx <;> simp [hx], hl, hL', hpw, hk⟩
    obtain ⟨v, hv, _⟩ := step ord0 hord0
    refine (hv w hC).wp ho ?_
    have step' : ∀ ord ∈ S, ∃ ord', gsOf ord' = gsOf ord ∧ (∀ x ∈ ord', x ∈ ord) ∧ OrdK P ops Q C n (listed.setIfInBounds j true) (a.put o.dst v) w ord' := fun ord hord => by
     obtain ⟨u, hu, h1⟩ := step ord hord
     have : u = v := (hu w hC).uniq (hv w hC)
     exact this ▸ h1
    have coll : ∀ S1 : List (List (Nat × Bool)), (∀ ord ∈ S1, ord ∈ S) → ∃ S2 : List (List (Nat × Bool)), S2.map gsOf = S1.map gsOf ∧ ∀ ord' ∈ S2, (∃ ord ∈ S1, gsOf ord' = gsOf ord ∧ ∀ x ∈ ord', x ∈ ord) ∧ OrdK P ops Q C n (listed.setIfInBounds j true) (a.put o.dst v) w ord' := by
     intro S1
     induction S1 with
     | nil => intro _; exact ⟨[], rfl, by simp⟩
     | cons x S1 ih2 =>
      intro hs
      obtain ⟨S2, e, h2⟩ := ih2 (fun ord hord => hs ord (List.mem_cons_of_mem _ hord))
      obtain ⟨x', h3, h4, h5⟩ := step' x (hs x List.mem_cons_self)
      refine ⟨x' :: S2, by simp [e, h3], fun ord' hord' => ?_⟩
      rcases List.mem_cons.1 hord' with rfl | hord'
      ·exact ⟨⟨x, List.mem_cons_self, h3, h4⟩, h5⟩
      ·obtain ⟨⟨y, h6, h7⟩, h8⟩ := h2 ord' hord'
       exact ⟨⟨y, List.mem_cons_of_mem _ h6, h7⟩, h8⟩
    obtain ⟨S2, e, h2⟩ := coll S (fun _ h => h)
    refine ih m S2 _ _ w (fun e0 => ?_) (by rw [e]; exact hc) (fun ord' ho' => ?_) hC (fun ord' ho' x hx => ?_) (fun ord' ho' => (h2 ord' ho').2)
    ·subst e0
     have := List.map_eq_nil_iff.1 e.symm
     exact hS this
    ·obtain ⟨⟨ord, h3, h4, _⟩, _⟩ := h2 ord' ho'
     rw [h4]; exact hm ord h3
    ·obtain ⟨⟨ord, h3, _, h5⟩, _⟩ := h2 ord' ho'
     exact hfl ord h3 x (h5 x hx)
   | false =>
    have hj0 : j ∈ gsOf ord0 := by
     obtain ⟨p, r, e, _⟩ := split ord0 hord0
     rw [hf] at e
     exact gs_mem (by rw [e]; simp)
    have hm1 : 0 < m := Nat.lt_of_lt_of_le (List.length_pos_of_mem hj0) (hm ord0 hord0)
    obtain ⟨m, rfl⟩ : ∃ k, m = k + 1 := ⟨m - 1, by omega⟩
    have hcov : ((S.map gsOf).filter fun g => g.head? == some j) ≠ [] ∧ (pl j = true ∨ ((S.map gsOf).filter fun g => g.head? == some j).length = 1) ∧ covB A pl m (((S.map gsOf).filter fun g => g.head? == some j).map List.tail) = true := by
     match S, hS, hc with
     | s0 :: S1, _, hc =>
      have hs0 : s0 ∈ s0 :: S1 := List.mem_cons_self
      have hjs : j ∈ gsOf s0 := by
       obtain ⟨p, r, e, _⟩ := split s0 hs0
       rw [hf] at e
       exact gs_mem (by rw [e]; simp)
      simp only [List.map_cons, covB, List.all_eq_true] at hc
      have := hc j hjs
      simp only [Bool.or_eq_true, List.any_eq_true] at this
      rcases this with ⟨i, hi, hij⟩ | this
      ·have hdeps := (h s0 hs0).left.deps hedge hj i (hA j i (by simpa using hij))
       exact absurd (List.mem_map.2 ⟨(i, false), gs_in hi, rfl⟩) hdeps
      ·rw [← List.map_cons] at this
       simp only [Bool.and_eq_true, Bool.or_eq_true, Bool.not_eq_true'] at this
       refine ⟨fun e => ?_, this.1.2.imp id Nat.eq_of_beq_eq_true, this.2⟩
       have := this.1.1
       rw [e] at this
       cases this
    obtain ⟨hne, hdet, hc'⟩ := hcov
    have step : ∀ ord ∈ S, (gsOf ord).head? = some j → ∃ ord', gsOf ord' = (gsOf ord).tail ∧ (∀ x ∈ ord', x ∈ ord) ∧ Left ops (ord'.map Prod.fst) (listed.setIfInBounds j true) ∧ ord'.Pairwise (MayK ops) ∧ ord'.length = n ∧ wpOp P ops (QN Q) j (fun b w' => C w' ∧ Wv P ops C Q ord' b w') a w := fun ord hord hh => by
     obtain ⟨p, r, e, hp, hL', hpw, hl⟩ := split ord hord
     have hpt : ∀ x ∈ p, x.2 = true := fun x hx => by
      cases hx2 : x.2 with
      | true => rfl
      | false =>
       exfalso
       have hnd := (h ord hord).left.nodup
       have hgp : gsOf ord = gsOf p ++ j :: gsOf r := by rw [e]; simp [gsOf, List.filter_append, hf]
       have hxp : x.1 ∈ gsOf p := gs_mem (by
        have : x = (x.1, false) := (by rw [← hx2])
        exact this ▸ hx)
       rw [hgp] at hh
       match hq : gsOf p with
       | [] => rw [hq] at hxp; cases hxp
       | y :: q =>
        rw [hq] at hh
        have hy : y = j := by simpa using hh
        have hyp : (y, false) ∈ p := gs_in (by rw [hq]; exact List.mem_cons_self)
        rw [e, List.map_append, List.map_cons] at hnd
        have := (List.nodup_append.1 hnd).2.2 y (List.mem_map.2 ⟨_, hyp, rfl⟩) j List.mem_cons_self
        exact this hy
     have hgr : gsOf ord = j :: gsOf (p ++ r) := by
      have : gsOf p = [] := by
       unfold gsOf
       rw [List.filter_eq_nil_iff.2 fun x hx => by simp [hpt x hx]]
       rfl
      have h1 : gsOf ord = gsOf p ++ j :: gsOf r := by rw [e]; simp [gsOf, List.filter_append, hf]
      have h2 : gsOf (p ++ r) = gsOf p ++ gsOf r := by simp [gsOf, List.filter_append]
      rw [h1, h2, this]
      rfl
     have hg := v_front hsel p a w (fun x hx => (hp x hx).elim id (fun h2 => by rw [hpt x hx] at h2; cases h2.1)) (e ▸ (h ord hord).goes)
     exact ⟨p ++ r, by rw [hgr]; rfl, fun x hx => by rw [e]; rcases List.mem_append.1 hx with hx | hx <;> simp [hx], hL', hpw, hl, vst_op hC (by rw [hf] at hg; exact hg)⟩
    have coll : ∀ S1 : List (List (Nat × Bool)), (∀ ord ∈ S1, ord ∈ S) → ∃ S2 : List (List (Nat × Bool)), S2.map gsOf = ((S1.map gsOf).filter fun g => g.head? == some j).map List.tail ∧
      ∀ ord' ∈ S2, (∃ ord ∈ S, gsOf ord = j :: gsOf ord' ∧ ∀ x ∈ ord', x ∈ ord) ∧ Left ops (ord'.map Prod.fst) (listed.setIfInBounds j true) ∧ ord'.Pairwise (MayK ops) ∧ ord'.length = n ∧ wpOp P ops (QN Q) j (fun b w' => C w' ∧ Wv P ops C Q ord' b w') a w := by
     intro S1
     induction S1 with
     | nil => intro _; exact ⟨[], rfl, by simp⟩
     | cons x S1 ih2 =>
      intro hs
      obtain ⟨S2, e, h2⟩ := ih2 (fun ord hord => hs ord (List.mem_cons_of_mem _ hord))
      by_cases hh : (gsOf x).head? = some j
      ·obtain ⟨x', h3, h4, h5⟩ := step x (hs x List.mem_cons_self) hh
       refine ⟨x' :: S2, by simp [e, h3, hh], fun ord' hord' => ?_⟩
       rcases List.mem_cons.1 hord' with rfl | hord'
       ·refine ⟨⟨x, hs x List.mem_cons_self, ?_, h4⟩, h5⟩
        rw [h3]
        match hq : gsOf x with
        | [] => rw [hq] at hh; cases hh
        | y :: q => rw [hq] at hh; simp at hh; rw [hh]; rfl
       ·exact h2 ord' hord'
      ·exact ⟨S2, by simp [e, hh], h2⟩
    obtain ⟨S2, e, h2⟩ := coll S (fun _ h => h)
    have hne2 : S2 ≠ [] := fun e0 => by
     subst e0
     have := List.map_eq_nil_iff.1 e.symm
     exact hne this
    have hlen2 : S2.length = ((S.map gsOf).filter fun g => g.head? == some j).length := by
     have := congrArg List.length e
     simpa using this
    refine wpOp_mono (fun b w' hb => ?_) (wpOp_all (K := fun ord' b w' => C w' ∧ Wv P ops C Q ord' b w') hne2 (hdet.imp (hpl j) (fun h => hlen2.trans h)) (fun ord' ho' => (h2 ord' ho').2.2.2.2))
    obtain ⟨s0, hs0⟩ := List.exists_mem_of_ne_nil S2 hne2
    refine ih m S2 _ b w' hne2 (by rw [e]; exact hc') (fun ord' ho' => ?_) (hb s0 hs0).1 (fun ord' ho' x hx => ?_) (fun ord' ho' => ⟨(h2 ord' ho').2.2.2.1, (h2 ord' ho').2.1, (h2 ord' ho').2.2.1, (hb ord' ho').2⟩)
    ·obtain ⟨⟨ord, h3, h4, _⟩, _⟩ := h2 ord' ho'
     have := hm ord h3
     rw [h4, List.length_cons] at this
     omega
    ·obtain ⟨⟨ord, h3, _, h5⟩, _⟩ := h2 ord' ho'
     exact hfl ord h3 x (h5 x hx)
def kB (ops : Array Oper) (A : List (List Nat)) : List (Nat × Bool) → Bool
 | [] => true
 | x :: r => (r.all fun y => (A.getD y.1 []).contains x.1 || (apB ops x.1 y.1 && (x.2 || y.2)) || (!x.2 && !y.2)) && kB ops A r
theorem kB_ok (hA : ∀ j i, i ∈ A.getD j [] → Dep ops i j) : ∀ {l : List (Nat × Bool)}, kB ops A l = true → l.Pairwise (MayK ops)
 | [], _ => List.Pairwise.nil
 | x :: r, h => by
  simp only [kB, Bool.and_eq_true] at h
  refine List.Pairwise.cons (fun y hy => ?_) (kB_ok hA h.2)
  have := List.all_eq_true.1 h.1 y hy
  simp only [Bool.or_eq_true, Bool.and_eq_true, Bool.not_eq_true'] at this
  rcases this with (h1 | ⟨h1, h2⟩) | h1
  ·exact .inl (hA _ _ (by simpa using h1))
  ·obtain ⟨oi, oj, e1, e2, e3⟩ := apB_ok h1
   exact .inr (.inl ⟨oi, oj, e1, e2, e3, h2⟩)
  ·exact .inr (.inr h1)
def ordB (l : List Oper) (fl : Nat → Bool) (ls : List (Nat × Bool)) : Bool :=
 Nat.beq ls.length l.length && decide (ls.map Prod.fst).Nodup && extB l.toArray [] (ls.map Prod.fst) && kB l.toArray (ancs l) ls && (ls.all fun x => x.2 == fl x.1)
def detB (ops : Array Oper) (j : Nat) : Bool := match ops[j]? with
 | some o => match o.op with
  | .buildSlice .. => true
  | .convert .. => true
  | .alloc .. => true
  | .box .. => true
  | _ => false
 | none => false
theorem det_run {P : Program} {s : Sem Value} {w w' : World} {n : Next} (h : (do pure (Next.value (← s)) : Sem Next).run P w = .ok n w') : (∃ v, n = .value v) ∨ n = .skip := by
 rw [Sem.run_bind] at h
 cases hr : s.run P w with
 | ok v w1 =>
  rw [hr] at h
  simp only [Result.andThen_ok, Sem.run_pure] at h
  injection h with h1
  exact .inl ⟨v, h1.symm⟩
 | halt x w1 => rw [hr] at h; cases h
theorem detB_ok {P : Program} {ops : Array Oper} {j : Nat} (h : detB ops j = true) : Det P ops j := fun o ho ρ w n w' hr => by
 unfold detB at h
 rw [ho] at h
 simp only at h
 unfold execOp at hr
 split at h <;> rename_i hop <;> first | (cases h; done) | (rw [hop] at hr; exact det_run hr)
def manyB (l : List Oper) (gs : List Nat) (S : List (List (Nat × Bool))) : Bool :=
 Region.noSelect l.toArray && covB (ancs l) (detB l.toArray) gs.length (S.map gsOf) && (S.all fun ls => ordB l (fun i => !gs.contains i) ls && Nat.beq (gsOf ls).length gs.length)
theorem wp_region_many {N : Frm} {id : Nat} {l : List Oper} {a : Act} {w : World} (gs : List Nat) (S : List (List (Nat × Bool))) (hS : S ≠ []) (hm : P.follows .mixedOrders = true) (hB : manyB l gs S = true) (hC : C w.drew) (h : ∀ ls ∈ S, Wv P l.toArray C Q ls a w.drew) : wq P N (.region id l.toArray true) Q a w := by
 simp only [manyB, Bool.and_eq_true, List.all_eq_true] at hB
 obtain ⟨⟨hsel, hcov⟩, hall0⟩ := hB
 have hA := ancs_ok l
 have ok : ∀ ls ∈ S, (Left l.toArray (ls.map Prod.fst) (Array.replicate l.toArray.size false) ∧ ls.Pairwise (MayK l.toArray) ∧ ls.length = l.length ∧ (∀ x ∈ ls, x.2 = !gs.contains x.1) ∧ (gsOf ls).length = gs.length) ∧
   (∀ (j : Nat) (o : Oper), l.toArray[j]? = some o → ∀ e ∈ o.after, Region.binds .any e = true → e.on < l.toArray.size) := fun ls hls => by
  obtain ⟨hB, hg⟩ := hall0 ls hls
  simp only [ordB, Bool.and_eq_true, decide_eq_true_eq, List.all_eq_true] at hB
  obtain ⟨⟨⟨⟨hlen, hnd⟩, hext⟩, hpairs⟩, hfl⟩ := hB
  have hlen := Nat.eq_of_beq_eq_true hlen
  obtain ⟨he1, he2⟩ := ext_ok hext (by simp) hnd
  have hall : ∀ k, k < l.length → k ∈ ls.map Prod.fst := all_in l.length _ hnd (by simpa using hlen) (fun x hx => by simpa using he2 x hx)
  refine ⟨⟨⟨hnd, by simp, he2, fun k hk => ?_, he1, fun j o ho hj => absurd (hall j (by simpa using (Array.getElem?_eq_some_iff.1 ho).1)) hj⟩, kB_ok hA hpairs, hlen, fun x hx => by simpa using hfl x hx, Nat.eq_of_beq_eq_true hg⟩, fun j o ho e he hb =>
   ext_edges _ _ hext (by simp) j (hall j (by simpa using (Array.getElem?_eq_some_iff.1 ho).1)) o ho e he hb⟩
  have h1 : k ∈ ls.map Prod.fst := hall k (by simpa using hk)
  have hk' : k < l.length := by simpa using hk
  have h2 : (Array.replicate l.toArray.size false).getD k true = false := by simp [Array.getD_eq_getD_getElem?, hk']
  exact ⟨fun _ => h1, fun _ => h2⟩
 obtain ⟨ls0, hls0⟩ := List.exists_mem_of_ne_nil S hS
 refine wq_any hm ?_
 have := any_of_k (P := P) (Q := Q) (C := C) (fun j h => detB_ok h) hA (Region.noSelect_spec hsel) (ok ls0 hls0).2 (fun i => !gs.contains i) l.length gs.length S (Array.replicate l.toArray.size false) a w.drew hS hcov
  (fun ls hls => Nat.le_of_eq (ok ls hls).1.2.2.2.2) hC (fun ls hls => (ok ls hls).1.2.2.2.1) (fun ls hls => ⟨(ok ls hls).1.2.2.1, (ok ls hls).1.1, (ok ls hls).1.2.1, h ls hls⟩)
 simpa using this
end
section
variable {P : Program} {N : Frm} {w0 : World} {Wr : List Nat} {fr : Fr} {H H0 : Heap} {Q : Exit → Act → World → Prop}
theorem awk_region {id : Nat} {l : List Oper} {ι : Type} (F : ι → Fr) (HH : ι → Heap) (I : ι → Prop) (H0 : Heap) (gs : List Nat) (o1 o2 : List (Nat × Bool)) (hm : P.follows .mixedOrders = true) (hB : manyB l gs [o1, o2] = true) (hk : HLe H0 H)
  (h1 : tw P N w0 Wr l.toArray H0 o1 fr H fun fr' H' => ∃ j, I j ∧ Kn (F j) fr' ∧ HLe (HH j) H')
  (h2 : tw P N w0 Wr l.toArray H0 o2 fr H fun fr' H' => ∃ j, I j ∧ Kn (F j) fr' ∧ HLe (HH j) H')
  (hy : ∀ j, I j → nx N w0 Wr (F j) (HH j) Q .normal) : awp P N w0 Wr (.region id l.toArray true) fr H Q :=
 fun a w ha hw => wp_region_many (C := Sat w0 Wr H0) gs [o1, o2] (by simp) hm hB (hk _ _ _ hw.drew) fun ls hls => by
  have key : tw P N w0 Wr l.toArray H0 ls fr H fun fr' H' => ∃ j, I j ∧ Kn (F j) fr' ∧ HLe (HH j) H' := by
   rcases List.mem_cons.1 hls with rfl | hls
   ·exact h1
   ·rw [List.mem_singleton.1 hls]; exact h2
  exact key Q (fun fr' H' a w ⟨j, hj, hf, hh⟩ ha hs => hy j hj a w (ha.kn hf) (hh _ _ _ hs)) a w.drew ha hw.drew
theorem awk_seq_region {id : Nat} {l : List Oper} {y : Code} {ι : Type} (F : ι → Fr) (HH : ι → Heap) (I : ι → Prop) (H0 : Heap) (gs : List Nat) (o1 o2 : List (Nat × Bool)) (hm : P.follows .mixedOrders = true) (hB : manyB l gs [o1, o2] = true) (hk : HLe H0 H)
  (h1 : tw P N w0 Wr l.toArray H0 o1 fr H fun fr' H' => ∃ j, I j ∧ Kn (F j) fr' ∧ HLe (HH j) H')
  (h2 : tw P N w0 Wr l.toArray H0 o2 fr H fun fr' H' => ∃ j, I j ∧ Kn (F j) fr' ∧ HLe (HH j) H')
  (hy : ∀ j, I j → awp P N w0 Wr y (F j) (HH j) Q) : awp P N w0 Wr (.seq (.region id l.toArray true) y) fr H Q :=
 aS (awk_region F HH I H0 gs o1 o2 hm hB hk h1 h2 fun j hj => hy j hj)
end
theorem Sat.callA {w0 w w' : World} {Wr : List Nat} {Hc K U H' : Heap} (h : Sat w0 Wr (Hc ++ K) w) (hroU : Ro U) (h' : Sat w (wrs (Hc ++ U)) H' w') : Sat w0 Wr (H'.filter Ent.wr ++ K) w' := by
 rw [hroU.wrs] at h'
 have hs := List.pairwise_append.1 h.sep
 have hin : ∀ i ∈ wrs Hc, i ∈ Wr ∨ w0.heap.size ≤ i := fun i hi => by
  obtain ⟨e, he, hw, rfl⟩ := mem_wrs.1 hi
  exact (h.ents e (List.mem_append_left _ he)).2 hw
 have hout : ∀ x ∈ K, x.g ∉ wrs Hc := fun x hx hm => by
  obtain ⟨e, he, hw, hg⟩ := mem_wrs.1 hm
  exact hs.2.2 e he x hx (by simp [hw]) hg
 refine ⟨h.only.trans h'.only hin, fun e he => ?_, List.pairwise_append.2 ⟨h'.sep.sublist List.filter_sublist, hs.2.1, fun a ha b hb _ hg => ?_⟩⟩
 ·rcases List.mem_append.1 he with he | he
  ·have hm := h'.ents e (List.mem_filter.1 he).1
   refine ⟨hm.1, fun hw => ?_⟩
   rcases hm.2 hw with h1 | h1
   ·exact hin _ h1
   ·exact .inr (Nat.le_trans h.only.size h1)
  ·have hm := h.ents e (List.mem_append_right _ he)
   exact ⟨Ent.keep hm.1 h'.only.size (h'.only.block _ (Ent.lt hm.1) (hout e he)), hm.2⟩
 ·obtain ⟨ha1, ha2⟩ := List.mem_filter.1 ha
  rcases (h'.ents a ha1).2 ha2 with h1 | h1
  ·exact hout b hb (hg ▸ h1)
  ·have := Ent.lt (h.ents b (List.mem_append_right _ hb)).1
   omega
theorem sx_callA {P : Program} {N : Frm} {w0 : World} {Wr : List Nat} {ops : Array Oper} {rest : List Oper} {fr : Fr} {H : Heap} {Z : Fr → Heap → Prop} {ty : Nat} {pos : String} {after : Array Edge}
  {f : FuncId} {xs : List Operand} {vs : List Value} {ts : Array TypeId} {dst : Option Nat} {R : Value → Heap → Prop} (Hc U K : Heap) (hc : Fn P f vs (Hc ++ U) R) (hx : evs fr xs = some vs) (hH : HLe (Hc ++ K) H) (hU : U.Sublist K) (hroU : Ro U) (hN : dstB N dst = true)
  (h : ∀ v H', R v H' → sx P N w0 Wr ops rest (match dst with | some d => (d, v) :: fr | none => fr) (H'.filter Ent.wr ++ K) Z) :
  sx P N w0 Wr ops (⟨dst, .call { callee := .value (.func f), args := xs.toArray, argTypes := ts }, ty, pos, after, none⟩ :: rest) fr H Z :=
 sx_callW (R := fun v H2 => ∃ H', R v H' ∧ H2 = H'.filter Ent.wr ++ K) hc.1 hx hN (fun w hw => by
  have hw' := hH _ _ _ hw
  have hpre : Sat w (wrs (Hc ++ U)) (Hc ++ U) w := by
   have hsub := hw'.sub (List.Sublist.append_left hU Hc)
   exact ⟨Only.refl _ _, fun e he => ⟨(hsub.ents e he).1, fun h => .inl (mem_wrs.2 ⟨e, he, h, rfl⟩)⟩, hsub.sep⟩
  exact (hc.2 w hpre).mono fun e w' he => by
   obtain ⟨v, H', h1, h2, h3⟩ := he
   exact ⟨v, _, h1, ⟨H', h2, rfl⟩, hw'.callA hroU h3⟩) (fun v H2 hR => by obtain ⟨H', hR, rfl⟩ := hR; exact h v H' hR)
end Go.Proofs.YtkojkeabelckjaaGreatDoor
namespace Go.Proofs.YtkojkeabelckjaaGreatDoor
open Go.RowKit
section
variable {P : Program} {N : Frm} {w0 : World} {Wr : List Nat} {ops : Array Oper} {rest : List Oper} {fr : Fr} {H : Heap} {Z : Fr → Heap → Prop}
variable {d ty : Nat} {pos : String} {after : Array Edge}
theorem sx_ptrNil {t t' e : TypeId} {x : Operand} {g o : Nat} (ht : P.underlying t = some (.pointer e)) (hx : ev fr x = some (ptr g o)) (hN : Nat.ble (d + 1) N.n = true)
  (h : sx P N w0 Wr ops rest ((d, .bool false) :: fr) H Z) : sx P N w0 Wr ops (⟨some d, .binOp .eql t x (.const (.pointer none)) t', ty, pos, after, none⟩ :: rest) fr H Z :=
 jE3 _ hN (fun a w ha _ => by
  have e' : a.eval (.const (.pointer none)) = .pointer none := rfl
  have hq : (Op.equal t (ptr g o) (.pointer none)).run P w = .ok false w := by
   unfold Op.equal Op.maxDepth Op.equalIn
   simp [Sem.run_bind, run_underlying ht, ptr]
  have hg : (eqGuard .eql t x (.const (.pointer none)) (ptr g o) (.pointer none)).run P w = .ok () w := by
   unfold eqGuard
   split <;> rfl
  simp only [execOp, ha.eval hx, e', Sem.run_bind, binOp, ptr]
  simp only [ptr] at hq hg
  simp [hq, hg]) h
theorem sx_mapNil {t t' k e : TypeId} {x : Operand} {m : Option Nat} (ht : P.underlying t = some (.map k e)) (hx : ev fr x = some (.map m)) (hN : Nat.ble (d + 1) N.n = true)
  (h : sx P N w0 Wr ops rest ((d, .bool m.isNone) :: fr) H Z) : sx P N w0 Wr ops (⟨some d, .binOp .eql t x (.const (.map none)) t', ty, pos, after, none⟩ :: rest) fr H Z :=
 jE3 _ hN (fun a w ha _ => by
  have e' : a.eval (.const (.map none)) = .map none := rfl
  have hq : (Op.equal t (.map m) (.map none)).run P w = .ok m.isNone w := by
   unfold Op.equal Op.maxDepth Op.equalIn
   cases m <;> simp [Sem.run_bind, run_underlying ht]
  have hg : (eqGuard .eql t x (.const (.map none)) (.map m) (.map none)).run P w = .ok () w := by
   unfold eqGuard
   split <;> rfl
  simp only [execOp, ha.eval hx, e', Sem.run_bind, hg, Result.andThen_ok, binOp]
  simp [hq]) h
theorem sx_mkIface {t : TypeId} {x : Operand} {v : Value} {ds : TypeDesc} (ht : P.underlying t = some ds) (hd : (match ds with | .interface _ => false | _ => true) = true) (hx : ev fr x = some v) (hN : Nat.ble (d + 1) N.n = true)
  (h : sx P N w0 Wr ops rest ((d, .iface t v) :: fr) H Z) : sx P N w0 Wr ops (⟨some d, .makeInterface t x, ty, pos, after, none⟩ :: rest) fr H Z :=
 jE3 _ hN (fun a w ha _ => by
  simp only [execOp, Instr.makeInterface, ha.eval hx, Sem.run_bind, run_underlying ht, Result.andThen_ok]
  cases ds <;> first | rfl | simp at hd) h
theorem run_look_nil {κ : Type} [DecidableEq κ] {encK : κ → Value} {K T E : TypeId} (hK : KeyOk P K encK) (hT : P.underlying T = some (.map K E)) {z : Value} {w : World} (hz : (zeroValue E).run P w = .ok z w) (k : κ) (ok : Bool) :
  (Instr.lookup T (.map none) (encK k) ok).run P w = .ok (if ok then .tuple #[z, .bool false] else z) w := by
 have hc := hK.chk true k w
 obtain ⟨f1, _⟩ := run_findKey (ν := Unit) (encV := fun _ => undef) hK w k [] [] rfl
 cases ok <;> simp [Instr.lookup, run_underlying hT, hc, f1 (by simp [jE1]), hz, Result.andThen]
theorem sv_lookupNil {κ : Type} [DecidableEq κ] {encK : κ → Value} {K T E : TypeId} (hK : KeyOk P K encK) (hT : P.underlying T = some (.map K E)) {z : Value} (hz : ∀ w, (zeroValue E).run P w = .ok z w) {x y : Operand} (k : κ) {ok : Bool} (v : Value)
  (hx : ev fr x = some (.map none)) (hy : ev fr y = some (encK k)) (hv : (if ok = true then Value.tuple #[z, .bool false] else z) = v) (hN : Nat.ble (d + 1) N.n = true)
  (h : sv P N w0 Wr ops rest ((d, v) :: fr) H Z) : sv P N w0 Wr ops (⟨some d, .lookup T x y ok, ty, pos, after, none⟩ :: rest) fr H Z :=
 sv_val v hN (fun a w ha hw => by
  subst hv
  have := run_look_nil hK hT (hz w) k ok
  simp only [execOp, ha.eval hx, ha.eval hy, Sem.run_bind, this, Result.andThen_ok]
  rfl) h
end
theorem HLe.dup {H T : Heap} (hT : T.Sublist H) (hro : Ro T) : HLe (H ++ T) H := fun _ _ _ h =>
 ⟨h.only, fun e he => (List.mem_append.1 he).elim (h.ents e) (fun he => h.ents e (hT.subset he)), List.pairwise_append.2 ⟨h.sep, h.sep.sublist hT, fun a ha b hb => apart_any h ha (hT.subset hb) (hro b hb)⟩⟩
theorem tail_bel {P : Program} {f : FuncId} {vs : List Value} {v : Value} {T : Heap} {w : World} (hro : Ro T) (hS : Sat w [] T w) (h : Fn P f vs T fun u _ => u = v) : Calls P f vs.toArray w fun e w' => e = .returned v ∧ Bel w w' := by
 have h0 : wrs T = [] := by have := hro.wrs []; simpa [wrs] using this
 have := h.2 w (by rw [h0]; exact hS)
 rw [h0] at this
 exact this.mono fun e w' he => by
  obtain ⟨u, H', rfl, rfl, h3⟩ := he
  exact ⟨rfl, h3.only.bel⟩
theorem HLe.comm3 (A B C : Heap) : HLe (B ++ (A ++ C)) (A ++ (B ++ C)) := fun _ _ _ hw => hw.perm (List.perm_append_comm_assoc A B C)
end Go.Proofs.YtkojkeabelckjaaGreatDoor
namespace Go.Proofs.YtkojkeabelckjaaGreatDoor
open Go.RowKit
inductive EqA (P : Program) (d : Nat) (e : TypeId) (ag : Bool) (n : Nat) (xs ys : List Value) : List Nat → Bool → Prop
 | nil : EqA P d e ag n xs ys [] true
 | cons {i : Nat} {r : List Nat} {x y : Value} {b c : Bool} (hx : rdV ag n xs (i * n) = some x) (hy : rdV ag n ys (i * n) = some y) (h : EqV P d e x y b) (k : EqA P d e ag n xs ys r c) : EqA P d e ag n xs ys (i :: r) (b && c)
theorem EqV.string {P : Program} {d : Nat} {t : TypeId} {l m : List UInt8} (ht : P.underlying t = some .string) : EqV P (d + 1) t (.string (str l)) (.string (str m)) (l == m) := fun w => by
 have e : (str l == str m) = (l == m) := by
  show ((str l).data == (str m).data) = _
  rw [Bool.eq_iff_iff]
  simp [str]
 unfold Op.equalIn
 simp [Sem.run_bind, run_underlying ht, e]
end Go.Proofs.YtkojkeabelckjaaGreatDoor
