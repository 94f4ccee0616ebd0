/- Walks and plain laws for this claim (texts Gsx4, SxO, Gsx5, SxZ, SxX, SxS, SxP, joined). Each theorem states its own conditions. -/
import Derived.Test.YteofkgedfjffcaaGreatDoorJ02
import Derived.Laws.Externs
import Derived.MapKept
import Derived.Scope
import Derived.Lib.AppendStr
set_option linter.all false
namespace Go.Proofs.YteofkgedfjffcaaGreatDoor
section
open Go.RowKit
section
variable {κ ν : Type} [DecidableEq κ] (encK : κ → Value) (encV : ν → Value)
def MapP (M : List (κ × ν)) (o : Obj) : Prop :=
 ∃ es clock, o = .map es clock ∧ es.toList.map (fun e : MapEntry => (e.key, e.val)) = M.map (fun x => (encK x.1, encV x.2)) ∧ (jF2 M).Nodup
abbrev mapE (b : Nat) (M : List (κ × ν)) : Ent := .ob b (MapP encK encV M)
variable {encK encV} {b : Nat} {M : List (κ × ν)} {w w' : World}
theorem mapE_is : (mapE encK encV b M).holds w ↔ MapIs encK encV w b M := by
 constructor
 ·rintro ⟨o, h1, es, clock, rfl, h2, h3⟩
  exact ⟨es, clock, h1, h2, h3⟩
 ·rintro ⟨es, clock, h1, h2, h3⟩
  exact ⟨_, h1, es, clock, rfl, h2, h3⟩
theorem OnlyMap.only (h : OnlyMap w w' b) : Only [b] w w' := by
 obtain ⟨x, rfl⟩ := h
 refine ⟨rfl, rfl, rfl, by simp, fun i _ hn => ?_⟩
 have : b ≠ i := fun e => hn (by simp [e])
 simp [Array.getElem?_setIfInBounds_ne this]
end
section
variable {P : Program} {N : Frm} {w0 : World} {Wr : List Nat} {ops : Array Oper} {rest : List Oper} {fr : Fr} {H : Heap} {Z : Fr → Heap → Prop}
variable {d ty : Nat} {pos : String} {after : Array Edge}
variable {κ ν : Type} [DecidableEq κ] {encK : κ → Value} {encV : ν → Value} {K T E : TypeId}
theorem zF0 {op : Op} {ty : Nat} {pos : String} {after : Array Edge} {H' : Heap} {v : Value}
  (hrun : ∀ (a : Act) (w : World), FrOk N fr a → Sat w0 Wr H w → ∃ w', (execOp a.eval ⟨none, op, ty, pos, after, none⟩).run P w = .ok (.value v) w' ∧ Sat w0 Wr H' w')
  (h : sx P N w0 Wr ops rest fr H' Z) : sx P N w0 Wr ops (⟨none, op, ty, pos, after, none⟩ :: rest) fr H Z :=
 vB3 rfl fun a w K Q ha hw hK => by
  obtain ⟨w', h1, h2⟩ := hrun a w ha hw
  unfold Oper.wp
  rw [h1]
  exact hK v w' fr H' h (ha.skip _) h2
theorem vB7 {κ ν : Type} [DecidableEq κ] {encK : κ → Value} {encV : ν → Value} {K T E : TypeId} (i : Nat) (hK : KeyOk P K encK) (hT : P.underlying T = some (.map K E)) {z : Value} (hz : ∀ w, (zeroValue E).run P w = .ok z w) {x y : Operand} {b : Nat} {M : List (κ × ν)} (k : κ) {ok : Bool} (v : Value)
  (hx : ev fr x = some (.map (some b))) (hy : ev fr y = some (encK k)) (hH : H[i]? = some (mapE encK encV b M)) (hv : (if ok = true then Value.tuple #[((aget M k).map encV).getD z, .bool (aget M k).isSome] else ((aget M k).map encV).getD z) = v) (hN : bN d N)
  (h : sx P N w0 Wr ops rest ((d, v) :: fr) H Z) : sx P N w0 Wr ops (⟨some d, .lookup T x y ok, ty, pos, after, none⟩ :: rest) fr H Z :=
 jE4 v hN (fun a w ha hw => by
  subst hv
  have := kI1 hK hT (mapE_is.1 (hw.mem hH)) (hz w) k ok
  simp only [execOp, ha.eval hx, ha.eval hy, lJ, this, lR]
  rfl) h
theorem kF0 (i : Nat) (hK : KeyOk P K encK) (hT : P.underlying T = some (.map K E)) {x y u : Operand} {b : Nat} {M : List (κ × ν)} (k : κ) (v : ν)
  (hx : ev fr x = some (.map (some b))) (hy : ev fr y = some (encK k)) (hu : ev fr u = some (encV v)) (hH : H[i]? = some (mapE encK encV b M)) {H2 : Heap} (hs : H.set i (mapE encK encV b (aput M k v)) = H2)
  (h : sx P N w0 Wr ops rest fr H2 Z) : sx P N w0 Wr ops (⟨none, .mapUpdate T x y u, ty, pos, after, none⟩ :: rest) fr H Z :=
 wD7 (fun a w ha hw => by
  subst hs
  obtain ⟨w', h1, h2, h3⟩ := kW1 hK hT (mapE_is.1 (hw.mem hH)) k v
  refine ⟨w', ?_, hw.turn hH rfl rfl h3.only (mapE_is.2 h2)⟩
  simp only [execOp, ha.eval hx, ha.eval hy, ha.eval hu, lJ, h1, lR]
  rfl) h
theorem kP2 {t : TypeId} (hN : bN d N) (encK : κ → Value) (encV : ν → Value)
  (h : ∀ b, sx P N w0 Wr ops rest ((d, .map (some b)) :: fr) (mapE encK encV b [] :: H) Z) : sx P N w0 Wr ops (⟨some d, .makeMap t none, ty, pos, after, none⟩ :: rest) fr H Z := by
 refine jI7 (R := fun v H' => ∃ b, v = .map (some b) ∧ H' = mapE encK encV b [] :: H) hN (fun a w ha hw => ?_) (fun v H' hR => by obtain ⟨b, rfl, rfl⟩ := hR; exact h b)
 refine ⟨.map (some w.heap.size), w.alloc (.map #[] 0), _, ?_, ⟨w.heap.size, rfl, rfl⟩, hw.fresh (mapE_is.2 (MapIs.made encK encV w)) ((Bel.refl w).alloc _) (xP _)⟩
 simp [execOp, Instr.makeMap]
end
end
section
open Go.RowKit
def Wpv (P : Program) (ops : Array Oper) (C : World → Prop) (K : Act → Prop) : List Oper → Act → Prop
 | [], a => K a
 | o :: r, a => ∃ v, YC P ops C o v a ∧ Wpv P ops C K r (a.put o.dst v)
def sv (P : Program) (N : Frm) (w0 : World) (Wr : List Nat) (ops : Array Oper) (l : List Oper) (fr : Fr) (H : Heap) (Z : Fr → Heap → Prop) : Prop :=
 ∀ (K : Act → Prop), (∀ fr' a, Z fr' H → FrOk N fr' a → K a) → ∀ a, FrOk N fr a → Wpv P ops (Sat w0 Wr H) K l a
def tw (P : Program) (N : Frm) (w0 : World) (Wr : List Nat) (ops : Array Oper) (H0 : Heap) (xs : List (Nat × Bool)) (fr : Fr) (H : Heap) (Z : Fr → Heap → Prop) : Prop :=
 ∀ (Q : Exit → Act → World → Prop), (∀ fr' H' a w, Z fr' H' → FrOk N fr' a → Sat w0 Wr H' w → Q .normal a w) → ∀ a w, FrOk N fr a → Sat w0 Wr H w → Wv P ops (Sat w0 Wr H0) Q xs a w
section
variable {P : Program} {N : Frm} {w0 : World} {Wr : List Nat} {ops : Array Oper} {rest : List Oper} {fr : Fr} {H H0 : Heap} {Z : Fr → Heap → Prop}
variable {d ty : Nat} {pos : String} {after : Array Edge}
theorem vN (h : Z fr H) : sv P N w0 Wr ops [] fr H Z := fun _ hK a ha => hK _ a h ha
theorem jK5 {op : Op} {d ty : Nat} {pos : String} {after : Array Edge} (v : Value) (hN : bN d N)
  (hrun : ∀ (a : Act) (w : World), FrOk N fr a → Sat w0 Wr H w → (execOp a.eval ⟨some d, op, ty, pos, after, none⟩).run P w = .ok (.value v) w)
  (h : sv P N w0 Wr ops rest ((d, v) :: fr) H Z) : sv P N w0 Wr ops (⟨some d, op, ty, pos, after, none⟩ :: rest) fr H Z :=
 fun K hK a ha => ⟨v, fun w hw => .inl ⟨rfl, hrun a w ha hw⟩, h K hK _ (ha.put hN v)⟩
theorem yQ8 {x : Operand} {v : Value} (hx : ev fr x = some v) (hN : bN d N) (h : sv P N w0 Wr ops rest ((d, v) :: fr) H Z) : sv P N w0 Wr ops (⟨some d, .move x, ty, pos, after, none⟩ :: rest) fr H Z :=
 jK5 v hN (fun a w ha _ => by rw [← ha.eval hx]; rfl) h
theorem jA5 {x : Operand} {v : Value} (h : sv P N w0 Wr ops rest ((d, v) :: fr) H Z) (hx : ev fr x = some v := by exact rfl) (hN : Nat.ble (d + 1) N.n = true := by exact rfl) : sv P N w0 Wr ops (⟨some d, .move x, ty, pos, after, none⟩ :: rest) fr H Z := yQ8 hx hN h
theorem jE3 {x : Operand} {v : Value} (hx : ev fr x = some v) (hN : bN d N) (h : sv P N w0 Wr ops rest ((d, v) :: fr) H Z) : sv P N w0 Wr ops (⟨some d, .assign x, ty, pos, after, none⟩ :: rest) fr H Z :=
 jK5 v hN (fun a w ha _ => by rw [← ha.eval hx]; rfl) h
theorem jC0 {x : Operand} {g o : Nat} (hx : ev fr x = some (ptr g o)) (hN : bN d N) (h : sv P N w0 Wr ops rest ((d, ptr g o) :: fr) H Z) : sv P N w0 Wr ops (⟨some d, .nilCheck x, ty, pos, after, none⟩ :: rest) fr H Z :=
 jK5 _ hN (fun a w ha _ => by simp only [execOp, ha.eval hx, ptr]; rfl) h
theorem jD6 (i : Nat) {t : TypeId} {x : Operand} {g o : Nat} {e : TypeId} {cs : List Value} {agg : Bool} {n : Nat} {v : Value} (hx : ev fr x = some (ptr g o)) (hH : H[i]? = some (.own g e cs)) (ht : tyAgg P t = some agg) (hn : tySize P t = some n) (hv : rdV agg n cs o = some v) (hN : bN d N)
  (h : sv P N w0 Wr ops rest ((d, v) :: fr) H Z) : sv P N w0 Wr ops (⟨some d, .load t x, ty, pos, after, none⟩ :: rest) fr H Z :=
 jK5 v hN (fun a w ha hw => by
  have hc := Ent.cell (hw.mem hH)
  simp only [execOp, Instr.loadAt, ha.eval hx, ptr, Instr.sureAddr, lJ, l7, lR]
  rw [jP2 ht hn hv (fun j u hu => (hc j).trans hu)]
  rfl) h
theorem jL1 (i : Nat) {t : TypeId} {x : Operand} {g o : Nat} {e : TypeId} {cs cs' : List Value} {n : Nat} (hx : ev fr x = some (ptr g o)) (hH : H[i]? = some (.own g e cs)) (ht : tyAgg P t = some true) (hn : tySize P t = some n) (hle : Nat.ble (o + n) cs.length = true) (hv : (cs.drop o).take n = cs') (hN : bN d N)
  (h : sv P N w0 Wr ops rest ((d, .agg cs'.toArray) :: fr) H Z) : sv P N w0 Wr ops (⟨some d, .load t x, ty, pos, after, none⟩ :: rest) fr H Z :=
 jD6 i hx hH ht hn (by subst hv; simp [rdV, hle]) hN h
theorem jU3 (i : Nat) {t : TypeId} {x : Operand} {g o o' : Nat} {cs : List Value} {agg : Bool} {n : Nat} {v : Value} (hx : ev fr x = some (ptr g o)) (hH : H[i]? = some (.ro g o' cs)) (k : Nat) (ho : o = o' + k) (ht : tyAgg P t = some agg) (hn : tySize P t = some n) (hv : rdV agg n cs k = some v) (hN : bN d N)
  (h : sv P N w0 Wr ops rest ((d, v) :: fr) H Z) : sv P N w0 Wr ops (⟨some d, .load t x, ty, pos, after, none⟩ :: rest) fr H Z := jK5 v hN (kD4 i hx hH k ho ht hn hv) h
theorem vC2 {s i : Nat} {x : Operand} {g o off n o' : Nat} {b : Bool} (hx : ev fr x = some (ptr g o)) (hf : tyF P s i = some (off, n, b)) (ho : o + off = o') (hN : bN d N)
  (h : sv P N w0 Wr ops rest ((d, ptr g o') :: fr) H Z) : sv P N w0 Wr ops (⟨some d, .fieldAddr s x i, ty, pos, after, none⟩ :: rest) fr H Z := jK5 _ hN (fun a w q _ => sFAc hx hf ho a w q) h
theorem jA3 {s i : Nat} {x : Operand} {g o off n o' : Nat} {b : Bool} (hf : tyF P s i = some (off, n, b)) (h : sv P N w0 Wr ops rest ((d, ptr g o') :: fr) H Z) (hx : ev fr x = some (ptr g o) := by exact rfl) (ho : o + off = o' := by first | (simp only [qS]; first | done | rfl) | rfl) (hN : Nat.ble (d + 1) N.n = true := by exact rfl) : sv P N w0 Wr ops (⟨some d, .fieldAddr s x i, ty, pos, after, none⟩ :: rest) fr H Z := vC2 hx hf ho hN h
theorem vI9 {op : BinOp} {t t' : TypeId} {x y : Operand} {k : IntKind} {m n : Int} (v : Value) (hx : ev fr x = some (.int k m)) (hy : ev fr y = some (.int k n)) (hv : ∀ w, (binOp op t (.int k m) (.int k n)).run P w = .ok v w) (hN : bN d N)
  (h : sv P N w0 Wr ops rest ((d, v) :: fr) H Z) : sv P N w0 Wr ops (⟨some d, .binOp op t x y t', ty, pos, after, none⟩ :: rest) fr H Z :=
 jK5 v hN (fun a w ha _ => by
  have hg : (eqGuard op t x y (.int k m) (.int k n)).run P w = .ok () w := by
   unfold eqGuard
   split <;> rfl
  simp only [execOp, ha.eval hx, ha.eval hy, lJ, hg, lR, hv w]
  rfl) h
theorem vP6 {t t' : TypeId} {x y : Operand} {k : IntKind} {m n : Int} (hx : ev fr x = some (.int k m)) (hy : ev fr y = some (.int k n)) (r : Int) (hr : k.wrap (m + n) = r) (hN : bN d N)
  (h : sv P N w0 Wr ops rest ((d, .int k r) :: fr) H Z) : sv P N w0 Wr ops (⟨some d, .binOp .add t x y t', ty, pos, after, none⟩ :: rest) fr H Z :=
 vI9 _ hx hy (fun w => by subst hr; simp [binOp, Op.intArith]) hN h
theorem yI9 {t t' : TypeId} {x y : Operand} {k : IntKind} {m n : Int} (hx : ev fr x = some (.int k m)) (hy : ev fr y = some (.int k n)) (r : Int) (hr : k.wrap (m - n) = r) (hN : bN d N)
  (h : sv P N w0 Wr ops rest ((d, .int k r) :: fr) H Z) : sv P N w0 Wr ops (⟨some d, .binOp .sub t x y t', ty, pos, after, none⟩ :: rest) fr H Z :=
 vI9 _ hx hy (fun w => by subst hr; simp [binOp, Op.intArith]) hN h
theorem zF2 {t t' : TypeId} {x y : Operand} {k : IntKind} {m n : Int} (hx : ev fr x = some (.int k m)) (hy : ev fr y = some (.int k n)) (r : Int) (hr : k.wrap (m * n) = r) (hN : bN d N)
  (h : sv P N w0 Wr ops rest ((d, .int k r) :: fr) H Z) : sv P N w0 Wr ops (⟨some d, .binOp .mul t x y t', ty, pos, after, none⟩ :: rest) fr H Z :=
 vI9 _ hx hy (fun w => by subst hr; simp [binOp, Op.intArith]) hN h
theorem jE7 {x : Operand} {i : Nat} {vs : List Value} {v : Value} (hx : ev fr x = some (.tuple vs.toArray)) (hv : vs[i]? = some v) (hN : bN d N)
  (h : sv P N w0 Wr ops rest ((d, v) :: fr) H Z) : sv P N w0 Wr ops (⟨some d, .extract x i, ty, pos, after, none⟩ :: rest) fr H Z :=
 jK5 v hN (fun a w ha _ => by
  have : vs.toArray[i]? = some v := by simpa using hv
  simp only [execOp, ha.eval hx, Instr.extract, this]; rfl) h
theorem jZ6 {x : Operand} {t e : TypeId} {A : Option Addr} {n c : Nat} (ht : P.underlying t = some (.slice e)) (hx : ev fr x = some (.slice A n c)) (hN : bN d N)
  (h : sv P N w0 Wr ops rest ((d, .int .i64 n) :: fr) H Z) : sv P N w0 Wr ops (⟨some d, .call { callee := .builtin .len, args := #[x], argTypes := #[t] }, ty, pos, after, none⟩ :: rest) fr H Z :=
 jK5 _ hN (fun a w ha _ => by
  have := ha.eval hx
  simp [execOp, resolve, invoke, builtin, this, lJ, Builtin.len_, run_underlying ht, goInt]) h
theorem yQ9 {x : Operand} {t : TypeId} {l : List UInt8} (ht : P.underlying t = some .string) (hx : ev fr x = some (.string (str l))) (hN : bN d N)
  (h : sv P N w0 Wr ops rest ((d, .int .i64 (l.length : Int)) :: fr) H Z) : sv P N w0 Wr ops (⟨some d, .call { callee := .builtin .len, args := #[x], argTypes := #[t] }, ty, pos, after, none⟩ :: rest) fr H Z :=
 jK5 _ hN (fun a w ha _ => by
  have := ha.eval hx
  simp [execOp, resolve, invoke, builtin, this, lJ, Builtin.len_, run_underlying ht, goInt, str_size]) h
theorem kK9 {t : Nat} {x y : Operand} {l : List UInt8} {k : IntKind} {i : Int} {c : UInt8} (ht : P.underlying t = some .string) (hx : ev fr x = some (.string (str l))) (hy : ev fr y = some (.int k i)) (hi : 0 ≤ i) (hv : l[i.toNat]? = some c) (hN : bN d N)
  (h : sv P N w0 Wr ops rest ((d, .int .u8 (c.toNat : Int)) :: fr) H Z) : sv P N w0 Wr ops (⟨some d, .index t x y, ty, pos, after, none⟩ :: rest) fr H Z := jK5 _ hN (kD5 ht hx hy hi hv) h
theorem jH4 {t e n g o len c : Nat} {x y : Operand} {k : IntKind} {i : Int} (o' : Nat) (ht : P.underlying t = some (.slice e)) (hs : tySize P e = some n) (hx : ev fr x = some (.slice (some ⟨g, o, none⟩) len c)) (hy : ev fr y = some (.int k i)) (hi : 0 ≤ i ∧ i < len) (ho : o + i.toNat * n = o') (hN : bN d N)
  (h : sv P N w0 Wr ops rest ((d, ptr g o') :: fr) H Z) : sv P N w0 Wr ops (⟨some d, .indexAddr t x y, ty, pos, after, none⟩ :: rest) fr H Z :=
 jK5 _ hN (fun a w ha _ => by
  subst ho
  simp only [execOp, Instr.indexAt, ha.eval hx, ha.eval hy, asIntOf, lJ, l7, run_underlying ht, lR, if_pos hi, jC5 hs, jG5]
  rfl) h
theorem kV4 {t e n g o len : Nat} {x y : Operand} {k : IntKind} {i : Int} (o' : Nat) (ht : P.underlying t = some (.array len e)) (hs : tySize P e = some n) (hx : ev fr x = some (ptr g o)) (hy : ev fr y = some (.int k i)) (hi : 0 ≤ i ∧ i < len) (ho : o + i.toNat * n = o') (hN : bN d N)
  (h : sv P N w0 Wr ops rest ((d, ptr g o') :: fr) H Z) : sv P N w0 Wr ops (⟨some d, .indexAddr t x y, ty, pos, after, none⟩ :: rest) fr H Z :=
 jK5 _ hN (fun a w ha _ => by
  subst ho
  simp only [execOp, Instr.indexAt, ha.eval hx, ha.eval hy, asIntOf, lJ, l7, run_underlying ht, lR, ptr, Instr.sureAddr, if_pos hi, jC5 hs, jG5]) h
theorem vB9 {t : TypeId} {x : Operand} {lo hi : Option Operand} {l : List UInt8} {i j : Int} (m : List UInt8) (ht : P.underlying t = some .string) (hx : ev fr x = some (.string (str l))) (hl : bnd fr 0 lo = some i) (hh : bnd fr (l.length : Int) hi = some j) (h0 : 0 ≤ i) (h1 : i ≤ j) (h2 : j ≤ l.length) (hm : (l.drop i.toNat).take (j.toNat - i.toNat) = m) (hN : bN d N)
  (h : sv P N w0 Wr ops rest ((d, .string (str m)) :: fr) H Z) : sv P N w0 Wr ops (⟨some d, .slice t x lo hi none, ty, pos, after, none⟩ :: rest) fr H Z := jK5 _ hN (kD3 m ht hx hl hh h0 h1 h2 hm) h
theorem jZ7 {t : TypeId} {parts : List (Nat × Operand)} {pv : List (Nat × Value)} {z cs cs' : List Value} {pl : List (Nat × Nat)} (hz : tyZero P t = some z) (hp : tyPlaces P t = some pl) (hx : jM3 fr parts = some pv) (hf : kE4 (pl[·]?) z (jS8 pv) = some cs) (hn : cs = cs') (hN : bN d N)
  (h : sv P N w0 Wr ops rest ((d, .agg cs'.toArray) :: fr) H Z) : sv P N w0 Wr ops (⟨some d, .build t parts.toArray, ty, pos, after, none⟩ :: rest) fr H Z := jK5 _ hN (kK8 hz hp hx hf hn) h
theorem wE4 {t e len n : TypeId} {parts : List (Nat × Operand)} {pv : List (Nat × Value)} {z cs cs' : List Value} (hz : tyZero P t = some z) (ht : P.underlying t = some (.array len e)) (hs : tySize P e = some n) (hx : jM3 fr parts = some pv) (hf : kE4 (fun i => some (i * n, n)) z (jS8 pv) = some cs) (hn : cs = cs') (hN : bN d N)
  (h : sv P N w0 Wr ops rest ((d, .agg cs'.toArray) :: fr) H Z) : sv P N w0 Wr ops (⟨some d, .build t parts.toArray, ty, pos, after, none⟩ :: rest) fr H Z :=
 jK5 _ hN (fun a w ha _ => by
  subst hn
  obtain ⟨v, h1, h2⟩ := jV9 (w := w) hz
  have hfl : Instr.fill (fun i => some (i * n, n)) v.cells pv = some cs.toArray := kM9 _ pv v.cells cs (by rw [h2]; simpa using hf)
  have hpv := ha.parts hx
  have hpv' : (parts.toArray.map fun (p : Nat × Operand) => (p.1, a.eval p.2)).toList = pv := by simpa using hpv
  simp only [execOp, Instr.build, lJ, h1, lR, run_underlying ht, jC5 hs, hpv', hfl]
  rfl) h
theorem vC1 {κ ν : Type} [DecidableEq κ] {encK : κ → Value} {encV : ν → Value} {K T E : TypeId} (i : Nat) (hK : KeyOk P K encK) (hT : P.underlying T = some (.map K E)) {z : Value} (hz : ∀ w, (zeroValue E).run P w = .ok z w) {x y : Operand} {b : Nat} {M : List (κ × ν)} (k : κ) {ok : Bool} (v : Value)
  (hx : ev fr x = some (.map (some b))) (hy : ev fr y = some (encK k)) (hH : H[i]? = some (mapE encK encV b M)) (hv : (if ok = true then Value.tuple #[((aget M k).map encV).getD z, .bool (aget M k).isSome] else ((aget M k).map encV).getD z) = v) (hN : bN d N)
  (h : sv P N w0 Wr ops rest ((d, v) :: fr) H Z) : sv P N w0 Wr ops (⟨some d, .lookup T x y ok, ty, pos, after, none⟩ :: rest) fr H Z :=
 jK5 v hN (fun a w ha hw => by
  subst hv
  have := kI1 hK hT (mapE_is.1 (hw.mem hH)) (hz w) k ok
  simp only [execOp, ha.eval hx, ha.eval hy, lJ, this, lR]
  rfl) h
theorem jH1 (h : Z fr H) : tw P N w0 Wr ops H0 [] fr H Z := fun _ hQ a w ha hw => ⟨rfl, hQ _ _ a w h ha hw⟩
theorem tw_p {i : Nat} {o : Oper} {xs : List (Nat × Bool)} (ho : ops[i]? = some o) (h : sv P N w0 Wr ops [o] fr H0 fun fr' _ => tw P N w0 Wr ops H0 xs fr' H Z) : tw P N w0 Wr ops H0 ((i, true) :: xs) fr H Z :=
 fun Q hQ a w ha hw => by
  obtain ⟨v, hv, hk⟩ := h (fun a => Wv P ops (Sat w0 Wr H0) Q xs a w) (fun fr' a ht hf => ht Q hQ a w hf hw) a ha
  exact ⟨o, v, ho, hv, hk⟩
theorem tw_g {i : Nat} {o : Oper} {xs : List (Nat × Bool)} (ho : ops[i]? = some o) (h : sx P N w0 Wr ops [o] fr H fun fr' H' => HLe H0 H' ∧ tw P N w0 Wr ops H0 xs fr' H' Z) : tw P N w0 Wr ops H0 ((i, false) :: xs) fr H Z :=
 fun Q hQ a w ha hw => by
  have h1 := h (QN fun _ a w => Sat w0 Wr H0 w ∧ Wv P ops (Sat w0 Wr H0) Q xs a w) (fun fr' H' a w ht hf hS => ⟨rfl, ht.1 _ _ _ hS, ht.2 Q hQ a w hf hS⟩) a w ha hw
  show wpOp P ops (QN Q) i (fun a w' => Sat w0 Wr H0 w' ∧ Wv P ops (Sat w0 Wr H0) Q xs a w') a w
  refine kG7 (Q := fun _ a w => Sat w0 Wr H0 w ∧ Wv P ops (Sat w0 Wr H0) Q xs a w) ho ?_
  unfold wpOp
  simp only [ho]
  unfold wpList at h1
  split
  ·rename_i hw'
   rw [if_pos hw'] at h1
   exact h1.imp (Oper.wp_mono fun a w hh => hh.2) id
  ·rename_i hw'
   rw [if_neg hw'] at h1
   exact h1.2
theorem kE6 {Q : Exit → Act → World → Prop} {id : Nat} {l : List Oper} (H0 : Heap) (ls : List (Nat × Bool)) (hm : P.follows .mixedOrders = true) (hB : vG1 l ls = true) (hk : HLe H0 H)
  (h : ∀ Z : Fr → Heap → Prop, (∀ fr H, nx N w0 Wr fr H Q .normal → Z fr H) → tw P N w0 Wr l.toArray H0 ls fr H Z) : awp P N w0 Wr (.region id l.toArray true) fr H Q :=
 fun a w ha hw => jW8 (C := Sat w0 Wr H0) ls hm hB (hk _ _ _ hw.drew)
  (h (fun fr H => nx N w0 Wr fr H Q .normal) (fun _ _ h => h) Q (fun fr' H' a w hz hf hs => hz a w hf hs) a w.drew ha hw.drew)
theorem jD5 {Q : Exit → Act → World → Prop} {id : Nat} {l : List Oper} {y : Code} (H0 : Heap) (ls : List (Nat × Bool)) (hm : P.follows .mixedOrders = true) (hB : vG1 l ls = true) (hk : HLe H0 H)
  (h : ∀ Z : Fr → Heap → Prop, (∀ fr H, awp P N w0 Wr y fr H Q → Z fr H) → tw P N w0 Wr l.toArray H0 ls fr H Z) : awp P N w0 Wr (.seq (.region id l.toArray true) y) fr H Q :=
 aS (kE6 H0 ls hm hB hk fun Z hZ => h Z fun fr H hy => hZ fr H hy)
end
end
section
open Go.RowKit
def Ro (T : Heap) : Prop := ∀ e ∈ T, e.wr = false
theorem Ro.nil : Ro [] := fun _ h => by cases h
theorem Ro.roE (A : Option Addr) (xs : List Value) : Ro (roE A xs) := fun e he => by
  unfold Go.Proofs.YteofkgedfjffcaaGreatDoor.roE at he
  split at he
  · rw [List.mem_singleton.1 he]; rfl
  · cases he
abbrev kG := @Ro.roE
theorem Ro.append {T U : Heap} (h : Ro T) (k : Ro U) : Ro (T ++ U) := fun e he => (List.mem_append.1 he).elim (h e) (k e)
theorem Ro.filter {T : Heap} (h : Ro T) : T.filter Ent.wr = [] := List.filter_eq_nil_iff.2 fun e he => by simp [h e he]
theorem Ro.wrs {T : Heap} (h : Ro T) (A : Heap) : wrs (A ++ T) = wrs A := by simp [Go.Proofs.YteofkgedfjffcaaGreatDoor.wrs, qJ, h.filter]
section
variable {w0 w w' : World} {Wr : List Nat} {H H' T U : Heap} {idxs ks : List Nat}
theorem wU1 (h : Sat w0 Wr H w) {a b : Ent} (ha : a ∈ H) (hb : b ∈ H) (hr : b.wr = false) : a.apart b := by
 obtain ⟨i, hi⟩ := List.mem_iff_getElem?.1 ha
 obtain ⟨j, hj⟩ := List.mem_iff_getElem?.1 hb
 by_cases hij : i = j
 ·subst hij
  have : a = b := lV (hi.symm.trans hj)
  subst this
  intro hw
  simp [hr] at hw
 ·exact h.sep.at_ hij hi hj
theorem HLe.drop (n : Nat) {a b : Heap} (h : b.drop n = a) : HLe a b := HLe.sub (h ▸ List.drop_sublist n b)
abbrev kC := @HLe.drop
end
section
variable {P : Program} {N : Frm} {w0 : World} {Wr : List Nat} {ops : Array Oper} {rest : List Oper} {fr : Fr} {H H1 T U : Heap} {Z : Fr → Heap → Prop}
variable {d ty : Nat} {pos : String} {after : Array Edge}
theorem jC6 {l : List Oper} (H' : Heap) (hk : HLe H' H) (h : sx P N w0 Wr ops l fr H' Z) : sx P N w0 Wr ops l fr H Z :=
 fun Q hQ a w ha hw => h Q hQ a w ha (hk _ _ _ hw)
theorem jD7 {f : FuncId} {xs : List Operand} {vs : List Value} {ts : Array TypeId} {v : Value} (U : Heap) (hc : Fn P f vs U fun u _ => u = v) (hx : evs fr xs = some vs) (hU : U.Sublist H) (hroU : Ro U) (hN : bN d N)
  (h : sx P N w0 Wr ops rest ((d, v) :: fr) H Z) :
  sx P N w0 Wr ops (⟨some d, .call { callee := .value (.func f), args := xs.toArray, argTypes := ts }, ty, pos, after, none⟩ :: rest) fr H Z :=
 jN9 (R := fun u H' => u = v ∧ H' = H) hc.1 hx hN (fun w hw => by
  have hpre : Sat w (wrs U) U w := ⟨Only.refl _ _, fun e he => ⟨(hw.ents e (hU.subset he)).1, fun h => .inl (mem_wrs.2 ⟨e, he, h, rfl⟩)⟩, hw.sep.sublist hU⟩
  exact (hc.2 w hpre).mono fun e w' he => by
   obtain ⟨u, H', h1, h2, h3⟩ := he
   have h0 : wrs U = [] := by have := hroU.wrs []; simpa [wrs] using this
   rw [h0] at h3
   exact ⟨u, H, h1, ⟨h2, rfl⟩, hw.bel h3.only.bel⟩) (fun u H' hR => by obtain ⟨rfl, rfl⟩ := hR; exact h)
theorem wD9 {f : FuncId} {xs : List Operand} {vs : List Value} {ts : Array TypeId} {e : TypeId} {size n : Nat} {ys : List Value} (U : Heap) (hc : Fn P f vs U fun u H' => RowOk u n ∧ H' = rowE u e size ys) (hx : evs fr xs = some vs) (hU : U.Sublist H) (hroU : Ro U) (hN : bN d N)
  (h : ∀ v, RowOk v n → sx P N w0 Wr ops rest ((d, v) :: fr) (rowE v e size ys ++ H) Z) :
  sx P N w0 Wr ops (⟨some d, .call { callee := .value (.func f), args := xs.toArray, argTypes := ts }, ty, pos, after, none⟩ :: rest) fr H Z :=
 jN9 (R := fun u H' => RowOk u n ∧ H' = rowE u e size ys ++ H) hc.1 hx hN (fun w hw => by
  have hpre : Sat w (wrs U) U w := ⟨Only.refl _ _, fun e he => ⟨(hw.ents e (hU.subset he)).1, fun h => .inl (mem_wrs.2 ⟨e, he, h, rfl⟩)⟩, hw.sep.sublist hU⟩
  exact (hc.2 w hpre).mono fun x w' he => by
   obtain ⟨u, H', h1, ⟨h2, rfl⟩, h3⟩ := he
   have h0 : wrs U = [] := by have := hroU.wrs []; simpa [wrs] using this
   rw [h0] at h3
   have hb := h3.only.bel
   refine ⟨u, _, h1, ⟨h2, rfl⟩, ?_⟩
   rcases h2 with ⟨rfl, rfl⟩ | ⟨g, c, rfl⟩
   ·exact hw.bel hb
   ·have hm := h3.ents (.ob g (RowP e size n c ys)) lP
    refine hw.fresh hm.1 hb ?_
    rcases hm.2 rfl with h4 | h4
    ·cases h4
    ·exact h4) (fun u H' hR => by obtain ⟨h1, rfl⟩ := hR; exact h u h1)
end
/- Rows of elements of so many cells. -/
section
variable {α : Type} {f : α → List Value} {n : Nat}
theorem kM8 (hf : ∀ x, (f x).length = n) : ∀ L : List α, (L.flatMap f).length = L.length * n
 | [] => by simp
 | x :: L => by rw [x5, lN, hf, kM8 hf L, lD, zH, Nat.add_comm]
theorem vL6 (hf : ∀ x, (f x).length = n) : ∀ (L : List α) (i : Nat), (L.flatMap f).drop (i * n) = (L.drop i).flatMap f
 | L, 0 => by simp
 | [], i + 1 => by simp
 | x :: L, i + 1 => by
  rw [x5, lI, ← vL6 hf L i, zH, Nat.add_comm, ← List.drop_drop, ← hf x, uC]
theorem yF1 {L : List α} {i : Nat} {x : α} (h : L[i]? = some x) : L.drop i = x :: L.drop (i + 1) := by
 obtain ⟨h1, h2⟩ := List.getElem?_eq_some_iff.1 h
 rw [zA h1, h2]
theorem yY4 (hf : ∀ x, (f x).length = n) {L : List α} {i : Nat} {x : α} (h : L[i]? = some x) : ((L.flatMap f).drop (i * n)).take n = f x := by
 rw [vL6 hf, yF1 h, x5, ← hf x, uD]
theorem vL5 (hf : ∀ x, (f x).length = n) {L : List α} {i : Nat} {x : α} (h : L[i]? = some x) : rdV true n (L.flatMap f) (i * n) = some (.agg (f x).toArray) := by
 have h1 := (List.getElem?_eq_some_iff.1 h).1
 have h2 : i * n + n ≤ L.length * n := by rw [← zH]; exact z7 _ h1
 have h3 : Nat.ble (i * n + n) (L.flatMap f).length = true := Nat.ble_eq_true_of_le (by rw [kM8 hf]; exact h2)
 unfold rdV
 rw [cond_true, h3, cond_true, yY4 hf h]
theorem kM7 (hf : ∀ x, (f x).length = n) {L : List α} {i j : Nat} {x : α} {v : Value} (h : L[i]? = some x) (hj : (f x)[j]? = some v) : rdV false 1 (L.flatMap f) (i * n + j) = some v := by
 have h1 := (List.getElem?_eq_some_iff.1 hj).1
 unfold rdV
 rw [cond_false, ← zJ, ← List.getElem?_take_of_lt (show j < n by rw [← hf x]; exact h1), yY4 hf h]
 exact hj
theorem vL4 (L : List α) (x : α) : (L ++ [x]).flatMap f = L.flatMap f ++ f x := by simp
theorem yY3 {L : List α} {i : Nat} {x : α} (h : L[i]? = some x) : (L.take (i + 1)).flatMap f = (L.take i).flatMap f ++ f x := by
 obtain ⟨h1, h2⟩ := List.getElem?_eq_some_iff.1 h
 rw [qC h1, vL4, h2]
end
theorem HLe.swap (A T : Heap) : HLe (T ++ A) (A ++ T) := fun _ _ _ hw => hw.perm List.perm_append_comm
abbrev kD := @HLe.swap
section
variable {P : Program} {N : Frm} {w0 : World} {Wr : List Nat} {ops : Array Oper} {rest : List Oper} {fr : Fr} {H H1 T U : Heap} {Z : Fr → Heap → Prop}
variable {d ty : Nat} {pos : String} {after : Array Edge}
theorem wE0 {f : FuncId} {xs : List Operand} {vs : List Value} {ts : Array TypeId} {e : TypeId} {size n : Nat} {ys : List Value} (U : Heap) (hc : Fn P f vs U fun u H' => RowOk u n ∧ H' = rowE u e size ys) (hx : evs fr xs = some vs) (hU : U.Sublist H) (hroU : Ro U) (hN : bN d N)
  (h : ∀ v, RowOk v n → sx P N w0 Wr ops rest ((d, v) :: fr) (H ++ rowE v e size ys) Z) :
  sx P N w0 Wr ops (⟨some d, .call { callee := .value (.func f), args := xs.toArray, argTypes := ts }, ty, pos, after, none⟩ :: rest) fr H Z :=
 wD9 U hc hx hU hroU hN fun v hv => jC6 _ (kD _ _) (h v hv)
theorem jD3 {t e : TypeId} {size bytes n m c : Nat} {s x : Operand} {v : Value} {xs news : List Value} {A : Option Addr} (H1 : Heap) (hE : ElemOk P t e size bytes) (hs : ev fr s = some v) (hv : RowOk v n) (hl : xs.length = n * size) (hx : ev fr x = some (.slice A m c))
  (hr : ∀ w, Sat w0 Wr H w → Rd w size A m news) (h1 : news.all Value.oneCell' = true) (h63 : n + m ≤ maxLen) (hby : (n + m) * bytes ≤ 140737488355328) (hH : HLe (H1 ++ rowE v e size xs) H) (hN : bN d N)
  (h : ∀ v', RowOk v' (n + m) → sx P N w0 Wr ops rest ((d, v') :: fr) (H1 ++ rowE v' e size (xs ++ news)) Z) :
  sx P N w0 Wr ops (⟨some d, .call { callee := .builtin .append, args := #[s, x], argTypes := #[t, t] }, ty, pos, after, none⟩ :: rest) fr H Z :=
 wE3 hE hs hv hl hx hr h1 h63 hby ((kD _ _).trans hH) hN fun v' hv' => jC6 _ (kD _ _) (h v' hv')
end
theorem kI9 {P : Program} {N : Frm} {w0 : World} {Wr : List Nat} {fr : Fr} {H : Heap} {Q : Exit → Act → World → Prop} {x : Code} {ι : Type} (F : ι → Fr) (HH : ι → Heap) (I : ι → Prop)
  (hx : awp P N w0 Wr x fr H (Exit.then (fun a w => ∃ j, I j ∧ FrOk N (F j) a ∧ Sat w0 Wr (HH j) w) Q)) (hy : ∀ j, I j → nx N w0 Wr (F j) (HH j) Q .normal) : awp P N w0 Wr x fr H Q :=
 fun a w ha hw => kS9 (fun e a w h => by
  cases e <;> first | exact h | (obtain ⟨j, hj, h1, h2⟩ := h; exact hy j hj a w h1 h2)) (hx a w ha hw)
theorem jF8 {P : Program} {n : Nat} {ro : Option Nat} {w0 : World} {Wr : List Nat} {fr : Fr} {H : Heap} {fn : Func} {R : Value → Heap → Prop} {r s t : ResultVar} {v u x : Value} (HH : Heap) (hr : fn.results = #[r, s, t]) (h1 : ResOk P fr H r v) (h2 : ResOk P fr H s u) (h3 : ResOk P fr H t x) (hk : HLe HH H) (hR : R (.tuple #[v, u, x]) HH) : nx ⟨n, ro, []⟩ w0 Wr fr H (bodyPost P fn (jN7 w0 Wr R)) .ret :=
 fun a w ha hw => ⟨ha.defers, _, by
  have e1 := h1.run' ha hw
  have e2 := h2.run' ha hw
  have e3 := h3.run' ha hw
  rw [jM1]
  simp [hr, lJ, e1, e2, e3], _, HH, rfl, hR, hk _ _ _ hw⟩
def jK9 (A : Option Addr) (n : Nat) : Prop := 0 < n → ∃ g o, A = some ⟨g, o, none⟩
theorem SlOk.arg {A : Option Addr} {n : Nat} (h : SlOk A n) : jK9 A n := fun hn => h.some hn
end
section
open Go.RowKit
def gsOf (ord : List (Nat × Bool)) : List Nat := (ord.filter fun x => !x.2).map Prod.fst
def covB (A : List (List Nat)) (pl : Nat → Bool) : Nat → List (List Nat) → Bool
 | 0, _ => true
 | n + 1, G => match G with
  | [] => false
  | g0 :: _ => g0.all fun j => (g0.any fun i => (A.getD j []).contains i) || (!((G.filter fun g => g.head? == some j).isEmpty) && (pl j || Nat.beq (G.filter fun g => g.head? == some j).length 1) && covB A pl n ((G.filter fun g => g.head? == some j).map List.tail))
theorem vS7 {ord : List (Nat × Bool)} {j : Nat} (h : (j, false) ∈ ord) : j ∈ gsOf ord := List.mem_map.2 ⟨(j, false), List.mem_filter.2 ⟨h, rfl⟩, rfl⟩
theorem yE3 {ord : List (Nat × Bool)} {j : Nat} (h : j ∈ gsOf ord) : (j, false) ∈ ord := by
 obtain ⟨⟨i, b⟩, h1, rfl⟩ := List.mem_map.1 h
 obtain ⟨h2, h3⟩ := List.mem_filter.1 h1
 cases b with
 | false => exact h2
 | true => simp at h3
section
variable {P : Program} {ops : Array Oper} {Q : Exit → Act → World → Prop} {C : World → Prop} {A : List (List Nat)}
def MayK (ops : Array Oper) (x y : Nat × Bool) : Prop := Dep ops x.1 y.1 ∨ MayV ops x y ∨ (x.2 = false ∧ y.2 = false)
structure OrdK (P : Program) (ops : Array Oper) (Q : Exit → Act → World → Prop) (C : World → Prop) (n : Nat) (listed : Array Bool) (a : Act) (w : World) (ord : List (Nat × Bool)) : Prop where
 len : ord.length = n
 left : Left ops (ord.map Prod.fst) listed
 pair : ord.Pairwise (MayK ops)
 goes : Wv P ops C Q ord a w
def Det (P : Program) (ops : Array Oper) (j : Nat) : Prop := ∀ o, ops[j]? = some o → ∀ ρ w n w', (execOp ρ o).run P w = .ok n w' → (∃ v, n = .value v) ∨ n = .skip
theorem wW5 {ι : Type} {S : List ι} {K : ι → Act → World → Prop} {j : Nat} {a : Act} {w : World} (hS : S ≠ []) (hd : Det P ops j ∨ S.length = 1) (h : ∀ s ∈ S, wpOp P ops (QN Q) j (K s) a w) : wpOp P ops (QN Q) j (fun b w' => ∀ s ∈ S, K s b w') a w := by
 rcases hd with hd | hd
 ·obtain ⟨s0, hs0⟩ := List.exists_mem_of_ne_nil S hS
  cases ho : ops[j]? with
  | none =>
   unfold wpOp at h ⊢
   simp only [ho] at h ⊢
   exact h
  | some o =>
   rw [jJ5 ho]
   have h' := fun s hs => (jJ5 ho).1 (h s hs)
   split
   ·rename_i hw
    simp only [hw, if_true] at h'
    have h0 := h' s0 hs0
    unfold Oper.wp at h' h0 ⊢
    cases hr : (execOp a.eval o).run P w with
    | ok n w' =>
     rw [hr] at h0
     simp only [hr] at h'
     rcases hd o ho _ _ _ _ hr with ⟨v, rfl⟩ | rfl
     ·exact h'
     ·exact h'
    | halt x w' =>
     rw [hr] at h0
     cases x <;> simp only [Oper.upon] at h0 <;> first | exact h0.elim | (cases h0.1)
   ·rename_i hw
    simp only [hw] at h'
    exact fun s hs => by simpa using h' s hs
 ·match S, hd with
  | [s], _ => exact wpOp_mono (fun b w' hb s' hs' => by rw [List.mem_singleton.1 hs']; exact hb) (h s lP)
theorem yH5 {pl : Nat → Bool} (hpl : ∀ j, pl j = true → Det P ops j) (hA : ∀ j i, i ∈ A.getD j [] → Dep ops i j) (hsel : ∀ (j : Nat) (o : Oper) cs b, ops[j]? = some o → o.op ≠ .select cs b) (hedge : ∀ (j : Nat) (o : Oper), ops[j]? = some o → ∀ e ∈ o.after, Region.binds .any e = true → e.on < ops.size) (fl : Nat → Bool) :
  ∀ (n m : Nat) (S : List (List (Nat × Bool))) (listed : Array Bool) (a : Act) (w : World), S ≠ [] → covB A pl m (S.map gsOf) = true → (∀ ord ∈ S, (gsOf ord).length ≤ m) → C w → (∀ ord ∈ S, ∀ x ∈ ord, x.2 = fl x.1) → (∀ ord ∈ S, OrdK P ops Q C n listed a w ord) → wpAny P .any ops (QN Q) n listed a w := by
 intro n
 induction n with
 | zero =>
  intro m S listed a w hS _ _ hC _ h
  obtain ⟨ord, hord⟩ := List.exists_mem_of_ne_nil S hS
  obtain ⟨hl, hL, hp, h⟩ := h ord hord
  obtain rfl := zE hl
  refine ⟨List.eq_nil_iff_forall_not_mem.2 fun j hj => ?_, h⟩
  obtain ⟨h0, o, ho, _⟩ := mem_ready.1 hj
  have := (hL.mem j (Array.getElem?_eq_some_iff.1 ho).1).1 h0
  simp at this
 | succ n ih =>
  intro m S listed a w hS hc hm hC hfl h
  obtain ⟨ord0, hord0⟩ := List.exists_mem_of_ne_nil S hS
  refine ⟨fun hnil => ?_, fun j hj => ?_⟩
  ·exfalso
   obtain ⟨hl, hL, hp, h⟩ := h ord0 hord0
   match ord0, hl with
   | x :: r, _ =>
    have := hL.first hedge
    rw [hnil] at this
    cases this
  ·obtain ⟨h0, o, ho, hall⟩ := mem_ready.1 hj
   have split : ∀ ord ∈ S, ∃ p r, ord = p ++ (j, fl j) :: r ∧ (∀ x ∈ p, MayV ops x (j, fl j) ∨ (x.2 = false ∧ fl j = false)) ∧ Left ops ((p ++ r).map Prod.fst) (listed.setIfInBounds j true) ∧ (p ++ r).Pairwise (MayK ops) ∧ (p ++ r).length = n := fun ord hord => by
    obtain ⟨hl, hL, hp, _⟩ := h ord hord
    have hdeps := hL.deps hedge hj
    have hjm := (hL.mem j (Array.getElem?_eq_some_iff.1 ho).1).1 h0
    obtain ⟨bj, hjb⟩ := kX7 hjm
    have hb : bj = fl j := hfl ord hord _ hjb
    subst hb
    obtain ⟨p, r, rfl⟩ := List.append_of_mem hjb
    have hpp := List.pairwise_append.1 hp
    refine ⟨p, r, rfl, fun x hx => ?_, ?_, List.pairwise_append.2 ⟨hpp.1, (List.pairwise_cons.1 hpp.2.1).2, fun x hx y hy => hpp.2.2 x hx y (lU _ hy)⟩, by simp at hl ⊢; omega⟩
    ·rcases hpp.2.2 x hx (j, fl j) lP with hd | hd | hd
     ·exact absurd (List.mem_map.2 ⟨x, xI _ hx, rfl⟩) (hdeps x.1 hd)
     ·exact .inl hd
     ·exact .inr hd
    ·rw [x0]
     exact Left.step (by simpa using hL) hedge hj
   cases hf : fl j with
   | true =>
    have step : ∀ ord ∈ S, ∃ v, YC P ops C o v a ∧ ∃ ord', gsOf ord' = gsOf ord ∧ (∀ x ∈ ord', x ∈ ord) ∧ OrdK P ops Q C n (listed.setIfInBounds j true) (a.put o.dst v) w ord' := fun ord hord => by
     obtain ⟨p, r, rfl, hp, hL', hpw, hl⟩ := split ord hord
     rw [hf] at hp
     have hg := kJ2 hsel p a w (fun x hx => (hp x hx).elim id (fun h => by cases h.2)) (by have := (h _ hord).goes; rwa [hf] at this)
     simp only [vst] at hg
     obtain ⟨o', v, e, hv, hk⟩ := hg
     rw [ho] at e; obtain rfl := lV e
     exact ⟨v, hv, p ++ r, by simp [gsOf, hf, qJ], fun x hx => by rcases List.mem_append.1 hx with hx | hx <;> simp [hx], hl, hL', hpw, hk⟩
    obtain ⟨v, hv, _⟩ := step ord0 hord0
    refine (hv w hC).wp ho ?_
    have step' : ∀ ord ∈ S, ∃ ord', gsOf ord' = gsOf ord ∧ (∀ x ∈ ord', x ∈ ord) ∧ OrdK P ops Q C n (listed.setIfInBounds j true) (a.put o.dst v) w ord' := fun ord hord => by
     obtain ⟨u, hu, h1⟩ := step ord hord
     have : u = v := (hu w hC).uniq (hv w hC)
     exact this ▸ h1
    have coll : ∀ S1 : List (List (Nat × Bool)), (∀ ord ∈ S1, ord ∈ S) → ∃ S2 : List (List (Nat × Bool)), S2.map gsOf = S1.map gsOf ∧ ∀ ord' ∈ S2, (∃ ord ∈ S1, gsOf ord' = gsOf ord ∧ ∀ x ∈ ord', x ∈ ord) ∧ OrdK P ops Q C n (listed.setIfInBounds j true) (a.put o.dst v) w ord' := by
     intro S1
     induction S1 with
     | nil => intro _; exact ⟨[], rfl, by simp⟩
     | cons x S1 ih2 =>
      intro hs
      obtain ⟨S2, e, h2⟩ := ih2 (fun ord hord => hs ord (lU _ hord))
      obtain ⟨x', h3, h4, h5⟩ := step' x (hs x lP)
      refine ⟨x' :: S2, by simp [e, h3], fun ord' hord' => ?_⟩
      rcases List.mem_cons.1 hord' with rfl | hord'
      ·exact ⟨⟨x, lP, h3, h4⟩, h5⟩
      ·obtain ⟨⟨y, h6, h7⟩, h8⟩ := h2 ord' hord'
       exact ⟨⟨y, lU _ h6, h7⟩, h8⟩
    obtain ⟨S2, e, h2⟩ := coll S (fun _ h => h)
    refine ih m S2 _ _ w (fun e0 => ?_) (by rw [e]; exact hc) (fun ord' ho' => ?_) hC (fun ord' ho' x hx => ?_) (fun ord' ho' => (h2 ord' ho').2)
    ·subst e0
     have := List.map_eq_nil_iff.1 e.symm
     exact hS this
    ·obtain ⟨⟨ord, h3, h4, _⟩, _⟩ := h2 ord' ho'
     rw [h4]; exact hm ord h3
    ·obtain ⟨⟨ord, h3, _, h5⟩, _⟩ := h2 ord' ho'
     exact hfl ord h3 x (h5 x hx)
   | false =>
    have hj0 : j ∈ gsOf ord0 := by
     obtain ⟨p, r, e, _⟩ := split ord0 hord0
     rw [hf] at e
     exact vS7 (by rw [e]; simp)
    have hm1 : 0 < m := uJ (List.length_pos_of_mem hj0) (hm ord0 hord0)
    obtain ⟨m, rfl⟩ : ∃ k, m = k + 1 := ⟨m - 1, by omega⟩
    have hcov : ((S.map gsOf).filter fun g => g.head? == some j) ≠ [] ∧ (pl j = true ∨ ((S.map gsOf).filter fun g => g.head? == some j).length = 1) ∧ covB A pl m (((S.map gsOf).filter fun g => g.head? == some j).map List.tail) = true := by
     match S, hS, hc with
     | s0 :: S1, _, hc =>
      have hs0 : s0 ∈ s0 :: S1 := lP
      have hjs : j ∈ gsOf s0 := by
       obtain ⟨p, r, e, _⟩ := split s0 hs0
       rw [hf] at e
       exact vS7 (by rw [e]; simp)
      simp only [xR, covB, xB] at hc
      have := hc j hjs
      simp only [zB, List.any_eq_true] at this
      rcases this with ⟨i, hi, hij⟩ | this
      ·have hdeps := (h s0 hs0).left.deps hedge hj i (hA j i (by simpa using hij))
       exact absurd (List.mem_map.2 ⟨(i, false), yE3 hi, rfl⟩) hdeps
      ·rw [← xR] at this
       simp only [xM, zB, Bool.not_eq_true'] at this
       refine ⟨fun e => ?_, this.1.2.imp id x6, this.2⟩
       have := this.1.1
       rw [e] at this
       cases this
    obtain ⟨hne, hdet, hc'⟩ := hcov
    have step : ∀ ord ∈ S, (gsOf ord).head? = some j → ∃ ord', gsOf ord' = (gsOf ord).tail ∧ (∀ x ∈ ord', x ∈ ord) ∧ Left ops (ord'.map Prod.fst) (listed.setIfInBounds j true) ∧ ord'.Pairwise (MayK ops) ∧ ord'.length = n ∧ wpOp P ops (QN Q) j (fun b w' => C w' ∧ Wv P ops C Q ord' b w') a w := fun ord hord hh => by
     obtain ⟨p, r, e, hp, hL', hpw, hl⟩ := split ord hord
     have hpt : ∀ x ∈ p, x.2 = true := fun x hx => by
      cases hx2 : x.2 with
      | true => rfl
      | false =>
       exfalso
       have hnd := (h ord hord).left.nodup
       have hgp : gsOf ord = gsOf p ++ j :: gsOf r := by rw [e]; simp [gsOf, qJ, hf]
       have hxp : x.1 ∈ gsOf p := vS7 (by
        have : x = (x.1, false) := (by rw [← hx2])
        exact this ▸ hx)
       rw [hgp] at hh
       match hq : gsOf p with
       | [] => rw [hq] at hxp; cases hxp
       | y :: q =>
        rw [hq] at hh
        have hy : y = j := by simpa using hh
        have hyp : (y, false) ∈ p := yE3 (by rw [hq]; exact lP)
        rw [e, x0, xR] at hnd
        have := (List.nodup_append.1 hnd).2.2 y (List.mem_map.2 ⟨_, hyp, rfl⟩) j lP
        exact this hy
     have hgr : gsOf ord = j :: gsOf (p ++ r) := by
      have : gsOf p = [] := by
       unfold gsOf
       rw [List.filter_eq_nil_iff.2 fun x hx => by simp [hpt x hx]]
       rfl
      have h1 : gsOf ord = gsOf p ++ j :: gsOf r := by rw [e]; simp [gsOf, qJ, hf]
      have h2 : gsOf (p ++ r) = gsOf p ++ gsOf r := by simp [gsOf, qJ]
      rw [h1, h2, this]
      rfl
     have hg := kJ2 hsel p a w (fun x hx => (hp x hx).elim id (fun h2 => by rw [hpt x hx] at h2; cases h2.1)) (e ▸ (h ord hord).goes)
     exact ⟨p ++ r, by rw [hgr]; rfl, fun x hx => by rw [e]; rcases List.mem_append.1 hx with hx | hx <;> simp [hx], hL', hpw, hl, vN7 hC (by rw [hf] at hg; exact hg)⟩
    have coll : ∀ S1 : List (List (Nat × Bool)), (∀ ord ∈ S1, ord ∈ S) → ∃ S2 : List (List (Nat × Bool)), S2.map gsOf = ((S1.map gsOf).filter fun g => g.head? == some j).map List.tail ∧
      ∀ ord' ∈ S2, (∃ ord ∈ S, gsOf ord = j :: gsOf ord' ∧ ∀ x ∈ ord', x ∈ ord) ∧ Left ops (ord'.map Prod.fst) (listed.setIfInBounds j true) ∧ ord'.Pairwise (MayK ops) ∧ ord'.length = n ∧ wpOp P ops (QN Q) j (fun b w' => C w' ∧ Wv P ops C Q ord' b w') a w := by
     intro S1
     induction S1 with
     | nil => intro _; exact ⟨[], rfl, by simp⟩
     | cons x S1 ih2 =>
      intro hs
      obtain ⟨S2, e, h2⟩ := ih2 (fun ord hord => hs ord (lU _ hord))
      by_cases hh : (gsOf x).head? = some j
      ·obtain ⟨x', h3, h4, h5⟩ := step x (hs x lP) hh
       refine ⟨x' :: S2, by simp [e, h3, hh], fun ord' hord' => ?_⟩
       rcases List.mem_cons.1 hord' with rfl | hord'
       ·refine ⟨⟨x, hs x lP, ?_, h4⟩, h5⟩
        rw [h3]
        match hq : gsOf x with
        | [] => rw [hq] at hh; cases hh
        | y :: q => rw [hq] at hh; simp at hh; rw [hh]; rfl
       ·exact h2 ord' hord'
      ·exact ⟨S2, by simp [e, hh], h2⟩
    obtain ⟨S2, e, h2⟩ := coll S (fun _ h => h)
    have hne2 : S2 ≠ [] := fun e0 => by
     subst e0
     have := List.map_eq_nil_iff.1 e.symm
     exact hne this
    have hlen2 : S2.length = ((S.map gsOf).filter fun g => g.head? == some j).length := by
     have := congrArg List.length e
     simpa using this
    refine wpOp_mono (fun b w' hb => ?_) (wW5 (K := fun ord' b w' => C w' ∧ Wv P ops C Q ord' b w') hne2 (hdet.imp (hpl j) (fun h => hlen2.trans h)) (fun ord' ho' => (h2 ord' ho').2.2.2.2))
    obtain ⟨s0, hs0⟩ := List.exists_mem_of_ne_nil S2 hne2
    refine ih m S2 _ b w' hne2 (by rw [e]; exact hc') (fun ord' ho' => ?_) (hb s0 hs0).1 (fun ord' ho' x hx => ?_) (fun ord' ho' => ⟨(h2 ord' ho').2.2.2.1, (h2 ord' ho').2.1, (h2 ord' ho').2.2.1, (hb ord' ho').2⟩)
    ·obtain ⟨⟨ord, h3, h4, _⟩, _⟩ := h2 ord' ho'
     have := hm ord h3
     rw [h4, lD] at this
     omega
    ·obtain ⟨⟨ord, h3, _, h5⟩, _⟩ := h2 ord' ho'
     exact hfl ord h3 x (h5 x hx)
def kB (ops : Array Oper) (A : List (List Nat)) : List (Nat × Bool) → Bool
 | [] => true
 | x :: r => (r.all fun y => (A.getD y.1 []).contains x.1 || (apB ops x.1 y.1 && (x.2 || y.2)) || (!x.2 && !y.2)) && kB ops A r
theorem yW5 (hA : ∀ j i, i ∈ A.getD j [] → Dep ops i j) : ∀ {l : List (Nat × Bool)}, kB ops A l = true → l.Pairwise (MayK ops)
 | [], _ => qR
 | x :: r, h => by
  simp only [kB, xM] at h
  refine zP (fun y hy => ?_) (yW5 hA h.2)
  have := List.all_eq_true.1 h.1 y hy
  simp only [zB, xM, Bool.not_eq_true'] at this
  rcases this with (h1 | ⟨h1, h2⟩) | h1
  ·exact .inl (hA _ _ (by simpa using h1))
  ·obtain ⟨oi, oj, e1, e2, e3⟩ := yN3 h1
   exact .inr (.inl ⟨oi, oj, e1, e2, e3, h2⟩)
  ·exact .inr (.inr h1)
def ordB (l : List Oper) (fl : Nat → Bool) (ls : List (Nat × Bool)) : Bool :=
 Nat.beq ls.length l.length && decide (ls.map Prod.fst).Nodup && extB l.toArray [] (ls.map Prod.fst) && kB l.toArray (ancs l) ls && (ls.all fun x => x.2 == fl x.1)
def detB (ops : Array Oper) (j : Nat) : Bool := match ops[j]? with
 | some o => match o.op with
  | .buildSlice .. => true
  | .convert .. => true
  | .alloc .. => true
  | .box .. => true
  | _ => false
 | none => false
theorem zA2 {P : Program} {s : Sem Value} {w w' : World} {n : Next} (h : (do pure (Next.value (← s)) : Sem Next).run P w = .ok n w') : (∃ v, n = .value v) ∨ n = .skip := by
 rw [lJ] at h
 cases hr : s.run P w with
 | ok v w1 =>
  rw [hr] at h
  simp only [lR, l7] at h
  injection h with h1
  exact .inl ⟨v, h1.symm⟩
 | halt x w1 => rw [hr] at h; cases h
theorem zA3 {P : Program} {ops : Array Oper} {j : Nat} (h : detB ops j = true) : Det P ops j := fun o ho ρ w n w' hr => by
 unfold detB at h
 rw [ho] at h
 simp only at h
 unfold execOp at hr
 split at h <;> rename_i hop <;> first | (cases h; done) | (rw [hop] at hr; exact zA2 hr)
def yC5 (l : List Oper) (gs : List Nat) (S : List (List (Nat × Bool))) : Bool :=
 Region.noSelect l.toArray && covB (ancs l) (detB l.toArray) gs.length (S.map gsOf) && (S.all fun ls => ordB l (fun i => !gs.contains i) ls && Nat.beq (gsOf ls).length gs.length)
theorem kO2 {N : Frm} {id : Nat} {l : List Oper} {a : Act} {w : World} (gs : List Nat) (S : List (List (Nat × Bool))) (hS : S ≠ []) (hm : P.follows .mixedOrders = true) (hB : yC5 l gs S = true) (hC : C w.drew) (h : ∀ ls ∈ S, Wv P l.toArray C Q ls a w.drew) : wq P N (.region id l.toArray true) Q a w := by
 simp only [yC5, xM, xB] at hB
 obtain ⟨⟨hsel, hcov⟩, hall0⟩ := hB
 have hA := kE8 l
 have ok : ∀ ls ∈ S, (Left l.toArray (ls.map Prod.fst) (Array.replicate l.toArray.size false) ∧ ls.Pairwise (MayK l.toArray) ∧ ls.length = l.length ∧ (∀ x ∈ ls, x.2 = !gs.contains x.1) ∧ (gsOf ls).length = gs.length) ∧
   (∀ (j : Nat) (o : Oper), l.toArray[j]? = some o → ∀ e ∈ o.after, Region.binds .any e = true → e.on < l.toArray.size) := fun ls hls => by
  obtain ⟨hB, hg⟩ := hall0 ls hls
  simp only [ordB, xM, decide_eq_true_eq, xB] at hB
  obtain ⟨⟨⟨⟨hlen, hnd⟩, hext⟩, hpairs⟩, hfl⟩ := hB
  have hlen := x6 hlen
  obtain ⟨he1, he2⟩ := kB9 hext (by simp) hnd
  have hall : ∀ k, k < l.length → k ∈ ls.map Prod.fst := vG6 l.length _ hnd (by simpa using hlen) (fun x hx => by simpa using he2 x hx)
  refine ⟨⟨⟨hnd, by simp, he2, fun k hk => ?_, he1, fun j o ho hj => absurd (hall j (by simpa using (Array.getElem?_eq_some_iff.1 ho).1)) hj⟩, yW5 hA hpairs, hlen, fun x hx => by simpa using hfl x hx, x6 hg⟩, fun j o ho e he hb =>
   jU9 _ _ hext (by simp) j (hall j (by simpa using (Array.getElem?_eq_some_iff.1 ho).1)) o ho e he hb⟩
  have h1 : k ∈ ls.map Prod.fst := hall k (by simpa using hk)
  have hk' : k < l.length := by simpa using hk
  have h2 : (Array.replicate l.toArray.size false).getD k true = false := by simp [zC, hk']
  exact ⟨fun _ => h1, fun _ => h2⟩
 obtain ⟨ls0, hls0⟩ := List.exists_mem_of_ne_nil S hS
 refine kJ0 hm ?_
 have := yH5 (P := P) (Q := Q) (C := C) (fun j h => zA3 h) hA (Region.noSelect_spec hsel) (ok ls0 hls0).2 (fun i => !gs.contains i) l.length gs.length S (Array.replicate l.toArray.size false) a w.drew hS hcov
  (fun ls hls => Nat.le_of_eq (ok ls hls).1.2.2.2.2) hC (fun ls hls => (ok ls hls).1.2.2.2.1) (fun ls hls => ⟨(ok ls hls).1.2.2.1, (ok ls hls).1.1, (ok ls hls).1.2.1, h ls hls⟩)
 simpa using this
end
section
variable {P : Program} {N : Frm} {w0 : World} {Wr : List Nat} {fr : Fr} {H H0 : Heap} {Q : Exit → Act → World → Prop}
theorem vN2 {id : Nat} {l : List Oper} {ι : Type} (F : ι → Fr) (HH : ι → Heap) (I : ι → Prop) (H0 : Heap) (gs : List Nat) (o1 o2 o3 : List (Nat × Bool)) (hm : P.follows .mixedOrders = true) (hB : yC5 l gs [o1, o2, o3] = true) (hk : HLe H0 H)
  (h1 : tw P N w0 Wr l.toArray H0 o1 fr H fun fr' H' => ∃ j, I j ∧ Kn (F j) fr' ∧ HLe (HH j) H')
  (h2 : tw P N w0 Wr l.toArray H0 o2 fr H fun fr' H' => ∃ j, I j ∧ Kn (F j) fr' ∧ HLe (HH j) H')
  (h3 : tw P N w0 Wr l.toArray H0 o3 fr H fun fr' H' => ∃ j, I j ∧ Kn (F j) fr' ∧ HLe (HH j) H')
  (hy : ∀ j, I j → nx N w0 Wr (F j) (HH j) Q .normal) : awp P N w0 Wr (.region id l.toArray true) fr H Q :=
 fun a w ha hw => kO2 (C := Sat w0 Wr H0) gs [o1, o2, o3] (by simp) hm hB (hk _ _ _ hw.drew) fun ls hls => by
  have key : tw P N w0 Wr l.toArray H0 ls fr H fun fr' H' => ∃ j, I j ∧ Kn (F j) fr' ∧ HLe (HH j) H' := by
   rcases List.mem_cons.1 hls with rfl | hls
   ·exact h1
   ·rcases List.mem_cons.1 hls with rfl | hls
    ·exact h2
    ·rw [List.mem_singleton.1 hls]; exact h3
  exact key Q (fun fr' H' a w ⟨j, hj, hf, hh⟩ ha hs => hy j hj a w (ha.kn hf) (hh _ _ _ hs)) a w.drew ha hw.drew
theorem jV2 {id : Nat} {l : List Oper} {y : Code} {ι : Type} (F : ι → Fr) (HH : ι → Heap) (I : ι → Prop) (H0 : Heap) (gs : List Nat) (o1 o2 o3 : List (Nat × Bool)) (hm : P.follows .mixedOrders = true) (hB : yC5 l gs [o1, o2, o3] = true) (hk : HLe H0 H)
  (h1 : tw P N w0 Wr l.toArray H0 o1 fr H fun fr' H' => ∃ j, I j ∧ Kn (F j) fr' ∧ HLe (HH j) H')
  (h2 : tw P N w0 Wr l.toArray H0 o2 fr H fun fr' H' => ∃ j, I j ∧ Kn (F j) fr' ∧ HLe (HH j) H')
  (h3 : tw P N w0 Wr l.toArray H0 o3 fr H fun fr' H' => ∃ j, I j ∧ Kn (F j) fr' ∧ HLe (HH j) H')
  (hy : ∀ j, I j → awp P N w0 Wr y (F j) (HH j) Q) : awp P N w0 Wr (.seq (.region id l.toArray true) y) fr H Q :=
 aS (vN2 F HH I H0 gs o1 o2 o3 hm hB hk h1 h2 h3 fun j hj => hy j hj)
end
theorem Sat.callA {w0 w w' : World} {Wr : List Nat} {Hc K U H' : Heap} (h : Sat w0 Wr (Hc ++ K) w) (hroU : Ro U) (h' : Sat w (wrs (Hc ++ U)) H' w') : Sat w0 Wr (H'.filter Ent.wr ++ K) w' := by
 rw [hroU.wrs] at h'
 have hs := List.pairwise_append.1 h.sep
 have hin : ∀ i ∈ wrs Hc, i ∈ Wr ∨ w0.heap.size ≤ i := fun i hi => by
  obtain ⟨e, he, hw, rfl⟩ := mem_wrs.1 hi
  exact (h.ents e (xI _ he)).2 hw
 have hout : ∀ x ∈ K, x.g ∉ wrs Hc := fun x hx hm => by
  obtain ⟨e, he, hw, hg⟩ := mem_wrs.1 hm
  exact hs.2.2 e he x hx (by simp [hw]) hg
 refine ⟨h.only.trans h'.only hin, fun e he => ?_, List.pairwise_append.2 ⟨h'.sep.sublist List.filter_sublist, hs.2.1, fun a ha b hb _ hg => ?_⟩⟩
 ·rcases List.mem_append.1 he with he | he
  ·have hm := h'.ents e (List.mem_filter.1 he).1
   refine ⟨hm.1, fun hw => ?_⟩
   rcases hm.2 hw with h1 | h1
   ·exact hin _ h1
   ·exact .inr (uI h.only.size h1)
  ·have hm := h.ents e (x7 _ he)
   exact ⟨Ent.keep hm.1 h'.only.size (h'.only.block _ (Ent.lt hm.1) (hout e he)), hm.2⟩
 ·obtain ⟨ha1, ha2⟩ := List.mem_filter.1 ha
  rcases (h'.ents a ha1).2 ha2 with h1 | h1
  ·exact hout b hb (hg ▸ h1)
  ·have := Ent.lt (h.ents b (x7 _ hb)).1
   omega
theorem jO1 {P : Program} {N : Frm} {w0 : World} {Wr : List Nat} {ops : Array Oper} {rest : List Oper} {fr : Fr} {H : Heap} {Z : Fr → Heap → Prop} {ty : Nat} {pos : String} {after : Array Edge}
  {f : FuncId} {xs : List Operand} {vs : List Value} {ts : Array TypeId} {dst : Option Nat} {R : Value → Heap → Prop} (Hc U K : Heap) (hc : Fn P f vs (Hc ++ U) R) (hx : evs fr xs = some vs) (hH : HLe (Hc ++ K) H) (hU : U.Sublist K) (hroU : Ro U) (hN : dstB N dst = true)
  (h : ∀ v H', R v H' → sx P N w0 Wr ops rest (match dst with | some d => (d, v) :: fr | none => fr) (H'.filter Ent.wr ++ K) Z) :
  sx P N w0 Wr ops (⟨dst, .call { callee := .value (.func f), args := xs.toArray, argTypes := ts }, ty, pos, after, none⟩ :: rest) fr H Z :=
 jN9 (R := fun v H2 => ∃ H', R v H' ∧ H2 = H'.filter Ent.wr ++ K) hc.1 hx hN (fun w hw => by
  have hw' := hH _ _ _ hw
  have hpre : Sat w (wrs (Hc ++ U)) (Hc ++ U) w := by
   have hsub := hw'.sub (uE hU Hc)
   exact ⟨Only.refl _ _, fun e he => ⟨(hsub.ents e he).1, fun h => .inl (mem_wrs.2 ⟨e, he, h, rfl⟩)⟩, hsub.sep⟩
  exact (hc.2 w hpre).mono fun e w' he => by
   obtain ⟨v, H', h1, h2, h3⟩ := he
   exact ⟨v, _, h1, ⟨H', h2, rfl⟩, hw'.callA hroU h3⟩) (fun v H2 hR => by obtain ⟨H', hR, rfl⟩ := hR; exact h v H' hR)
end
section
open Go.RowKit
section
variable {P : Program} {N : Frm} {w0 : World} {Wr : List Nat} {ops : Array Oper} {rest : List Oper} {fr : Fr} {H : Heap} {Z : Fr → Heap → Prop}
variable {d ty : Nat} {pos : String} {after : Array Edge}
theorem jN1 {t t' e : TypeId} {x : Operand} {g o : Nat} (ht : P.underlying t = some (.pointer e)) (hx : ev fr x = some (ptr g o)) (hN : bN d N)
  (h : sx P N w0 Wr ops rest ((d, .bool false) :: fr) H Z) : sx P N w0 Wr ops (⟨some d, .binOp .eql t x (.const (.pointer none)) t', ty, pos, after, none⟩ :: rest) fr H Z :=
 jE4 _ hN (fun a w ha _ => by
  have e' : a.eval (.const (.pointer none)) = .pointer none := rfl
  have hq : (Op.equal t (ptr g o) (.pointer none)).run P w = .ok false w := by
   unfold Op.equal Op.maxDepth Op.equalIn
   simp [lJ, run_underlying ht, ptr]
  have hg : (eqGuard .eql t x (.const (.pointer none)) (ptr g o) (.pointer none)).run P w = .ok () w := by
   unfold eqGuard
   split <;> rfl
  simp only [execOp, ha.eval hx, e', lJ, binOp, ptr]
  simp only [ptr] at hq hg
  simp [hq, hg]) h
theorem wD4 {t t' e : TypeId} {x : Operand} (ht : P.underlying t = some (.pointer e)) (hx : ev fr x = some (.pointer none)) (hN : bN d N)
  (h : sx P N w0 Wr ops rest ((d, .bool true) :: fr) H Z) : sx P N w0 Wr ops (⟨some d, .binOp .eql t x (.const (.pointer none)) t', ty, pos, after, none⟩ :: rest) fr H Z :=
 jE4 _ hN (fun a w ha _ => by
  have e' : a.eval (.const (.pointer none)) = .pointer none := rfl
  have hq : (Op.equal t (.pointer none) (.pointer none)).run P w = .ok true w := by
   unfold Op.equal Op.maxDepth Op.equalIn
   simp [lJ, run_underlying ht]
  have hg : (eqGuard .eql t x (.const (.pointer none)) (.pointer none) (.pointer none)).run P w = .ok () w := by
   unfold eqGuard
   split <;> rfl
  simp only [execOp, ha.eval hx, e', lJ, hg, lR, binOp]
  simp [hq]) h
theorem wD5 {t t' k e : TypeId} {x : Operand} {m : Option Nat} (ht : P.underlying t = some (.map k e)) (hx : ev fr x = some (.map m)) (hN : bN d N)
  (h : sx P N w0 Wr ops rest ((d, .bool m.isNone) :: fr) H Z) : sx P N w0 Wr ops (⟨some d, .binOp .eql t x (.const (.map none)) t', ty, pos, after, none⟩ :: rest) fr H Z :=
 jE4 _ hN (fun a w ha _ => by
  have e' : a.eval (.const (.map none)) = .map none := rfl
  have hq : (Op.equal t (.map m) (.map none)).run P w = .ok m.isNone w := by
   unfold Op.equal Op.maxDepth Op.equalIn
   cases m <;> simp [lJ, run_underlying ht]
  have hg : (eqGuard .eql t x (.const (.map none)) (.map m) (.map none)).run P w = .ok () w := by
   unfold eqGuard
   split <;> rfl
  simp only [execOp, ha.eval hx, e', lJ, hg, lR, binOp]
  simp [hq]) h
theorem jQ7 {t : TypeId} {x : Operand} {v : Value} {ds : TypeDesc} (ht : P.underlying t = some ds) (hd : (match ds with | .interface _ => false | _ => true) = true) (hx : ev fr x = some v) (hN : bN d N)
  (h : sx P N w0 Wr ops rest ((d, .iface t v) :: fr) H Z) : sx P N w0 Wr ops (⟨some d, .makeInterface t x, ty, pos, after, none⟩ :: rest) fr H Z :=
 jE4 _ hN (fun a w ha _ => by
  simp only [execOp, Instr.makeInterface, ha.eval hx, lJ, run_underlying ht, lR]
  cases ds <;> first | rfl | simp at hd) h
theorem kK5 {f : FuncId} {fn : Func} {ex : Array Value → Sem Value} {xs : List Operand} {vs : List Value} {ts : Array TypeId} {R : Value → Heap → Prop} (hf : P.funcs[f]? = some fn) (hname : (fn.name == "runtime.NumGoroutine") = false)
  (hb : fn.body.isNone = true) (hn : Extern.findNext fn = none) (he : Extern.find fn = some ex) (hx : evs fr xs = some vs) (hN : bN d N)
  (hrun : ∀ w, Sat w0 Wr H w → ∃ v w' H', (ex vs.toArray).run P w = .ok v w' ∧ R v H' ∧ Sat w0 Wr H' w')
  (h : ∀ v H', R v H' → sx P N w0 Wr ops rest ((d, v) :: fr) H' Z) :
  sx P N w0 Wr ops (⟨some d, .call { callee := .value (.func f), args := xs.toArray, argTypes := ts }, ty, pos, after, none⟩ :: rest) fr H Z :=
 jI7 (R := R) hN (fun a w ha hw => by
  obtain ⟨v, w', H', h1, h2, h3⟩ := hrun w hw
  refine ⟨v, w', H', ?_, h2, h3⟩
  have hvs := ha.evals hx
  have hfu : a.eval (.func f) = .func (.func f) #[] #[] := rfl
  have := run_callFunc_extern hf hname hb hn he vs.toArray w
  rw [h1] at this
  subst hvs
  simpa [execOp, resolve, hfu, Deferred.ofValue, invoke, lJ] using this) h
theorem vD2 {κ : Type} [DecidableEq κ] {encK : κ → Value} {K T E : TypeId} (hK : KeyOk P K encK) (hT : P.underlying T = some (.map K E)) {z : Value} {w : World} (hz : (zeroValue E).run P w = .ok z w) (k : κ) (ok : Bool) :
  (Instr.lookup T (.map none) (encK k) ok).run P w = .ok (if ok then .tuple #[z, .bool false] else z) w := by
 have hc := hK.chk true k w
 obtain ⟨f1, _⟩ := jR9 (ν := Unit) (encV := fun _ => undef) hK w k [] [] rfl
 cases ok <;> simp [Instr.lookup, run_underlying hT, hc, f1 (by simp [jF2]), hz, Result.andThen]
theorem vC0 {κ : Type} [DecidableEq κ] {encK : κ → Value} {K T E : TypeId} (hK : KeyOk P K encK) (hT : P.underlying T = some (.map K E)) {z : Value} (hz : ∀ w, (zeroValue E).run P w = .ok z w) {x y : Operand} (k : κ) {ok : Bool} (v : Value)
  (hx : ev fr x = some (.map none)) (hy : ev fr y = some (encK k)) (hv : (if ok = true then Value.tuple #[z, .bool false] else z) = v) (hN : bN d N)
  (h : sv P N w0 Wr ops rest ((d, v) :: fr) H Z) : sv P N w0 Wr ops (⟨some d, .lookup T x y ok, ty, pos, after, none⟩ :: rest) fr H Z :=
 jK5 v hN (fun a w ha hw => by
  subst hv
  have := vD2 hK hT (hz w) k ok
  simp only [execOp, ha.eval hx, ha.eval hy, lJ, this, lR]
  rfl) h
end
theorem HLe.dup {H T : Heap} (hT : T.Sublist H) (hro : Ro T) : HLe (H ++ T) H := fun _ _ _ h =>
 ⟨h.only, fun e he => (List.mem_append.1 he).elim (h.ents e) (fun he => h.ents e (hT.subset he)), List.pairwise_append.2 ⟨h.sep, h.sep.sublist hT, fun a ha b hb => wU1 h ha (hT.subset hb) (hro b hb)⟩⟩
theorem wX9 {P : Program} {f : FuncId} {vs : List Value} {v : Value} {T : Heap} {w : World} (hro : Ro T) (hS : Sat w [] T w) (h : Fn P f vs T fun u _ => u = v) : Calls P f vs.toArray w fun e w' => e = .returned v ∧ Bel w w' := by
 have h0 : wrs T = [] := by have := hro.wrs []; simpa [wrs] using this
 have := h.2 w (by rw [h0]; exact hS)
 rw [h0] at this
 exact this.mono fun e w' he => by
  obtain ⟨u, H', rfl, rfl, h3⟩ := he
  exact ⟨rfl, h3.only.bel⟩
theorem HLe.comm3 (A B C : Heap) : HLe (B ++ (A ++ C)) (A ++ (B ++ C)) := fun _ _ _ hw => hw.perm (List.perm_append_comm_assoc A B C)
end
section
open Go.RowKit
inductive EqA (P : Program) (d : Nat) (e : TypeId) (ag : Bool) (n : Nat) (xs ys : List Value) : List Nat → Bool → Prop
 | nil : EqA P d e ag n xs ys [] true
 | cons {i : Nat} {r : List Nat} {x y : Value} {b c : Bool} (hx : rdV ag n xs (i * n) = some x) (hy : rdV ag n ys (i * n) = some y) (h : EqV P d e x y b) (k : EqA P d e ag n xs ys r c) : EqA P d e ag n xs ys (i :: r) (b && c)
theorem EqV.string {P : Program} {d : Nat} {t : TypeId} {l m : List UInt8} (ht : P.underlying t = some .string) : EqV P (d + 1) t (.string (str l)) (.string (str m)) (l == m) := fun w => by
 have e : (str l == str m) = (l == m) := by
  show ((str l).data == (str m).data) = _
  rw [lS]
  simp [str]
 unfold Op.equalIn
 simp [lJ, run_underlying ht, e]
inductive Tr where
 | nil : Tr
 | step (x : Nat × Bool) (t : Tr) : Tr
 | fork (t u : Tr) : Tr
namespace Tr
def jM2 : Tr → List (List (Nat × Bool))
 | nil => [[]]
 | step x t => (jM2 t).map (x :: ·)
 | fork t u => jM2 t ++ jM2 u
def fp : Tr → List (Nat × Bool)
 | nil => []
 | step x t => x :: fp t
 | fork t _ => fp t
def rem (j : Nat) : Tr → Tr
 | nil => nil
 | step x t => if x.1 = j then t else step x (rem j t)
 | fork t u => fork (rem j t) (rem j u)
def res (j : Nat) : Tr → Option Tr
 | nil => none
 | step x t => if x.1 = j then some t else if x.2 then (res j t).map (step x) else none
 | fork t u => (res j t).or (res j u)
def cov (A : List (List Nat)) : Nat → Tr → Bool
 | 0, _ => true
 | m + 1, t => (gsOf (fp t)).all fun j => ((gsOf (fp t)).any fun i => (A.getD j []).contains i) || match res j t with
  | some r => cov A m r
  | none => false
def kD8 (j : Nat) : Tr → Prop
 | nil => True
 | step x t => (x.1 = j → x.2 = true) ∧ kD8 j t
 | fork t u => kD8 j t ∧ kD8 j u
theorem jU8 : ∀ t : Tr, fp t ∈ jM2 t
 | nil => by simp [fp, jM2]
 | step x t => List.mem_map.2 ⟨_, jU8 t, rfl⟩
 | fork t _ => xI _ (jU8 t)
theorem kI4 {j : Nat} : ∀ t : Tr, (∀ p ∈ jM2 t, ∀ x ∈ p, x.1 = j → x.2 = true) → kD8 j t
 | nil, _ => trivial
 | step x t, h => ⟨h _ (List.mem_map.2 ⟨_, jU8 t, rfl⟩) x lP, kI4 t fun p hp y hy => h _ (List.mem_map.2 ⟨_, hp, rfl⟩) y (lU _ hy)⟩
 | fork t u, h => ⟨kI4 t fun p hp => h p (xI _ hp), kI4 u fun p hp => h p (x7 _ hp)⟩
def er (j : Nat) (p : List (Nat × Bool)) : List (Nat × Bool) := p.eraseP fun x => x.1 == j
theorem wO3 {j : Nat} {x : Nat × Bool} {p : List (Nat × Bool)} (h : x.1 = j) : er j (x :: p) = p := by simp [er, h]
theorem vL9 {j : Nat} {x : Nat × Bool} {p : List (Nat × Bool)} (h : ¬ x.1 = j) : er j (x :: p) = x :: er j p := by simp [er, h]
theorem zJ7 {j : Nat} {b : Bool} : ∀ {p r : List (Nat × Bool)}, (∀ x ∈ p, ¬ x.1 = j) → er j (p ++ (j, b) :: r) = p ++ r
 | [], r, _ => wO3 rfl
 | x :: p, r, h => by rw [lL, vL9 (h x lP), zJ7 fun y hy => h y (lU _ hy)]; rfl
theorem kA6 {j : Nat} : ∀ t : Tr, jM2 (rem j t) = (jM2 t).map (er j)
 | nil => rfl
 | step x t => by
  rw [rem, jM2, List.map_map]
  by_cases h : x.1 = j
  ·rw [if_pos h]
   exact (List.map_id _).symm.trans (List.map_congr_left fun p _ => (wO3 h).symm)
  ·rw [if_neg h, jM2, kA6 t, List.map_map]
   exact List.map_congr_left fun p _ => (vL9 h).symm
 | fork t u => by rw [rem, jM2, jM2, kA6 t, kA6 u, x0]
theorem kA5 {j : Nat} : ∀ {t r : Tr}, res j t = some r → ∀ p ∈ jM2 r, ∃ q ∈ jM2 t, p = er j q
 | nil, _, h, _, _ => by cases h
 | step x t, r, h, p, hp => by
  rw [res] at h
  by_cases hx : x.1 = j
  ·rw [if_pos hx] at h
   obtain rfl := lV h
   exact ⟨_, List.mem_map.2 ⟨p, hp, rfl⟩, (wO3 hx).symm⟩
  ·rw [if_neg hx] at h
   split at h
   ·cases hr : res j t with
    | none => rw [hr] at h; cases h
    | some r' =>
     rw [hr] at h
     obtain rfl := lV h
     obtain ⟨p', hp', rfl⟩ := List.mem_map.1 hp
     obtain ⟨q, hq, rfl⟩ := kA5 hr p' hp'
     exact ⟨_, List.mem_map.2 ⟨q, hq, rfl⟩, (vL9 hx).symm⟩
   ·cases h
 | fork t u, r, h, p, hp => by
  rw [res] at h
  cases hr : res j t with
  | some r' =>
   rw [hr] at h
   obtain rfl := lV h
   obtain ⟨q, hq, e⟩ := kA5 hr p hp
   exact ⟨q, xI _ hq, e⟩
  | none =>
   rw [hr] at h
   obtain ⟨q, hq, e⟩ := kA5 (t := u) h p hp
   exact ⟨q, x7 _ hq, e⟩
theorem wM5 {j : Nat} : ∀ t : Tr, kD8 j t → gsOf (fp (rem j t)) = gsOf (fp t)
 | nil, _ => rfl
 | step x t, h => by
  rw [rem]
  by_cases hx : x.1 = j
  ·rw [if_pos hx]
   simp [fp, gsOf, h.1 hx]
  ·rw [if_neg hx, fp, fp]
   have := wM5 t h.2
   simp only [gsOf] at this ⊢
   rw [xL, xL]
   split
   ·rw [xR, xR, this]
   ·exact this
 | fork t _, h => wM5 t h.1
theorem kW7 {j k : Nat} (hk : ¬ j = k) : ∀ t : Tr, kD8 j t → res k (rem j t) = (res k t).map (rem j)
 | nil, _ => rfl
 | step x t, h => by
  rw [rem]
  by_cases hx : x.1 = j
  ·rw [if_pos hx, res, if_neg (fun e => hk (hx.symm.trans e)), if_pos (h.1 hx), Option.map_map]
   have : (rem j ∘ step x) = id := funext fun r => by simp [Function.comp, rem, hx]
   rw [this, Option.map_id]
   rfl
  ·rw [if_neg hx, res, res, kW7 hk t h.2]
   split
   ·rfl
   ·split
    ·rw [Option.map_map, Option.map_map]
     congr 1
     funext r
     simp [Function.comp, rem, hx]
    ·rfl
 | fork t u, h => by
  rw [rem, res, res, kW7 hk t h.1, kW7 hk u h.2]
  cases res k t <;> rfl
theorem kA3 {j k : Nat} : ∀ {t r : Tr}, kD8 j t → res k t = some r → kD8 j r
 | nil, _, _, h => by cases h
 | step x t, r, hq, h => by
  rw [res] at h
  split at h
  ·obtain rfl := lV h; exact hq.2
  ·split at h
   ·cases hr : res k t with
    | none => rw [hr] at h; cases h
    | some r' =>
     rw [hr] at h
     obtain rfl := lV h
     exact ⟨hq.1, kA3 hq.2 hr⟩
   ·cases h
 | fork t u, r, hq, h => by
  rw [res] at h
  cases hr : res k t with
  | some r' => rw [hr] at h; obtain rfl := lV h; exact kA3 hq.1 hr
  | none => rw [hr] at h; exact kA3 (t := u) hq.2 h
theorem yX6 {k : Nat} : ∀ {t : Tr}, k ∈ gsOf (fp t) → ∀ j, kD8 j t → ¬ j = k
 | t, h, j, hq, e => by
  subst e
  have h1 := yE3 h
  have : ∀ t : Tr, kD8 j t → (j, false) ∈ fp t → False := by
   intro t
   induction t with
   | nil => intro _ h; cases h
   | step x t ih =>
    intro hq h
    rcases List.mem_cons.1 h with rfl | h
    ·cases hq.1 rfl
    ·exact ih hq.2 h
   | fork t u ih1 _ => intro hq h; exact ih1 hq.1 h
  exact this t hq h1
theorem wS0 {A : List (List Nat)} {j : Nat} : ∀ (m : Nat) (t : Tr), kD8 j t → cov A m t = true → cov A m (rem j t) = true
 | 0, _, _, _ => rfl
 | m + 1, t, hq, h => by
  rw [cov] at h ⊢
  rw [wM5 t hq]
  rw [xB] at h ⊢
  intro k hk
  have h1 := h k hk
  rw [zB] at h1 ⊢
  rcases h1 with h1 | h1
  ·exact .inl h1
  ·refine .inr ?_
   rw [kW7 (yX6 hk j hq) t hq]
   cases hr : res k t with
   | none => rw [hr] at h1; cases h1
   | some r =>
    rw [hr] at h1
    exact wS0 m r (kA3 hq hr) h1
end Tr
open Tr
section
variable {P : Program} {ops : Array Oper} {Q : Exit → Act → World → Prop} {C : World → Prop} {A : List (List Nat)}
def Wt (P : Program) (ops : Array Oper) (C : World → Prop) (Q : Exit → Act → World → Prop) : Tr → Act → World → Prop
 | .nil, a, w => QN Q .normal a w
 | .step x t, a, w => vst P ops C Q x (Wt P ops C Q t) a w
 | .fork t u, a, w => Wt P ops C Q t a w ∧ Wt P ops C Q u a w
theorem vA3 {x : Nat × Bool} {K K' : Act → World → Prop} {a : Act} {w : World} (hC : C w) (h : ∀ a w, C w → K a w → K' a w) (hh : vst P ops C Q x K a w) : vst P ops C Q x K' a w := by
 unfold vst at hh ⊢
 split
 ·rename_i hx
  rw [hx] at hh
  obtain ⟨o, v, h1, h2, h3⟩ := hh
  exact ⟨o, v, h1, h2, h _ _ hC h3⟩
 ·rename_i hx
  rw [hx] at hh
  exact wpOp_mono (fun a w ⟨hc, hk⟩ => ⟨hc, h a w hc hk⟩) hh
def Pass (ops : Array Oper) (y : Nat × Bool) : Tr → Prop
 | .nil => False
 | .step x t => x = y ∨ (¬ x.1 = y.1 ∧ (MayV ops x y ∨ (x.2 = false ∧ y.2 = false)) ∧ Pass ops y t)
 | .fork t u => Pass ops y t ∧ Pass ops y u
theorem kX1 {y : Nat × Bool} : ∀ t : Tr, (∀ p ∈ jM2 t, ∃ p1 r, p = p1 ++ y :: r ∧ ∀ x ∈ p1, ¬ x.1 = y.1 ∧ (MayV ops x y ∨ (x.2 = false ∧ y.2 = false))) → Pass ops y t
 | .nil, h => by
  obtain ⟨p1, r, e, _⟩ := h [] (by simp [jM2])
  have := congrArg List.length e
  simp at this
 | .step x t, h => by
  by_cases hx : x = y
  ·exact .inl hx
  ·have key : ∀ p ∈ jM2 t, ∃ p1 r, p = p1 ++ y :: r ∧ (∀ z ∈ x :: p1, ¬ z.1 = y.1 ∧ (MayV ops z y ∨ (z.2 = false ∧ y.2 = false))) := fun p hp => by
    obtain ⟨p1, r, e, h1⟩ := h _ (List.mem_map.2 ⟨p, hp, rfl⟩)
    match p1 with
    | [] => injection e with e1 _; exact absurd e1 hx
    | z :: p2 =>
     injection e with e1 e2
     subst e1
     exact ⟨p2, r, e2, h1⟩
   obtain ⟨p1, r, _, h1⟩ := key _ (jU8 t)
   have h2 := h1 x lP
   exact .inr ⟨h2.1, h2.2, kX1 t fun p hp => by
    obtain ⟨p1, r, e, h1⟩ := key p hp
    exact ⟨p1, r, e, fun z hz => h1 z (lU _ hz)⟩⟩
 | .fork t u, h => ⟨kX1 t fun p hp => h p (xI _ hp), kX1 u fun p hp => h p (x7 _ hp)⟩
theorem jY7 (hsel : ∀ (j : Nat) (o : Oper) cs b, ops[j]? = some o → o.op ≠ .select cs b) {j : Nat} : ∀ (t : Tr) (a : Act) (w : World), C w → Pass ops (j, true) t → Wt P ops C Q t a w → vst P ops C Q (j, true) (Wt P ops C Q (rem j t)) a w
 | .nil, _, _, _, hp, _ => hp.elim
 | .step x t, a, w, hC, hp, h => by
  by_cases hx : x = (j, true)
  ·subst hx
   rw [rem, if_pos rfl]
   exact h
  ·rcases hp with hp | ⟨h1, h2, h3⟩
   ·exact absurd hp hx
   ·rw [rem, if_neg h1]
    have h4 : MayV ops x (j, true) := h2.elim id fun h => by cases h.2
    obtain ⟨oi, oj, e1, e2, e3, e4⟩ := h4
    exact kT2 (K := Wt P ops C Q (rem j t)) e1 e2 e3 (fun cs b => hsel _ _ cs b e1) (fun cs b => hsel _ _ cs b e2) e4 (vA3 hC (fun b w' hC' hb => jY7 hsel t b w' hC' h3 hb) h)
 | .fork t u, a, w, hC, hp, h => by
  obtain ⟨o, v, h1, h2, h3⟩ := jY7 hsel t a w hC hp.1 h.1
  obtain ⟨o', v', h1', h2', h3'⟩ := jY7 hsel u a w hC hp.2 h.2
  simp only at h1 h1'
  rw [h1] at h1'; obtain rfl := lV h1'
  have : v' = v := (h2' w hC).uniq (h2 w hC)
  subst this
  exact ⟨o, v', h1, h2, h3, h3'⟩
theorem kI5 (hsel : ∀ (j : Nat) (o : Oper) cs b, ops[j]? = some o → o.op ≠ .select cs b) {j : Nat} : ∀ (t r : Tr) (a : Act) (w : World), C w → Pass ops (j, false) t → res j t = some r → Wt P ops C Q t a w → vst P ops C Q (j, false) (Wt P ops C Q r) a w
 | .nil, _, _, _, _, hp, _, _ => hp.elim
 | .step x t, r, a, w, hC, hp, hr, h => by
  by_cases hx : x = (j, false)
  ·subst hx
   rw [res, if_pos rfl] at hr
   obtain rfl := lV hr
   exact h
  ·rcases hp with hp | ⟨h1, h2, h3⟩
   ·exact absurd hp hx
   ·rw [res, if_neg h1] at hr
    split at hr
    ·rename_i hx2
     cases hr' : res j t with
     | none => rw [hr'] at hr; cases hr
     | some r' =>
      rw [hr'] at hr
      obtain rfl := lV hr
      have h4 : MayV ops x (j, false) := h2.elim id fun h => by rw [hx2] at h; cases h.1
      obtain ⟨oi, oj, e1, e2, e3, e4⟩ := h4
      exact kT2 (K := Wt P ops C Q r') e1 e2 e3 (fun cs b => hsel _ _ cs b e1) (fun cs b => hsel _ _ cs b e2) e4 (vA3 hC (fun b w' hC' hb => kI5 hsel t r' b w' hC' h3 hr' hb) h)
    ·cases hr
 | .fork t u, r, a, w, hC, hp, hr, h => by
  rw [res] at hr
  cases hr' : res j t with
  | some r' =>
   rw [hr'] at hr
   obtain rfl := lV hr
   exact kI5 hsel t r' a w hC hp.1 hr' h.1
  | none =>
   rw [hr'] at hr
   exact kI5 hsel u r a w hC hp.2 hr h.2
theorem yI2 : ∀ (t : Tr) (a : Act) (w : World), (∀ p ∈ jM2 t, p = []) → Wt P ops C Q t a w → QN Q .normal a w
 | .nil, _, _, _, h => h
 | .step x t, _, _, hp, _ => by
  have := hp _ (List.mem_map.2 ⟨_, jU8 t, rfl⟩)
  cases this
 | .fork t _, a, w, hp, h => yI2 t a w (fun p h' => hp p (xI _ h')) h.1
theorem yH4 (hA : ∀ j i, i ∈ A.getD j [] → Dep ops i j) (hsel : ∀ (j : Nat) (o : Oper) cs b, ops[j]? = some o → o.op ≠ .select cs b) (hedge : ∀ (j : Nat) (o : Oper), ops[j]? = some o → ∀ e ∈ o.after, Region.binds .any e = true → e.on < ops.size) (fl : Nat → Bool) :
  ∀ (n m : Nat) (t : Tr) (listed : Array Bool) (a : Act) (w : World), cov A m t = true → C w →
   (∀ p ∈ jM2 t, p.length = n ∧ (gsOf p).length ≤ m ∧ Left ops (p.map Prod.fst) listed ∧ p.Pairwise (MayK ops) ∧ ∀ x ∈ p, x.2 = fl x.1) → Wt P ops C Q t a w → wpAny P .any ops (QN Q) n listed a w := by
 intro n
 induction n with
 | zero =>
  intro m t listed a w _ _ hp h
  refine ⟨List.eq_nil_iff_forall_not_mem.2 fun j hj => ?_, yI2 t a w (fun p h' => zE (hp p h').1) h⟩
  obtain ⟨hl, _, hL, _⟩ := hp _ (jU8 t)
  have e := zE hl
  obtain ⟨h0, o, ho, _⟩ := mem_ready.1 hj
  have := (hL.mem j (Array.getElem?_eq_some_iff.1 ho).1).1 h0
  rw [e] at this
  simp at this
 | succ n ih =>
  intro m t listed a w hc hC hp h
  refine ⟨fun hnil => ?_, fun j hj => ?_⟩
  ·exfalso
   obtain ⟨hl, _, hL, _⟩ := hp _ (jU8 t)
   match hq : fp t, hl with
   | x :: r, _ =>
    rw [hq] at hL
    have := hL.first hedge
    rw [hnil] at this
    cases this
  ·obtain ⟨h0, o, ho, hall⟩ := mem_ready.1 hj
   have split : ∀ p ∈ jM2 t, ∃ p1 r, p = p1 ++ (j, fl j) :: r ∧ (∀ x ∈ p1, ¬ x.1 = j ∧ (MayV ops x (j, fl j) ∨ (x.2 = false ∧ fl j = false))) ∧ Left ops ((p1 ++ r).map Prod.fst) (listed.setIfInBounds j true) := fun p hpt => by
    obtain ⟨_, _, hL, hpw, hfl⟩ := hp p hpt
    have hdeps := hL.deps hedge hj
    have hjm := (hL.mem j (Array.getElem?_eq_some_iff.1 ho).1).1 h0
    obtain ⟨bj, hjb⟩ := kX7 hjm
    have hb : bj = fl j := hfl _ hjb
    subst hb
    obtain ⟨p1, r, rfl⟩ := List.append_of_mem hjb
    have hpp := List.pairwise_append.1 hpw
    have hnd := hL.nodup
    rw [x0, xR] at hnd
    refine ⟨p1, r, rfl, fun x hx => ⟨fun e => (List.nodup_append.1 hnd).2.2 x.1 (List.mem_map.2 ⟨x, hx, rfl⟩) j lP e, ?_⟩, ?_⟩
    ·rcases hpp.2.2 x hx (j, fl j) lP with hd | hd | hd
     ·exact absurd (List.mem_map.2 ⟨x, xI _ hx, rfl⟩) (hdeps x.1 hd)
     ·exact .inl hd
     ·exact .inr hd
    ·rw [x0]
     exact Left.step (by simpa using hL) hedge hj
   have rest : ∀ p ∈ jM2 t, (er j p).length = n ∧ (gsOf (er j p)).length + (if fl j then 0 else 1) = (gsOf p).length ∧ Left ops ((er j p).map Prod.fst) (listed.setIfInBounds j true) ∧ (er j p).Pairwise (MayK ops) ∧ ∀ x ∈ er j p, x.2 = fl x.1 := fun p hpt => by
    obtain ⟨hl, _, _, hpw, hfl⟩ := hp p hpt
    obtain ⟨p1, r, e, h1, h2⟩ := split p hpt
    have he : er j p = p1 ++ r := by rw [e]; exact zJ7 fun x hx => (h1 x hx).1
    have hsub : (er j p).Sublist p := List.eraseP_sublist
    refine ⟨?_, ?_, he ▸ h2, hpw.sublist hsub, fun x hx => hfl x (hsub.subset hx)⟩
    ·rw [he]; rw [e] at hl; simp at hl ⊢; omega
    ·rw [he, e]
     cases hf : fl j <;> simp [gsOf, qJ] <;> omega
   have hpass : Pass ops (j, fl j) t := kX1 t fun p hpt => by
    obtain ⟨p1, r, e, h1, _⟩ := split p hpt
    exact ⟨p1, r, e, h1⟩
   cases hf : fl j with
   | true =>
    rw [hf] at hpass
    have hq : kD8 j t := kI4 t fun p hpt x hx e => by rw [(hp p hpt).2.2.2.2 x hx, e]; exact hf
    obtain ⟨o', v, e, hv, hk⟩ := jY7 hsel t a w hC hpass h
    simp only at e
    refine (hv w hC).wp e <| ih m (rem j t) _ _ w (wS0 m t hq hc) hC (fun p hpt => ?_) hk
    rw [kA6] at hpt
    obtain ⟨q, hq', rfl⟩ := List.mem_map.1 hpt
    obtain ⟨r1, r2, r3, r4, r5⟩ := rest q hq'
    refine ⟨r1, ?_, r3, r4, r5⟩
    have := (hp q hq').2.1
    rw [hf] at r2
    simp at r2
    omega
   | false =>
    rw [hf] at hpass
    have hj0 : j ∈ gsOf (fp t) := by
     obtain ⟨p1, r, e, _⟩ := split _ (jU8 t)
     rw [hf] at e
     exact vS7 (by rw [e]; simp)
    have hm1 : 0 < m := uJ (List.length_pos_of_mem hj0) (hp _ (jU8 t)).2.1
    obtain ⟨m, rfl⟩ : ∃ k, m = k + 1 := ⟨m - 1, by omega⟩
    rw [cov, xB] at hc
    have hc1 := hc j hj0
    rw [zB] at hc1
    rcases hc1 with hc1 | hc1
    ·obtain ⟨i, hi, hij⟩ := List.any_eq_true.1 hc1
     have hdeps := (hp _ (jU8 t)).2.2.1.deps hedge hj i (hA j i (by simpa using hij))
     exact absurd (List.mem_map.2 ⟨(i, false), yE3 hi, rfl⟩) hdeps
    ·cases hr : res j t with
     | none => rw [hr] at hc1; cases hc1
     | some r =>
      rw [hr] at hc1
      have hg := vN7 hC (kI5 hsel t r a w hC hpass hr h)
      refine wpOp_mono (fun b w' hb => ?_) hg
      refine ih m r _ b w' hc1 hb.1 (fun p hpt => ?_) hb.2
      obtain ⟨q, hq', rfl⟩ := kA5 hr p hpt
      obtain ⟨r1, r2, r3, r4, r5⟩ := rest q hq'
      refine ⟨r1, ?_, r3, r4, r5⟩
      have := (hp q hq').2.1
      rw [hf] at r2
      simp at r2
      omega
def wX7 (l : List Oper) (gs : List Nat) (t : Tr) : Bool :=
 Region.noSelect l.toArray && cov (ancs l) gs.length t && ((jM2 t).all fun ls => ordB l (fun i => !gs.contains i) ls && Nat.beq (gsOf ls).length gs.length)
theorem kO1 {N : Frm} {id : Nat} {l : List Oper} {a : Act} {w : World} (gs : List Nat) (t : Tr) (hm : P.follows .mixedOrders = true) (hB : wX7 l gs t = true) (hC : C w.drew) (h : Wt P l.toArray C Q t a w.drew) : wq P N (.region id l.toArray true) Q a w := by
 simp only [wX7, xM, xB] at hB
 obtain ⟨⟨hsel, hcov⟩, hall0⟩ := hB
 have hA := kE8 l
 have ok : ∀ ls ∈ jM2 t, (Left l.toArray (ls.map Prod.fst) (Array.replicate l.toArray.size false) ∧ ls.Pairwise (MayK l.toArray) ∧ ls.length = l.length ∧ (∀ x ∈ ls, x.2 = !gs.contains x.1) ∧ (gsOf ls).length = gs.length) ∧
   (∀ (j : Nat) (o : Oper), l.toArray[j]? = some o → ∀ e ∈ o.after, Region.binds .any e = true → e.on < l.toArray.size) := fun ls hls => by
  obtain ⟨hB, hg⟩ := hall0 ls hls
  simp only [ordB, xM, decide_eq_true_eq, xB] at hB
  obtain ⟨⟨⟨⟨hlen, hnd⟩, hext⟩, hpairs⟩, hfl⟩ := hB
  have hlen := x6 hlen
  obtain ⟨he1, he2⟩ := kB9 hext (by simp) hnd
  have hall : ∀ k, k < l.length → k ∈ ls.map Prod.fst := vG6 l.length _ hnd (by simpa using hlen) (fun x hx => by simpa using he2 x hx)
  refine ⟨⟨⟨hnd, by simp, he2, fun k hk => ?_, he1, fun j o ho hj => absurd (hall j (by simpa using (Array.getElem?_eq_some_iff.1 ho).1)) hj⟩, yW5 hA hpairs, hlen, fun x hx => by simpa using hfl x hx, x6 hg⟩, fun j o ho e he hb =>
   jU9 _ _ hext (by simp) j (hall j (by simpa using (Array.getElem?_eq_some_iff.1 ho).1)) o ho e he hb⟩
  have h1 : k ∈ ls.map Prod.fst := hall k (by simpa using hk)
  have hk' : k < l.length := by simpa using hk
  have h2 : (Array.replicate l.toArray.size false).getD k true = false := by simp [zC, hk']
  exact ⟨fun _ => h1, fun _ => h2⟩
 refine kJ0 hm ?_
 have := yH4 (P := P) (Q := Q) (C := C) hA (Region.noSelect_spec hsel) (ok _ (jU8 t)).2 (fun i => !gs.contains i) l.length gs.length t (Array.replicate l.toArray.size false) a w.drew hcov hC
  (fun ls hls => ⟨(ok ls hls).1.2.2.1, Nat.le_of_eq (ok ls hls).1.2.2.2.2, (ok ls hls).1.1, (ok ls hls).1.2.1, (ok ls hls).1.2.2.2.1⟩) h
 simpa using this
end
def tt (P : Program) (N : Frm) (w0 : World) (Wr : List Nat) (ops : Array Oper) (H0 : Heap) (t : Tr) (fr : Fr) (H : Heap) (Z : Fr → Heap → Prop) : Prop :=
 ∀ (Q : Exit → Act → World → Prop), (∀ fr' H' a w, Z fr' H' → FrOk N fr' a → Sat w0 Wr H' w → Q .normal a w) → ∀ a w, FrOk N fr a → Sat w0 Wr H w → Wt P ops (Sat w0 Wr H0) Q t a w
section
variable {P : Program} {N : Frm} {w0 : World} {Wr : List Nat} {ops : Array Oper} {fr : Fr} {H H0 : Heap} {Z : Fr → Heap → Prop}
theorem kK1 (h : Z fr H) : tt P N w0 Wr ops H0 .nil fr H Z := fun _ hQ a w ha hw => ⟨rfl, hQ _ _ a w h ha hw⟩
theorem vI0 {t u : Tr} (h1 : tt P N w0 Wr ops H0 t fr H Z) (h2 : tt P N w0 Wr ops H0 u fr H Z) : tt P N w0 Wr ops H0 (.fork t u) fr H Z := fun Q hQ a w ha hw => ⟨h1 Q hQ a w ha hw, h2 Q hQ a w ha hw⟩
theorem tt_p {i : Nat} {o : Oper} {t : Tr} (ho : ops[i]? = some o) (h : sv P N w0 Wr ops [o] fr H0 fun fr' _ => tt P N w0 Wr ops H0 t fr' H Z) : tt P N w0 Wr ops H0 (.step (i, true) t) fr H Z :=
 fun Q hQ a w ha hw => by
  obtain ⟨v, hv, hk⟩ := h (fun a => Wt P ops (Sat w0 Wr H0) Q t a w) (fun fr' a ht hf => ht Q hQ a w hf hw) a ha
  exact ⟨o, v, ho, hv, hk⟩
theorem tt_g {i : Nat} {o : Oper} {t : Tr} (ho : ops[i]? = some o) (h : sx P N w0 Wr ops [o] fr H fun fr' H' => HLe H0 H' ∧ tt P N w0 Wr ops H0 t fr' H' Z) : tt P N w0 Wr ops H0 (.step (i, false) t) fr H Z :=
 fun Q hQ a w ha hw => by
  have h1 := h (QN fun _ a w => Sat w0 Wr H0 w ∧ Wt P ops (Sat w0 Wr H0) Q t a w) (fun fr' H' a w ht hf hS => ⟨rfl, ht.1 _ _ _ hS, ht.2 Q hQ a w hf hS⟩) a w ha hw
  show wpOp P ops (QN Q) i (fun a w' => Sat w0 Wr H0 w' ∧ Wt P ops (Sat w0 Wr H0) Q t a w') a w
  refine kG7 (Q := fun _ a w => Sat w0 Wr H0 w ∧ Wt P ops (Sat w0 Wr H0) Q t a w) ho ?_
  unfold wpOp
  simp only [ho]
  unfold wpList at h1
  split
  ·rename_i hw'
   rw [if_pos hw'] at h1
   exact h1.imp (Oper.wp_mono fun a w hh => hh.2) id
  ·rename_i hw'
   rw [if_neg hw'] at h1
   exact h1.2
end
theorem kS1 {P : Program} {N : Frm} {w0 : World} {Wr : List Nat} {fr : Fr} {H : Heap} {Q : Exit → Act → World → Prop} {id : Nat} {l : List Oper} {ι : Type} (F : ι → Fr) (HH : ι → Heap) (I : ι → Prop) (H0 : Heap) (gs : List Nat) (t : Tr) (hm : P.follows .mixedOrders = true) (hB : wX7 l gs t = true) (hk : HLe H0 H)
  (h : tt P N w0 Wr l.toArray H0 t fr H fun fr' H' => ∃ j, I j ∧ Kn (F j) fr' ∧ HLe (HH j) H')
  (hy : ∀ j, I j → nx N w0 Wr (F j) (HH j) Q .normal) : awp P N w0 Wr (.region id l.toArray true) fr H Q :=
 fun a w ha hw => kO1 (C := Sat w0 Wr H0) gs t hm hB (hk _ _ _ hw.drew)
  (h Q (fun fr' H' a w ⟨j, hj, hf, hh⟩ ha hs => hy j hj a w (ha.kn hf) (hh _ _ _ hs)) a w.drew ha hw.drew)
theorem jQ3 {P : Program} {N : Frm} {w0 : World} {Wr : List Nat} {fr : Fr} {H : Heap} {Q : Exit → Act → World → Prop} {id : Nat} {l : List Oper} {y : Code} {ι : Type} (F : ι → Fr) (HH : ι → Heap) (I : ι → Prop) (H0 : Heap) (gs : List Nat) (t : Tr) (hm : P.follows .mixedOrders = true) (hB : wX7 l gs t = true) (hk : HLe H0 H)
  (h : tt P N w0 Wr l.toArray H0 t fr H fun fr' H' => ∃ j, I j ∧ Kn (F j) fr' ∧ HLe (HH j) H')
  (hy : ∀ j, I j → awp P N w0 Wr y (F j) (HH j) Q) : awp P N w0 Wr (.seq (.region id l.toArray true) y) fr H Q :=
 aS (kS1 F HH I H0 gs t hm hB hk h fun j hj => hy j hj)
def Wrs (T : Heap) : Prop := ∀ e ∈ T, e.wr = true
theorem Wrs.nil : Wrs [] := fun _ h => by cases h
theorem Wrs.cons {e : Ent} {T : Heap} (he : e.wr = true) (h : Wrs T) : Wrs (e :: T) := fun x hx => by
 rcases List.mem_cons.1 hx with rfl | hx
 ·exact he
 ·exact h x hx
theorem Wrs.append {T U : Heap} (h : Wrs T) (k : Wrs U) : Wrs (T ++ U) := fun e he => (List.mem_append.1 he).elim (h e) (k e)
theorem Wrs.filter {T : Heap} (h : Wrs T) : T.filter Ent.wr = T := List.filter_eq_self.2 h
def jK0 : Obj → Prop := fun o => o = .deferred (some [])
def jJ3 (r : Loop) : Obj → Prop := fun o => o = .loop r
def YRun (P : Program) (l : Nat) (vs : List Value) (w : World) (R : Ending → World → Prop) : Prop :=
 ∃ f tmps assign body, (Instr.yield l vs.toArray).run P w = .ok (.round l f tmps assign body) w ∧ RoundIn Fence.wide 0 P l f tmps assign body w R
def YOk (P : Program) (l : Nat) (vs : List Value) (H : Heap) (R : Value → Heap → Prop) : Prop :=
 ∀ w, Sat w (wrs H) H w → YRun P l vs w fun e w' => ∃ v H', e = .returned v ∧ R v H' ∧ Sat w (wrs H) H' w'
def Goes (J S : Heap → Prop) (v : Value) (H' : Heap) : Prop := ∃ b, v = .bool b ∧ (b = true → J H') ∧ (b = false → S H')
def Iter (P : Program) (f : FuncId) (caps : List Value) (RO : Heap) (items : List (List Value)) : Prop :=
 ∀ (l : Nat) (J : Nat → Heap → Prop) (Jr : Heap) (S : Heap → Prop), (∀ k T, J k T → Wrs T) → (∀ T, S T → Wrs T) → Ro Jr →
  (∀ k vs T, items[k]? = some vs → J k T → YOk P l vs (T ++ Jr) (Goes (J (k + 1)) S)) →
  ∀ T, J 0 T → Fn P f (.func (.yield l) #[] #[] :: caps) (RO ++ (T ++ Jr)) fun _ H' => J items.length H' ∨ S H'
def zM4 (P : Program) (f : FuncId) (caps : List Value) (RO X : Heap) {ι : Type} (i0 : ι) (Nx : ι → List Value → ι → Prop) (Fin : ι → Prop) : Prop :=
 ∀ (l : Nat) (J : ι → Heap → Prop) (Jr : Heap) (S : Heap → Prop), (∀ i T, J i T → Wrs T) → (∀ i T, J i T → X.Sublist T) → (∀ T, S T → Wrs T) → Ro Jr →
  (∀ i vs i' T, Nx i vs i' → J i T → YOk P l vs (T ++ Jr) (Goes (J i') S)) →
  ∀ T, J i0 T → Fn P f (.func (.yield l) #[] #[] :: caps) (RO ++ (T ++ Jr)) fun _ H' => (∃ i, Fin i ∧ J i H') ∨ S H'
theorem Iter.gen {P : Program} {f : FuncId} {caps : List Value} {RO : Heap} {items : List (List Value)} (h : Iter P f caps RO items) : zM4 P f caps RO [] 0 (fun k vs k' => items[k]? = some vs ∧ k' = k + 1) (· = items.length) :=
 fun l J Jr S h1 _ h3 h4 h5 T hT => by
  obtain ⟨a, b⟩ := h l J Jr S h1 h3 h4 (fun k vs T hk hJ => h5 k vs (k + 1) T ⟨hk, rfl⟩ hJ) T hT
  exact ⟨a, fun w hw => (b w hw).mono fun e w' he => by
   obtain ⟨v, H', e1, e2, e3⟩ := he
   exact ⟨v, H', e1, e2.imp (fun x => ⟨_, rfl, x⟩) id, e3⟩⟩
section
variable {P : Program} {N : Frm} {w0 : World} {Wr : List Nat} {ops : Array Oper} {rest : List Oper} {fr : Fr} {H : Heap} {Z : Fr → Heap → Prop}
variable {d ty : Nat} {pos : String} {after : Array Edge}
def sy (P : Program) (N : Frm) (w0 : World) (Wr : List Nat) (ops : Array Oper) (l : List Oper) (fr : Fr) (H : Heap) (Z : Fr → Heap → Prop) : Prop :=
 ∀ (Q : Exit → Act → World → Prop), (∀ fr' H' a w, Z fr' H' → FrOk N fr' a → Sat w0 Wr H' w → Q .normal a w) → ∀ a w, FrOk N fr a → Sat w0 Wr H w → wpListIn N.fence 0 P ops Q l a w
theorem vP1 (h : Z fr H) : sy P N w0 Wr ops [] fr H Z := fun _ hQ a w ha hw => hQ _ _ a w h ha hw
theorem wJ6 {o : Oper} {a : Act} {w : World} {K : Act → World → Prop} {Q Q' : Exit → Act → World → Prop} (hp : jS1 o = true) (h : o.wp P a w K (QN Q')) : o.wpIn N.fence 0 P a w K Q := by
 have h := yU4 (N := N) (fun _ => hp) h
 unfold Oper.wpIn at h ⊢
 refine ⟨h.1, ?_⟩
 have h := h.2
 generalize (o.semAt N.fence.round a.eval).run P w = r at h ⊢
 cases r with
 | ok n w' =>
  cases n <;> simp only [Oper.uponIn] at h ⊢ <;> first
   | exact h
   | exact ⟨h.1, CallsIn.mono h.2 (fun e w'' he => by cases e <;> first | exact he | exact (jV3 he).elim | (cases he.1))⟩
   | exact ⟨h.1, RoundIn.mono h.2 (fun e w'' he => by cases e <;> first | exact he | exact (jV3 he).elim | (cases he.1))⟩
 | halt x w' => cases x <;> simp only [Oper.uponIn] at h ⊢ <;> first | exact h | exact h.elim | (cases h.1)
theorem sy_x {o : Oper} (hp : jS1 o = true) (h : sx P N w0 Wr ops [o] fr H fun fr' H' => sy P N w0 Wr ops rest fr' H' Z) : sy P N w0 Wr ops (o :: rest) fr H Z :=
 fun Q hQ a w ha hw => by
  have h1 := h (QN fun _ a w => wpListIn N.fence 0 P ops Q rest a w) (fun fr' H' a w ht hf hS => ⟨rfl, ht Q hQ a w hf hS⟩) a w ha hw
  unfold wpList at h1
  unfold wpListIn
  split
  ·rename_i hw'
   rw [if_pos hw'] at h1
   exact Oper.wpIn_mono (fun a w hh => hh.2) (wJ6 hp (h1.resolve_right fun h => jV3 h.2))
  ·rename_i hw'
   rw [if_neg hw'] at h1
   exact ⟨fun _ _ => trivial, h1.2⟩
theorem vJ4 {l : Nat} {vs : List Value} {xs : List Operand} {x : Operand} {ts : Array TypeId} {ρ : Operand → Value} (hx : xs.map ρ = vs) (hf : ρ x = .func (.yield l) #[] #[]) {dst : Option Nat} {w : World} :
  (execOp ρ ⟨dst, .call { callee := .value x, args := xs.toArray, argTypes := ts }, ty, pos, after, none⟩).run P w = (Instr.yield l vs.toArray).run P w := by
 subst hx
 simp [execOp, resolve, hf, Deferred.ofValue, invoke]
theorem wD0 {l : Nat} {x : Operand} {xs : List Operand} {vs : List Value} {ts : Array TypeId} {R : Value → Heap → Prop} (hf : ev fr x = some (.func (.yield l) #[] #[])) (hx : evs fr xs = some vs) (hN : bN d N)
  (hc : ∀ w, Sat w0 Wr H w → YRun P l vs w fun e w' => ∃ v H', e = .returned v ∧ R v H' ∧ Sat w0 Wr H' w')
  (h : ∀ v H', R v H' → sy P N w0 Wr ops rest ((d, v) :: fr) H' Z) :
  sy P N w0 Wr ops (⟨some d, .call { callee := .value x, args := xs.toArray, argTypes := ts }, ty, pos, after, none⟩ :: rest) fr H Z :=
 fun Q hQ a w ha hw => wpListIn_plain rfl fun K hK => by
  obtain ⟨f, tmps, assign, body, hrun, hR⟩ := hc w hw
  unfold Oper.wpIn
  refine ⟨fun _ _ => trivial, ?_⟩
  rw [Oper.semAt_eq _ _ _ (fun c hc => by cases hc), vJ4 (ha.evals hx) (ha.eval hf), hrun]
  refine ⟨(fun e => by cases e), RoundIn.mono (show RoundIn N.fence (0 - 1) P l f tmps assign body w _ from hR) fun e w' he => ?_⟩
  obtain ⟨v, H', rfl, hv, hS⟩ := he
  exact hK _ _ (h v H' hv Q hQ _ _ (ha.put hN v) hS)
theorem kH7 {l : Nat} {x : Operand} {xs : List Operand} {vs : List Value} {ts : Array TypeId} {R : Value → Heap → Prop} (A T K U : Heap) (hc : YOk P l vs (T ++ U) R) (hf : ev fr x = some (.func (.yield l) #[] #[])) (hx : evs fr xs = some vs) (hH : H = A ++ (T ++ K)) (hU : U.Sublist K) (hroU : Ro U) (hN : bN d N)
  (h : ∀ v T', R v T' → sy P N w0 Wr ops rest ((d, v) :: fr) (A ++ (T'.filter Ent.wr ++ K)) Z) :
  sy P N w0 Wr ops (⟨some d, .call { callee := .value x, args := xs.toArray, argTypes := ts }, ty, pos, after, none⟩ :: rest) fr H Z :=
 wD0 (R := fun v H2 => ∃ T', R v T' ∧ H2 = A ++ (T'.filter Ent.wr ++ K)) hf hx hN (fun w hw => by
  subst hH
  have hw' := HLe.comm3 A T K _ _ _ hw
  have hpre : Sat w (wrs (T ++ U)) (T ++ U) w := by
   have hsub := hw'.sub (uE (hU.trans (lX A K)) T)
   exact ⟨Only.refl _ _, fun e he => ⟨(hsub.ents e he).1, fun h => .inl (mem_wrs.2 ⟨e, he, h, rfl⟩)⟩, hsub.sep⟩
  obtain ⟨f, tmps, assign, body, hrun, hR⟩ := hc w hpre
  exact ⟨f, tmps, assign, body, hrun, hR.mono fun e w' he => by
   obtain ⟨v, H', h1, h2, h3⟩ := he
   exact ⟨v, _, h1, ⟨H', h2, rfl⟩, HLe.comm3 _ A K _ _ _ (hw'.callA hroU h3)⟩⟩) (fun v H2 hR => by obtain ⟨H', hR, rfl⟩ := hR; exact h v H' hR)
end
section
variable {P : Program} {N : Frm} {w0 : World} {Wr : List Nat} {fr : Fr} {H : Heap} {Q : Exit → Act → World → Prop}
theorem vZ4 {id : Nat} {l : List Oper} (h : ∀ Z : Fr → Heap → Prop, (∀ fr H, nx N w0 Wr fr H Q .normal → Z fr H) → sy P N w0 Wr l.toArray l fr H Z) : awp P N w0 Wr (.region id l.toArray false) fr H Q :=
 fun a w ha hw _ => wpIn_region_lit (h (fun fr H => nx N w0 Wr fr H Q .normal) (fun _ _ h => h) Q (fun fr' H' a w hz hf hs => hz a w hf hs) a w ha hw)
theorem jM9 {id : Nat} {l : List Oper} {y : Code} (h : ∀ Z : Fr → Heap → Prop, (∀ fr H, awp P N w0 Wr y fr H Q → Z fr H) → sy P N w0 Wr l.toArray l fr H Z) : awp P N w0 Wr (.seq (.region id l.toArray false) y) fr H Q :=
 aS (vZ4 fun Z hZ => h Z fun fr H hy => hZ fr H hy)
end
end
section
open Go.RowKit
section
variable {P : Program} {w0 w w' : World} {Wr : List Nat} {H : Heap}
theorem Only.putObj (w : World) (l : Nat) (o : Obj) : Only [l] w (w.putObj l o) :=
 ⟨rfl, rfl, rfl, by simp, fun i _ hi => World.putObj_heap_other (by simpa using hi)⟩
theorem Sat.turnOut {l : Nat} {o : Obj} (h : Sat w0 Wr H w) (hl : l ∈ Wr ∨ w0.heap.size ≤ l) (hn : ∀ e ∈ H, e.g ≠ l) : Sat w0 Wr H (w.putObj l o) :=
 ⟨h.only.trans (Only.putObj w l o) (by simpa using hl), fun e he => ⟨Ent.keep (h.ents e he).1 (by simp) (World.putObj_heap_other (hn e he)), (h.ents e he).2⟩, h.sep⟩
theorem Sat.base (h : Sat w0 Wr H w) : Sat w (wrs H) H w := ⟨Only.refl _ _, fun e he => ⟨(h.ents e he).1, fun hw => .inl (mem_wrs.2 ⟨e, he, hw, rfl⟩)⟩, h.sep⟩
theorem Sat.head {e : Ent} (h : Sat w0 Wr (e :: H) w) (he : e.wr = true) : ∀ x ∈ H, x.g ≠ e.g := fun x hx => by
 have := (List.pairwise_cons.1 h.sep).1 x hx (by simp [he])
 exact fun hg => this hg.symm
theorem Sat.tail {e : Ent} (h : Sat w0 Wr (e :: H) w) : Sat w0 Wr H w := h.sub (qX _ _)
theorem Sat.consW {e : Ent} (h : Sat w0 Wr H w) (he : e.holds w) (hw : e.g ∈ Wr ∨ w0.heap.size ≤ e.g) (hn : ∀ x ∈ H, x.g ≠ e.g) : Sat w0 Wr (e :: H) w :=
 ⟨h.only, fun x hx => by
  rcases List.mem_cons.1 hx with rfl | hx
  ·exact ⟨he, fun _ => hw⟩
  ·exact h.ents x hx, zP (fun x hx _ hg => hn x hx hg.symm) h.sep⟩
end
def yI0 (w0 : World) (Wr : List Nat) (J : Heap → Prop) (S : Code → Heap → Prop) : Exit → Act → World → Prop
 | .normal, _, w => ∃ T, J T ∧ Sat w0 Wr T w
 | .ret, _, w => ∃ T, S .ret T ∧ Sat w0 Wr T w
 | .exit id, _, w => ∃ T, S (.exit id) T ∧ Sat w0 Wr T w
 | _, _, _ => False
def yI1 (N : Frm) (w0 : World) (Wr : List Nat) (H : Heap) (Z : Fr → Heap → Prop) : Exit → Act → World → Prop :=
 fun e a w => e = .normal ∧ ∃ fr1 X, Wrs X ∧ Z fr1 X ∧ FrOk N fr1 a ∧ Sat w0 Wr (X ++ H) w
def kS5 : List Nat → List Value → Fr → Fr
 | p :: ps, v :: vs, fr => kS5 ps vs ((p, v) :: fr)
 | _, _, fr => fr
theorem kO8 {N : Frm} {l : Option Nat} : ∀ (ps : List Nat) (vs : List Value) (fr : Fr) (tmps : Array Value), ps.all (fun p => Nat.ble (p + 1) N.n) = true → FrOk N fr { tmps := tmps, defers := N.ds.map jS7 } →
  FrOk ⟨N.n, l, []⟩ (kS5 ps vs fr) { tmps := (ps.zip vs).foldl (fun tmps (t, a) => tmps.setIfInBounds t a) tmps, defers := [] }
 | [], vs, fr, tmps, _, h => by
  simp only [kS5]
  exact ⟨by simpa using h.size, rfl, fun t v hv => by simpa using h.at_ t v hv⟩
 | p :: ps, [], fr, tmps, _, h => by
  simp only [kS5]
  exact ⟨by simpa using h.size, rfl, fun t v hv => by simpa using h.at_ t v hv⟩
 | p :: ps, v :: vs, fr, tmps, hp, h => by
  simp only [List.all_cons, xM] at hp
  have := kO8 (l := l) ps vs ((p, v) :: fr) (tmps.setIfInBounds p v) hp.2 (h.put hp.1 v)
  simpa [kS5] using this
theorem wV6 {N : Frm} {l : Option Nat} (ps : List Nat) (vs : List Value) (fr : Fr) (tmps : Array Value) (hp : ps.all (fun p => Nat.ble (p + 1) N.n) = true) (h : FrOk N fr { tmps := tmps, defers := N.ds.map jS7 }) :
  FrOk ⟨N.n, l, []⟩ (kS5 ps vs fr) { tmps := (ps.toArray.zip vs.toArray).foldl (fun tmps (t, a) => tmps.setIfInBounds t a) tmps, defers := [] } := by
 rw [List.zip_toArray, List.foldl_toArray]
 exact kO8 ps vs fr tmps hp h
section
variable {P : Program} {n : Nat} {ds : List Mk} {w0 : World} {Wr : List Nat} {fr : Fr} {H : Heap} {Q : Exit → Act → World → Prop}
theorem kA8 {N : Frm} {Z : Fr → Heap → Prop} {K : Heap} (X : Heap) (hX : Wrs X) (hH : HLe (X ++ K) H) (h : Z fr X) : nx N w0 Wr fr H (yI1 N w0 Wr K Z) .normal :=
 fun _ _ ha hw => ⟨rfl, fr, X, hX, h, ha, hH _ _ _ hw⟩
theorem kE0 {N : Frm} {J : Heap → Prop} {S : Code → Heap → Prop} (T : Heap) (hJ : J T) (hH : HLe T H) : nx N w0 Wr fr H (yI0 w0 Wr J S) .normal := fun _ _ _ hw => ⟨T, hJ, hH _ _ _ hw⟩
theorem yA0 {l D : Nat} {rec : LoopState → Option Code → Loop} {ps : List Nat} {assign body : Code} {tmps : Array Value} {vs : List Value} {J Jr : Heap} {J' : Heap → Prop} {S : Code → Heap → Prop}
  (hrec : ∃ fn, rec = fun st pe => { state := st, pending := pe, fn, tmps, params := ps.toArray, assign, body, defers := D })
  (hvs : vs.length = ps.length) (hf : FrOk ⟨n, none, ds⟩ fr { tmps := tmps, defers := ds.map jS7 }) (hN : ps.all (fun p => Nat.ble (p + 1) n) = true) (hJ' : ∀ T, J' T → Wrs T) (hS : ∀ c T, S c T → Wrs T) (hJr : Ro Jr)
  (hround : ∀ w0, awp P ⟨n, some l, []⟩ w0 (wrs (J ++ Jr)) assign (kS5 ps vs fr) (J ++ Jr) (yI1 ⟨n, some l, []⟩ w0 (wrs (J ++ Jr)) (J ++ Jr) fun fr1 X => ∀ w2, awp P ⟨n, some l, []⟩ w2 (wrs (X ++ (J ++ Jr))) body fr1 (X ++ (J ++ Jr)) (yI0 w2 (wrs (X ++ (J ++ Jr))) J' S)))
  (hpl : jH9 assign = true ∧ jH9 body = true) :
  YOk P l vs ((.ob l (jJ3 (rec .ready none)) :: .ob D jK0 :: J) ++ Jr) (Goes (fun T => ∃ T', J' T' ∧ T = .ob l (jJ3 (rec .ready none)) :: .ob D jK0 :: T') fun T => ∃ c T', S c T' ∧ T = .ob l (jJ3 (rec .done (some c))) :: .ob D jK0 :: T') := by
 obtain ⟨fn, hrec⟩ := hrec
 intro w hw
 have hl : w.heap[l]? = some (.loop (rec .ready none)) := by
  obtain ⟨o, h1, h2⟩ := (hw.ents _ lP).1
  rw [h1, h2]
 have hD : w.heap[D]? = some (.deferred (some [])) := by
  obtain ⟨o, h1, h2⟩ := (hw.ents _ (lU _ lP)).1
  rw [h1, h2]
 have hlD : l ≠ D := fun e => by subst e; rw [hl] at hD; cases hD
 have hlt : l < w.heap.size := (Array.getElem?_eq_some_iff.1 hl).1
 have hDt : D < w.heap.size := (Array.getElem?_eq_some_iff.1 hD).1
 have hnl : ∀ x ∈ J ++ Jr, x.g ≠ l := fun x hx => hw.head rfl x (lU _ hx)
 have hnD : ∀ x ∈ J ++ Jr, x.g ≠ D := fun x hx => hw.tail.head rfl x hx
 have hwJ : Sat w (wrs (J ++ Jr)) (J ++ Jr) w := hw.tail.tail.base
 have hy := run_yield (P := P) (w := w) (args := vs.toArray) hl (by rw [hrec]; simp [hvs])
 rw [hrec] at hy
 refine ⟨fn, _, assign, body, hy, roundIn_of_wpIn trivial ?_⟩
 have ha := hround w _ w (wV6 (l := some l) ps vs fr tmps hN hf) hwJ (fun _ => hpl.1)
 refine Go.wpIn_mono ha ?_
 rintro e a1 w1 ⟨rfl, fr1, X, hX, hb, hfr1, hw1⟩
 have hs1 : w.heap.size ≤ w1.heap.size := hw1.only.size
 have hl1 : w1.heap[l]? = some (.loop (rec .ready none)) := (hw1.only.block l hlt (fun hm => by obtain ⟨x, hx, _, hg⟩ := mem_wrs.1 hm; exact hnl x hx hg)).trans hl
 have hD1 : w1.heap[D]? = some (.deferred (some [])) := (hw1.only.block D hDt (fun hm => by obtain ⟨x, hx, _, hg⟩ := mem_wrs.1 hm; exact hnD x hx hg)).trans hD
 have hXg : ∀ k, k < w.heap.size → (∀ x ∈ J ++ Jr, x.g ≠ k) → ∀ x ∈ X ++ (J ++ Jr), x.g ≠ k := fun k hk hn x hx => by
  rcases List.mem_append.1 hx with hx | hx
  ·rcases (hw1.ents x (xI _ hx)).2 (hX x hx) with h1 | h1
   ·obtain ⟨y, hy, _, hg⟩ := mem_wrs.1 h1
    exact hg ▸ hn y hy
   ·omega
  ·exact hn x hx
 have hXl := hXg l hlt hnl
 have hXD := hXg D hDt hnD
 obtain ⟨w2, hw2e⟩ := xZ9 (w1.putObj l (.loop { rec .ready none with state := .busy }))
 have hbr := run_beginRound (P := P) hl1 (by rw [hrec])
 rw [hw2e] at hbr
 refine ⟨w2, hbr, ?_⟩
 have hbusy : ({ rec .ready none with state := .busy } : Loop) = rec .busy none := by rw [hrec]
 have hl2 : w2.heap[l]? = some (.loop (rec .busy none)) := by rw [← hw2e, hbusy]; exact World.putObj_heap_same (by omega)
 have hD2 : w2.heap[D]? = some (.deferred (some [])) := by rw [← hw2e]; exact (World.putObj_heap_other (Ne.symm hlD)).trans hD1
 have hs2 : w2.heap.size = w1.heap.size := by rw [← hw2e]; simp
 have hw2 : Sat w2 (wrs (X ++ (J ++ Jr))) (X ++ (J ++ Jr)) w2 := by
  have h1 : Sat w1 (wrs (X ++ (J ++ Jr))) (X ++ (J ++ Jr)) w1 := hw1.base
  have h2 : Sat w1 (l :: wrs (X ++ (J ++ Jr))) (X ++ (J ++ Jr)) w1 := ⟨⟨rfl, rfl, rfl, xP _, fun _ _ _ => rfl⟩, fun e he => ⟨(h1.ents e he).1, fun hh => ((h1.ents e he).2 hh).imp (lU _) id⟩, h1.sep⟩
  rw [← hw2e]
  exact (h2.turnOut (.inl lP) hXl).base
 have ho2 : Only (l :: wrs (J ++ Jr)) w w2 := by
  rw [← hw2e]
  refine (Only.trans (Wr := l :: wrs (J ++ Jr)) (Wr' := [l]) (w2 := w1.putObj l _) ⟨hw1.only.os, hw1.only.tape, hw1.only.output, hw1.only.size, fun i hi hn => hw1.only.block i hi (fun hm => hn (lU _ hm))⟩ (Only.putObj w1 l _) ?_)
  simp
 have hb2 := hb w2 a1 w2 hfr1 hw2 (fun _ => hpl.2)
 refine Go.wpIn_mono hb2 ?_
 have fin : ∀ (jump : Option Code) (T : Heap) (w3 : World), Wrs T → Sat w2 (wrs (X ++ (J ++ Jr))) T w3 → ∃ w4, (Instr.endRound l jump).run P w3 = .ok (.bool jump.isNone) w4 ∧
   Sat w (wrs ((.ob l (jJ3 (rec .ready none)) :: .ob D jK0 :: J) ++ Jr)) (.ob l (jJ3 (rec (if jump.isNone then .ready else .done) jump)) :: .ob D jK0 :: T) w4 := fun jump T w3 hT h3 => by
  have hl3 : w3.heap[l]? = some (.loop (rec .busy none)) := (h3.only.block l (by omega) (fun hm => by obtain ⟨x, hx, _, hg⟩ := mem_wrs.1 hm; exact hXl x hx hg)).trans hl2
  have hD3 : w3.heap[D]? = some (.deferred (some [])) := (h3.only.block D (by omega) (fun hm => by obtain ⟨x, hx, _, hg⟩ := mem_wrs.1 hm; exact hXD x hx hg)).trans hD2
  have hlt3 : l < w3.heap.size := (Array.getElem?_eq_some_iff.1 hl3).1
  have hend := run_endRound (P := P) jump hl3
  have hre : ({ rec .busy none with state := if jump.isNone then .ready else .done, pending := jump } : Loop) = rec (if jump.isNone then .ready else .done) jump := by rw [hrec]
  rw [hre] at hend
  refine ⟨_, hend, ?_⟩
  have hTg : ∀ k, k < w.heap.size → (∀ x ∈ X ++ (J ++ Jr), x.g ≠ k) → ∀ x ∈ T, x.g ≠ k := fun k hk hn x hx => by
   rcases (h3.ents x hx).2 (hT x hx) with h1 | h1
   ·obtain ⟨y, hy, _, hg⟩ := mem_wrs.1 h1
    exact hg ▸ hn y hy
   ·omega
  have hin : ∀ i ∈ wrs (X ++ (J ++ Jr)), i ∈ wrs ((.ob l (jJ3 (rec .ready none)) :: .ob D jK0 :: J) ++ Jr) ∨ w.heap.size ≤ i := fun i hi => by
   obtain ⟨x, hx, hxw, rfl⟩ := mem_wrs.1 hi
   rcases List.mem_append.1 hx with hx | hx
   ·rcases (hw1.ents x (xI _ hx)).2 hxw with h1 | h1
    ·obtain ⟨y, hy, hyw, hg⟩ := mem_wrs.1 h1
     exact .inl (mem_wrs.2 ⟨y, lU _ (lU _ hy), hyw, hg⟩)
    ·exact .inr h1
   ·exact .inl (mem_wrs.2 ⟨x, lU _ (lU _ hx), hxw, rfl⟩)
  have hlW : l ∈ wrs ((.ob l (jJ3 (rec .ready none)) :: .ob D jK0 :: J) ++ Jr) := mem_wrs.2 ⟨_, lP, rfl, rfl⟩
  have hDW : D ∈ wrs ((.ob l (jJ3 (rec .ready none)) :: .ob D jK0 :: J) ++ Jr) := mem_wrs.2 ⟨_, lU _ lP, rfl, rfl⟩
  have ho3 : Only (wrs ((.ob l (jJ3 (rec .ready none)) :: .ob D jK0 :: J) ++ Jr)) w w3 := by
   refine Only.trans (w := w2) ⟨ho2.os, ho2.tape, ho2.output, ho2.size, fun i hi hn => ho2.block i hi (fun hm => hn ?_)⟩ h3.only hin
   rcases List.mem_cons.1 hm with rfl | hm
   ·exact hlW
   ·obtain ⟨x, hx, hxw, rfl⟩ := mem_wrs.1 hm
    exact mem_wrs.2 ⟨x, lU _ (lU _ hx), hxw, rfl⟩
  have hT3 : Sat w (wrs ((.ob l (jJ3 (rec .ready none)) :: .ob D jK0 :: J) ++ Jr)) T w3 := ⟨ho3, fun e he => ⟨(h3.ents e he).1, fun hh => ((h3.ents e he).2 hh).elim (hin _) (fun h => .inr (by omega))⟩, h3.sep⟩
  have hT4 := hT3.turnOut (o := .loop (rec (if jump.isNone then .ready else .done) jump)) (.inl hlW) (hTg l hlt hXl)
  refine Sat.consW (Sat.consW hT4 ⟨_, (World.putObj_heap_other (Ne.symm hlD)).trans hD3, rfl⟩ (.inl hDW) (hTg D hDt hXD)) ⟨_, World.putObj_heap_same hlt3, rfl⟩ (.inl hlW) (fun x hx => ?_)
  rcases List.mem_cons.1 hx with rfl | hx
  ·exact Ne.symm hlD
  ·exact hTg l hlt hXl x hx
 rintro e a3 w3 hp
 cases e with
 | normal =>
  obtain ⟨T, hT, hp⟩ := hp
  obtain ⟨w4, h1, h2⟩ := fin none T w3 (hJ' T hT) hp
  exact ⟨_, w4, h1, _, _, rfl, ⟨true, rfl, fun _ => ⟨T, hT, rfl⟩, fun e => by cases e⟩, h2⟩
 | ret =>
  obtain ⟨T, hT, hp⟩ := hp
  obtain ⟨w4, h1, h2⟩ := fin (some .ret) T w3 (hS _ _ hT) hp
  exact ⟨_, w4, h1, _, _, rfl, ⟨false, rfl, (fun e => by cases e), fun _ => ⟨_, T, hT, rfl⟩⟩, h2⟩
 | exit id =>
  obtain ⟨T, hT, hp⟩ := hp
  obtain ⟨w4, h1, h2⟩ := fin (some (.exit id)) T w3 (hS _ _ hT) hp
  exact ⟨_, w4, h1, _, _, rfl, ⟨false, rfl, (fun e => by cases e), fun _ => ⟨_, T, hT, rfl⟩⟩, h2⟩
 | goto t => exact hp.elim
 | panic ch => exact hp.elim
 | outgrown => exact hp.elim
theorem vZ7 {ι : Type} {i0 : ι} {Nx : ι → List Value → ι → Prop} {Fin : ι → Prop} {X : Heap} {g : Operand} {ps : List Nat} {assign body : Code} {f : FuncId} {caps : List Value} {RO : Heap} (J : ι → Heap → Prop) (Jr : Heap) (S : Code → Heap → Prop) (T0 : Heap) (hit : zM4 P f caps RO X i0 Nx Fin)
  (hg : ev fr g = some (.func (.func f) #[] caps.toArray)) (hJ : ∀ k T, J k T → Wrs T) (hX : ∀ k T, J k T → X.Sublist T) (hS : ∀ c T, S c T → Wrs T) (hJr : Ro Jr) (hRO : Ro RO)
  (hps : ∀ i vs i', Nx i vs i' → vs.length = ps.length) (hN : ps.all (fun p => Nat.ble (p + 1) n) = true) (h0 : J i0 T0) (hH : HLe (T0 ++ (RO ++ Jr)) H) (hpl : (jH9 assign && jH9 body) = true)
  (hround : ∀ k vs k' T, Nx k vs k' → J k T → ∀ l w0, awp P ⟨n, some l, []⟩ w0 (wrs (T ++ Jr)) assign (kS5 ps vs fr) (T ++ Jr) (yI1 ⟨n, some l, []⟩ w0 (wrs (T ++ Jr)) (T ++ Jr) fun fr1 X => ∀ w2, awp P ⟨n, some l, []⟩ w2 (wrs (X ++ (T ++ Jr))) body fr1 (X ++ (T ++ Jr)) (yI0 w2 (wrs (X ++ (T ++ Jr))) (J k') S)))
  (hdone : ∀ (D : Nat) i T, Fin i → J i T → nx ⟨n, none, D :: ds⟩ w0 Wr fr (.ob D jK0 :: (T ++ (RO ++ Jr))) Q .normal)
  (hstop : ∀ (D : Nat) c T, S c T → awp P ⟨n, none, D :: ds⟩ w0 Wr c fr (.ob D jK0 :: (T ++ (RO ++ Jr))) Q) :
  awp P ⟨n, none, ds⟩ w0 Wr (.rangeFunc g ps.toArray assign body) fr H Q := fun a w ha hw _ => by
 simp only [xM] at hpl
 have hw0 := hH _ _ _ hw
 refine wpIn_rangeFunc ?_
 intro fn _
 obtain ⟨rec, hrec⟩ : ∃ rec : LoopState → Option Code → Loop, rec = fun st pe => { state := st, pending := pe, fn, tmps := a.tmps, params := ps.toArray, assign, body, defers := w.heap.size } := ⟨_, rfl⟩
 obtain ⟨w1, hw1e⟩ := xZ9 ((w.alloc (.deferred (some []))).alloc (.loop (rec .ready none)))
 obtain ⟨L, hLe⟩ := xZ9 (w.heap.size + 1)
 obtain ⟨D, hDe⟩ := xZ9 (w.heap.size)
 have hw1 : Sat w0 Wr ((.ob L (jJ3 (rec .ready none)) :: .ob D jK0 :: T0) ++ (RO ++ Jr)) w1 := by
  have h1 := (hw0.allocOb (.deferred (some [])) jK0 rfl).allocOb (.loop (rec .ready none)) (jJ3 (rec .ready none)) rfl
  rw [World.size_alloc, hw1e, hLe, hDe] at h1
  exact h1
 rw [hDe] at hrec
 have hFn : Fn P f (.func (.yield L) #[] #[] :: caps) _ _ := hit L (fun k T => ∃ T', J k T' ∧ T = .ob L (jJ3 (rec .ready none)) :: .ob D jK0 :: T') Jr
  (fun T => ∃ c T', S c T' ∧ T = .ob L (jJ3 (rec .done (some c))) :: .ob D jK0 :: T')
  (fun k T ⟨T', h1, h2⟩ => h2 ▸ .cons rfl (.cons rfl (hJ k T' h1))) (fun k T ⟨T', h1, h2⟩ => h2 ▸ .cons _ (.cons _ (hX k T' h1))) (fun T ⟨c, T', h1, h2⟩ => h2 ▸ .cons rfl (.cons rfl (hS c T' h1))) hJr
  (fun k vs k' T hk ⟨T', h1, h2⟩ => by
   subst h2
   exact yA0 ⟨fn, hrec⟩ (hps k vs k' hk) ⟨ha.size, rfl, ha.at_⟩ hN (hJ k') hS hJr (hround k vs k' T' hk h1 L) hpl)
  (.ob L (jJ3 (rec .ready none)) :: .ob D jK0 :: T0) ⟨T0, h0, rfl⟩
 have hroU : Ro (RO ++ Jr) := hRO.append hJr
 have hcall : Calls P f (.func (.yield L) #[] #[] :: caps).toArray w1 fun e w3 => ∃ v T', e = .returned v ∧ ((∃ i T, Fin i ∧ J i T ∧ T' = .ob L (jJ3 (rec .ready none)) :: .ob D jK0 :: T) ∨ (∃ c T, S c T ∧ T' = .ob L (jJ3 (rec .done (some c))) :: .ob D jK0 :: T)) ∧ Sat w0 Wr (T' ++ (RO ++ Jr)) w3 := by
  have hb : Sat w1 (wrs (RO ++ ((.ob L (jJ3 (rec .ready none)) :: .ob D jK0 :: T0) ++ Jr))) (RO ++ ((.ob L (jJ3 (rec .ready none)) :: .ob D jK0 :: T0) ++ Jr)) w1 :=
   (HLe.comm3 _ _ _ _ _ _ hw1).base
  refine (hFn.2 w1 hb).mono fun e w3 he => ?_
  obtain ⟨v, T', rfl, hT, hS3⟩ := he
  have hT : (∃ i T, Fin i ∧ J i T ∧ T' = .ob L (jJ3 (rec .ready none)) :: .ob D jK0 :: T) ∨ (∃ c T, S c T ∧ T' = .ob L (jJ3 (rec .done (some c))) :: .ob D jK0 :: T) := by
   rcases hT with ⟨i, hf, T, h1, h2⟩ | h
   ·exact .inl ⟨i, T, hf, h1, h2⟩
   ·exact .inr h
  have hTW : Wrs T' := by
   rcases hT with ⟨i, T, _, h1, rfl⟩ | ⟨c, T, h1, rfl⟩
   ·exact .cons rfl (.cons rfl (hJ _ T h1))
   ·exact .cons rfl (.cons rfl (hS c T h1))
  refine ⟨v, T', rfl, hT, ?_⟩
  have e1 : wrs (RO ++ ((.ob L (jJ3 (rec .ready none)) :: .ob D jK0 :: T0) ++ Jr)) = wrs ((.ob L (jJ3 (rec .ready none)) :: .ob D jK0 :: T0) ++ (RO ++ Jr)) := by
   rw [hroU.wrs, ← xD, hJr.wrs]
   simp [wrs, qJ, hRO.filter]
  rw [e1] at hS3
  have h4 := Sat.callA (Hc := .ob L (jJ3 (rec .ready none)) :: .ob D jK0 :: T0) (K := RO ++ Jr) (U := RO ++ Jr) hw1 hroU hS3
  rwa [hTW.filter] at h4
 obtain ⟨fnc, hE1, hE2, hE3⟩ := hFn.1
 refine ⟨L, [jS7 D], w1, { target := .fn (.func f) caps.toArray, args := #[.func (.yield L) #[] #[]] }, w1, f, (.func (.yield L) #[] #[] :: caps).toArray, w1, ?_, ?_, fun _ _ => trivial, ?_, (fun e => by cases e), vU3 (hcall.mono fun e w3 he => ?_)⟩
 ·rw [← hw1e, hrec, ← hLe, ← hDe]; exact run_enterLoop_outer _ _ _ _ _
 ·simp only [resolve, ha.eval hg]
  simp [go_sem]
 ·have h2' : ¬ (fnc.name = "runtime.NumGoroutine") := by simpa using hE2
  have h3' : ¬ (fnc.body = none) := by intro e; rw [e] at hE3; cases hE3
  simp [invoke, callFunc, hE1, h2', h3', program, lJ, l7, Sem.run]
 ·obtain ⟨v, T', rfl, hT, hS3⟩ := he
  have hact : FrOk ⟨n, none, D :: ds⟩ fr { a with defers := [jS7 D] ++ a.defers } := ⟨ha.size, by simp [ha.defers], ha.at_⟩
  rcases hT with ⟨i, T, hf, hT, rfl⟩ | ⟨c, T, hc, rfl⟩
  ·have hl3 : w3.heap[L]? = some (.loop (rec .ready none)) := by
    obtain ⟨o, h1, h2⟩ := (hS3.ents _ lP).1
    rw [h1, h2]
   obtain ⟨o, hend⟩ : ∃ o, (Instr.endLoop L).run P w3 = .ok (none) (w3.putObj L o) :=
    ⟨_, (run_endLoop (P := P) hl3 (by rw [hrec]; simp)).trans (by rw [show (rec .ready none).pending = none from by rw [hrec]])⟩
   refine ⟨none, _, hend, hdone D i T hf hT _ _ hact (Sat.turnOut (Sat.tail hS3) ?_ (fun x hx => hS3.head rfl x hx))⟩
   exact (hS3.ents _ lP).2 rfl
  ·have hl3 : w3.heap[L]? = some (.loop (rec .done (some c))) := by
    obtain ⟨o, h1, h2⟩ := (hS3.ents _ lP).1
    rw [h1, h2]
   obtain ⟨o, hend⟩ : ∃ o, (Instr.endLoop L).run P w3 = .ok (some c) (w3.putObj L o) :=
    ⟨_, (run_endLoop (P := P) hl3 (by rw [hrec]; simp)).trans (by rw [show (rec .done (some c)).pending = some c from by rw [hrec]])⟩
   refine ⟨some c, _, hend, hstop D c T hc _ _ hact (Sat.turnOut (Sat.tail hS3) ?_ (fun x hx => hS3.head rfl x hx)) (fun e => by cases e)⟩
   exact (hS3.ents _ lP).2 rfl
theorem kC4 {g : Operand} {ps : List Nat} {assign body : Code} {f : FuncId} {caps : List Value} {RO : Heap} {items : List (List Value)} (J : Nat → Heap → Prop) (Jr : Heap) (S : Code → Heap → Prop) (T0 : Heap) (hit : Iter P f caps RO items)
  (hg : ev fr g = some (.func (.func f) #[] caps.toArray)) (hJ : ∀ k T, J k T → Wrs T) (hS : ∀ c T, S c T → Wrs T) (hJr : Ro Jr) (hRO : Ro RO)
  (hps : ∀ (k : Nat) (vs : List Value), items[k]? = some vs → vs.length = ps.length) (hN : ps.all (fun p => Nat.ble (p + 1) n) = true) (h0 : J 0 T0) (hH : HLe (T0 ++ (RO ++ Jr)) H) (hpl : (jH9 assign && jH9 body) = true)
  (hround : ∀ k vs T, items[k]? = some vs → J k T → ∀ l w0, awp P ⟨n, some l, []⟩ w0 (wrs (T ++ Jr)) assign (kS5 ps vs fr) (T ++ Jr) (yI1 ⟨n, some l, []⟩ w0 (wrs (T ++ Jr)) (T ++ Jr) fun fr1 X => ∀ w2, awp P ⟨n, some l, []⟩ w2 (wrs (X ++ (T ++ Jr))) body fr1 (X ++ (T ++ Jr)) (yI0 w2 (wrs (X ++ (T ++ Jr))) (J (k + 1)) S)))
  (hdone : ∀ (D : Nat) T, J items.length T → nx ⟨n, none, D :: ds⟩ w0 Wr fr (.ob D jK0 :: (T ++ (RO ++ Jr))) Q .normal)
  (hstop : ∀ (D : Nat) c T, S c T → awp P ⟨n, none, D :: ds⟩ w0 Wr c fr (.ob D jK0 :: (T ++ (RO ++ Jr))) Q) :
  awp P ⟨n, none, ds⟩ w0 Wr (.rangeFunc g ps.toArray assign body) fr H Q :=
 vZ7 J Jr S T0 hit.gen hg hJ (fun _ _ _ => lO _) hS hJr hRO (fun k vs _ h => hps k vs h.1) hN h0 hH hpl (fun k vs k' T h hj l w0 => by obtain ⟨h1, rfl⟩ := h; exact hround k vs T h1 hj l w0) (fun D i T hf hj => by subst hf; exact hdone D T hj) hstop
def kY7 : List Nat → Heap → Heap
 | [], H => H
 | i :: is, H => kY7 is (H.eraseIdx i)
def vN4 : List Mk → List Nat → Heap → Prop
 | [], [], _ => True
 | .at D :: ds, i :: is, H => H[i]? = some (.ob D jK0) ∧ vN4 ds is (H.eraseIdx i)
 | _, _, _ => False
theorem kC0 {α : Type} : ∀ (l : List α) (i : Nat) (e : α), l[i]? = some e → l.Perm (e :: l.eraseIdx i)
 | x :: r, 0, e, h => by simp at h; subst h; simp
 | x :: r, i + 1, e, h => by
  have := kC0 r i e (by simpa using h)
  exact ((this.cons x).trans (List.Perm.swap e x _))
 | [], i, e, h => by simp at h
theorem yI5 {fn : Func} {tmps : Array Value} {R : Ending → World → Prop} : ∀ (ds : List Mk) (is : List Nat) (H : Heap) (w : World), vN4 ds is H → Sat w0 Wr H w → (∀ w', Sat w0 Wr (kY7 is H) w' → LeavesIn Fence.wide 0 P fn tmps R [] .returning w') →
  LeavesInM Fence.wide 0 P fn tmps R (ds.map jS7) .returning w
 | [], [], H, w, _, hw, h => h w hw
 | .at D :: ds, i :: is, H, w, hm, hw, h => by
  have hp := hw.perm (kC0 H i _ hm.1)
  have hD : w.heap[D]? = some (.deferred (some [])) := by
   obtain ⟨o, h1, h2⟩ := (hp.ents _ lP).1
   rw [h1, h2]
  refine ⟨by simp, .inl ⟨D, _, rfl, run_takeDeferred hD, yI5 ds is (H.eraseIdx i) _ hm.2 (Sat.turnOut hp.tail ((hp.ents _ lP).2 rfl) (fun x hx => hp.head rfl x hx)) h⟩⟩
 | [], _ :: _, _, _, hm, _, _ => hm.elim
 | .at _ :: _, [], _, _, hm, _, _ => hm.elim
 | .fn _ _ :: _, _, _, _, hm, _, _ => hm.elim
abbrev yG4 (P : Program) (fn : Func) (R : Ending → World → Prop) : Exit → Act → World → Prop := bodyPostM Fence.wide 0 P fn R
theorem jK2 {fn : Func} {R : Ending → World → Prop} (is : List Nat) (hm : vN4 ds is H) (h : nx ⟨n, none, []⟩ w0 Wr fr (kY7 is H) (bodyPost P fn R) .ret) : nx ⟨n, none, ds⟩ w0 Wr fr H (yG4 P fn R) .ret := fun a w ha hw => by
 show LeavesInM Fence.wide 0 P fn a.tmps R a.defers .returning w
 rw [ha.defers]
 refine yI5 ds is H w hm hw fun w' hw' => ?_
 obtain ⟨_, v, h1, h2⟩ := h { tmps := a.tmps, defers := [] } w' ⟨ha.size, rfl, ha.at_⟩ hw'
 exact ⟨v, h1, h2⟩
theorem Fn.enterM {f : FuncId} {fn : Func} {c : Code} {args : List Value} {R : Value → Heap → Prop} (hf : P.funcs[f]? = some fn) (hb : fn.body = some c) (hn : (fn.name == "runtime.NumGoroutine") = false) (hN : args.length + (fn.ntmps - args.length) = n)
  (h : ∀ w0, awp P ⟨n, none, []⟩ w0 (wrs H) c (kN0 0 args) H (yG4 P fn (jN7 w0 (wrs H) R))) : Fn P f args H R := by
 refine ⟨⟨fn, hf, hn, by simp [hb]⟩, fun w hw => callsIn_wide.1 (callsIn_of_wp_marks (n := 0) hf hb trivial (h w _ w ⟨?_, rfl, ?_⟩ hw (fun e => by cases e)))⟩
 ·simp [← hN]
 ·intro t v ht
  obtain ⟨k, rfl, hk⟩ := kX8 args 0 t v ht
  have hl : k < args.length := (List.getElem?_eq_some_iff.1 hk).1
  simp only [lA]
  rw [Array.getElem?_append_left (by simpa using hl)]
  simpa using hk
end
end
section
open Go.RowKit
section
variable {P : Program} {N : Frm} {w0 : World} {Wr : List Nat} {ops : Array Oper} {rest : List Oper} {fr : Fr} {H : Heap} {Z : Fr → Heap → Prop}
variable {d ty : Nat} {pos : String} {after : Array Edge}
theorem jL9 {f : FuncId} {xs : List Operand} {vs : List Value} (hx : evs fr xs = some vs) (hN : bN d N)
  (h : sx P N w0 Wr ops rest ((d, .func (.func f) #[] vs.toArray) :: fr) H Z) : sx P N w0 Wr ops (⟨some d, .makeFunc (.func f) #[] xs.toArray, ty, pos, after, none⟩ :: rest) fr H Z :=
 jE4 _ hN (fun a w ha hw => by
  have := ha.evals hx
  subst this
  simp [execOp, Instr.makeFunc, l7]) h
theorem vD3 {f : FuncId} {caps : List Value} {vs : List Value} (hE : Enters P f) {x : Operand} {xs : List Operand} {ts : Array TypeId} {ρ : Operand → Value} (hx : xs.map ρ = vs) (hf : ρ x = .func (.func f) #[] caps.toArray) {dst : Option Nat} {w : World} :
  (execOp ρ ⟨dst, .call { callee := .value x, args := xs.toArray, argTypes := ts }, ty, pos, after, none⟩).run P w = .ok (.enter f (vs ++ caps).toArray) w := by
 obtain ⟨fn, h1, h2, h3⟩ := hE
 subst hx
 have h2' : ¬ (fn.name = "runtime.NumGoroutine") := by simpa using h2
 have h3' : ¬ (fn.body = none) := by intro e; rw [e] at h3; cases h3
 simp [execOp, resolve, hf, Deferred.ofValue, invoke, callFunc, h1, h2', h3', program, lJ, l7, Sem.run]
theorem kK6 {f : FuncId} {caps : List Value} {x : Operand} {xs : List Operand} {vs : List Value} {ts : Array TypeId} {dst : Option Nat} {R : Value → Heap → Prop} (hE : Enters P f) (hf : ev fr x = some (.func (.func f) #[] caps.toArray)) (hx : evs fr xs = some vs) (hN : dstB N dst = true)
  (hc : ∀ w, Sat w0 Wr H w → Calls P f (vs ++ caps).toArray w fun e w' => ∃ v H', e = .returned v ∧ R v H' ∧ Sat w0 Wr H' w')
  (h : ∀ v H', R v H' → sx P N w0 Wr ops rest (match dst with | some d => (d, v) :: fr | none => fr) H' Z) :
  sx P N w0 Wr ops (⟨dst, .call { callee := .value x, args := xs.toArray, argTypes := ts }, ty, pos, after, none⟩ :: rest) fr H Z :=
 vB3 rfl fun a w K Q ha hw hK => by
  unfold Oper.wp
  rw [vD3 hE (ha.evals hx) (ha.eval hf)]
  refine (hc w hw).mono fun e w' he => ?_
  obtain ⟨v, H', rfl, hR, hS⟩ := he
  cases dst with
  | none => exact hK v w' fr H' (h v H' hR) (ha.skip _) hS
  | some d => exact hK v w' _ H' (h v H' hR) (ha.put hN v) hS
end
theorem jL2 (v : Value) (e : TypeId) (size : Nat) (xs : List Value) : Wrs (rowE v e size xs) := fun x hx => by
 unfold rowE at hx
 split at hx
 ·rw [List.mem_singleton.1 hx]; rfl
 ·cases hx
theorem jE2 (v : Value) (e : TypeId) (size : Nat) (xs : List Value) : (rowE v e size xs).filter Ent.wr = rowE v e size xs := (jL2 v e size xs).filter
section
variable {P : Program} {N : Frm} {w0 : World} {Wr : List Nat} {ops : Array Oper} {rest : List Oper} {fr : Fr} {H : Heap} {Z : Fr → Heap → Prop}
variable {d ty : Nat} {pos : String} {after : Array Edge}
theorem jB4 {f : FuncId} {xs : List Operand} {vs : List Value} {ts : Array TypeId} {dst : Option Nat} {R : Value → Heap → Prop} (Hc K : Heap) (hc : Fn P f vs Hc R) (hx : evs fr xs = some vs) (hH : HLe (Hc ++ K) H) (hN : dstB N dst = true)
  (h : ∀ v H', R v H' → sx P N w0 Wr ops rest (match dst with | some d => (d, v) :: fr | none => fr) (H'.filter Ent.wr ++ K) Z) :
  sx P N w0 Wr ops (⟨dst, .call { callee := .value (.func f), args := xs.toArray, argTypes := ts }, ty, pos, after, none⟩ :: rest) fr H Z :=
 jO1 Hc [] K (by rw [lH]; exact hc) hx hH (lO _) Ro.nil hN h
theorem yI8 {t t' : TypeId} {x y : Operand} {k : IntKind} {m n : Int} (hx : ev fr x = some (.int k m)) (hy : ev fr y = some (.int k n)) (r : Int) (hr : max m n = r) (hN : bN d N)
  (h : sx P N w0 Wr ops rest ((d, .int k r) :: fr) H Z) : sx P N w0 Wr ops (⟨some d, .call { callee := .builtin .max, args := #[x, y], argTypes := #[t, t'] }, ty, pos, after, none⟩ :: rest) fr H Z :=
 jE4 _ hN (fun a w ha _ => by
  subst hr
  have e1 := ha.eval hx
  have e2 := ha.eval hy
  simp [execOp, resolve, invoke, builtin, e1, e2, Builtin.max_, Builtin.max2]
  try (rw [Int.max_def]; split <;> split <;> simp_all <;> omega)) h
theorem zE6 {t t' : TypeId} {x y : Operand} {k : IntKind} {m n : Int} (hx : ev fr x = some (.int k m)) (hy : ev fr y = some (.int k n)) (r : Int) (hr : min m n = r) (hN : bN d N)
  (h : sx P N w0 Wr ops rest ((d, .int k r) :: fr) H Z) : sx P N w0 Wr ops (⟨some d, .call { callee := .builtin .min, args := #[x, y], argTypes := #[t, t'] }, ty, pos, after, none⟩ :: rest) fr H Z :=
 jE4 _ hN (fun a w ha _ => by
  subst hr
  have e1 := ha.eval hx
  have e2 := ha.eval hy
  simp [execOp, resolve, invoke, builtin, e1, e2, Builtin.min_, Builtin.min2]
  try (rw [Int.min_def]; split <;> split <;> simp_all <;> omega)) h
end
theorem HLe.toRo {g : Nat} {t : TypeId} {cs : List Value} (A B : Heap) : HLe (A ++ .ro g 0 cs :: B) (A ++ .own g t cs :: B) := fun w0 Wr w h => by
 have hm := h.ents (.own g t cs) (by simp)
 have hro : (Ent.ro g 0 cs).holds w := ⟨Ent.lt hm.1, fun j u hu => by rw [lA, Ent.cell hm.1]; exact hu⟩
 refine ⟨h.only, fun e he => ?_, ?_⟩
 ·rcases List.mem_append.1 he with he | he
  ·exact h.ents e (xI _ he)
  ·rcases List.mem_cons.1 he with rfl | he
   ·exact ⟨hro, fun hh => by cases hh⟩
   ·exact h.ents e (x7 _ (lU _ he))
 ·have hs := List.pairwise_append.1 h.sep
  have hs2 := List.pairwise_cons.1 hs.2.1
  refine List.pairwise_append.2 ⟨hs.1, zP (fun b hb hh => hs2.1 b hb (by simp [Ent.wr])) hs2.2, fun a ha b hb hh => ?_⟩
  rcases List.mem_cons.1 hb with rfl | hb
  ·exact hs.2.2 a ha (.own g t cs) lP (by simp [Ent.wr])
  ·exact hs.2.2 a ha b (lU _ hb) hh
section
variable {P : Program} {N : Frm} {n : Nat} {ds : List Mk} {w0 : World} {Wr : List Nat} {fr : Fr} {H : Heap} {Q : Exit → Act → World → Prop}
theorem jO8 {R : Option Nat} {ds ds' : List Mk} {y : Code} (h : awp P ⟨n, R, ds'⟩ w0 Wr y fr H Q) : nx ⟨n, R, ds'⟩ w0 Wr fr H (Exit.then (wq P ⟨n, R, ds⟩ y Q) Q) .normal := h
theorem kN4 {l : Nat} (h : nx N w0 Wr fr H Q .normal) : awp P N w0 Wr (.label l) fr H Q := fun a w ha hw _ => wpIn_label (h a w ha hw)
theorem vG4 {c : Code} (h : awp P ⟨n, none, ds⟩ w0 Wr c fr H (Exit.noGoto Q)) : awp P ⟨n, none, ds⟩ w0 Wr (.scope c) fr H Q := fun a w ha hw _ => wpIn_wide.2 (wp_scope_straight (kS8 (h a w ha hw)))
theorem jL4 (h : nx N w0 Wr fr H Q .normal) : nx N w0 Wr fr H (Exit.noGoto Q) .normal := h
theorem jD4 (h : nx N w0 Wr fr H Q .ret) : nx N w0 Wr fr H (Exit.noGoto Q) .ret := h
end
end
section
open Go.RowKit
section
variable {P : Program} {N : Frm} {w0 : World} {Wr : List Nat} {ops : Array Oper} {rest : List Oper} {fr : Fr} {H : Heap} {Z : Fr → Heap → Prop} {d ty : Nat} {pos : String} {after : Array Edge}
theorem jO0 {f : FuncId} {xs : List Operand} {vs : List Value} {ts : Array TypeId} {v : Value} (U : Heap) (hc : Fn P f vs U fun u _ => u = v) (hx : evs fr xs = some vs) (hU : HLe U H) (hroU : Ro U) (hN : bN d N)
  (h : sx P N w0 Wr ops rest ((d, v) :: fr) H Z) :
  sx P N w0 Wr ops (⟨some d, .call { callee := .value (.func f), args := xs.toArray, argTypes := ts }, ty, pos, after, none⟩ :: rest) fr H Z :=
 jN9 (R := fun u H' => u = v ∧ H' = H) hc.1 hx hN (fun w hw => by
  have hu := hU _ _ _ hw
  have hpre : Sat w (wrs U) U w := hu.base
  exact (hc.2 w hpre).mono fun e w' he => by
   obtain ⟨u, H', h1, h2, h3⟩ := he
   have h0 : wrs U = [] := by have := hroU.wrs []; simpa [wrs] using this
   rw [h0] at h3
   exact ⟨u, H, h1, ⟨h2, rfl⟩, hw.bel h3.only.bel⟩) (fun u H' hR => by obtain ⟨rfl, rfl⟩ := hR; exact h)
theorem kF7 (zs : List Value) (n : Nat) : madeCells zs.toArray (n * zs.length) = (List.replicate n zs).flatten.toArray := by
 apply Array.ext'
 simp only [madeCells, Array.toList_map, Array.toList_range]
 induction n with
 | zero => simp
 | succ n ih =>
  have hz : zs.length = 0 ∨ 0 < zs.length := by omega
  rcases hz with hz | hz
  ·have : zs = [] := List.length_eq_zero_iff.1 hz
   subst this
   simp
  rw [List.replicate_succ', List.flatten_append, ← ih, zH, List.range_add, x0]
  congr 1
  simp only [zW, List.flatten_nil, lH, List.map_map]
  refine List.ext_getElem (by simp) fun i h1 h2 => ?_
  have hi : i < zs.length := h2
  simp [zX hi, hi, qU n]
theorem vB5 {t e size bytes n : Nat} {x y : Operand} {kl kc : IntKind} {zs : List Value} {z : Value} (ht : P.underlying t = some (.slice e)) (hi : (P.info? e).map (fun i => (i.zero, i.size, i.bytes)) = some (some z, size, bytes)) (hz : z.cells.toList = zs) (hs : zs.length = size)
  (hx : ev fr x = some (.int kl (n : Int))) (hy : ev fr y = some (.int kc (n : Int))) (hby : bytes * n ≤ 281474976710656) (hn : n ≤ maxLen) (hN : bN d N)
  (h : ∀ g, sx P N w0 Wr ops rest ((d, .slice (some ⟨g, 0, none⟩) n n) :: fr) (.own g e (List.replicate n zs).flatten :: H) Z) :
  sx P N w0 Wr ops (⟨some d, .makeSlice t x y, ty, pos, after, none⟩ :: rest) fr H Z := by
 refine jI7 (R := fun v H' => ∃ g, v = .slice (some ⟨g, 0, none⟩) n n ∧ H' = .own g e (List.replicate n zs).flatten :: H) hN (fun a w ha hw => ?_) (fun v H' hR => by obtain ⟨g, rfl, rfl⟩ := hR; exact h g)
 obtain ⟨i, h1, h2⟩ := Option.map_eq_some_iff.1 hi
 obtain ⟨h3, h4, h5⟩ : i.zero = some z ∧ i.size = size ∧ i.bytes = bytes := by simpa using h2
 have hn' : (n : Int) ≤ 9223372036854775807 := by have : n ≤ 9223372036854775807 := hn; omega
 have hb : (i.bytes : Int) * (n : Int) ≤ 281474976710656 := by
  rw [h5]
  have : ((bytes * n : Nat) : Int) ≤ 281474976710656 := by omega
  rwa [Int.natCast_mul] at this
 have hr := run_make (P := P) w t e i z ht h1 h3 kl kc (n : Int) (n : Int) (by omega) (Int.le_refl _) hb hn'
 have hc : z.cells = zs.toArray := by rw [← hz]
 rw [x4, h4, ← hs, hc, kF7] at hr
 exact ⟨_, _, _, by simp only [execOp, ha.eval hx, ha.eval hy, lJ, hr]; rfl, ⟨_, rfl, rfl⟩, hw.alloc _ _⟩
end
theorem kQ9 {α : Type} {f : α → List Value} {n : Nat} (hf : ∀ x, (f x).length = n) {v : Value} {x y : α} {j : Nat} (hy : f y = (f x).set j v) (hj : j < n) : ∀ {L : List α} {i : Nat}, L[i]? = some x → (L.flatMap f).set (i * n + j) v = (L.set i y).flatMap f
 | [], i, h => by simp at h
 | z :: r, 0, h => by
  obtain rfl : z = x := by simpa using h
  simp only [xH, qS, x5, hy]
  rw [List.set_append_left _ _ (by rw [hf]; exact hj)]
 | z :: r, i + 1, h => by
  simp only [x5, lQ]
  rw [List.set_append_right _ _ (by rw [hf, zH]; omega), hf, show (i + 1) * n + j - n = i * n + j by rw [zH]; omega, kQ9 hf hy hj (by simpa using h)]
theorem zL8 {a b : Nat} (h : a ≤ b) : Nat.ble a b = true := Nat.ble_eq_true_of_le h
theorem HLe.ownRow {g : Nat} {t : TypeId} {size n : Nat} {cs : List Value} (A B : Heap) (hl : cs.length = n * size) (hn : n ≤ maxLen) : HLe (A ++ .ob g (RowP t size n n cs) :: B) (A ++ .own g t cs :: B) := fun w0 Wr w h => by
 have hm := h.ents (.own g t cs) (by simp)
 have hro : (Ent.ob g (RowP t size n n cs)).holds w := ⟨_, hm.1, cs.toArray, rfl, xP _, hn, by simp [hl], by simp [← hl], hl⟩
 refine ⟨h.only, fun e he => ?_, ?_⟩
 ·rcases List.mem_append.1 he with he | he
  ·exact h.ents e (xI _ he)
  ·rcases List.mem_cons.1 he with rfl | he
   ·exact ⟨hro, fun _ => hm.2 rfl⟩
   ·exact h.ents e (x7 _ (lU _ he))
 ·have hs := h.sep
  simp only [Sep, xW, qL] at hs ⊢
  obtain ⟨h1, ⟨h2, h3⟩, h4⟩ := hs
  refine ⟨h1, ⟨fun b hb _ => h2 b hb (by simp [Ent.wr]), h3⟩, fun a ha b hb => ?_⟩
  rcases List.mem_cons.1 hb with rfl | hb
  ·intro hw
   exact h4 a ha (.own g t cs) lP (by simp [Ent.wr])
  ·exact h4 a ha b (lU _ hb)
theorem HLe.rowRo {g : Nat} {t : TypeId} {size n c : Nat} {cs : List Value} (A B : Heap) : HLe (A ++ .ro g 0 cs :: B) (A ++ .ob g (RowP t size n c cs) :: B) := fun w0 Wr w h => by
 have hm := h.ents (.ob g (RowP t size n c cs)) (by simp)
 obtain ⟨o, ho, cur, rfl, h1, h2, h3, h4, h5⟩ := hm.1
 have hro : (Ent.ro g 0 cs).holds w := ⟨(Array.getElem?_eq_some_iff.1 ho).1, fun j u hu => by
  have hj : j < n * size := by rw [← h5]; exact (List.getElem?_eq_some_iff.1 hu).1
  rw [← h4, zS, if_pos hj] at hu
  rw [lA]
  simp only [World.cell?, ho]
  simpa using hu⟩
 refine ⟨h.only, fun e he => ?_, ?_⟩
 ·rcases List.mem_append.1 he with he | he
  ·exact h.ents e (xI _ he)
  ·rcases List.mem_cons.1 he with rfl | he
   ·exact ⟨hro, fun hh => by cases hh⟩
   ·exact h.ents e (x7 _ (lU _ he))
 ·have hs := h.sep
  simp only [Sep, xW, qL] at hs ⊢
  obtain ⟨h1, ⟨h2, h3⟩, h4⟩ := hs
  refine ⟨h1, ⟨fun b hb hw => h2 b hb (by simp [Ent.wr]), h3⟩, fun a ha b hb => ?_⟩
  rcases List.mem_cons.1 hb with rfl | hb
  ·intro hw
   exact h4 a ha (.ob g (RowP t size n c cs)) lP (by simp [Ent.wr])
  ·exact h4 a ha b (lU _ hb)
theorem RowOk.ro {v : Value} {n : Nat} (h : RowOk v n) : ∃ A c, v = .slice A n c ∧ SlOk A n ∧ ∀ (X Y : Heap) (t : TypeId) (size : Nat) (xs : List Value), HLe (X ++ (roE A xs ++ Y)) (X ++ (rowE (.slice A n c) t size xs ++ Y)) := by
 rcases h with ⟨rfl, rfl⟩ | ⟨g, c, rfl⟩
 ·exact ⟨none, 0, rfl, .inl ⟨rfl, rfl⟩, fun X Y t size xs => hV _⟩
 ·exact ⟨_, c, rfl, .inr ⟨g, 0, rfl⟩, fun X Y t size xs => HLe.rowRo X Y⟩
section
variable {P : Program} {N : Frm} {w0 w : World} {Wr : List Nat} {ops : Array Oper} {rest : List Oper} {fr : Fr} {H : Heap} {Z : Fr → Heap → Prop} {d ty : Nat} {pos : String} {after : Array Edge}
theorem wD1 {t e n g o len c : Nat} {x lo hi mx : Operand} {k1 k2 k3 : IntKind} {i j m : Nat} (o' : Nat) (ht : P.underlying t = some (.slice e)) (hs : tySize P e = some n) (hx : ev fr x = some (.slice (some ⟨g, o, none⟩) len c)) (hl : ev fr lo = some (.int k1 (i : Int))) (hh : ev fr hi = some (.int k2 (j : Int))) (hm : ev fr mx = some (.int k3 (m : Int))) (h0 : i < m) (h1 : i ≤ j) (h2 : j ≤ m) (h3 : m ≤ c) (ho : o + i * n = o') (hN : bN d N)
  (h : sx P N w0 Wr ops rest ((d, .slice (some ⟨g, o', none⟩) (j - i) (m - i)) :: fr) H Z) : sx P N w0 Wr ops (⟨some d, .slice t x (some lo) (some hi) (some mx), ty, pos, after, none⟩ :: rest) fr H Z :=
 jE4 (.slice (some ⟨g, o', none⟩) (j - i) (m - i)) hN (fun a w ha _ => by
  have hb1 : ∀ code, (Instr.sliceBound (.int k3 (m : Int)) c code).run P w = .ok m w := fun code => by
   have := jG6 (P := P) (k := k3) (i := (m : Int)) (y := c) (code := code) (w := w) ⟨by omega, by omega⟩
   simpa using this
  have hb2 : ∀ code, (Instr.sliceBound (.int k2 (j : Int)) m code).run P w = .ok j w := fun code => by
   have := jG6 (P := P) (k := k2) (i := (j : Int)) (y := m) (code := code) (w := w) ⟨by omega, by omega⟩
   simpa using this
  have hb3 : ∀ code, (Instr.sliceBound (.int k1 (i : Int)) j code).run P w = .ok i w := fun code => by
   have := jG6 (P := P) (k := k1) (i := (i : Int)) (y := j) (code := code) (w := w) ⟨by omega, by omega⟩
   simpa using this
  have hne : ¬ m = i := by omega
  subst ho
  simp [execOp, Instr.sliceAt, Instr.slice, Instr.sliceBounds, ha.eval hx, ha.eval hl, ha.eval hh, ha.eval hm, lJ, run_underlying ht, jC5 hs, hb1, hb2, hb3, hne, jG5]) h
theorem jR5 {t t' e : TypeId} {x : Operand} {A : Option Addr} {n c : Nat} (ht : P.underlying t = some (.slice e)) (hx : ev fr x = some (.slice A n c)) (hN : bN d N)
  (h : sx P N w0 Wr ops rest ((d, .bool A.isNone) :: fr) H Z) : sx P N w0 Wr ops (⟨some d, .binOp .eql t x (.const (.slice none 0 0)) t', ty, pos, after, none⟩ :: rest) fr H Z :=
 jE4 _ hN (fun a w ha _ => by
  have e' : a.eval (.const (.slice none 0 0)) = .slice none 0 0 := rfl
  have hq : (Op.equal t (.slice A n c) (.slice none 0 0)).run P w = .ok A.isNone w := by
   unfold Op.equal Op.maxDepth Op.equalIn
   cases A <;> simp [lJ, run_underlying ht]
  have hg : (eqGuard .eql t x (.const (.slice none 0 0)) (.slice A n c) (.slice none 0 0)).run P w = .ok () w := by
   unfold eqGuard
   split <;> rfl
  simp only [execOp, ha.eval hx, e', lJ, hg, lR, binOp]
  simp [hq]) h
theorem jM5 {t e n : Nat} (ht : P.underlying t = some (.slice e)) (hs : tySize P e = some n) (hN : bN d N)
  (h : ∀ g, sx P N w0 Wr ops rest ((d, .slice (some ⟨g, 0, none⟩) 0 0) :: fr) (.own g e [] :: H) Z) : sx P N w0 Wr ops (⟨some d, .buildSlice t 0 #[], ty, pos, after, none⟩ :: rest) fr H Z := by
 refine jI7 (R := fun v H' => ∃ g, v = .slice (some ⟨g, 0, none⟩) 0 0 ∧ H' = .own g e [] :: H) hN (fun a w ha hw => ?_) (fun v H' hR => by obtain ⟨g, rfl, rfl⟩ := hR; exact h g)
 refine ⟨_, w.alloc (.cells #[] e), _, ?_, ⟨w.heap.size, rfl, rfl⟩, hw.alloc [] e⟩
 simp [execOp, Instr.buildSlice, lJ, run_underlying ht, jC5 hs, Instr.fill, newRow, newObj, show Array.range 0 = #[] from rfl]
 rfl
theorem jZ5 {f : FuncId} {caps : List Value} {x : Operand} {xs : List Operand} {vs : List Value} {ts : Array TypeId} {v : Value} (U : Heap) (hc : Fn P f (vs ++ caps) U fun u _ => u = v) (hf : ev fr x = some (.func (.func f) #[] caps.toArray)) (hx : evs fr xs = some vs) (hU : HLe U H) (hroU : Ro U) (hN : bN d N)
  (h : sx P N w0 Wr ops rest ((d, v) :: fr) H Z) :
  sx P N w0 Wr ops (⟨some d, .call { callee := .value x, args := xs.toArray, argTypes := ts }, ty, pos, after, none⟩ :: rest) fr H Z :=
 kK6 (R := fun u H' => u = v ∧ H' = H) hc.1 hf hx hN (fun w hw => by
  have hu := hU _ _ _ hw
  have hpre : Sat w (wrs U) U w := hu.base
  exact (hc.2 w hpre).mono fun e w' he => by
   obtain ⟨u, H', h1, h2, h3⟩ := he
   have h0 : wrs U = [] := by have := hroU.wrs []; simpa [wrs] using this
   rw [h0] at h3
   exact ⟨u, H, h1, ⟨h2, rfl⟩, hw.bel h3.only.bel⟩) (fun u H' hR => by obtain ⟨rfl, rfl⟩ := hR; exact h)
theorem zF5 {t t' : TypeId} {x y : Operand} {k : IntKind} {m n : Int} (hx : ev fr x = some (.int k m)) (hy : ev fr y = some (.int k n)) (r : Int) (hr : min m n = r) (hN : bN d N)
  (h : sq P N w0 Wr ops rest ((d, .int k r) :: fr) H Z) : sq P N w0 Wr ops (⟨some d, .call { callee := .builtin .min, args := #[x, y], argTypes := #[t, t'] }, ty, pos, after, none⟩ :: rest) fr H Z :=
 jJ0 _ hN (fun a w ha _ => by
  subst hr
  have e1 := ha.eval hx
  have e2 := ha.eval hy
  simp [execOp, resolve, invoke, builtin, e1, e2, lJ, Builtin.min_, Builtin.min2]
  try (rw [Int.min_def]; split <;> split <;> simp_all <;> omega)) h
theorem kH9 {f : FuncId} {xs : List Operand} {vs : List Value} {ts : Array TypeId} {v : Value} (U : Heap) (hc : Fn P f vs U fun u _ => u = v) (hx : evs fr xs = some vs) (hU : HLe U H) (hroU : Ro U) (hN : bN d N)
  (h : sq P N w0 Wr ops rest ((d, v) :: fr) H Z) :
  sq P N w0 Wr ops (⟨some d, .call { callee := .value (.func f), args := xs.toArray, argTypes := ts }, ty, pos, after, none⟩ :: rest) fr H Z :=
 vP9 hc.1 hx hN (fun w hw => by
  have hu := hU _ _ _ hw
  have hpre : Sat w (wrs U) U w := hu.base
  exact (hc.2 w hpre).mono fun e w' he => by
   obtain ⟨u, H', h1, h2, h3⟩ := he
   have h0 : wrs U = [] := by have := hroU.wrs []; simpa [wrs] using this
   rw [h0] at h3
   subst h2
   exact ⟨h1, hw.bel h3.only.bel⟩) h
theorem yQ3 {p : Prop} {l : List Oper} (hp : ∀ w, Sat w0 Wr H w → p) (h : p → sx P N w0 Wr ops l fr H Z) : sx P N w0 Wr ops l fr H Z := fun Q hQ a w ha hw => h (hp w hw) Q hQ a w ha hw
theorem jW4 {p : Prop} {c : Code} {Q : Exit → Act → World → Prop} (hp : ∀ w, Sat w0 Wr H w → p) (h : p → awp P N w0 Wr c fr H Q) : awp P N w0 Wr c fr H Q := fun a w ha hw => h (hp w hw) a w ha hw
theorem row_cap {A : Option Addr} {n c size : Nat} {e : TypeId} {xs : List Value} (hv : RowOk (.slice A n c) n) (hin : ∀ x ∈ rowE (.slice A n c) e size xs, x ∈ H) (hw : Sat w0 Wr H w) : n ≤ c ∧ c ≤ maxLen := by
 rcases hv with ⟨h, _⟩ | ⟨g, c', h⟩
 ·simp only [Value.slice.injEq] at h
  obtain ⟨_, rfl, rfl⟩ := h
  exact ⟨xP _, lZ _⟩
 ·simp only [Value.slice.injEq] at h
  obtain ⟨rfl, _, rfl⟩ := h
  obtain ⟨o, _, cur, _, h1, h2, _⟩ := (hw.ents _ (hin _ (List.mem_singleton.2 rfl))).1
  exact ⟨h1, h2⟩
theorem yJ8 {A : Option Addr} {n size : Nat} {xs : List Value} {T : Heap} (hA : jK9 A n) (hT : 0 < n → T = roE A xs) (hl : xs.length = n * size) (hnil : A = none → n = 0) (hle : HLe T H) (hw : Sat w0 Wr H w) : Rd w size A n xs := by
 refine ⟨hl, hnil, fun hn => ?_⟩
 obtain ⟨g, o, rfl⟩ := hA hn
 obtain rfl := hT hn
 have h := ((hle _ _ _ hw).ents (.ro g o xs) lP).1
 exact ⟨g, o, rfl, h.1, h.2⟩
end
theorem HLe.view {g o k : Nat} {xs ys : List Value} {H : Heap} (hm : Ent.ro g o xs ∈ H) (hys : ∀ j u, ys[j]? = some u → xs[k + j]? = some u) : HLe (.ro g (o + k) ys :: H) H := fun w0 Wr w h => by
 have hh := (h.ents _ hm).1
 refine ⟨h.only, fun e he => ?_, zP (fun b hb hw => ?_) h.sep⟩
 ·rcases List.mem_cons.1 he with rfl | he
  ·exact ⟨⟨hh.1, fun j u hu => by rw [qP]; exact hh.2 (k + j) u (hys j u hu)⟩, fun hw => by cases hw⟩
  ·exact h.ents e he
 ·have hbw : b.wr = true := by simpa [Ent.wr] using hw
  obtain ⟨i, hi⟩ := List.mem_iff_getElem?.1 hm
  obtain ⟨j, hj⟩ := List.mem_iff_getElem?.1 hb
  have hne : i ≠ j := fun e => by
   rw [e, hj] at hi
   rw [lV hi] at hbw
   cases hbw
  have hp := h.sep
  rw [Sep, z5] at hp
  obtain ⟨hi1, hi2⟩ := List.getElem?_eq_some_iff.1 hi
  obtain ⟨hj1, hj2⟩ := List.getElem?_eq_some_iff.1 hj
  rcases Nat.lt_or_gt_of_ne hne with hlt | hlt
  ·have := hp i j hi1 hj1 hlt (by rw [hi2, hj2]; simp [hbw])
   rw [hi2, hj2] at this
   exact this
  ·have := hp j i hj1 hi1 hlt (by rw [hi2, hj2]; simp [hbw])
   rw [hi2, hj2] at this
   exact this.symm
theorem HLe.toEnd (X R Y : Heap) : HLe ((X ++ Y) ++ R) (X ++ (R ++ Y)) := fun _ _ _ hw => hw.perm (by rw [xD]; exact qK X qQ)
theorem jW0 {P : Program} {n : Nat} {ro : Option Nat} {w0 : World} {Wr : List Nat} {fr : Fr} {H : Heap} {fn : Func} {R : Value → Heap → Prop} {r s t q : ResultVar} {v u x y : Value} (HH : Heap) (hr : fn.results = #[r, s, t, q]) (h1 : ResOk P fr H r v) (h2 : ResOk P fr H s u) (h3 : ResOk P fr H t x) (h4 : ResOk P fr H q y) (hk : HLe HH H) (hR : R (.tuple #[v, u, x, y]) HH) : nx ⟨n, ro, []⟩ w0 Wr fr H (bodyPost P fn (jN7 w0 Wr R)) .ret :=
 fun a w ha hw => ⟨ha.defers, _, by
  have e1 := h1.run' ha hw
  have e2 := h2.run' ha hw
  have e3 := h3.run' ha hw
  have e4 := h4.run' ha hw
  rw [jM1]
  simp [hr, lJ, e1, e2, e3, e4], _, HH, rfl, hR, hk _ _ _ hw⟩
section
variable {P : Program} {N : Frm} {w0 : World} {Wr : List Nat} {ops : Array Oper} {C : World → Prop} {Q Q' : Exit → Act → World → Prop} {fr : Fr} {H : Heap}
theorem yO5 {x : Nat × Bool} {o : Oper} {K : Act → World → Prop} {a : Act} {w : World} (ho : ops[x.1]? = some o) (h : vst P ops C Q x K a w) : vst P ops C Q' x K a w := by
 unfold vst at h ⊢
 split at h
 ·exact h
 ·exact kG7 ho h
def QF (P : Program) (ops : Array Oper) (Q : Exit → Act → World → Prop) (f : Nat) : Exit → Act → World → Prop := fun _ a w => wpOp P ops (QN Q) f (fun a w => QN Q .normal a w) a w
theorem yH6 {f : Nat} (hsel : ∀ (j : Nat) (o : Oper) cs b, ops[j]? = some o → o.op ≠ .select cs b) (hedge : ∀ (j : Nat) (o : Oper), ops[j]? = some o → ∀ e ∈ o.after, Region.binds .any e = true → e.on < ops.size) :
  ∀ (n : Nat) (ord : List (Nat × Bool)) (listed : Array Bool) (a : Act) (w : World), ord.length = n → C w → Left ops ((ord ++ [(f, false)]).map Prod.fst) listed →
  (ord.Pairwise fun x y => Dep ops x.1 y.1 ∨ MayV ops x y) → (∀ x ∈ ord, Dep ops x.1 f) → Wv P ops C (QF P ops Q f) ord a w → wpAny P .any ops (QN Q) (n + 1) listed a w := by
 intro n
 induction n with
 | zero =>
  intro ord listed a w hl hC hL hp hd h
  obtain rfl := zE hl
  refine ⟨fun hnil => ?_, fun j hj => ?_⟩
  ·have := hL.first hedge
   rw [hnil] at this
   cases this
  ·obtain ⟨h0, o, ho, _⟩ := mem_ready.1 hj
   have hjm := (hL.mem j (Array.getElem?_eq_some_iff.1 ho).1).1 h0
   obtain rfl : j = f := by simpa using hjm
   have hL' : Left ops [] (listed.setIfInBounds j true) := Left.step (p := []) (r := []) (by simpa using hL) hedge hj
   refine wpOp_mono (fun b w' hb => ?_) h.2
   refine ⟨List.eq_nil_iff_forall_not_mem.2 fun k hk => ?_, hb⟩
   obtain ⟨h0, o, ho, _⟩ := mem_ready.1 hk
   have := (hL'.mem k (Array.getElem?_eq_some_iff.1 ho).1).1 h0
   simp at this
 | succ n ih =>
  intro ord listed a w hl hC hL hp hd h
  refine ⟨fun hnil => ?_, fun j hj => ?_⟩
  ·exfalso
   match ord, hl with
   | x :: r, _ =>
    have := hL.first hedge
    rw [hnil] at this
    cases this
  ·have hdeps := hL.deps hedge hj
   obtain ⟨h0, o, ho, hall⟩ := mem_ready.1 hj
   have hjm := (hL.mem j (Array.getElem?_eq_some_iff.1 ho).1).1 h0
   rw [x0, l9] at hjm
   rcases hjm with hjm | hjm
   ·obtain ⟨bj, hjb⟩ := kX7 hjm
    obtain ⟨p, r, rfl⟩ := List.append_of_mem hjb
    have hpp := List.pairwise_append.1 hp
    have hswap : ∀ x ∈ p, MayV ops x (j, bj) := fun x hx => by
     rcases hpp.2.2 x hx (j, bj) lP with hd | hd
     ·exact absurd (List.mem_map.2 ⟨x, xI _ (xI _ hx), rfl⟩) (hdeps x.1 hd)
     ·exact hd
    have hL' : Left ops (((p ++ r) ++ [(f, false)]).map Prod.fst) (listed.setIfInBounds j true) := by
     rw [xD, x0]
     exact Left.step (by simpa using hL) hedge hj
    have hv : vst P ops C Q (j, bj) (Wv P ops C (QF P ops Q f) (p ++ r)) a w := yO5 ho (kJ2 hsel p a w hswap h)
    refine wpOp_mono (fun b w' hb => ih (p ++ r) _ b w' (by simp at hl ⊢; omega) hb.1 hL' ?_ (fun x hx => hd x ?_) hb.2) (vN7 hC hv)
    ·exact List.pairwise_append.2 ⟨hpp.1, (List.pairwise_cons.1 hpp.2.1).2, fun x hx y hy => hpp.2.2 x hx y (lU _ hy)⟩
    ·rcases List.mem_append.1 hx with hx | hx
     ·exact xI _ hx
     ·exact x7 _ (lU _ hx)
   ·obtain rfl : j = f := by simpa using hjm
    match ord, hl with
    | x :: r, _ =>
     exact absurd (List.mem_map.2 ⟨x, lP, rfl⟩) (hdeps x.1 (hd x lP))
def yC9 (l : List Oper) (ls : List (Nat × Bool)) (f : Nat) : Bool := vG1 l (ls ++ [(f, false)]) && vB l.toArray (ancs l) ls && ls.all fun x => ((ancs l).getD f []).contains x.1
theorem kO3 {id : Nat} {l : List Oper} {a : Act} {w : World} (ls : List (Nat × Bool)) (f : Nat) (hm : P.follows .mixedOrders = true) (hB : yC9 l ls f = true) (hC : C w.drew) (h : Wv P l.toArray C (QF P l.toArray Q f) ls a w.drew) : wq P N (.region id l.toArray true) Q a w := by
 simp only [yC9, vG1, xM, decide_eq_true_eq] at hB
 obtain ⟨⟨⟨⟨⟨⟨hsel, hlen⟩, hnd⟩, hext⟩, _⟩, hpairs⟩, hlast⟩ := hB
 have hlen := x6 hlen
 obtain ⟨he1, he2⟩ := kB9 hext (by simp) hnd
 have hall : ∀ k, k < l.length → k ∈ (ls ++ [(f, false)]).map Prod.fst := vG6 l.length _ hnd (by simpa using hlen) (fun x hx => by simpa using he2 x hx)
 have hedge : ∀ (j : Nat) (o : Oper), l.toArray[j]? = some o → ∀ e ∈ o.after, Region.binds .any e = true → e.on < l.toArray.size := fun j o ho e he hb =>
  jU9 _ _ hext (by simp) j (hall j (by simpa using (Array.getElem?_eq_some_iff.1 ho).1)) o ho e he hb
 refine kJ0 hm ?_
 have hA := kE8 l
 have := yH6 (P := P) (Q := Q) (C := C) (f := f) (Region.noSelect_spec hsel) hedge ls.length ls (Array.replicate l.toArray.size false) a w.drew rfl hC
  ⟨hnd, by simp, he2, fun k hk => by
   have h1 : k ∈ (ls ++ [(f, false)]).map Prod.fst := hall k (by simpa using hk)
   have hk' : k < l.length := by simpa using hk
   have h2 : (Array.replicate l.toArray.size false).getD k true = false := by simp [zC, hk']
   exact ⟨fun _ => h1, fun _ => h2⟩, he1, fun j o ho hj => absurd (hall j (by simpa using (Array.getElem?_eq_some_iff.1 ho).1)) hj⟩
  (yO9 hA hpairs) (fun x hx => hA f x.1 (by have := List.all_eq_true.1 hlast x hx; simpa using this)) h
 have e : ls.length + 1 = l.toArray.size := by simpa using hlen
 rw [e] at this
 exact this
theorem jR2 {id : Nat} {l : List Oper} (H0 : Heap) (ls : List (Nat × Bool)) (f : Nat) {o : Oper} (ho : l.toArray[f]? = some o) (hm : P.follows .mixedOrders = true) (hB : yC9 l ls f = true) (hk : HLe H0 H)
  (h : ∀ Z : Fr → Heap → Prop, (∀ fr H, nx N w0 Wr fr H Q .normal → Z fr H) → tw P N w0 Wr l.toArray H0 ls fr H fun fr' H' => sx P N w0 Wr l.toArray [o] fr' H' Z) : awp P N w0 Wr (.region id l.toArray true) fr H Q :=
 fun a w ha hw => kO3 (C := Sat w0 Wr H0) ls f hm hB (hk _ _ _ hw.drew)
  (h (fun fr H => nx N w0 Wr fr H Q .normal) (fun _ _ h => h) (QF P l.toArray Q f) (fun fr' H' a w hz hf hs => by
   have h1 := hz (QN Q) (fun fr2 H2 a w hy hf2 hs2 => ⟨rfl, hy a w hf2 hs2⟩) a w hf hs
   show wpOp P l.toArray (QN Q) f (fun a w => QN Q .normal a w) a w
   unfold wpOp
   simp only [ho]
   unfold wpList at h1
   split
   ·rename_i hw'
    rw [if_pos hw'] at h1
    exact h1.imp (Oper.wp_mono fun a w hh => hh) (fun h => h)
   ·rename_i hw'
    rw [if_neg hw'] at h1
    exact h1) a w.drew ha hw.drew)
theorem jX2 {id : Nat} {l : List Oper} {y : Code} (H0 : Heap) (ls : List (Nat × Bool)) (f : Nat) {o : Oper} (ho : l.toArray[f]? = some o) (hm : P.follows .mixedOrders = true) (hB : yC9 l ls f = true) (hk : HLe H0 H)
  (h : ∀ Z : Fr → Heap → Prop, (∀ fr H, awp P N w0 Wr y fr H Q → Z fr H) → tw P N w0 Wr l.toArray H0 ls fr H fun fr' H' => sx P N w0 Wr l.toArray [o] fr' H' Z) : awp P N w0 Wr (.seq (.region id l.toArray true) y) fr H Q :=
 aS (jR2 H0 ls f ho hm hB hk fun Z hZ => h Z fun fr H hy => hZ fr H hy)
end
end
section
open Go.RowKit Go.Lib
section
variable {P : Program} {N : Frm} {w0 w : World} {Wr : List Nat} {ops : Array Oper} {rest : List Oper} {fr : Fr} {H : Heap} {Z : Fr → Heap → Prop} {d ty : Nat} {pos : String} {after : Array Edge}
theorem vC4 (m : List UInt8) : strCells (str m) = bv m := by simp [strCells, str, bv]
theorem vX3 {t u e : TypeId} {i : TypeInfo} (ht : P.underlying t = some (.slice e)) (hu : P.underlying u = some .string) (hi : P.info? e = some i) (hz : i.zero = some (.int .u8 0)) (hsize : i.size = 1) (hby : i.bytes = 1)
  {v : Value} {n : Nat} {xs : List Value} (hown : w.ownsRow 0 e 1 v n xs) (s : ByteArray) (hl : n + s.size ≤ 140737488355328) :
  ∃ v' w', (Builtin.append_ #[t, u] ty #[v, .string s]).run P w = .ok v' w' ∧ w'.ownsRow 0 e 1 v' (n + s.size) (xs ++ strCells s) ∧ w.grownBy w' v.ownBlock ∧ (v'.ownBlock = v.ownBlock ∨ v'.ownBlock = some w.heap.size) := by
 obtain ⟨v', w', h1, h2, h3, _⟩ := run_append_own_string (P := P) w 0 t u ty e i ht hu hi hz hsize hby v n xs hown s (by show _ ≤ 9223372036854775807; omega) hl (lZ _)
 refine ⟨v', w', h1, h2, h3, ?_⟩
 have hxl : xs.length = n := by simpa using hown.1
 rcases hown.2 with ⟨rfl, rfl⟩ | ⟨g, cap, cur, rfl, hbg, hg, hnc, hcm, hcs, htake⟩
 ·by_cases hm : s.size = 0
  ·have hf := run_firstCells_string (P := P) w 1 s
   rw [hm] at hf
   have h4 : (Builtin.append_ #[t, u] ty #[.slice none 0 0, .string s]).run P w = .ok (.slice none 0 0) w := by
    simp [Builtin.append_, run_underlying ht, run_underlying hu, sizeOf, typeInfo, hi, hsize, Builtin.lenOf, hm, hf]
   rw [h4] at h1
   injection h1 with h1 _
   subst h1
   exact .inl rfl
  ·have hr := run_append_nil_string (P := P) w t u ty e i (.int .u8 0) ht hu hi hz s (by omega) (by omega) (by rw [hby]; omega)
   rw [hr] at h1
   injection h1 with h1 _
   subst h1
   exact .inr rfl
 ·by_cases hroom : n + s.size ≤ cap
  ·have hcs' : cur.size = cap := by simpa using hcs
   have hr := run_append_room_string (P := P) w t u ty e i ht hu hi hsize g n cap cur hg s hroom (by omega)
   rw [hr] at h1
   injection h1 with h1 _
   subst h1
   exact .inl rfl
  ·have holds : ∀ j u, xs[j]? = some u → w.cell? ((⟨g, 0, none⟩ : Addr).add j) = some u := hown.cells (g := g) rfl
   have hr := run_append_grow_string (P := P) w t u ty e i (.int .u8 0) ht hu hi hz ⟨g, 0, none⟩ n cap xs (by rw [hsize]; simpa using hxl) holds s (by omega) (by omega) (by rw [hby]; exact growslice_fits (by omega) (by omega))
   rw [hr] at h1
   injection h1 with h1 _
   subst h1
   exact .inr rfl
theorem jP8 {t u e : TypeId} {s x : Operand} {v : Value} {l m : List UInt8} (H1 : Heap) (ht : P.underlying t = some (.slice e)) (hu : P.underlying u = some .string) (hi : (P.info? e).map (fun i => (i.zero, i.size, i.bytes)) = some (some (.int .u8 0), 1, 1)) (hs : ev fr s = some v) (hv : RowOk v l.length) (hx : ev fr x = some (.string (str m)))
  (hl : l.length + m.length ≤ 140737488355328) (hH : HLe (H1 ++ rowE v e 1 (bv l)) H) (hN : bN d N)
  (h : ∀ v', RowOk v' (l ++ m).length → sx P N w0 Wr ops rest ((d, v') :: fr) (H1 ++ rowE v' e 1 (bv (l ++ m))) Z) :
  sx P N w0 Wr ops (⟨some d, .call { callee := .builtin .append, args := #[s, x], argTypes := #[t, u] }, ty, pos, after, none⟩ :: rest) fr H Z := by
 obtain ⟨i, h1, h2⟩ := Option.map_eq_some_iff.1 hi
 obtain ⟨h3, h4, h5⟩ : i.zero = some (.int .u8 0) ∧ i.size = 1 ∧ i.bytes = 1 := by simpa using h2
 refine jI7 (R := fun v' H' => RowOk v' (l ++ m).length ∧ H' = H1 ++ rowE v' e 1 (bv (l ++ m))) hN (fun a w ha hw => ?_) (fun v' H' hR => by obtain ⟨h2, rfl⟩ := hR; exact h v' h2)
 have hw' := (HLe.trans (kD H1 (rowE v e 1 (bv l))) hH) _ _ _ hw
 have hown := kQ2 hv (by simp [jF9]) hw'
 obtain ⟨v', w', hrun, g2, g4, g5⟩ := vX3 (P := P) (ty := ty) ht hu h1 h3 h4 h5 hown (str m) (by rw [str_size]; exact hl)
 rw [vC4, ← jP4, str_size] at g2
 refine ⟨v', w', _, ?_, ⟨by rw [lN]; exact (jO7 g2).1, rfl⟩, (kD _ _) _ _ _ (hw'.app hv g2 g4 g5)⟩
 simp only [execOp, resolve, uB, xR, qT, ha.eval hs, ha.eval hx, lJ, l7, lR, invoke, builtin, hrun]
theorem jZ4 {f : FuncId} {xs : List Operand} {vs : List Value} {ts : Array TypeId} {dst : Option Nat} {R : Value → Heap → Prop} (U : Heap) (hc : Fn P f vs U R) (hx : evs fr xs = some vs) (hU : U.Sublist H) (hroU : Ro U) (hN : dstB N dst = true)
  (h : ∀ v H', R v H' → sx P N w0 Wr ops rest (match dst with | some d => (d, v) :: fr | none => fr) (H'.filter Ent.wr ++ H) Z) :
  sx P N w0 Wr ops (⟨dst, .call { callee := .value (.func f), args := xs.toArray, argTypes := ts }, ty, pos, after, none⟩ :: rest) fr H Z :=
 jB4 U H hc hx ((kD H U).trans (HLe.dup hU hroU)) hN h
theorem Sat.callV {w' : World} {H' : Heap} (hw : Sat w0 Wr H w) (h3 : Sat w [] H' w') : Sat w0 Wr (H'.filter Ent.wr ++ H) w' := by
 have hH := hw.bel h3.only.bel
 have hfr : ∀ e ∈ H'.filter Ent.wr, w.heap.size ≤ e.g := fun e he => by
  obtain ⟨h1, h2⟩ := List.mem_filter.1 he
  rcases (h3.ents e h1).2 h2 with h | h
  ·cases h
  ·exact h
 refine ⟨hH.only, fun e he => ?_, List.pairwise_append.2 ⟨h3.sep.sublist (List.filter_sublist), hw.sep, fun a ha b hb _ => ?_⟩⟩
 ·rcases List.mem_append.1 he with he | he
  ·exact ⟨(h3.ents e (List.mem_filter.1 he).1).1, fun _ => .inr (uI hw.only.size (hfr e he))⟩
  ·exact hH.ents e he
 ·have h1 := hfr a ha
  have h2 := Ent.lt (hw.ents b hb).1
  omega
theorem jZ3 {f : FuncId} {xs : List Operand} {vs : List Value} {ts : Array TypeId} {dst : Option Nat} {R : Value → Heap → Prop} (U : Heap) (hc : Fn P f vs U R) (hx : evs fr xs = some vs) (hU : HLe U H) (hroU : Ro U) (hN : dstB N dst = true)
  (h : ∀ v H', R v H' → sx P N w0 Wr ops rest (match dst with | some d => (d, v) :: fr | none => fr) (H'.filter Ent.wr ++ H) Z) :
  sx P N w0 Wr ops (⟨dst, .call { callee := .value (.func f), args := xs.toArray, argTypes := ts }, ty, pos, after, none⟩ :: rest) fr H Z :=
 jN9 (R := fun u H2 => ∃ H', R u H' ∧ H2 = H'.filter Ent.wr ++ H) hc.1 hx hN (fun w hw => by
  have hpre : Sat w (wrs U) U w := (hU _ _ _ hw).base
  exact (hc.2 w hpre).mono fun e w' he => by
   obtain ⟨u, H', h1, h2, h3⟩ := he
   have h0 : wrs U = [] := by have := hroU.wrs []; simpa [wrs] using this
   rw [h0] at h3
   exact ⟨u, _, h1, ⟨H', h2, rfl⟩, hw.callV h3⟩) (fun u H2 hR => by obtain ⟨H', hR, rfl⟩ := hR; exact h u H' hR)
end
theorem kW6 {A : Option Addr} {n c : Nat} (hle : ∀ (X Y : Heap) (t : TypeId) (size : Nat) (xs : List Value), HLe (X ++ (roE A xs ++ Y)) (X ++ (rowE (.slice A n c) t size xs ++ Y))) (X : Heap) (t : TypeId) (size : Nat) (xs : List Value) : HLe (roE A xs) (X ++ rowE (.slice A n c) t size xs) := by
 have h := hle X [] t size xs
 simp only [lH] at h
 exact (kA (lX X _)).trans h
end
section
open Go.RowKit
structure SlIn (A : Option Addr) (n c : Nat) : Prop where
 ok : SlOk A n
 cap : n ≤ c
 none : A = Option.none → c = 0
end
end Go.Proofs.YteofkgedfjffcaaGreatDoor
