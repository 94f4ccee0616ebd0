/- More steps of the small logic: parts of values, addresses, literals, guards. No conditions. -/
import Derived.Test.YtfffhnefjaomnaaSx4
namespace Go.Proofs.Ytfffhnefjaomnaa
open Go.RowKit
set_option linter.unusedVariables false
set_option linter.unusedSimpArgs false
set_option linter.unusedSectionVars false
/-- A bound of a slice expression. -/
def bnd (fr : Fr) (dflt : Int) : Option Operand → Option Int
  | none => some dflt
  | some x => match ev fr x with
    | some (.int _ i) => some i
    | _ => none
def tyPlaces (P : Program) (t : TypeId) : Option (List (Nat × Nat)) :=
  match P.underlying t with
  | some (.struct fs) => fs.toList.mapM fun f => (tySize P f.type).map fun n => (f.offset, n)
  | _ => none
def evParts (fr : Fr) : List (Nat × Operand) → Option (List (Nat × Value))
  | [] => some []
  | (i, x) :: r => (ev fr x).bind fun v => (evParts fr r).bind fun vs => some ((i, v) :: vs)
def celled (l : List (Nat × Value)) : List (Nat × List Value) := l.map fun p => (p.1, p.2.cells.toList)
def zrep (m : Nat) (z : List Value) : List Value := (List.range m).map fun i => z.toArray[i % z.length]!
theorem FrOk.parts {N : Frm} {fr : Fr} {a : Act} (h : FrOk N fr a) : ∀ {xs : List (Nat × Operand)} {vs : List (Nat × Value)}, evParts fr xs = some vs → xs.map (fun p => (p.1, a.eval p.2)) = vs
  | [], vs, hx => by obtain rfl := Option.some.inj hx; rfl
  | (i, x) :: r, vs, hx => by
    simp only [evParts] at hx
    cases h1 : ev fr x with
    | none => simp [h1] at hx
    | some v =>
      cases h2 : evParts fr r with
      | none => simp [h1, h2] at hx
      | some us =>
        simp only [h1, h2, Option.bind_some, Option.some.injEq] at hx
        subst hx
        simp [h.eval h1, h.parts h2]
theorem foldl_set : ∀ (v : List Value) (cells : Array Value) (off i : Nat), off + i + v.length ≤ cells.size →
    (((v.zipIdx i).foldl (fun cs (p : Value × Nat) => cs.setIfInBounds (off + p.2) p.1) cells).toList = wrV cells.toList (off + i) v)
  | [], cells, off, i, _ => by simp [wrV]
  | x :: v, cells, off, i, h => by
    simp only [List.length_cons] at h
    simp only [List.zipIdx_cons, List.foldl_cons]
    rw [foldl_set v (cells.setIfInBounds (off + i) x) off (i + 1) (by simp; omega)]
    simp only [wrV, Array.toList_setIfInBounds, List.length_cons]
    have hl : off + i < cells.toList.length := by simp; omega
    rw [← Nat.add_assoc, List.take_succ_eq_append_getElem (by simpa using hl), List.take_set_of_le (Nat.le_refl _), List.drop_set_of_lt (by omega)]
    simp [Nat.add_assoc, Nat.add_comm 1]
theorem fill_ok (place : Nat → Option (Nat × Nat)) : ∀ (ps : List (Nat × Value)) (cells : Array Value) (r : List Value), fillV place cells.toList (celled ps) = some r → Instr.fill place cells ps = some r.toArray
  | [], cells, r, h => by
    simp only [celled, List.map_nil, fillV, Option.some.injEq] at h
    subst h
    simp [Instr.fill]
  | (i, v) :: ps, cells, r, h => by
    simp only [celled, List.map_cons, fillV] at h
    unfold Instr.fill
    cases hp : place i with
    | none => simp [hp] at h
    | some q =>
      obtain ⟨off, size⟩ := q
      simp only [hp] at h ⊢
      cases hb : Nat.beq v.cells.toList.length size && Nat.ble (off + v.cells.toList.length) cells.toList.length with
      | false => rw [hb] at h; cases h
      | true =>
        rw [hb] at h
        simp only [cond_true] at h
        simp only [Bool.and_eq_true] at hb
        have h1 : v.cells.size = size := by simpa using Nat.eq_of_beq_eq_true hb.1
        have h2 : off + v.cells.size ≤ cells.size := by simpa using Nat.le_of_ble_eq_true hb.2
        have h3 : ¬ ((decide (v.cells.size ≠ size) || decide (off + v.cells.size > cells.size)) = true) := by
          simp only [Bool.or_eq_true, decide_eq_true_eq]; omega
        rw [if_neg h3]
        refine fill_ok place ps _ r ?_
        have e := foldl_set v.cells.toList cells off 0 (by simpa using h2)
        have e2 : (v.cells.zipIdx.foldl (fun cs (p : Value × Nat) => cs.setIfInBounds (off + p.2) p.1) cells).toList = wrV cells.toList off v.cells.toList := by
          rw [← Array.foldl_toList]
          simpa using e
        have e3 : (Array.foldl (fun cs x => match x with | (c, j) => cs.setIfInBounds (off + j) c) cells v.cells.zipIdx).toList = wrV cells.toList off v.cells.toList := e2
        rw [e3]
        exact h
theorem zrep_one (n : Nat) (x : Value) : zrep n [x] = List.replicate n x := by
  unfold zrep
  rw [List.eq_replicate_iff]
  refine ⟨by simp, fun b hb => ?_⟩
  simp [Nat.mod_one] at hb
  exact hb.2.symm
section
variable {P : Program} {N : Frm} {w0 : World} {Wr : List Nat} {ops : Array Oper} {rest : List Oper} {fr : Fr} {H : Heap} {Z : Fr → Heap → Prop}
variable {d ty : Nat} {pos : String} {after : Array Edge}
theorem run_part {t : TypeId} {b : Bool} {n off : Nat} {cs : List Value} {v : Value} {w : World} (ha : tyAgg P t = some b) (hs : tySize P t = some n) (hv : rdV b n cs off = some v) : (part t cs.toArray off).run P w = .ok v w := by
  unfold part
  simp only [Sem.run_bind, run_isAgg ha, Result.andThen_ok]
  cases b with
  | false =>
    have : cs.toArray[off]? = some v := by simpa [rdV] using hv
    simp [this]
  | true =>
    simp only [rdV, cond_true] at hv
    cases hb : Nat.ble (off + n) cs.length with
    | false => rw [hb] at hv; cases hv
    | true =>
      rw [hb] at hv
      obtain rfl := Option.some.inj hv
      simp only [if_true, Sem.run_bind, run_sizeOf hs, Result.andThen_ok]
      simp [List.extract_eq_take_drop, List.extract]
theorem tyField_split {s i off n : Nat} {b : Bool} (hf : tyField P s i = some (off, n, b)) : ∃ fs f, P.underlying s = some (.struct fs) ∧ fs[i]? = some f ∧ f.offset = off ∧ tySize P f.type = some n ∧ tyAgg P f.type = some b := by
  unfold tyField at hf
  cases hu : P.underlying s with
  | none => simp [hu] at hf
  | some dd =>
    cases dd <;> simp only [hu] at hf <;> try cases hf
    rename_i fs
    cases hi : fs[i]? with
    | none => simp [hi] at hf
    | some f =>
      simp only [hi, Option.bind_some] at hf
      cases hs : tySize P f.type with
      | none => simp [hs] at hf
      | some m =>
        cases hb : tyAgg P f.type with
        | none => simp [hs, hb] at hf
        | some bb =>
          simp only [hs, hb, Option.bind_some] at hf
          split at hf
          · cases hf
          · simp only [Option.some.injEq, Prod.mk.injEq] at hf
            obtain ⟨rfl, rfl, rfl⟩ := hf
            exact ⟨fs, f, rfl, hi, rfl, hs, hb⟩
theorem sx_field {s i off n : Nat} {b : Bool} {x : Operand} {cs : List Value} {v : Value} (hx : ev fr x = some (.agg cs.toArray)) (hf : tyField P s i = some (off, n, b)) (hv : rdV b n cs off = some v) (hN : Nat.ble (d + 1) N.n = true)
    (h : sx P N w0 Wr ops rest ((d, v) :: fr) H Z) : sx P N w0 Wr ops (⟨some d, .field s x i, ty, pos, after, none⟩ :: rest) fr H Z :=
  sx_val v hN (fun a w ha _ => by
    obtain ⟨fs, f, h1, h2, rfl, h3, h4⟩ := tyField_split hf
    simp only [execOp, Instr.field, ha.eval hx, Sem.run_bind, run_underlying h1, Result.andThen_ok, h2, asAgg, Sem.run_pure, run_part h4 h3 hv]) h
theorem sx_indexA {t e len n : Nat} {b : Bool} {x y : Operand} {cs : List Value} {k : IntKind} {i : Int} {v : Value} (ht : P.underlying t = some (.array len e)) (ha' : tyAgg P e = some b) (hs : tySize P e = some n) (hx : ev fr x = some (.agg cs.toArray)) (hy : ev fr y = some (.int k i)) (hi : 0 ≤ i ∧ i < len) (hv : rdV b n cs (i.toNat * n) = some v) (hN : Nat.ble (d + 1) N.n = true)
    (h : sx P N w0 Wr ops rest ((d, v) :: fr) H Z) : sx P N w0 Wr ops (⟨some d, .index t x y, ty, pos, after, none⟩ :: rest) fr H Z :=
  sx_val v hN (fun a w ha _ => by
    simp only [execOp, Instr.index, ha.eval hx, ha.eval hy, asIntOf, Sem.run_bind, Sem.run_pure, run_underlying ht, Result.andThen_ok, if_pos hi, run_sizeOf hs, run_part ha' hs hv]) h
theorem sx_indexS {t : Nat} {x y : Operand} {l : List UInt8} {k : IntKind} {i : Int} {c : UInt8} (ht : P.underlying t = some .string) (hx : ev fr x = some (.string (str l))) (hy : ev fr y = some (.int k i)) (hi : 0 ≤ i) (hv : l[i.toNat]? = some c) (hN : Nat.ble (d + 1) N.n = true)
    (h : sx P N w0 Wr ops rest ((d, .int .u8 (c.toNat : Int)) :: fr) H Z) : sx P N w0 Wr ops (⟨some d, .index t x y, ty, pos, after, none⟩ :: rest) fr H Z :=
  sx_val _ hN (fun a w ha _ => by
    have : (str l)[i.toNat]? = some c := by
      have hl := (List.getElem?_eq_some_iff.1 hv)
      obtain ⟨h1, h2⟩ := hl
      have h3 : i.toNat < (str l).size := by rw [str_size]; exact h1
      rw [getElem?_pos (str l) i.toNat h3]
      congr 1
    simp only [execOp, Instr.index, ha.eval hx, ha.eval hy, asIntOf, Sem.run_bind, Sem.run_pure, run_underlying ht, Result.andThen_ok, if_pos hi, this]) h
theorem addr_add (g o n : Nat) : Addr.add ⟨g, o, none⟩ n = ⟨g, o + n, none⟩ := by unfold Addr.add; split <;> simp_all
theorem sx_indexAddr {t e n g o len c : Nat} {x y : Operand} {k : IntKind} {i : Int} (o' : Nat) (ht : P.underlying t = some (.slice e)) (hs : tySize P e = some n) (hx : ev fr x = some (.slice (some ⟨g, o, none⟩) len c)) (hy : ev fr y = some (.int k i)) (hi : 0 ≤ i ∧ i < len) (ho : o + i.toNat * n = o') (hN : Nat.ble (d + 1) N.n = true)
    (h : sx P N w0 Wr ops rest ((d, ptr g o') :: fr) H Z) : sx P N w0 Wr ops (⟨some d, .indexAddr t x y, ty, pos, after, none⟩ :: rest) fr H Z :=
  sx_val _ hN (fun a w ha _ => by
    subst ho
    simp only [execOp, Instr.indexAt, ha.eval hx, ha.eval hy, asIntOf, Sem.run_bind, Sem.run_pure, run_underlying ht, Result.andThen_ok, if_pos hi, run_sizeOf hs, addr_add]
    rfl) h
theorem sx_indexAddrA {t e n g o len : Nat} {x y : Operand} {k : IntKind} {i : Int} (o' : Nat) (ht : P.underlying t = some (.array len e)) (hs : tySize P e = some n) (hx : ev fr x = some (ptr g o)) (hy : ev fr y = some (.int k i)) (hi : 0 ≤ i ∧ i < len) (ho : o + i.toNat * n = o') (hN : Nat.ble (d + 1) N.n = true)
    (h : sx P N w0 Wr ops rest ((d, ptr g o') :: fr) H Z) : sx P N w0 Wr ops (⟨some d, .indexAddr t x y, ty, pos, after, none⟩ :: rest) fr H Z :=
  sx_val _ hN (fun a w ha _ => by
    subst ho
    simp only [execOp, Instr.indexAt, ha.eval hx, ha.eval hy, asIntOf, Sem.run_bind, Sem.run_pure, run_underlying ht, Result.andThen_ok, ptr, Instr.sureAddr, if_pos hi, run_sizeOf hs, addr_add]) h
theorem sliceBound_ok {k : IntKind} {i : Int} {y : Nat} {code : BoundsCode} {w : World} (hi : 0 ≤ i ∧ i ≤ y) : (Instr.sliceBound (.int k i) y code).run P w = .ok i.toNat w := by
  simp only [Instr.sliceBound, asIntOf, Sem.run_bind, Sem.run_pure, Result.andThen_ok, if_pos hi]
theorem bnd_some {dflt i : Int} {x : Operand} (h : bnd fr dflt (some x) = some i) : ∃ k, ev fr x = some (.int k i) := by
  simp only [bnd] at h
  split at h
  · rename_i k j he
    obtain rfl := Option.some.inj h
    exact ⟨k, he⟩
  · cases h
theorem sliceBounds_ok {isS : Bool} {len cap : Nat} {lo hi : Option Operand} {l h : Int} {a : Act} {w : World} (ha : FrOk N fr a) (hl : bnd fr 0 lo = some l) (hh : bnd fr len hi = some h) (h0 : 0 ≤ l) (h1 : l ≤ h) (h2 : h ≤ cap) :
    (Instr.sliceBounds isS len cap (lo.map a.eval) (hi.map a.eval) none).run P w = .ok (l.toNat, h.toNat, cap) w := by
  have hh' : (0:Int) ≤ h ∧ h ≤ cap := ⟨by omega, h2⟩
  have hl' : (0:Int) ≤ l ∧ l ≤ h.toNat := ⟨h0, by omega⟩
  cases hi with
  | none =>
    obtain rfl := Option.some.inj hh
    cases lo with
    | none =>
      obtain rfl := Option.some.inj hl
      simp [Instr.sliceBounds, Sem.run_bind]
    | some x =>
      obtain ⟨k, hx⟩ := bnd_some hl
      have := sliceBound_ok (P := P) (k := k) (i := l) (y := len) (code := .sliceB) (w := w) ⟨h0, h1⟩
      simp [Instr.sliceBounds, Sem.run_bind, ha.eval hx, this]
  | some y =>
    obtain ⟨k', hy⟩ := bnd_some hh
    have hs : ∀ code, (Instr.sliceBound (.int k' h) cap code).run P w = .ok h.toNat w := fun code => sliceBound_ok hh'
    cases lo with
    | none =>
      obtain rfl := Option.some.inj hl
      simp [Instr.sliceBounds, Sem.run_bind, ha.eval hy, hs]
    | some x =>
      obtain ⟨k, hx⟩ := bnd_some hl
      have := sliceBound_ok (P := P) (k := k) (i := l) (y := h.toNat) (code := .sliceB) (w := w) hl'
      simp [Instr.sliceBounds, Sem.run_bind, ha.eval hx, ha.eval hy, hs, this]
/-- A piece of a text. -/
theorem sx_sliceS {t : TypeId} {x : Operand} {lo hi : Option Operand} {l : List UInt8} {i j : Int} (m : List UInt8) (ht : P.underlying t = some .string) (hx : ev fr x = some (.string (str l))) (hl : bnd fr 0 lo = some i) (hh : bnd fr (l.length : Int) hi = some j) (h0 : 0 ≤ i) (h1 : i ≤ j) (h2 : j ≤ l.length) (hm : (l.drop i.toNat).take (j.toNat - i.toNat) = m) (hN : Nat.ble (d + 1) N.n = true)
    (h : sx P N w0 Wr ops rest ((d, .string (str m)) :: fr) H Z) : sx P N w0 Wr ops (⟨some d, .slice t x lo hi none, ty, pos, after, none⟩ :: rest) fr H Z :=
  sx_val _ hN (fun a w ha _ => by
    subst hm
    have hb := sliceBounds_ok (P := P) (isS := false) (len := (str l).size) (cap := (str l).size) (w := w) ha hl (by rw [str_size]; exact hh) h0 h1 (by rw [str_size]; exact h2)
    simp only [execOp, Instr.sliceAt, Instr.slice, ha.eval hx, Sem.run_bind, run_underlying ht, Result.andThen_ok, Option.map_none, Option.isSome_none, Bool.false_eq_true, if_false, hb, Sem.run_pure, str_cut]) h
/-- A piece of a slice. -/
theorem sx_slice {t e n g o len c : Nat} {x : Operand} {lo hi : Option Operand} {i j : Int} (ht : P.underlying t = some (.slice e)) (hs : tySize P e = some n) (hx : ev fr x = some (.slice (some ⟨g, o, none⟩) len c)) (hl : bnd fr 0 lo = some i) (hh : bnd fr (len : Int) hi = some j) (h0 : 0 ≤ i) (h1 : i ≤ j) (h2 : j ≤ c) (hN : Nat.ble (d + 1) N.n = true)
    (h : ∀ o', (i < j → o' = o + i.toNat * n) → sx P N w0 Wr ops rest ((d, .slice (some ⟨g, o', none⟩) (j.toNat - i.toNat) (c - i.toNat)) :: fr) H Z) : sx P N w0 Wr ops (⟨some d, .slice t x lo hi none, ty, pos, after, none⟩ :: rest) fr H Z :=
  sx_val (.slice (some ⟨g, (if c = i.toNat then o else o + i.toNat * n), none⟩) (j.toNat - i.toNat) (c - i.toNat)) hN (fun a w ha _ => by
    have hb := sliceBounds_ok (P := P) (isS := true) (len := len) (cap := c) (w := w) ha hl hh h0 h1 h2
    simp only [execOp, Instr.sliceAt, Instr.slice, ha.eval hx, Sem.run_bind, run_underlying ht, Result.andThen_ok, Option.map_none, hb, Sem.run_pure, run_sizeOf hs, Option.map_some, addr_add]
    by_cases hc : c = i.toNat <;> simp [hc]) (h _ (fun hlt => by rw [if_neg (by omega)]))
theorem places_ok : ∀ (fs : List Field) (ps : List (Nat × Nat)) (w : World), (fs.mapM fun f => (tySize P f.type).map fun n => (f.offset, n)) = some ps →
    (fs.mapM (m := Sem) fun f => do pure (f.offset, ← sizeOf f.type)).run P w = .ok ps w
  | [], ps, w, h => by
    simp only [List.mapM_nil, Option.pure_def, Option.some.injEq] at h
    subst h
    simp
  | f :: fs, ps, w, h => by
    simp only [List.mapM_cons] at h
    cases h1 : tySize P f.type with
    | none => simp [h1] at h
    | some n =>
      cases h2 : fs.mapM fun f => (tySize P f.type).map fun n => (f.offset, n) with
      | none => simp [h1, h2] at h
      | some qs =>
        simp only [h1, h2, Option.map_some] at h
        obtain rfl : (f.offset, n) :: qs = ps := Option.some.inj h
        simp only [List.mapM_cons, Sem.run_bind, run_sizeOf h1, Result.andThen_ok, Sem.run_pure, places_ok fs qs w h2]
theorem sx_build {t : TypeId} {parts : List (Nat × Operand)} {pv : List (Nat × Value)} {z cs cs' : List Value} {pl : List (Nat × Nat)} (hz : tyZero P t = some z) (hp : tyPlaces P t = some pl) (hx : evParts fr parts = some pv) (hf : fillV (pl[·]?) z (celled pv) = some cs) (hn : cs = cs') (hN : Nat.ble (d + 1) N.n = true)
    (h : sx P N w0 Wr ops rest ((d, .agg cs'.toArray) :: fr) H Z) : sx P N w0 Wr ops (⟨some d, .build t parts.toArray, ty, pos, after, none⟩ :: rest) fr H Z :=
  sx_val _ hN (fun a w ha _ => by
    subst hn
    obtain ⟨v, h1, h2⟩ := run_zero (w := w) hz
    unfold tyPlaces at hp
    cases hu : P.underlying t with
    | none => simp [hu] at hp
    | some dd =>
      cases dd <;> simp only [hu] at hp <;> try cases hp
      rename_i fs
      have hpl := places_ok (P := P) fs.toList pl w hp
      have hpl' : (fs.mapM (m := Sem) fun f => do pure (f.offset, ← sizeOf f.type)).run P w = .ok pl.toArray w := by
        rw [← Array.toArray_toList (xs := fs), List.mapM_toArray]
        rw [Sem.run_map, hpl]
        rfl
      have hfl : Instr.fill (fun i => pl.toArray[i]?) v.cells pv = some cs.toArray := fill_ok _ pv v.cells cs (by rw [h2]; simpa using hf)
      have hpv := ha.parts hx
      have hpv' : (parts.toArray.map fun (p : Nat × Operand) => (p.1, a.eval p.2)).toList = pv := by simpa using hpv
      simp only [execOp, Instr.build, Sem.run_bind, h1, Result.andThen_ok, run_underlying hu, hpl', hpv', hfl]
      rfl) h
theorem sx_buildA {t e len n : TypeId} {parts : List (Nat × Operand)} {pv : List (Nat × Value)} {z cs cs' : List Value} (hz : tyZero P t = some z) (ht : P.underlying t = some (.array len e)) (hs : tySize P e = some n) (hx : evParts fr parts = some pv) (hf : fillV (fun i => some (i * n, n)) z (celled pv) = some cs) (hn : cs = cs') (hN : Nat.ble (d + 1) N.n = true)
    (h : sx P N w0 Wr ops rest ((d, .agg cs'.toArray) :: fr) H Z) : sx P N w0 Wr ops (⟨some d, .build t parts.toArray, ty, pos, after, none⟩ :: rest) fr H Z :=
  sx_val _ hN (fun a w ha _ => by
    subst hn
    obtain ⟨v, h1, h2⟩ := run_zero (w := w) hz
    have hfl : Instr.fill (fun i => some (i * n, n)) v.cells pv = some cs.toArray := fill_ok _ pv v.cells cs (by rw [h2]; simpa using hf)
    have hpv := ha.parts hx
    have hpv' : (parts.toArray.map fun (p : Nat × Operand) => (p.1, a.eval p.2)).toList = pv := by simpa using hpv
    simp only [execOp, Instr.build, Sem.run_bind, h1, Result.andThen_ok, run_underlying ht, run_sizeOf hs, hpv', hfl]
    rfl) h
theorem sx_buildSlice {t e len n : Nat} {parts : List (Nat × Operand)} {pv : List (Nat × Value)} {z cs cs' : List Value} (ht : P.underlying t = some (.slice e)) (hs : tySize P e = some n) (hz : tyZero P e = some z) (hx : evParts fr parts = some pv) (hm : Nat.ble (len * n) 16777216 = true) (hm0 : Nat.beq (len * n) 0 = false) (hf : fillV (fun i => some (i * n, n)) (zrep (len * n) z) (celled pv) = some cs) (hn : cs = cs') (hN : Nat.ble (d + 1) N.n = true)
    (h : ∀ g, sx P N w0 Wr ops rest ((d, .slice (some ⟨g, 0, none⟩) len len) :: fr) (.own g e cs' :: H) Z) : sx P N w0 Wr ops (⟨some d, .buildSlice t len parts.toArray, ty, pos, after, none⟩ :: rest) fr H Z := by
  subst hn
  refine sx_make (R := fun v H' => ∃ g, v = .slice (some ⟨g, 0, none⟩) len len ∧ H' = .own g e cs :: H) hN (fun a w ha hw => ?_) (fun v H' hR => by obtain ⟨g, rfl, rfl⟩ := hR; exact h g)
  obtain ⟨v, h1, h2⟩ := run_zero (w := w) hz
  refine ⟨_, w.alloc (.cells cs.toArray e), _, ?_, ⟨w.heap.size, rfl, rfl⟩, hw.alloc cs e⟩
  have hm' : ¬ len * n > 2 ^ 24 := by have := Nat.le_of_ble_eq_true hm; omega
  have hm1 : ¬ len * n = 0 := fun e => by rw [e] at hm0; cases hm0
  have e0 : ((Array.range (len * n)).map (v.cells[· % v.cells.size]!)).toList = zrep (len * n) z := by
    rw [h2]; simp [zrep, Array.toList_range]
  have hfl : Instr.fill (fun i => some (i * n, n)) ((Array.range (len * n)).map (v.cells[· % v.cells.size]!)) pv = some cs.toArray := fill_ok _ pv _ cs (by rw [e0]; exact hf)
  have hpv := ha.parts hx
  have hpv' : (parts.toArray.map fun (p : Nat × Operand) => (p.1, a.eval p.2)).toList = pv := by simpa using hpv
  simp only [execOp, Instr.buildSlice, Sem.run_bind, run_underlying ht, Result.andThen_ok, run_sizeOf hs, hm', hm1, if_false, h1, Sem.run_pure, hpv', hfl, newRow, newObj]
  rfl
theorem sx_pick {c x y : Operand} {b : Bool} {v : Value} (hc : ev fr c = some (.bool b)) (hx : ev fr (bif b then x else y) = some v) (hN : Nat.ble (d + 1) N.n = true)
    (h : sx P N w0 Wr ops rest ((d, v) :: fr) H Z) : sx P N w0 Wr ops (⟨some d, .pick c x y, ty, pos, after, none⟩ :: rest) fr H Z :=
  sx_val v hN (fun a w ha _ => by
    cases b <;> simp only [cond_true, cond_false] at hx <;> simp [execOp, ha.eval hc, ha.eval hx, asBool, Sem.run_bind]) h
/-- An operation under a guard that holds. -/
theorem sx_on {dst : Option Nat} {op : Op} {j t : Nat} {b : Bool} {oj : Oper} (hj : ops[j]? = some oj) (ht : oj.dst = some t) (hb : lk fr t = some (.bool b))
    (h : sx P N w0 Wr ops (⟨dst, op, ty, pos, after, none⟩ :: rest) fr H Z) : sx P N w0 Wr ops (⟨dst, op, ty, pos, after, some (j, b)⟩ :: rest) fr H Z :=
  fun Q hQ a w ha hw => by
    have hk := h Q hQ a w ha hw
    have hy : yielded ops a.tmps j = some b := by
      have := ha.at_ t _ hb
      simp [yielded, hj, ht, this]
    unfold wpList at hk ⊢
    have h1 : Region.wanted (⟨dst, op, ty, pos, after, none⟩ : Oper) (yielded ops a.tmps) = true := rfl
    have h2 : Region.wanted (⟨dst, op, ty, pos, after, some (j, b)⟩ : Oper) (yielded ops a.tmps) = true := by simp [Region.wanted, hy]
    rw [if_pos h1] at hk
    rw [if_pos h2]
    exact hk
/-- An operation under a guard that does not hold. -/
theorem sx_off {op : Op} {j t : Nat} {b b' : Bool} {oj : Oper} (hj : ops[j]? = some oj) (ht : oj.dst = some t) (hb : lk fr t = some (.bool b)) (hne : (b == b') = false) (hN : Nat.ble (d + 1) N.n = true)
    (h : sx P N w0 Wr ops rest ((d, undef) :: fr) H Z) : sx P N w0 Wr ops (⟨some d, op, ty, pos, after, some (j, b')⟩ :: rest) fr H Z :=
  fun Q hQ a w ha hw => by
    have hy : yielded ops a.tmps j = some b := by
      have := ha.at_ t _ hb
      simp [yielded, hj, ht, this]
    unfold wpList
    have h2 : Region.wanted (⟨some d, op, ty, pos, after, some (j, b')⟩ : Oper) (yielded ops a.tmps) = false := by simp [Region.wanted, hy]; simpa using hne
    rw [if_neg (by simp [h2])]
    exact h Q hQ _ w (ha.put hN undef) hw
/-- A test's two ways, ahead of what it guards. -/
theorem sx_split {l : List Oper} (t : Nat) {b : Bool} (hb : lk fr t = some (.bool b)) (h1 : b = true → sx P N w0 Wr ops l ((t, .bool true) :: fr) H Z) (h2 : b = false → sx P N w0 Wr ops l ((t, .bool false) :: fr) H Z) : sx P N w0 Wr ops l fr H Z := by
  have key : ∀ c, b = c → sx P N w0 Wr ops l ((t, .bool c) :: fr) H Z → sx P N w0 Wr ops l fr H Z := fun c hc h Q hQ a w ha hw => by
    refine h Q hQ a w ⟨ha.size, ha.defers, fun k v hv => ?_⟩ hw
    simp only [lk] at hv
    cases hbq : Nat.beq t k with
    | true =>
      rw [hbq] at hv
      obtain rfl := Nat.eq_of_beq_eq_true hbq
      simp only [cond_true] at hv
      rw [← hv, ← hc]
      exact ha.at_ t _ hb
    | false => rw [hbq] at hv; exact ha.at_ k v hv
  cases hbb : b with
  | true => exact key true hbb (h1 hbb)
  | false => exact key false hbb (h2 hbb)
end
section
variable {P : Program} {N : Frm} {w0 : World} {Wr : List Nat} {fr : Fr} {H : Heap} {Q : Exit → Act → World → Prop}
/-- A region whose ways meet again. -/
theorem awp_seq_meet {id : Nat} {l : List Oper} {y : Code} (F : Fr) (HH : Heap) (h : ∀ Z : Fr → Heap → Prop, (∀ fr H, Kn F fr → HLe HH H → Z fr H) → sx P N w0 Wr l.toArray l fr H Z) (hy : awp P N w0 Wr y F HH Q) : awp P N w0 Wr (.seq (.region id l.toArray false) y) fr H Q :=
  awp_seq_region fun Z hZ => h Z fun fr H hk hh => hZ fr H fun a w ha hw => hy a w (ha.kn hk) (hh _ _ _ hw)
end
end Go.Proofs.Ytfffhnefjaomnaa
