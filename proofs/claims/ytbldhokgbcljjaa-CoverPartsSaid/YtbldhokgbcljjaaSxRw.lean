/- The small logic: cells of rows of one's own stored, cleared; calls of plain functions' values. No conditions. -/
import Derived.Test.YtbldhokgbcljjaaSxP
namespace Go.Proofs.Ytbldhokgbcljjaa
open Go.RowKit
set_option linter.unusedVariables false
set_option linter.unusedSimpArgs false
set_option linter.unusedSectionVars false
set_option maxRecDepth 100000
/-- One cell of a row of one's own is stored. -/
theorem sx_storeRw {P : Program} {N : Frm} {w0 : World} {Wr : List Nat} {ops : Array Oper} {rest : List Oper} {fr : Fr} {H : Heap} {Z : Fr → Heap → Prop} {ty : Nat} {pos : String} {after : Array Edge}
    (i : Nat) {t : TypeId} {x y : Operand} {g o size n c : Nat} {e : TypeId} {xs ys : List Value} {v : Value} (hx : ev fr x = some (ptr g o)) (hy : ev fr y = some v) (hH : H[i]? = some (.ob g (RowP e size n c xs))) (hn : tySize P t = some 1) (h1 : v.oneCell' = true)
    (hlen : o < n * size) (hys : xs.set o v = ys) {H2 : Heap} (hs : H.set i (.ob g (RowP e size n c ys)) = H2)
    (h : sx P N w0 Wr ops rest fr H2 Z) : sx P N w0 Wr ops (⟨none, .store t x y, ty, pos, after, none⟩ :: rest) fr H Z :=
  sx_do (fun a w ha hw => by
    subst hs
    subst hys
    obtain ⟨ob, hg, cur, rfl, h2, h3, h4, h5, h6⟩ := hw.mem hH
    have hnc : n * size ≤ c * size := Nat.mul_le_mul_right size h2
    have ho : o < cur.size := by omega
    have hc : w.cell? ⟨g, o, none⟩ = some cur[o] := by rw [cell_of_row w g o cur e _ hg]; simp [ho]
    have hf : w.frozen? ⟨g, o, none⟩ = false := by simp [World.frozen?, hg]
    have hst : (store ⟨g, o, none⟩ v).run P w = .ok () (w.setCell ⟨g, o, none⟩ v) := by
      cases v <;> first | (simp [Value.oneCell'] at h1; done) | simp [store, Sem.run, hc, hf]
    refine ⟨w.setCell ⟨g, o, none⟩ v, ?_, hw.turn hH rfl rfl (Only.setCell w g o _) ?_⟩
    · have hsz : v.cells = #[v] := by cases v <;> first | rfl | (simp [Value.oneCell'] at h1)
      have ha0 : Addr.add ⟨g, o, none⟩ 0 = ⟨g, o, none⟩ := rfl
      simp [execOp, Instr.storeAt, ha.eval hx, ha.eval hy, ptr, Instr.sureAddr, Sem.run_bind, Sem.run_pure, Result.andThen_ok, storeVar, run_sizeOf hn, hsz, storeCells, ha0]
      simp only [store] at hst ⊢
      rw [hst]
      rfl
    · refine ⟨.cells (cur.set! o v) e (0, 0), ?_, cur.set! o v, rfl, h2, h3, by simpa using h4, ?_, by rw [List.length_set]; exact h6⟩
      · simp [World.setCell, Array.getElem?_modify, hg]
      · have : (cur.set! o v).toList = cur.toList.set o v := by simp
        rw [this, List.take_set, h5]) h
section
variable {P : Program} {N : Frm} {w0 : World} {Wr : List Nat} {ops : Array Oper} {rest : List Oper} {fr : Fr} {H : Heap} {Z : Fr → Heap → Prop} {d ty : Nat} {pos : String} {after : Array Edge}
/-- A call of a function's value, where the function is a plain one. -/
theorem sx_callFP {f : FuncId} {x : Operand} {xs : List Operand} {vs : List Value} {ts : Array TypeId} {v : Value} (hc : Fn P f vs [] fun u _ => u = v) (hf : ev fr x = some (.func (.func f) #[] #[])) (hx : evs fr xs = some vs) (hN : Nat.ble (d + 1) N.n = true)
    (h : sx P N w0 Wr ops rest ((d, v) :: fr) H Z) : sx P N w0 Wr ops (⟨some d, .call { callee := .value x, args := xs.toArray, argTypes := ts }, ty, pos, after, none⟩ :: rest) fr H Z :=
  sx_callFV (caps := []) (vs := vs) [] (by rw [List.append_nil]; exact hc) hf hx (HLe.sub (List.nil_sublist _)) Ro.nil hN h
theorem sq_callFP {f : FuncId} {x : Operand} {xs : List Operand} {vs : List Value} {ts : Array TypeId} {v : Value} (hc : Fn P f vs [] fun u _ => u = v) (hf : ev fr x = some (.func (.func f) #[] #[])) (hx : evs fr xs = some vs) (hN : Nat.ble (d + 1) N.n = true)
    (h : sq P N w0 Wr ops rest ((d, v) :: fr) H Z) : sq P N w0 Wr ops (⟨some d, .call { callee := .value x, args := xs.toArray, argTypes := ts }, ty, pos, after, none⟩ :: rest) fr H Z :=
  fun Q hQ a ha => wpQuiet_step fun K hK => by
    rw [if_pos (show Region.wanted (⟨some d, .call { callee := .value x, args := xs.toArray, argTypes := ts }, ty, pos, after, none⟩ : Oper) (yielded ops a.tmps) = true from rfl)]
    refine ⟨v, fun w hw => ?_, hK _ (h Q hQ _ (ha.put hN v))⟩
    unfold Oper.quietAt
    rw [run_callF (caps := []) hc.1 (ha.evals hx) (ha.eval hf)]
    refine ⟨rfl, ?_⟩
    rw [List.append_nil]
    exact (hc.2 w (Sat.nil w)).mono fun e w' he => by
      obtain ⟨u, H', rfl, rfl, hS⟩ := he
      exact ⟨rfl, hw.bel hS.only.bel⟩
end
theorem take_wr {α : Type} (cs vs : List α) (o m : Nat) (h : o + vs.length ≤ m) (hm : m ≤ cs.length) : (cs.take o ++ vs ++ cs.drop (o + vs.length)).take m = (cs.take m).take o ++ vs ++ (cs.take m).drop (o + vs.length) := by
  rw [List.take_take, Nat.min_eq_left (by omega), List.append_assoc, List.append_assoc, List.take_append, List.take_append]
  have e1 : (cs.take o).length = o := by rw [List.length_take]; omega
  rw [e1, List.take_of_length_le (by omega), List.take_of_length_le (l := vs) (by omega), List.drop_take]
  congr 3
  omega
theorem run_storeRow {P : Program} {w : World} {g o size n c : Nat} {e : TypeId} {xs vs : List Value} (h : (Ent.ob g (RowP e size n c xs)).holds w) (hl : o + vs.length ≤ n * size) (h1 : ∀ v ∈ vs, v.oneCell' = true) :
    ∃ w', (storeCells ⟨g, o, none⟩ vs 0).run P w = .ok () w' ∧ Only [g] w w' ∧ (Ent.ob g (RowP e size n c (wrV xs o vs))).holds w' := by
  obtain ⟨ob, hg, cur, rfl, h2, h3, h4, h5, h6⟩ := h
  have hnc : n * size ≤ c * size := Nat.mul_le_mul_right size h2
  have hown : (Ent.own g e cur.toList).holds w := by show w.heap[g]? = _; rw [hg]
  have hcl : cur.toList.length = c * size := by simpa using h4
  obtain ⟨w', k1, k2, k3⟩ := run_storeCells (P := P) vs g o 0 cur.toList w hown (by omega) h1
  refine ⟨w', k1, k2, _, k3, _, rfl, h2, h3, ?_, ?_, ?_⟩
  · simp only [Nat.add_zero, List.size_toArray, List.length_append, List.length_take, List.length_drop]
    omega
  · show (cur.toList.take (o + 0) ++ vs ++ cur.toList.drop (o + 0 + vs.length)).take (n * size) = _
    rw [Nat.add_zero, take_wr _ _ _ _ hl (by omega), h5]
    rfl
  · unfold wrV
    simp only [List.length_append, List.length_take, List.length_drop]
    omega
section
variable {P : Program} {N : Frm} {w0 : World} {Wr : List Nat} {ops : Array Oper} {rest : List Oper} {fr : Fr} {H : Heap} {Z : Fr → Heap → Prop} {d ty : Nat} {pos : String} {after : Array Edge}
/-- A struct of a row of one's own is stored. -/
theorem sx_storeRwA (i : Nat) {t : TypeId} {x y : Operand} {g o size n c m : Nat} {e : TypeId} {xs ys vs : List Value} {v : Value} (hx : ev fr x = some (ptr g o)) (hy : ev fr y = some v) (hH : H[i]? = some (.ob g (RowP e size n c xs))) (hn : tySize P t = some m) (hvs : v.cells.toList = vs) (h1 : vs.all Value.oneCell' = true) (hl : vs.length = m)
    (hlen : o + m ≤ n * size) (hys : wrV xs o vs = ys) {H2 : Heap} (hs : H.set i (.ob g (RowP e size n c ys)) = H2)
    (h : sx P N w0 Wr ops rest fr H2 Z) : sx P N w0 Wr ops (⟨none, .store t x y, ty, pos, after, none⟩ :: rest) fr H Z :=
  sx_do (fun a w ha hw => by
    subst hs
    subst hys
    subst hl
    obtain ⟨w', h2, h3, h4⟩ := run_storeRow (P := P) (hw.mem hH) hlen (fun u hu => List.all_eq_true.1 h1 u hu)
    refine ⟨w', ?_, hw.turn hH rfl rfl h3 h4⟩
    have hsz : v.cells.size = vs.length := by rw [← hvs]; simp
    simp only [execOp, Instr.storeAt, ha.eval hx, ha.eval hy, ptr, Instr.sureAddr, Sem.run_bind, Sem.run_pure, Result.andThen_ok, storeVar, run_sizeOf hn, hsz, hvs, h2]
    simp [Sem.run_bind, h2]) h
theorem zrep_eq (zs : List Value) (n : Nat) : (Builtin.zeroCells zs.toArray n).toList = (List.replicate n zs).flatten := by
  have h := congrArg Array.toList (madeCells_eq zs n)
  have e : Builtin.zeroCells zs.toArray n = madeCells zs.toArray (n * zs.length) := by
    simp [Builtin.zeroCells, madeCells]
  rw [e, h]
/-- The end of a row of one's own is cleared. -/
theorem sx_clear (i : Nat) {t e size : Nat} {x : Operand} {ts : Array TypeId} {A : Option Addr} {k n c m cc : Nat} {E : TypeId} {g : Nat} {xs zs : List Value} (ht : P.underlying t = some (.slice e)) (hts : ts[0]? = some t) (hz : tyZero P e = some zs) (hzl : zs.length = size) (hz1 : zs.all Value.oneCell' = true) (hx : ev fr x = some (.slice A m cc)) (hA : 0 < m → A = some ⟨g, k * size, none⟩) (hH : H[i]? = some (.ob g (RowP E size n c xs))) (hk : k + m = n)
    {H2 : Heap} (hs : H.set i (.ob g (RowP E size n c (xs.take (k * size) ++ (List.replicate m zs).flatten))) = H2)
    (h : sx P N w0 Wr ops rest fr H2 Z) : sx P N w0 Wr ops (⟨none, .call { callee := .builtin .clear, args := #[x], argTypes := ts }, ty, pos, after, none⟩ :: rest) fr H Z :=
  sx_doV (v := .tuple #[]) (fun a w ha hw => by
    subst hs
    have hm := hw.mem hH
    have ex := ha.eval hx
    obtain ⟨z, z1, z2⟩ := run_zero (w := w) hz
    rcases Nat.eq_zero_or_pos m with h0 | h0
    · subst h0
      refine ⟨w, ?_, hw.turn hH rfl rfl (Only.refl _ _) ?_⟩
      · have hcl : (Builtin.clear_ ts ty #[.slice A 0 cc]).run P w = .ok (.tuple #[]) w := by
          cases A <;> simp [Builtin.clear_, hts, run_underlying ht]
        simp [execOp, resolve, invoke, builtin, ex, Sem.run_bind, hcl]
      · obtain ⟨ob, hg, cur, rfl, h2, h3, h4, h5, h6⟩ := hm
        refine ⟨_, hg, cur, rfl, h2, h3, h4, ?_, ?_⟩
        · have : k = n := by omega
          subst this
          rw [h5, List.take_of_length_le (by omega)]
          simp
        · have : k = n := by omega
          subst this
          rw [List.take_of_length_le (by omega)]
          simpa using h6
    · obtain rfl := hA h0
      have hlz : (List.replicate m zs).flatten.length = m * size := by simp [hzl]
      have hkm : k * size + m * size = n * size := by rw [← Nat.add_mul, hk]
      obtain ⟨w', h2, h3, h4⟩ := run_storeRow (P := P) (o := k * size) (vs := (List.replicate m zs).flatten) hm (by omega) (fun u hu => by
        obtain ⟨l, hl, hu⟩ := List.mem_flatten.1 hu
        rw [List.eq_of_mem_replicate hl] at hu
        exact List.all_eq_true.1 hz1 u hu)
      have hxl : xs.length = n * size := by obtain ⟨ob, hg, cur, rfl, _, _, _, _, h6⟩ := hm; exact h6
      have hwr : wrV xs (k * size) (List.replicate m zs).flatten = xs.take (k * size) ++ (List.replicate m zs).flatten := by
        unfold wrV
        rw [List.drop_of_length_le (by omega), List.append_nil]
      rw [hwr] at h4
      refine ⟨w', ?_, hw.turn hH rfl rfl h3 h4⟩
      have hcl : (Builtin.clear_ ts ty #[.slice (some ⟨g, k * size, none⟩) m cc]).run P w = .ok (.tuple #[]) w' := by
        obtain ⟨m', rfl⟩ : ∃ m', m = m' + 1 := ⟨m - 1, by omega⟩
        have e : (Builtin.zeroCells z.cells (m' + 1)).toList = (List.replicate (m' + 1) zs).flatten := by rw [z2, zrep_eq]
        simp only [Builtin.clear_, hts]
        simp [run_underlying ht, Sem.run_bind, z1, e, h2]
      simp [execOp, resolve, invoke, builtin, ex, Sem.run_bind, hcl]) h
theorem sv_max {t t' : TypeId} {x y : Operand} {k : IntKind} {m n : Int} (hx : ev fr x = some (.int k m)) (hy : ev fr y = some (.int k n)) (r : Int) (hr : max m n = r) (hN : Nat.ble (d + 1) N.n = true)
    (h : sv P N w0 Wr ops rest ((d, .int k r) :: fr) H Z) : sv P N w0 Wr ops (⟨some d, .call { callee := .builtin .max, args := #[x, y], argTypes := #[t, t'] }, ty, pos, after, none⟩ :: rest) fr H Z :=
  sv_val _ hN (fun a w ha _ => by
    subst hr
    have e1 := ha.eval hx
    have e2 := ha.eval hy
    simp [execOp, resolve, invoke, builtin, e1, e2, Sem.run_bind, Builtin.max_, Builtin.max2]
    try (rw [Int.max_def]; split <;> split <;> simp_all <;> omega)) h
theorem sv_min {t t' : TypeId} {x y : Operand} {k : IntKind} {m n : Int} (hx : ev fr x = some (.int k m)) (hy : ev fr y = some (.int k n)) (r : Int) (hr : min m n = r) (hN : Nat.ble (d + 1) N.n = true)
    (h : sv P N w0 Wr ops rest ((d, .int k r) :: fr) H Z) : sv P N w0 Wr ops (⟨some d, .call { callee := .builtin .min, args := #[x, y], argTypes := #[t, t'] }, ty, pos, after, none⟩ :: rest) fr H Z :=
  sv_val _ hN (fun a w ha _ => by
    subst hr
    have e1 := ha.eval hx
    have e2 := ha.eval hy
    simp [execOp, resolve, invoke, builtin, e1, e2, Sem.run_bind, Builtin.min_, Builtin.min2]
    try (rw [Int.min_def]; split <;> split <;> simp_all <;> omega)) h
theorem sp_max {t t' : TypeId} {x y : Operand} {k : IntKind} {m n : Int} (hx : ev fr x = some (.int k m)) (hy : ev fr y = some (.int k n)) (r : Int) (hr : max m n = r) (hN : Nat.ble (d + 1) N.n = true)
    (h : sp P N w0 Wr ops rest ((d, .int k r) :: fr) H Z) : sp P N w0 Wr ops (⟨some d, .call { callee := .builtin .max, args := #[x, y], argTypes := #[t, t'] }, ty, pos, after, none⟩ :: rest) fr H Z :=
  sp_val _ hN (fun a w ha _ => by
    subst hr
    have e1 := ha.eval hx
    have e2 := ha.eval hy
    simp [execOp, resolve, invoke, builtin, e1, e2, Sem.run_bind, Builtin.max_, Builtin.max2]
    try (rw [Int.max_def]; split <;> split <;> simp_all <;> omega)) h
theorem sp_min {t t' : TypeId} {x y : Operand} {k : IntKind} {m n : Int} (hx : ev fr x = some (.int k m)) (hy : ev fr y = some (.int k n)) (r : Int) (hr : min m n = r) (hN : Nat.ble (d + 1) N.n = true)
    (h : sp P N w0 Wr ops rest ((d, .int k r) :: fr) H Z) : sp P N w0 Wr ops (⟨some d, .call { callee := .builtin .min, args := #[x, y], argTypes := #[t, t'] }, ty, pos, after, none⟩ :: rest) fr H Z :=
  sp_val _ hN (fun a w ha _ => by
    subst hr
    have e1 := ha.eval hx
    have e2 := ha.eval hy
    simp [execOp, resolve, invoke, builtin, e1, e2, Sem.run_bind, Builtin.min_, Builtin.min2]
    try (rw [Int.min_def]; split <;> split <;> simp_all <;> omega)) h
/-- The head of a slice. -/
theorem sx_slice0 {t e n g o len c j : Nat} {x : Operand} {lo hi : Option Operand} (ht : P.underlying t = some (.slice e)) (hs : tySize P e = some n) (hx : ev fr x = some (.slice (some ⟨g, o, none⟩) len c)) (hl : bnd fr 0 lo = some 0) (hh : bnd fr (len : Int) hi = some (j : Int)) (h2 : j ≤ c) (hN : Nat.ble (d + 1) N.n = true)
    (h : sx P N w0 Wr ops rest ((d, .slice (some ⟨g, o, none⟩) j c) :: fr) H Z) : sx P N w0 Wr ops (⟨some d, .slice t x lo hi none, ty, pos, after, none⟩ :: rest) fr H Z :=
  sx_val (.slice (some ⟨g, o, none⟩) j c) hN (fun a w ha _ => by
    have hb := sliceBounds_ok (P := P) (isS := true) (len := len) (cap := c) (w := w) ha hl hh (Int.le_refl 0) (by omega) (by omega)
    simp only [execOp, Instr.sliceAt, Instr.slice, ha.eval hx, Sem.run_bind, run_underlying ht, Result.andThen_ok, Option.map_none, hb, Sem.run_pure, run_sizeOf hs, Option.map_some, addr_add]
    by_cases hc : c = 0 <;> simp [hc]) h
end
end Go.Proofs.Ytbldhokgbcljjaa
