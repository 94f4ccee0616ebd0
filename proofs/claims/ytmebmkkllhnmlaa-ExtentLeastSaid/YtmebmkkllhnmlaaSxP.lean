/- The small logic's steps on parts of slices: a head without room, a tail, an append onto what is full. No conditions. -/
import Derived.Test.YtmebmkkllhnmlaaSxZ
namespace Go.Proofs.Ytmebmkkllhnmlaa
open Go.RowKit
set_option linter.unusedVariables false
set_option linter.unusedSimpArgs false
set_option linter.unusedSectionVars false
/-- A slice that came in: what is known of its address. -/
structure SlIn (A : Option Addr) (n c : Nat) : Prop where
  ok : SlOk A n
  cap : n ≤ c
  none : A = Option.none → c = 0
theorem SlIn.arg {A : Option Addr} {n c : Nat} (h : SlIn A n c) : ArgOk A n := h.ok.arg
theorem SlIn.nil {A : Option Addr} {n c : Nat} (h : SlIn A n c) (ha : A = Option.none) : n = 0 := by
  rcases h.ok with ⟨_, h0⟩ | ⟨g, o, h0⟩
  · exact h0
  · rw [ha] at h0; cases h0
/-- A tail's address. -/
def TailA (A : Option Addr) (k size : Nat) (A' : Option Addr) (m : Nat) : Prop := (A = Option.none → A' = Option.none) ∧ (∀ g o, A = some ⟨g, o, Option.none⟩ → ∃ o', A' = some ⟨g, o', Option.none⟩ ∧ (0 < m → o' = o + k * size))
theorem rd_head {w : World} {size n i : Nat} {A : Option Addr} {xs : List Value} (h : Rd w size A n xs) (hi : i ≤ n) : Rd w size A i (xs.take (i * size)) := by
  obtain ⟨h1, h2, h3⟩ := h
  have := Nat.mul_le_mul_right size hi
  refine ⟨by rw [List.length_take, h1]; omega, fun ha => by have := h2 ha; omega, fun hn => ?_⟩
  obtain ⟨g, o, h4, h5, h6⟩ := h3 (by omega)
  refine ⟨g, o, h4, h5, fun j u hu => h6 j u ?_⟩
  rw [List.getElem?_take] at hu
  split at hu
  · exact hu
  · cases hu
section
variable {P : Program} {N : Frm} {w0 w : World} {Wr : List Nat} {ops : Array Oper} {rest : List Oper} {fr : Fr} {H : Heap} {Z : Fr → Heap → Prop} {d ty : Nat} {pos : String} {after : Array Edge}
/-- x[:i:i]. -/
theorem sx_head3 {t e size n c i : Nat} {x l m : Operand} {A : Option Addr} (ht : P.underlying t = some (.slice e)) (hs : tySize P e = some size) (hA : SlIn A n c) (hx : ev fr x = some (.slice A n c)) (hl : ev fr l = some (.int .i64 (i : Int))) (hm : ev fr m = some (.int .i64 (i : Int))) (hi : i ≤ c) (hN : Nat.ble (d + 1) N.n = true)
    (h : sx P N w0 Wr ops rest ((d, .slice A i i) :: fr) H Z) : sx P N w0 Wr ops (⟨some d, .slice t x none (some l) (some m), ty, pos, after, none⟩ :: rest) fr H Z :=
  sx_val (.slice A i i) hN (fun a w ha _ => by
    have e1 := ha.eval hx
    have e2 := ha.eval hl
    have e3 := ha.eval hm
    have b1 : ∀ code, (Instr.sliceBound (.int .i64 (i : Int)) c code).run P w = .ok i w := fun code => by
      have := sliceBound_ok (P := P) (k := .i64) (i := (i : Int)) (y := c) (code := code) (w := w) (by omega)
      simpa using this
    have b2 : ∀ code, (Instr.sliceBound (.int .i64 (i : Int)) i code).run P w = .ok i w := fun code => by
      have := sliceBound_ok (P := P) (k := .i64) (i := (i : Int)) (y := i) (code := code) (w := w) (by omega)
      simpa using this
    have hb : (Instr.sliceBounds true n c none (some (.int .i64 (i : Int))) (some (.int .i64 (i : Int)))).run P w = .ok (0, i, i) w := by
      simp [Instr.sliceBounds, Sem.run_bind, b1, b2]
    simp only [execOp, Instr.sliceAt, Instr.slice, e1, e2, e3, Sem.run_bind, run_underlying ht, Result.andThen_ok, Option.map_none, Option.map_some, hb, Sem.run_pure, run_sizeOf hs]
    rcases hA.ok with ⟨rfl, rfl⟩ | ⟨g, o, rfl⟩
    · have := hA.none rfl
      obtain rfl : i = 0 := by omega
      simp
    · simp [addr_add]) h
/-- x[:i], x[i:], x[i:j]. -/
theorem sx_part {t e size n c : Nat} {x : Operand} {lo hi : Option Operand} {i j : Nat} {A : Option Addr} (ht : P.underlying t = some (.slice e)) (hs : tySize P e = some size) (hA : SlIn A n c) (hx : ev fr x = some (.slice A n c)) (hl : bnd fr 0 lo = some (i : Int)) (hh : bnd fr (n : Int) hi = some (j : Int)) (h1 : i ≤ j) (h2 : j ≤ c) (hN : Nat.ble (d + 1) N.n = true)
    (h : ∀ A', SlIn A' (j - i) (c - i) → TailA A i size A' (j - i) → sx P N w0 Wr ops rest ((d, .slice A' (j - i) (c - i)) :: fr) H Z) : sx P N w0 Wr ops (⟨some d, .slice t x lo hi none, ty, pos, after, none⟩ :: rest) fr H Z := by
  rcases hA.ok with ⟨rfl, rfl⟩ | ⟨g, o, rfl⟩
  · have hc := hA.none rfl
    subst hc
    obtain rfl : j = 0 := by omega
    obtain rfl : i = 0 := by omega
    refine sx_val (.slice none 0 0) hN (fun a w ha _ => ?_) (h none ⟨.inl ⟨rfl, rfl⟩, Nat.le_refl _, fun _ => rfl⟩ ⟨fun _ => rfl, fun g o h => by cases h⟩)
    have hb := sliceBounds_ok (P := P) (isS := true) (len := 0) (cap := 0) (w := w) ha hl hh (by omega) (by omega) (by omega)
    simp only [execOp, Instr.sliceAt, Instr.slice, ha.eval hx, Sem.run_bind, run_underlying ht, Result.andThen_ok, Option.map_none, hb, Sem.run_pure, run_sizeOf hs]
    simp
  · refine sx_slice ht hs hx hl hh (by omega) (by omega) (by omega) hN (fun o' ho => ?_)
    have ht2 : TailA (some ⟨g, o, none⟩) i size (some ⟨g, o', none⟩) (j - i) := by
      refine ⟨fun h => (by cases h), fun g2 o2 he => ?_⟩
      injection he with he
      injection he with e1 e2 _
      subst e1; subst e2
      exact ⟨o', rfl, fun hm => by have := ho (by omega); simpa using this⟩
    have := h (some ⟨g, o', none⟩) ⟨.inr ⟨g, o', rfl⟩, by omega, fun h => (by cases h)⟩ ht2
    simpa using this
theorem sv_part {t e size n c : Nat} {x : Operand} {lo hi : Option Operand} {i j : Nat} {A : Option Addr} (ht : P.underlying t = some (.slice e)) (hs : tySize P e = some size) (hA : SlIn A n c) (hx : ev fr x = some (.slice A n c)) (hl : bnd fr 0 lo = some (i : Int)) (hh : bnd fr (n : Int) hi = some (j : Int)) (h1 : i ≤ j) (h2 : j ≤ c) (hN : Nat.ble (d + 1) N.n = true)
    (h : ∀ A', SlIn A' (j - i) (c - i) → TailA A i size A' (j - i) → sv P N w0 Wr ops rest ((d, .slice A' (j - i) (c - i)) :: fr) H Z) : sv P N w0 Wr ops (⟨some d, .slice t x lo hi none, ty, pos, after, none⟩ :: rest) fr H Z := by
  rcases hA.ok with ⟨rfl, rfl⟩ | ⟨g, o, rfl⟩
  · have hc := hA.none rfl
    subst hc
    obtain rfl : j = 0 := by omega
    obtain rfl : i = 0 := by omega
    refine sv_val (.slice none 0 0) hN (fun a w ha _ => ?_) (h none ⟨.inl ⟨rfl, rfl⟩, Nat.le_refl _, fun _ => rfl⟩ ⟨fun _ => rfl, fun g o h => by cases h⟩)
    have hb := sliceBounds_ok (P := P) (isS := true) (len := 0) (cap := 0) (w := w) ha hl hh (by omega) (by omega) (by omega)
    simp only [execOp, Instr.sliceAt, Instr.slice, ha.eval hx, Sem.run_bind, run_underlying ht, Result.andThen_ok, Option.map_none, hb, Sem.run_pure, run_sizeOf hs]
    simp
  · refine sv_slice ht hs hx hl hh (by omega) (by omega) (by omega) hN (fun o' ho => ?_)
    have ht2 : TailA (some ⟨g, o, none⟩) i size (some ⟨g, o', none⟩) (j - i) := by
      refine ⟨fun h => (by cases h), fun g2 o2 he => ?_⟩
      injection he with he
      injection he with e1 e2 _
      subst e1; subst e2
      exact ⟨o', rfl, fun hm => by have := ho (by omega); simpa using this⟩
    have := h (some ⟨g, o', none⟩) ⟨.inr ⟨g, o', rfl⟩, by omega, fun h => (by cases h)⟩ ht2
    simpa using this
/-- append onto what has no room: a new row. -/
theorem sx_appendCut {t e : TypeId} {size bytes n m c : Nat} {s x : Operand} {A B : Option Addr} {xs news : List Value} (hE : ElemOk P t e size bytes) (hA : SlOk A n) (hs : ev fr s = some (.slice A n n)) (hx : ev fr x = some (.slice B m c))
    (hr : ∀ w, Sat w0 Wr H w → Rd w size A n xs) (hr' : ∀ w, Sat w0 Wr H w → Rd w size B m news) (hB : B ≠ none) (h1 : news.all Value.oneCell' = true) (hm0 : 0 < m) (h63 : n + m ≤ maxLen) (hby : (n + m) * bytes ≤ 140737488355328) (hN : Nat.ble (d + 1) N.n = true)
    (h : ∀ v', RowOk v' (n + m) → sx P N w0 Wr ops rest ((d, v') :: fr) (rowE v' e size (xs ++ news) ++ H) Z) :
    sx P N w0 Wr ops (⟨some d, .call { callee := .builtin .append, args := #[s, x], argTypes := #[t, t] }, ty, pos, after, none⟩ :: rest) fr H Z := by
  have hE' := hE
  rcases hA with ⟨rfl, rfl⟩ | ⟨g, o, rfl⟩
  · refine sx_make (R := fun v' H' => RowOk v' (0 + m) ∧ H' = rowE v' e size (xs ++ news) ++ H) hN (fun a w ha hw => ?_) (fun v' H' hR => by obtain ⟨h2, rfl⟩ := hR; exact h v' h2)
    have hl : xs = [] := List.length_eq_zero_iff.1 (by simpa using (hr w hw).1)
    subst hl
    have hown := own_of_sat (e := e) (size := size) (xs := []) (H1 := H) RowOk.nil (by simp) (show Sat w0 Wr (rowE (.slice none 0 0) e size [] ++ H) w from hw)
    obtain ⟨v', w', hrun, h2, h3, h4, h5⟩ := run_app (P := P) (W0 := { w with heap := #[] }) (ty := ty) (c := c) hE' (Bel.emp w) (Nat.le_refl _) (Nat.zero_le _) hown (hr' w hw) (fun u hu => List.all_eq_true.1 h1 u hu) h63 hby
    refine ⟨v', w', _, ?_, ⟨(row_of_own h2).1, rfl⟩, Sat.app (H1 := H) (v := .slice none 0 0) (n := 0) (xs := []) hw RowOk.nil h2 h4 h5⟩
    simp only [execOp, resolve, List.map_toArray, List.map_cons, List.map_nil, ha.eval hs, ha.eval hx, Sem.run_bind, Sem.run_pure, Result.andThen_ok, invoke, builtin, hrun]
  · obtain ⟨b', rfl⟩ : ∃ b', B = some b' := by cases B with | none => exact absurd rfl hB | some b' => exact ⟨b', rfl⟩
    refine sx_make (R := fun v' H' => RowOk v' (n + m) ∧ H' = rowE v' e size (xs ++ news) ++ H) hN (fun a w ha hw => ?_) (fun v' H' hR => by obtain ⟨h2, rfl⟩ := hR; exact h v' h2)
    obtain ⟨ht, i, z, hi, hz, hsize, hbs, hzs, hsz⟩ := hE
    have cells : ∀ {A : Addr} {k : Nat} {ys : List Value}, Rd w size (some A) k ys → ys.length = k * size ∧ ∀ j u, ys[j]? = some u → w.cell? (A.add j) = some u := fun {A k ys} hR => by
      refine ⟨hR.1, fun j u hu => ?_⟩
      rcases Nat.eq_zero_or_pos k with hk | hk
      · have := hR.1
        rw [hk, Nat.zero_mul] at this
        rw [List.length_eq_zero_iff.1 this] at hu
        simp at hu
      · obtain ⟨g, o, hA, _, hc⟩ := hR.2.2 hk
        obtain rfl := Option.some.inj hA
        rw [addr_add]
        exact hc j u hu
    obtain ⟨l1, c1⟩ := cells (hr w hw)
    obtain ⟨l2, c2⟩ := cells (hr' w hw)
    obtain ⟨v', w', hrun, h2, h3⟩ := run_append_arg_grows (P := P) w t ty e i z size bytes ht hi hz hsize hbs hzs hsz ⟨g, o, none⟩ n n xs l1 c1 b' m c news l2 c2 (by omega) h63 hby
    refine ⟨v', w', _, ?_, ⟨(row_of_own h2).1, rfl⟩, hw.row ⟨h3.os, h3.tape, h3.output, h3.size, fun k hk => h3.block k hk (by simp)⟩ h2⟩
    simp only [execOp, resolve, List.map_toArray, List.map_cons, List.map_nil, ha.eval hs, ha.eval hx, Sem.run_bind, Sem.run_pure, Result.andThen_ok, invoke, builtin, hrun]
/-- A call that hands back a row of its own: it is only read from here on. -/
theorem sx_callI {f : FuncId} {xs : List Operand} {vs : List Value} {ts : Array TypeId} {e : TypeId} {size n : Nat} {ys : List Value} (U : Heap) (hc : Fn P f vs U fun u H' => RowOk u n ∧ H' = rowE u e size ys) (hx : evs fr xs = some vs) (hU : U.Sublist H) (hroU : Ro U) (hN : Nat.ble (d + 1) N.n = true)
    (h : ∀ A c, SlIn A n c → sx P N w0 Wr ops rest ((d, .slice A n c) :: fr) (roE A ys ++ H) Z) :
    sx P N w0 Wr ops (⟨some d, .call { callee := .value (.func f), args := xs.toArray, argTypes := ts }, ty, pos, after, none⟩ :: rest) fr H Z :=
  sx_callRT U hc hx hU hroU hN (fun v hv => by
    have hn : ∀ A c, v = .slice A n c → A = none → c = 0 := fun A c hv2 ha => by
      rcases hv with ⟨h1, _⟩ | ⟨g, c', h1⟩
      · rw [h1] at hv2; injection hv2 with _ _ h3; exact h3.symm
      · rw [h1] at hv2; injection hv2 with h2 _ _; rw [ha] at h2; cases h2
    obtain ⟨A, c, rfl, hA, hle⟩ := hv.ro
    refine sx_pure (fun w hw => row_cap hv (fun x hx => List.mem_append_left _ hx) hw) (fun hcap => ?_)
    exact sx_heap (roE A ys ++ H) (hle [] H _ _ _) (h A c ⟨hA, hcap.1, hn A c rfl⟩))
end
end Go.Proofs.Ytmebmkkllhnmlaa
