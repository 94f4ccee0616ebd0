/- The small logic's steps with tails: entries that are only read, behind the others; rows that become so; slices cut to their length. No conditions. -/
import Derived.Test.YtfffhnefjaomnaaSxW
import Derived.Test.YtfffhnefjaomnaaSxB
namespace Go.Proofs.Ytfffhnefjaomnaa
open Go.RowKit
set_option linter.unusedVariables false
set_option linter.unusedSimpArgs false
set_option linter.unusedSectionVars false
/-- All of it is only read. -/
def Ro (T : Heap) : Prop := ∀ e ∈ T, e.wr = false
theorem Ro.nil : Ro [] := fun _ h => by cases h
theorem Ro.roE (A : Option Addr) (xs : List Value) : Ro (roE A xs) := fun e he => by
  unfold Go.Proofs.Ytfffhnefjaomnaa.roE at he
  split at he
  · rw [List.mem_singleton.1 he]; rfl
  · cases he
theorem Ro.append {T U : Heap} (h : Ro T) (k : Ro U) : Ro (T ++ U) := fun e he => (List.mem_append.1 he).elim (h e) (k e)
theorem Ro.filter {T : Heap} (h : Ro T) : T.filter Ent.wr = [] := List.filter_eq_nil_iff.2 fun e he => by simp [h e he]
theorem Ro.wrs {T : Heap} (h : Ro T) (A : Heap) : wrs (A ++ T) = wrs A := by simp [Go.Proofs.Ytfffhnefjaomnaa.wrs, List.filter_append, h.filter]
section
variable {w0 w w' : World} {Wr : List Nat} {H H' T U : Heap} {idxs ks : List Nat}
theorem apart_any (h : Sat w0 Wr H w) {a b : Ent} (ha : a ∈ H) (hb : b ∈ H) (hr : b.wr = false) : a.apart b := by
  obtain ⟨i, hi⟩ := List.mem_iff_getElem?.1 ha
  obtain ⟨j, hj⟩ := List.mem_iff_getElem?.1 hb
  by_cases hij : i = j
  · subst hij
    have : a = b := Option.some.inj (hi.symm.trans hj)
    subst this
    intro hw
    simp [hr] at hw
  · exact h.sep.at_ hij hi hj
theorem pick_sub {e : Ent} (h : e ∈ pick idxs H) : e ∈ H := by
  obtain ⟨i, _, hi⟩ := pick_mem h
  exact List.mem_of_getElem? hi
theorem Sat.pickT (h : Sat w0 Wr H w) (hn : idxs.Nodup) (hT : T.Sublist H) (hro : Ro T) : Sat w0 Wr (Go.Proofs.Ytfffhnefjaomnaa.pick idxs H ++ T) w := by
  refine ⟨h.only, fun e he => ?_, List.pairwise_append.2 ⟨sep_pick h.sep hn, h.sep.sublist hT, fun a ha b hb => apart_any h (pick_sub ha) (hT.subset hb) (hro b hb)⟩⟩
  rcases List.mem_append.1 he with he | he
  · exact h.ents e (pick_sub he)
  · exact h.ents e (hT.subset he)
theorem Sat.callT (h : Sat w0 Wr H w) (hn : (idxs ++ ks).Nodup) (hT : T.Sublist H) (hro : Ro T) (hU : U.Sublist H) (hroU : Ro U) (h' : Sat w (wrs (Go.Proofs.Ytfffhnefjaomnaa.pick idxs H ++ U)) H' w') :
    Sat w0 Wr (H'.filter Ent.wr ++ (Go.Proofs.Ytfffhnefjaomnaa.pick ks H ++ T)) w' := by
  rw [hroU.wrs] at h'
  have hK := h.callK hn h'
  have hn' := List.nodup_append.1 hn
  have hout : ∀ x ∈ T, x.g ∉ wrs (Go.Proofs.Ytfffhnefjaomnaa.pick idxs H) := fun x hx hm => by
    obtain ⟨e, he, hw, hg⟩ := mem_wrs.1 hm
    exact apart_any h (pick_sub he) (hT.subset hx) (hro x hx) (by simp [hw]) hg
  refine ⟨hK.only, fun e he => ?_, ?_⟩
  · rw [← List.append_assoc] at he
    rcases List.mem_append.1 he with he | he
    · exact hK.ents e he
    · have hm := h.ents e (hT.subset he)
      exact ⟨Ent.keep hm.1 h'.only.size (h'.only.block _ (Ent.lt hm.1) (hout e he)), hm.2⟩
  · rw [← List.append_assoc]
    refine List.pairwise_append.2 ⟨hK.sep, h.sep.sublist hT, fun a ha b hb => ?_⟩
    rcases List.mem_append.1 ha with ha | ha
    · obtain ⟨ha1, ha2⟩ := List.mem_filter.1 ha
      intro _ hg
      rcases (h'.ents a ha1).2 ha2 with h1 | h1
      · exact hout b hb (hg ▸ h1)
      · have := Ent.lt (h.ents b (hT.subset hb)).1
        omega
    · exact apart_any h (pick_sub ha) (hT.subset hb) (hro b hb)
theorem HLe.cons {a b : Heap} (e : Ent) (h : ∀ w0 Wr w, Sat w0 Wr (e :: b) w → Sat w0 Wr (e :: a) w) : HLe (e :: a) (e :: b) := h
theorem HLe.drop (n : Nat) {a b : Heap} (h : b.drop n = a) : HLe a b := HLe.sub (h ▸ List.drop_sublist n b)
/-- A part of the front, and the tail. -/
theorem HLe.pickT {A A' T : Heap} (idxs : List Nat) (hn : idxs.Nodup) (he : Go.Proofs.Ytfffhnefjaomnaa.pick idxs A = A') (hro : Ro T) : HLe (A' ++ T) (A ++ T) := fun w0 Wr w h => by
  subst he
  have hA : Sat w0 Wr A w := h.sub (List.sublist_append_left _ _)
  refine ⟨h.only, fun e hx => ?_, List.pairwise_append.2 ⟨sep_pick hA.sep hn, h.sep.sublist (List.sublist_append_right _ _), fun a ha b hb => apart_any h (List.mem_append_left _ (pick_sub ha)) (List.mem_append_right _ hb) (hro b hb)⟩⟩
  rcases List.mem_append.1 hx with hx | hx
  · exact h.ents e (List.mem_append_left _ (pick_sub hx))
  · exact h.ents e (List.mem_append_right _ hx)
/-- What one writes may be called only read. -/
theorem Sat.freeze {e e' : Ent} (h : Sat w0 Wr (e :: H) w) (hw : e.wr = true) (hw' : e'.wr = false) (hg : e'.g = e.g) (hh : e.holds w → e'.holds w) : Sat w0 Wr (e' :: H) w := by
  refine ⟨h.only, fun x hx => ?_, ?_⟩
  · rcases List.mem_cons.1 hx with rfl | hx
    · exact ⟨hh (h.ents e List.mem_cons_self).1, fun hx => by rw [hw'] at hx; cases hx⟩
    · exact h.ents x (List.mem_cons_of_mem _ hx)
  · have hp := List.pairwise_cons.1 h.sep
    refine List.Pairwise.cons (fun x hx _ => ?_) hp.2
    rw [hg]
    exact hp.1 x hx (by simp [hw])
/-- A row behind a slice that may have less room than the row. -/
def ClipP (e : TypeId) (size n : Nat) (xs : List Value) (o : Obj) : Prop := ∃ c, RowP e size n c xs o
def clipE (v : Value) (e : TypeId) (size : Nat) (xs : List Value) : Heap :=
  match v with
  | .slice (some a) n _ => [.ob a.block (ClipP e size n xs)]
  | _ => []
theorem clipE_wr (v : Value) (e : TypeId) (size : Nat) (xs : List Value) : (clipE v e size xs).filter Ent.wr = clipE v e size xs := by
  unfold clipE
  split <;> rfl
theorem clip_ro {e : TypeId} {size n g : Nat} {xs : List Value} (H : Heap) : HLe (.ro g 0 xs :: H) (.ob g (ClipP e size n xs) :: H) := fun w0 Wr w h =>
  h.freeze rfl rfl rfl fun ⟨o, h1, c, h2⟩ => by
    have hS : Sat w0 Wr (.ob g (RowP e size n c xs) :: H) w := ⟨h.only, fun x hx => by
      rcases List.mem_cons.1 hx with rfl | hx
      · exact ⟨⟨o, h1, h2⟩, (h.ents _ List.mem_cons_self).2⟩
      · exact h.ents x (List.mem_cons_of_mem _ hx), List.Pairwise.cons (fun x hx => (List.pairwise_cons.1 h.sep).1 x hx) (List.pairwise_cons.1 h.sep).2⟩
    have hlt : g < w.heap.size := Ent.lt (hS.mem (i := 0) (e := .ob g (RowP e size n c xs)) rfl)
    refine ⟨hlt, fun j u hu => ?_⟩
    obtain ⟨cur, rfl, _, _, _, h5, _⟩ := h2
    rw [Nat.zero_add, cell_of_row w g j cur e (0, 0) h1]
    have hj : j < xs.length := (List.getElem?_eq_some_iff.1 hu).1
    rw [← h5] at hu hj
    simp only [List.length_take] at hj
    rw [List.getElem?_take_of_lt (by omega)] at hu
    simpa using hu
theorem row_clip {e : TypeId} {size n c g : Nat} {xs : List Value} (H : Heap) : HLe (.ob g (ClipP e size n xs) :: H) (.ob g (RowP e size n c xs) :: H) := fun w0 Wr w h =>
  ⟨h.only, fun x hx => by
    rcases List.mem_cons.1 hx with rfl | hx
    · obtain ⟨⟨o, h1, h2⟩, h3⟩ := h.ents (.ob g (RowP e size n c xs)) List.mem_cons_self
      exact ⟨⟨o, h1, c, h2⟩, h3⟩
    · exact h.ents x (List.mem_cons_of_mem _ hx), List.Pairwise.cons (fun x hx => (List.pairwise_cons.1 h.sep).1 x hx) (List.pairwise_cons.1 h.sep).2⟩
theorem row_ro {e : TypeId} {size n c g : Nat} {xs : List Value} (H : Heap) : HLe (.ro g 0 xs :: H) (.ob g (RowP e size n c xs) :: H) := (clip_ro H).trans (row_clip H)
theorem own_ro {e : TypeId} {g : Nat} {xs : List Value} (H : Heap) : HLe (.ro g 0 xs :: H) (.own g e xs :: H) := fun w0 Wr w h =>
  h.freeze rfl rfl rfl fun hh => ⟨Ent.lt hh, fun j u hu => by rw [Nat.zero_add]; exact (Ent.cell hh j).trans hu⟩
/-- What is only read of a block from a later place on. -/
theorem ro_off {g o k : Nat} {xs : List Value} (H : Heap) : HLe (.ro g (o + k) (xs.drop k) :: H) (.ro g o xs :: H) := fun w0 Wr w h => by
  have hp := List.pairwise_cons.1 h.sep
  refine ⟨h.only, fun x hx => ?_, List.Pairwise.cons (fun x hx hw => hp.1 x hx hw) hp.2⟩
  rcases List.mem_cons.1 hx with rfl | hx
  · have hm := (h.ents _ List.mem_cons_self).1
    refine ⟨⟨hm.1, fun j u hu => ?_⟩, fun hw => by cases hw⟩
    rw [List.getElem?_drop] at hu
    rw [show o + k + j = o + (k + j) by omega]
    exact hm.2 _ _ hu
  · exact h.ents x (List.mem_cons_of_mem _ hx)
/-- A new entry goes to the end. -/
theorem HLe.last {e : Ent} {H : Heap} : HLe (H ++ [e]) (e :: H) := fun w0 Wr w h => h.perm (List.perm_append_singleton e H).symm
end
section
variable {P : Program} {N : Frm} {w0 : World} {Wr : List Nat} {ops : Array Oper} {rest : List Oper} {fr : Fr} {H H1 T U : Heap} {Z : Fr → Heap → Prop}
variable {d ty : Nat} {pos : String} {after : Array Edge}
theorem sx_heap {l : List Oper} (H' : Heap) (hk : HLe H' H) (h : sx P N w0 Wr ops l fr H' Z) : sx P N w0 Wr ops l fr H Z :=
  fun Q hQ a w ha hw => h Q hQ a w ha (hk _ _ _ hw)
/-- A call that takes entries, and a tail that is only read. -/
theorem sx_callT {f : FuncId} {xs : List Operand} {vs : List Value} {ts : Array TypeId} {dst : Option Nat} {Hc : Heap} {R : Value → Heap → Prop} (idxs ks : List Nat) (T U : Heap) (hc : Fn P f vs (Hc ++ U) R) (hx : evs fr xs = some vs) (hp : pick idxs H = Hc) (hn : (idxs ++ ks).Nodup)
    (hT : T.Sublist H) (hro : Ro T) (hU : U.Sublist H) (hroU : Ro U) (hN : dstB N dst = true)
    (h : ∀ v H', R v H' → sx P N w0 Wr ops rest (match dst with | some d => (d, v) :: fr | none => fr) (H'.filter Ent.wr ++ (pick ks H ++ T)) Z) :
    sx P N w0 Wr ops (⟨dst, .call { callee := .value (.func f), args := xs.toArray, argTypes := ts }, ty, pos, after, none⟩ :: rest) fr H Z :=
  sx_callW (R := fun v H2 => ∃ H', R v H' ∧ H2 = H'.filter Ent.wr ++ (pick ks H ++ T)) hc.1 hx hN (fun w hw => by
    subst hp
    have hw' := hw.pickT (List.nodup_append.1 hn).1 hU hroU
    have hpre : Sat w (wrs (pick idxs H ++ U)) (pick idxs H ++ U) w := ⟨Only.refl _ _, fun e he => ⟨(hw'.ents e he).1, fun h => .inl (mem_wrs.2 ⟨e, he, h, rfl⟩)⟩, hw'.sep⟩
    exact (hc.2 w hpre).mono fun e w' he => by
      obtain ⟨v, H', h1, h2, h3⟩ := he
      exact ⟨v, _, h1, ⟨H', h2, rfl⟩, hw.callT hn hT hro hU hroU h3⟩) (fun v H2 hR => by obtain ⟨H', hR, rfl⟩ := hR; exact h v H' hR)
/-- A call that only reads a tail, and hands back a value. -/
theorem sx_callPT {f : FuncId} {xs : List Operand} {vs : List Value} {ts : Array TypeId} {v : Value} (U : Heap) (hc : Fn P f vs U fun u _ => u = v) (hx : evs fr xs = some vs) (hU : U.Sublist H) (hroU : Ro U) (hN : Nat.ble (d + 1) N.n = true)
    (h : sx P N w0 Wr ops rest ((d, v) :: fr) H Z) :
    sx P N w0 Wr ops (⟨some d, .call { callee := .value (.func f), args := xs.toArray, argTypes := ts }, ty, pos, after, none⟩ :: rest) fr H Z :=
  sx_callW (R := fun u H' => u = v ∧ H' = H) hc.1 hx hN (fun w hw => by
    have hpre : Sat w (wrs U) U w := ⟨Only.refl _ _, fun e he => ⟨(hw.ents e (hU.subset he)).1, fun h => .inl (mem_wrs.2 ⟨e, he, h, rfl⟩)⟩, hw.sep.sublist hU⟩
    exact (hc.2 w hpre).mono fun e w' he => by
      obtain ⟨u, H', h1, h2, h3⟩ := he
      have h0 : wrs U = [] := by have := hroU.wrs []; simpa [wrs] using this
      rw [h0] at h3
      exact ⟨u, H, h1, ⟨h2, rfl⟩, hw.bel h3.only.bel⟩) (fun u H' hR => by obtain ⟨rfl, rfl⟩ := hR; exact h)
/-- A call that only reads a tail, and hands back a row of its own. -/
theorem sx_callRT {f : FuncId} {xs : List Operand} {vs : List Value} {ts : Array TypeId} {e : TypeId} {size n : Nat} {ys : List Value} (U : Heap) (hc : Fn P f vs U fun u H' => RowOk u n ∧ H' = rowE u e size ys) (hx : evs fr xs = some vs) (hU : U.Sublist H) (hroU : Ro U) (hN : Nat.ble (d + 1) N.n = true)
    (h : ∀ v, RowOk v n → sx P N w0 Wr ops rest ((d, v) :: fr) (rowE v e size ys ++ H) Z) :
    sx P N w0 Wr ops (⟨some d, .call { callee := .value (.func f), args := xs.toArray, argTypes := ts }, ty, pos, after, none⟩ :: rest) fr H Z :=
  sx_callW (R := fun u H' => RowOk u n ∧ H' = rowE u e size ys ++ H) hc.1 hx hN (fun w hw => by
    have hpre : Sat w (wrs U) U w := ⟨Only.refl _ _, fun e he => ⟨(hw.ents e (hU.subset he)).1, fun h => .inl (mem_wrs.2 ⟨e, he, h, rfl⟩)⟩, hw.sep.sublist hU⟩
    exact (hc.2 w hpre).mono fun x w' he => by
      obtain ⟨u, H', h1, ⟨h2, rfl⟩, h3⟩ := he
      have h0 : wrs U = [] := by have := hroU.wrs []; simpa [wrs] using this
      rw [h0] at h3
      have hb := h3.only.bel
      refine ⟨u, _, h1, ⟨h2, rfl⟩, ?_⟩
      rcases h2 with ⟨rfl, rfl⟩ | ⟨g, c, rfl⟩
      · exact hw.bel hb
      · have hm := h3.ents (.ob g (RowP e size n c ys)) List.mem_cons_self
        refine hw.fresh hm.1 hb ?_
        rcases hm.2 rfl with h4 | h4
        · cases h4
        · exact h4) (fun u H' hR => by obtain ⟨h1, rfl⟩ := hR; exact h u h1)
/-- A slice cut to its length. -/
theorem sx_clip {t e size : TypeId} {x l m : Operand} {A : Option Addr} {n c : Nat} (ht : P.underlying t = some (.slice e)) (hs : tySize P e = some size) (hA : SlOk A n) (hx : ev fr x = some (.slice A n c)) (hc : n ≤ c) (hl : ev fr l = some (.int .i64 n)) (hm : ev fr m = some (.int .i64 n)) (hN : Nat.ble (d + 1) N.n = true)
    (h : sx P N w0 Wr ops rest ((d, .slice A n n) :: fr) H Z) : sx P N w0 Wr ops (⟨some d, .slice t x none (some l) (some m), ty, pos, after, none⟩ :: rest) fr H Z :=
  sx_val (.slice A n n) hN (fun a w ha _ => by
    have e1 := ha.eval hx
    have e2 := ha.eval hl
    have e3 := ha.eval hm
    have b1 : ∀ code, (Instr.sliceBound (.int .i64 (n : Int)) c code).run P w = .ok n w := fun code => by
      have := sliceBound_ok (P := P) (k := .i64) (i := (n : Int)) (y := c) (code := code) (w := w) (by omega)
      simpa using this
    have b2 : ∀ code, (Instr.sliceBound (.int .i64 (n : Int)) n code).run P w = .ok n w := fun code => by
      have := sliceBound_ok (P := P) (k := .i64) (i := (n : Int)) (y := n) (code := code) (w := w) (by omega)
      simpa using this
    have hb : (Instr.sliceBounds true n c none (some (.int .i64 (n : Int))) (some (.int .i64 (n : Int)))).run P w = .ok (0, n, n) w := by
      simp [Instr.sliceBounds, Sem.run_bind, b1, b2]
    simp only [execOp, Instr.sliceAt, Instr.slice, e1, e2, e3, Sem.run_bind, run_underlying ht, Result.andThen_ok, Option.map_none, Option.map_some, hb, Sem.run_pure, run_sizeOf hs]
    rcases hA with ⟨rfl, rfl⟩ | ⟨g, o, rfl⟩
    · simp
    · simp [addr_add]) h
end
/- Rows of elements of so many cells. -/
section
variable {α : Type} {f : α → List Value} {n : Nat}
theorem fm_len (hf : ∀ x, (f x).length = n) : ∀ L : List α, (L.flatMap f).length = L.length * n
  | [] => by simp
  | x :: L => by rw [List.flatMap_cons, List.length_append, hf, fm_len hf L, List.length_cons, Nat.succ_mul, Nat.add_comm]
theorem fm_drop (hf : ∀ x, (f x).length = n) : ∀ (L : List α) (i : Nat), (L.flatMap f).drop (i * n) = (L.drop i).flatMap f
  | L, 0 => by simp
  | [], i + 1 => by simp
  | x :: L, i + 1 => by
    rw [List.flatMap_cons, List.drop_succ_cons, ← fm_drop hf L i, Nat.succ_mul, Nat.add_comm, ← List.drop_drop, ← hf x, List.drop_left]
theorem fm_split {L : List α} {i : Nat} {x : α} (h : L[i]? = some x) : L.drop i = x :: L.drop (i + 1) := by
  obtain ⟨h1, h2⟩ := List.getElem?_eq_some_iff.1 h
  rw [List.drop_eq_getElem_cons h1, h2]
theorem fm_at (hf : ∀ x, (f x).length = n) {L : List α} {i : Nat} {x : α} (h : L[i]? = some x) : ((L.flatMap f).drop (i * n)).take n = f x := by
  rw [fm_drop hf, fm_split h, List.flatMap_cons, ← hf x, List.take_left]
theorem fm_rd (hf : ∀ x, (f x).length = n) {L : List α} {i : Nat} {x : α} (h : L[i]? = some x) : rdV true n (L.flatMap f) (i * n) = some (.agg (f x).toArray) := by
  have h1 := (List.getElem?_eq_some_iff.1 h).1
  have h2 : i * n + n ≤ L.length * n := by rw [← Nat.succ_mul]; exact Nat.mul_le_mul_right _ h1
  have h3 : Nat.ble (i * n + n) (L.flatMap f).length = true := Nat.ble_eq_true_of_le (by rw [fm_len hf]; exact h2)
  unfold rdV
  rw [cond_true, h3, cond_true, fm_at hf h]
theorem fm_rd1 (hf : ∀ x, (f x).length = n) {L : List α} {i j : Nat} {x : α} {v : Value} (h : L[i]? = some x) (hj : (f x)[j]? = some v) : rdV false 1 (L.flatMap f) (i * n + j) = some v := by
  have h1 := (List.getElem?_eq_some_iff.1 hj).1
  unfold rdV
  rw [cond_false, ← List.getElem?_drop, ← List.getElem?_take_of_lt (show j < n by rw [← hf x]; exact h1), fm_at hf h]
  exact hj
theorem fm_snoc (L : List α) (x : α) : (L ++ [x]).flatMap f = L.flatMap f ++ f x := by simp
theorem fm_take {L : List α} {i : Nat} {x : α} (h : L[i]? = some x) : (L.take (i + 1)).flatMap f = (L.take i).flatMap f ++ f x := by
  obtain ⟨h1, h2⟩ := List.getElem?_eq_some_iff.1 h
  rw [List.take_succ_eq_append_getElem h1, fm_snoc, h2]
theorem fm_takeAt {L : List α} {i k : Nat} (h : i < k) : (L.take k)[i]? = L[i]? := List.getElem?_take_of_lt h
theorem fm_one (hf : ∀ x : α, (f x).all Value.oneCell' = true) : ∀ L : List α, (L.flatMap f).all Value.oneCell' = true
  | [] => rfl
  | x :: L => by rw [List.flatMap_cons, List.all_append, hf, fm_one hf L]; rfl
end
theorem HLe.swap (A T : Heap) : HLe (T ++ A) (A ++ T) := fun _ _ _ hw => hw.perm List.perm_append_comm
section
variable {α : Type} {f : α → List Value} {n : Nat}
theorem fm_rdm (hf : ∀ x, (f x).length = n) {L : List α} {i : Nat} {x : α} (j m : Nat) (h : L[i]? = some x) (hj : j + m ≤ n) : rdV true m (L.flatMap f) (i * n + j) = some (.agg (((f x).drop j).take m).toArray) := by
  have h1 := (List.getElem?_eq_some_iff.1 h).1
  have h2 : i * n + n ≤ L.length * n := by rw [← Nat.succ_mul]; exact Nat.mul_le_mul_right _ h1
  have h3 : Nat.ble (i * n + j + m) (L.flatMap f).length = true := Nat.ble_eq_true_of_le (by rw [fm_len hf]; omega)
  unfold rdV
  rw [cond_true, h3, cond_true, ← List.drop_drop]
  have e : (((L.flatMap f).drop (i * n)).drop j).take m = ((f x).drop j).take m := by
    rw [← fm_at hf h]
    rw [List.drop_take, List.take_take, Nat.min_eq_left (by omega)]
  rw [e]
end
/-- A block of which one reads these cells from a place on. -/
def ReadP (off : Nat) (xs : List Value) (o : Obj) : Prop := ∃ (cur : Array Value) (e : TypeId) (fr : Nat × Nat), o = .cells cur e fr ∧ ∀ (j : Nat) u, xs[j]? = some u → cur[off + j]? = some u
theorem row_read {e : TypeId} {size n c g : Nat} {xs : List Value} (H : Heap) : HLe (.ob g (ReadP 0 xs) :: H) (.ob g (RowP e size n c xs) :: H) := fun w0 Wr w h =>
  ⟨h.only, fun x hx => by
    rcases List.mem_cons.1 hx with rfl | hx
    · obtain ⟨⟨o, h1, cur, rfl, _, _, _, h5, _⟩, h3⟩ := h.ents (.ob g (RowP e size n c xs)) List.mem_cons_self
      refine ⟨⟨_, h1, cur, e, (0, 0), rfl, fun j u hu => ?_⟩, h3⟩
      have hj : j < xs.length := (List.getElem?_eq_some_iff.1 hu).1
      rw [← h5] at hu hj
      simp only [List.length_take] at hj
      rw [List.getElem?_take_of_lt (by omega)] at hu
      rw [Nat.zero_add]
      simpa using hu
    · exact h.ents x (List.mem_cons_of_mem _ hx), List.Pairwise.cons (fun x hx => (List.pairwise_cons.1 h.sep).1 x hx) (List.pairwise_cons.1 h.sep).2⟩
theorem read_off {g off k : Nat} {xs : List Value} (H : Heap) : HLe (.ob g (ReadP (off + k) (xs.drop k)) :: H) (.ob g (ReadP off xs) :: H) := fun w0 Wr w h =>
  ⟨h.only, fun x hx => by
    rcases List.mem_cons.1 hx with rfl | hx
    · obtain ⟨⟨o, h1, cur, e, fr, rfl, h5⟩, h3⟩ := h.ents (.ob g (ReadP off xs)) List.mem_cons_self
      refine ⟨⟨_, h1, cur, e, fr, rfl, fun j u hu => ?_⟩, h3⟩
      rw [List.getElem?_drop] at hu
      rw [show off + k + j = off + (k + j) by omega]
      exact h5 _ _ hu
    · exact h.ents x (List.mem_cons_of_mem _ hx), List.Pairwise.cons (fun x hx => (List.pairwise_cons.1 h.sep).1 x hx) (List.pairwise_cons.1 h.sep).2⟩
theorem read_nil {g off off' : Nat} {xs : List Value} (H : Heap) : HLe (.ob g (ReadP off' []) :: H) (.ob g (ReadP off xs) :: H) := fun w0 Wr w h =>
  ⟨h.only, fun x hx => by
    rcases List.mem_cons.1 hx with rfl | hx
    · obtain ⟨⟨o, h1, cur, e, fr, rfl, h5⟩, h3⟩ := h.ents (.ob g (ReadP off xs)) List.mem_cons_self
      exact ⟨⟨_, h1, cur, e, fr, rfl, fun j u hu => by simp at hu⟩, h3⟩
    · exact h.ents x (List.mem_cons_of_mem _ hx), List.Pairwise.cons (fun x hx => (List.pairwise_cons.1 h.sep).1 x hx) (List.pairwise_cons.1 h.sep).2⟩
theorem read_ro {g off : Nat} {xs : List Value} (H : Heap) : HLe (.ro g off xs :: H) (.ob g (ReadP off xs) :: H) := fun w0 Wr w h =>
  h.freeze rfl rfl rfl fun ⟨o, h1, cur, e, fr, h2, h5⟩ => by
    subst h2
    refine ⟨?_, fun j u hu => ?_⟩
    · rcases Nat.lt_or_ge g w.heap.size with h' | h'
      · exact h'
      · rw [Array.getElem?_eq_none h'] at h1; cases h1
    · rw [cell_of_row w g (off + j) cur e fr h1]
      exact h5 j u hu
section
variable {P : Program} {N : Frm} {w0 : World} {Wr : List Nat} {ops : Array Oper} {rest : List Oper} {fr : Fr} {H H1 T U : Heap} {Z : Fr → Heap → Prop}
variable {d ty : Nat} {pos : String} {after : Array Edge}
/-- The new row stands behind the others. -/
theorem sx_callRE {f : FuncId} {xs : List Operand} {vs : List Value} {ts : Array TypeId} {e : TypeId} {size n : Nat} {ys : List Value} (U : Heap) (hc : Fn P f vs U fun u H' => RowOk u n ∧ H' = rowE u e size ys) (hx : evs fr xs = some vs) (hU : U.Sublist H) (hroU : Ro U) (hN : Nat.ble (d + 1) N.n = true)
    (h : ∀ v, RowOk v n → sx P N w0 Wr ops rest ((d, v) :: fr) (H ++ rowE v e size ys) Z) :
    sx P N w0 Wr ops (⟨some d, .call { callee := .value (.func f), args := xs.toArray, argTypes := ts }, ty, pos, after, none⟩ :: rest) fr H Z :=
  sx_callRT U hc hx hU hroU hN fun v hv => sx_heap _ (HLe.swap _ _) (h v hv)
theorem sx_appendE {t e : TypeId} {size bytes n m c : Nat} {s x : Operand} {v : Value} {xs news : List Value} {A : Option Addr} (H1 : Heap) (hE : ElemOk P t e size bytes) (hs : ev fr s = some v) (hv : RowOk v n) (hl : xs.length = n * size) (hx : ev fr x = some (.slice A m c))
    (hr : ∀ w, Sat w0 Wr H w → Rd w size A m news) (h1 : news.all Value.oneCell' = true) (h63 : n + m ≤ maxLen) (hby : (n + m) * bytes ≤ 140737488355328) (hH : HLe (H1 ++ rowE v e size xs) H) (hN : Nat.ble (d + 1) N.n = true)
    (h : ∀ v', RowOk v' (n + m) → sx P N w0 Wr ops rest ((d, v') :: fr) (H1 ++ rowE v' e size (xs ++ news)) Z) :
    sx P N w0 Wr ops (⟨some d, .call { callee := .builtin .append, args := #[s, x], argTypes := #[t, t] }, ty, pos, after, none⟩ :: rest) fr H Z :=
  sx_append hE hs hv hl hx hr h1 h63 hby ((HLe.swap _ _).trans hH) hN fun v' hv' => sx_heap _ (HLe.swap _ _) (h v' hv')
end
/-- The ways of a piece that is the last one meet. -/
theorem awp_meet {P : Program} {N : Frm} {w0 : World} {Wr : List Nat} {fr : Fr} {H : Heap} {Q : Exit → Act → World → Prop} {x : Code} {ι : Type} (F : ι → Fr) (HH : ι → Heap) (I : ι → Prop)
    (hx : awp P N w0 Wr x fr H (Exit.then (fun a w => ∃ j, I j ∧ FrOk N (F j) a ∧ Sat w0 Wr (HH j) w) Q)) (hy : ∀ j, I j → nx N w0 Wr (F j) (HH j) Q .normal) : awp P N w0 Wr x fr H Q :=
  fun a w ha hw => wq_mono (fun e a w h => by
    cases e <;> first | exact h | (obtain ⟨j, hj, h1, h2⟩ := h; exact hy j hj a w h1 h2)) (hx a w ha hw)
theorem HLe.mid (A T B : Heap) : HLe (A ++ B) (A ++ (T ++ B)) := HLe.sub (List.Sublist.append_left (List.sublist_append_right _ _) _)
theorem nx_ret3h {P : Program} {n : Nat} {ro : Option Nat} {w0 : World} {Wr : List Nat} {fr : Fr} {H : Heap} {fn : Func} {R : Value → Heap → Prop} {r s t : ResultVar} {v u x : Value} (HH : Heap) (hr : fn.results = #[r, s, t]) (h1 : ResOk P fr H r v) (h2 : ResOk P fr H s u) (h3 : ResOk P fr H t x) (hk : HLe HH H) (hR : R (.tuple #[v, u, x]) HH) : nx ⟨n, ro, []⟩ w0 Wr fr H (bodyPost P fn (FnPost w0 Wr R)) .ret :=
  fun a w ha hw => ⟨ha.defers, _, by
    have e1 := h1.run' ha hw
    have e2 := h2.run' ha hw
    have e3 := h3.run' ha hw
    rw [results_eq]
    simp [hr, Sem.run_bind, e1, e2, e3], _, HH, rfl, hR, hk _ _ _ hw⟩
theorem awp_false {P : Program} {N : Frm} {w0 : World} {Wr : List Nat} {fr : Fr} {H : Heap} {Q : Exit → Act → World → Prop} {x : Code} (i : Nat) {g : Nat} {p : Obj → Prop} (hH : H[i]? = some (.ob g p)) (hp : ∀ o, p o → False) : awp P N w0 Wr x fr H Q :=
  fun a w ha hw => by
    obtain ⟨o, _, ho⟩ := hw.mem hH
    exact (hp o ho).elim
/-- A slice that came in: it may be empty, wherever it stands. -/
def ArgOk (A : Option Addr) (n : Nat) : Prop := 0 < n → ∃ g o, A = some ⟨g, o, none⟩
theorem SlOk.arg {A : Option Addr} {n : Nat} (h : SlOk A n) : ArgOk A n := fun hn => h.some hn
end Go.Proofs.Ytfffhnefjaomnaa
