/- The small logic's steps on slices: what is read, what is one's own and grows. No conditions. -/
import Derived.Test.YtfffhnefjaomnaaSxH
import Derived.Test.YtfffhnefjaomnaaMem
import Derived.ArgAppend
namespace Go.Proofs.Ytfffhnefjaomnaa
open Go.RowKit
set_option linter.unusedVariables false
set_option linter.unusedSimpArgs false
set_option linter.unusedSectionVars false
/-- A block that holds n elements, with room for c. -/
def RowP (e : TypeId) (size n c : Nat) (xs : List Value) (o : Obj) : Prop :=
  ∃ cur : Array Value, o = .cells cur e (0, 0) ∧ n ≤ c ∧ c ≤ maxLen ∧ cur.size = c * size ∧ cur.toList.take (n * size) = xs ∧ xs.length = n * size
def rowE (v : Value) (e : TypeId) (size : Nat) (xs : List Value) : Heap :=
  match v with
  | .slice (some a) n c => [.ob a.block (RowP e size n c xs)]
  | _ => []
def RowOk (v : Value) (n : Nat) : Prop := (v = .slice none 0 0 ∧ n = 0) ∨ ∃ g c, v = .slice (some ⟨g, 0, none⟩) n c
/-- A slice that came in, and what is read of it. -/
def SlOk (A : Option Addr) (n : Nat) : Prop := (A = none ∧ n = 0) ∨ ∃ g o, A = some ⟨g, o, none⟩
def roE (A : Option Addr) (xs : List Value) : Heap :=
  match A with
  | some a => [.ro a.block a.off xs]
  | none => []
theorem SlOk.some {A : Option Addr} {n : Nat} (h : SlOk A n) (hn : 0 < n) : ∃ g o, A = Option.some ⟨g, o, none⟩ := by
  rcases h with ⟨_, rfl⟩ | h
  · omega
  · exact h
theorem rowE_wr (v : Value) (e : TypeId) (size : Nat) (xs : List Value) : (rowE v e size xs).filter Ent.wr = rowE v e size xs := by
  unfold rowE
  split <;> rfl
theorem RowOk.nil : RowOk (.slice none 0 0) 0 := .inl ⟨rfl, rfl⟩
theorem RowOk.form {v : Value} {n : Nat} (h : RowOk v n) : ∃ A c, v = .slice A n c ∧ SlOk A n := by
  rcases h with ⟨rfl, rfl⟩ | ⟨g, c, rfl⟩
  · exact ⟨none, 0, rfl, .inl ⟨rfl, rfl⟩⟩
  · exact ⟨_, c, rfl, .inr ⟨g, 0, rfl⟩⟩
theorem RowOk.some {v : Value} {n : Nat} (h : RowOk v n) (hn : 0 < n) : ∃ g c, v = .slice (Option.some ⟨g, 0, none⟩) n c := by
  rcases h with ⟨_, rfl⟩ | h
  · omega
  · exact h
theorem RowOk.mk (g n c : Nat) : RowOk (.slice (Option.some ⟨g, 0, none⟩) n c) n := .inr ⟨g, c, rfl⟩
theorem HLe.sub {H' H : Heap} (h : H'.Sublist H) : HLe H' H := fun _ _ _ hw => hw.sub h
theorem HLe.trans {a b c : Heap} (h : HLe a b) (k : HLe b c) : HLe a c := fun _ _ _ hw => h _ _ _ (k _ _ _ hw)
theorem Enters.mk {P : Program} {f : FuncId} {fn : Func} (hf : P.funcs[f]? = some fn) (hn : (fn.name == "runtime.NumGoroutine") = false) (hb : fn.body.isNone = false) : Enters P f := ⟨fn, hf, hn, hb⟩
theorem Fn.of_bel {P : Program} {f : FuncId} {vs : List Value} {v : Value} (hE : Enters P f) (h : ∀ w, Calls P f vs.toArray w fun e w' => e = .returned v ∧ Bel w w') : Fn P f vs [] fun u _ => u = v :=
  ⟨hE, fun w hw => (h w).mono fun e w' ⟨he, hb⟩ => ⟨v, [], he, rfl, ⟨Only.of_bel hb, by simp, List.Pairwise.nil⟩⟩⟩
theorem Fn.of_same {P : Program} {f : FuncId} {vs : List Value} {v : Value} (hE : Enters P f) (h : ∀ w, Calls P f vs.toArray w fun e w' => e = .returned v ∧ w = w') : Fn P f vs [] fun u _ => u = v :=
  Fn.of_bel hE fun w => (h w).mono fun e w' ⟨he, hb⟩ => ⟨he, hb ▸ Bel.refl w⟩
theorem Fn.bel {P : Program} {f : FuncId} {vs : List Value} {v : Value} (h : Fn P f vs [] fun u _ => u = v) (w : World) : Calls P f vs.toArray w fun e w' => e = .returned v ∧ Bel w w' :=
  (h.2 w (Sat.nil w)).mono fun e w' he => by
    obtain ⟨u, H', rfl, rfl, hS⟩ := he
    exact ⟨rfl, hS.only.bel⟩
section
variable {w0 w w' : World} {Wr : List Nat} {H H1 : Heap} {size n m c g o i : Nat} {e : TypeId} {xs : List Value} {A : Option Addr} {v : Value}
theorem rd_own (hH : H[i]? = some (.own g e xs)) (hl : xs.length = n * size) (hw : Sat w0 Wr H w) : Rd w size (some ⟨g, 0, none⟩) n xs :=
  ⟨hl, fun h => (by cases h), fun _ => ⟨g, 0, rfl, Ent.lt (hw.mem hH), fun j u hu => by rw [Nat.zero_add]; exact (Ent.cell (hw.mem hH) j).trans hu⟩⟩
theorem rd_ro (hH : H[i]? = some (.ro g o xs)) (hl : xs.length = n * size) (hw : Sat w0 Wr H w) : Rd w size (some ⟨g, o, none⟩) n xs :=
  ⟨hl, fun h => (by cases h), fun _ => ⟨g, o, rfl, (hw.mem hH).1, (hw.mem hH).2⟩⟩
theorem rd_row (hH : H[i]? = some (.ob g (RowP e size n c xs))) (hw : Sat w0 Wr H w) : Rd w size (some ⟨g, 0, none⟩) n xs := by
  obtain ⟨ob, h1, cur, rfl, h2, h3, h4, h5, h6⟩ := hw.mem hH
  refine ⟨h6, fun h => (by cases h), fun _ => ⟨g, 0, rfl, Ent.lt (hw.mem hH), fun j u hu => ?_⟩⟩
  rw [Nat.zero_add, cell_of_row w g j cur e (0, 0) h1]
  have hj : j < xs.length := (List.getElem?_eq_some_iff.1 hu).1
  rw [← h5, List.getElem?_take_of_lt (by omega)] at hu
  simpa using hu
theorem rd_nil {A : Option Addr} (hA : A = none) : Rd w size A 0 [] := ⟨by simp, fun _ => rfl, fun h => absurd h (by omega)⟩
theorem rd_roE (hA : SlOk A n) (hH : ∀ x ∈ roE A xs, x ∈ H) (hl : xs.length = n * size) (hw : Sat w0 Wr H w) : Rd w size A n xs := by
  rcases hA with ⟨rfl, rfl⟩ | ⟨g, o, rfl⟩
  · exact ⟨hl, fun _ => rfl, fun h => absurd h (by omega)⟩
  · obtain ⟨i, hi⟩ := List.mem_iff_getElem?.1 (hH _ List.mem_cons_self)
    exact rd_ro hi hl hw
theorem rd_rowE (hv : RowOk (.slice A n c) n) (hl : xs.length = n * size) (hH : ∀ x ∈ rowE (.slice A n c) e size xs, x ∈ H) (hw : Sat w0 Wr H w) : Rd w size A n xs := by
  rcases hv with ⟨h, rfl⟩ | ⟨g, c', h⟩
  · injection h with h1; subst h1
    exact ⟨hl, fun _ => rfl, fun h => absurd h (by omega)⟩
  · injection h with h1 h2 h3; subst h1; subst h3
    obtain ⟨i, hi⟩ := List.mem_iff_getElem?.1 (hH _ List.mem_cons_self)
    exact rd_row hi hw
theorem own_of_sat {H1 : Heap} (hv : RowOk v n) (hl : xs.length = n * size) (hw : Sat w0 Wr (rowE v e size xs ++ H1) w) : w.ownsRow 0 e size v n xs := by
  rcases hv with ⟨rfl, rfl⟩ | ⟨g, c, rfl⟩
  · exact ⟨hl, .inl ⟨rfl, rfl⟩⟩
  · obtain ⟨ob, h1, cur, rfl, h2, h3, h4, h5, h6⟩ := hw.mem (i := 0) (e := .ob g (RowP e size n c xs)) rfl
    exact ⟨hl, .inr ⟨g, c, cur, rfl, Nat.zero_le _, h1, h2, h3, h4, h5⟩⟩
theorem row_of_own {base : Nat} (h : w.ownsRow base e size v n xs) : RowOk v n ∧ (∀ g c, v = .slice (some ⟨g, 0, none⟩) n c → base ≤ g ∧ (Ent.ob g (RowP e size n c xs)).holds w) := by
  obtain ⟨hl, h | ⟨g, cap, cur, rfl, hb, hh, h1, h2, h3, h4⟩⟩ := h
  · obtain ⟨rfl, rfl⟩ := h
    exact ⟨.inl ⟨rfl, rfl⟩, fun g c hv => by cases hv⟩
  · refine ⟨.inr ⟨g, cap, rfl⟩, fun g' c hv => ?_⟩
    injection hv with hv1 hv2 hv3
    injection hv1 with hv1
    injection hv1 with hv1
    subst hv1; subst hv3
    exact ⟨hb, _, hh, cur, rfl, h1, h2, h3, h4, hl⟩
/-- A row that a call has made. -/
theorem Sat.row (h : Sat w0 Wr H w) (hb : Bel w w') (ho : w'.ownsRow w.heap.size e size v n xs) : Sat w0 Wr (rowE v e size xs ++ H) w' := by
  obtain ⟨h1, h2⟩ := row_of_own ho
  rcases h1 with ⟨rfl, rfl⟩ | ⟨g, c, rfl⟩
  · exact h.bel hb
  · obtain ⟨h3, h4⟩ := h2 g c rfl
    exact h.fresh h4 hb h3
theorem Bel.emp (w : World) : Bel { w with heap := #[] } w := ⟨rfl, rfl, rfl, Nat.zero_le _, fun k hk => by simp at hk⟩
/-- What an append leaves. -/
theorem Sat.app {H1 : Heap} {v' : Value} {n' : Nat} {ys : List Value} (h : Sat w0 Wr (rowE v e size xs ++ H1) w) (hv : RowOk v n) (ho : w'.ownsRow 0 e size v' n' ys) (hg : w.grownBy w' v.ownBlock) (hb : v'.ownBlock = v.ownBlock ∨ v'.ownBlock = some w.heap.size) :
    Sat w0 Wr (rowE v' e size ys ++ H1) w' := by
  obtain ⟨h1, h2⟩ := row_of_own ho
  have hsub : Sat w0 Wr H1 w := h.sub (List.sublist_append_right _ _)
  -- the rest is as it was
  have hrest : ∀ x ∈ H1, some x.g ≠ v.ownBlock := fun x hx => by
    rcases hv with ⟨rfl, rfl⟩ | ⟨g, c, rfl⟩
    · exact fun hh => by cases hh
    · intro hh
      have hgx : x.g = g := by simpa [Value.ownBlock] using hh
      have := (List.pairwise_append.1 h.sep).2.2 (.ob g (RowP e size n c xs)) List.mem_cons_self x hx
      exact this rfl hgx.symm
  have hvg : ∀ k, v.ownBlock = some k → k ∈ Wr ∨ w0.heap.size ≤ k := fun k hk => by
    rcases hv with ⟨rfl, rfl⟩ | ⟨g, c, rfl⟩
    · cases hk
    · have : g = k := by simpa [Value.ownBlock] using hk
      subst this
      exact (h.ents (.ob g (RowP e size n c xs)) (List.mem_append_left _ List.mem_cons_self)).2 rfl
  have honly : Only Wr w0 w' := by
    refine ⟨hg.os.trans h.only.os, hg.tape.trans h.only.tape, hg.output.trans h.only.output, Nat.le_trans h.only.size hg.size, fun i hi hn => ?_⟩
    refine (hg.block i (Nat.lt_of_lt_of_le hi h.only.size) (fun hh => ?_)).trans (h.only.block i hi hn)
    rcases hvg i hh.symm with h3 | h3
    · exact hn h3
    · omega
  have hkeep : ∀ x ∈ H1, x.holds w' ∧ (x.wr = true → x.g ∈ Wr ∨ w0.heap.size ≤ x.g) := fun x hx => by
    have hx1 := hsub.ents x hx
    exact ⟨Ent.keep hx1.1 hg.size (hg.block _ (Ent.lt hx1.1) (hrest x hx)), hx1.2⟩
  rcases h1 with ⟨rfl, rfl⟩ | ⟨g', c', rfl⟩
  · exact ⟨honly, hkeep, hsub.sep⟩
  · have h4 := (h2 g' c' rfl).2
    have hb' : some g' = v.ownBlock ∨ g' = w.heap.size := by
      rcases hb with hb | hb
      · exact .inl (by simpa [Value.ownBlock] using hb)
      · exact .inr (by simpa [Value.ownBlock] using hb)
    refine ⟨honly, ?_, List.Pairwise.cons ?_ hsub.sep⟩
    · intro x hx
      rcases List.mem_cons.1 hx with rfl | hx
      · refine ⟨h4, fun _ => ?_⟩
        rcases hb' with hb' | hb'
        · exact hvg g' hb'.symm
        · exact .inr (by show w0.heap.size ≤ g'; rw [hb']; exact h.only.size)
      · exact hkeep x hx
    · intro x hx _
      show g' ≠ x.g
      rcases hb' with hb' | hb'
      · exact fun hh => hrest x hx (hh ▸ hb')
      · have := Ent.lt (hsub.ents x hx).1
        omega
end
section
variable {P : Program} {N : Frm} {w0 : World} {Wr : List Nat} {ops : Array Oper} {rest : List Oper} {fr : Fr} {H H1 : Heap} {Z : Fr → Heap → Prop}
variable {d ty : Nat} {pos : String} {after : Array Edge}
/-- append onto a row of one's own, from whatever is read. -/
theorem sx_append {t e : TypeId} {size bytes n m c : Nat} {s x : Operand} {v : Value} {xs news : List Value} {A : Option Addr} (hE : ElemOk P t e size bytes) (hs : ev fr s = some v) (hv : RowOk v n) (hl : xs.length = n * size) (hx : ev fr x = some (.slice A m c))
    (hr : ∀ w, Sat w0 Wr H w → Rd w size A m news) (h1 : news.all Value.oneCell' = true) (h63 : n + m ≤ maxLen) (hby : (n + m) * bytes ≤ 140737488355328) (hH : HLe (rowE v e size xs ++ H1) H) (hN : Nat.ble (d + 1) N.n = true)
    (h : ∀ v', RowOk v' (n + m) → sx P N w0 Wr ops rest ((d, v') :: fr) (rowE v' e size (xs ++ news) ++ H1) Z) :
    sx P N w0 Wr ops (⟨some d, .call { callee := .builtin .append, args := #[s, x], argTypes := #[t, t] }, ty, pos, after, none⟩ :: rest) fr H Z := by
  refine sx_make (R := fun v' H' => RowOk v' (n + m) ∧ H' = rowE v' e size (xs ++ news) ++ H1) hN (fun a w ha hw => ?_) (fun v' H' hR => by obtain ⟨h2, rfl⟩ := hR; exact h v' h2)
  have hw' := hH _ _ _ hw
  have hown := own_of_sat hv hl hw'
  obtain ⟨v', w', hrun, h2, h3, h4, h5⟩ := run_app (P := P) (W0 := { w with heap := #[] }) (ty := ty) (c := c) hE (Bel.emp w) (Nat.le_refl _) (Nat.zero_le _) hown (hr w hw) (fun u hu => List.all_eq_true.1 h1 u hu) h63 hby
  refine ⟨v', w', _, ?_, ⟨(row_of_own h2).1, rfl⟩, hw'.app hv h2 h4 h5⟩
  simp only [execOp, resolve, List.map_toArray, List.map_cons, List.map_nil, ha.eval hs, ha.eval hx, Sem.run_bind, Sem.run_pure, Result.andThen_ok, invoke, builtin, hrun]
/-- A call that makes a row. -/
theorem sx_callR {f : FuncId} {xs : List Operand} {vs : List Value} {ts : Array TypeId} {e : TypeId} {size n : Nat} {ys : List Value} (hE : Enters P f) (hx : evs fr xs = some vs) (hN : Nat.ble (d + 1) N.n = true)
    (hc : ∀ w, Sat w0 Wr H w → Calls P f vs.toArray w fun x w' => ∃ A c, x = .returned (.slice A n c) ∧ w'.ownsRow w.heap.size e size (.slice A n c) n ys ∧ (A = none → n = 0 ∧ c = 0) ∧ Bel w w')
    (h : ∀ v, RowOk v n → sx P N w0 Wr ops rest ((d, v) :: fr) (rowE v e size ys ++ H) Z) :
    sx P N w0 Wr ops (⟨some d, .call { callee := .value (.func f), args := xs.toArray, argTypes := ts }, ty, pos, after, none⟩ :: rest) fr H Z :=
  sx_callW (R := fun v H' => RowOk v n ∧ H' = rowE v e size ys ++ H) hE hx hN (fun w hw => (hc w hw).mono fun x w' he => by
    obtain ⟨A, c, rfl, h1, _, h2⟩ := he
    exact ⟨_, _, rfl, ⟨(row_of_own h1).1, rfl⟩, hw.row h2 h1⟩) (fun v H' hR => by obtain ⟨h1, rfl⟩ := hR; exact h v h1)
/-- A load of what a slice holds. -/
theorem sx_loadRd {t : TypeId} {x : Operand} {g o q n size m : Nat} {xs : List Value} {agg : Bool} {v : Value} (k : Nat) (hx : ev fr x = some (ptr g q)) (hq : q = o + k) (hr : ∀ w, Sat w0 Wr H w → Rd w size (some ⟨g, o, none⟩) n xs) (hn0 : 0 < n) (ht : tyAgg P t = some agg) (hn : tySize P t = some m) (hv : rdV agg m xs k = some v) (hN : Nat.ble (d + 1) N.n = true)
    (h : sx P N w0 Wr ops rest ((d, v) :: fr) H Z) : sx P N w0 Wr ops (⟨some d, .load t x, ty, pos, after, none⟩ :: rest) fr H Z :=
  sx_val v hN (fun a w ha hw => by
    subst hq
    obtain ⟨g', o', hA, hlt, hc⟩ := (hr w hw).2.2 hn0
    injection hA with hA
    injection hA with h1 h2 _
    subst h1; subst h2
    simp only [execOp, Instr.loadAt, ha.eval hx, ptr, Instr.sureAddr, Sem.run_bind, Sem.run_pure, Result.andThen_ok]
    have : (loadVar t ⟨g, o + k, none⟩).run P w = .ok v w := by
      unfold loadVar
      simp only [Sem.run_bind, run_isAgg ht, Result.andThen_ok]
      cases agg with
      | false => simp [load, Sem.run, hc k v hv]
      | true =>
        simp only [rdV, cond_true] at hv
        cases hb : Nat.ble (k + m) xs.length with
        | false => rw [hb] at hv; cases hv
        | true =>
          rw [hb] at hv
          obtain rfl := Option.some.inj hv
          have hle := Nat.le_of_ble_eq_true hb
          simp only [if_true, Sem.run_bind, run_sizeOf hn, Result.andThen_ok, loadCells]
          rw [run_loadCells (P := P) ⟨g, o + k, none⟩ m 0 #[] ((xs.drop k).take m) (by simp; omega) (fun j u hu => by
            have e : Addr.add ⟨g, o + k, none⟩ (0 + j) = ⟨g, o + (k + j), none⟩ := by rw [addr_add]; congr 1; omega
            rw [e]
            refine hc _ _ ?_
            rw [List.getElem?_take] at hu
            split at hu
            · rw [← hu, List.getElem?_drop]
            · cases hu)]
          simp
    rw [this]
    rfl) h
/-- Bytes as a text. -/
theorem sx_strB {s t : TypeId} {x : Operand} {A : Option Addr} {n c : Nat} {l : List UInt8} {e : TypeId} (hs : P.underlying s = some (.slice e)) (he : P.underlying e = some (.int .u8)) (ht : P.underlying t = some .string) (hx : ev fr x = some (.slice A n c))
    (hr : ∀ w, Sat w0 Wr H w → Rd w 1 A n (bv l)) (hN : Nat.ble (d + 1) N.n = true)
    (h : sx P N w0 Wr ops rest ((d, .string (str l)) :: fr) H Z) : sx P N w0 Wr ops (⟨some d, .convert s t x, ty, pos, after, none⟩ :: rest) fr H Z :=
  sx_val _ hN (fun a w ha hw => by
    simp only [execOp, ha.eval hx, Sem.run_bind, run_str (hr w hw) s e t hs he ht, Result.andThen_ok, Sem.run_pure]) h
/-- The bytes of a constant text: from here on they are only read. -/
theorem sx_convB (i : Nat) {t e e' : TypeId} {x : Operand} {g n c : Nat} {cs : List Value} (ht : P.underlying t = some (.slice e)) (he : P.underlying e = some (.int .u8)) (hx : ev fr x = some (.slice (some ⟨g, 0, none⟩) n c)) (hH : H[i]? = some (.own g e' cs)) (hN : Nat.ble (d + 1) N.n = true)
    (h : sx P N w0 Wr ops rest ((d, .slice (some ⟨g, 0, none⟩) n c) :: fr) (H.set i (.ro g 0 cs)) Z) : sx P N w0 Wr ops (⟨some d, .convert t t x, ty, pos, after, none⟩ :: rest) fr H Z := by
  refine sx_make (R := fun v H' => v = .slice (some ⟨g, 0, none⟩) n c ∧ H' = H.set i (.ro g 0 cs)) hN (fun a w ha hw => ?_) (fun v H' hR => by obtain ⟨rfl, rfl⟩ := hR; exact h)
  have hm := hw.mem hH
  have hm' : w.heap[g]? = some (.cells cs.toArray e' (0, 0)) := hm
  have hsh : w.shape? g = some (e', cs.length) := by simp [World.shape?, hm']
  refine ⟨_, w.freeze ⟨g, cs.length, none⟩ 1, _, ?_, ⟨rfl, rfl⟩, hw.turn hH rfl (e' := .ro g 0 cs) rfl ?_ ?_⟩
  · simp [execOp, ha.eval hx, convert, Sem.run_bind, run_underlying ht, run_underlying he, markStringish, shape, freeze, Sem.run, hsh]
  · refine ⟨rfl, rfl, rfl, by simp [World.freeze], fun k _ hk => ?_⟩
    have hk' : g ≠ k := fun e => hk (by simp [Ent.g, e])
    simp [World.freeze, Array.getElem?_modify, hk']
  · have hl := Ent.lt hm
    refine ⟨by simpa [World.freeze, Ent.g] using hl, fun j u hu => ?_⟩
    have hh : (w.freeze ⟨g, cs.length, none⟩ 1).heap[g]? = some (.cells cs.toArray e' (cs.length, cs.length + 1)) := by
      simp [World.freeze, Array.getElem?_modify, hm']
    rw [Nat.zero_add]
    simp only [World.cell?, hh]
    simpa using hu
/-- append onto what is full: a new row. -/
theorem sx_appendFull {t e : TypeId} {size bytes n cap m c : Nat} {s x : Operand} {b b' : Addr} {xs news : List Value} (hE : ElemOk P t e size bytes) (hs : ev fr s = some (.slice (some b) n cap)) (hx : ev fr x = some (.slice (some b') m c))
    (hr : ∀ w, Sat w0 Wr H w → Rd w size (some b) n xs) (hr' : ∀ w, Sat w0 Wr H w → Rd w size (some b') m news) (hn0 : 0 < n) (hm0 : 0 < m) (hfull : cap < n + m) (h63 : n + m ≤ maxLen) (hby : (n + m) * bytes ≤ 140737488355328) (hN : Nat.ble (d + 1) N.n = true)
    (h : ∀ v', RowOk v' (n + m) → sx P N w0 Wr ops rest ((d, v') :: fr) (rowE v' e size (xs ++ news) ++ H) Z) :
    sx P N w0 Wr ops (⟨some d, .call { callee := .builtin .append, args := #[s, x], argTypes := #[t, t] }, ty, pos, after, none⟩ :: rest) fr H Z := by
  refine sx_make (R := fun v' H' => RowOk v' (n + m) ∧ H' = rowE v' e size (xs ++ news) ++ H) hN (fun a w ha hw => ?_) (fun v' H' hR => by obtain ⟨h2, rfl⟩ := hR; exact h v' h2)
  obtain ⟨ht, i, z, hi, hz, hsize, hbs, hzs, hsz⟩ := hE
  have cells : ∀ {A : Addr} {k : Nat} {ys : List Value}, Rd w size (some A) k ys → 0 < k → ys.length = k * size ∧ ∀ j u, ys[j]? = some u → w.cell? (A.add j) = some u := fun hR hk => by
    obtain ⟨g, o, hA, _, hc⟩ := hR.2.2 hk
    obtain rfl := Option.some.inj hA
    exact ⟨hR.1, fun j u hu => by rw [addr_add]; exact hc j u hu⟩
  obtain ⟨l1, c1⟩ := cells (hr w hw) hn0
  obtain ⟨l2, c2⟩ := cells (hr' w hw) hm0
  obtain ⟨v', w', hrun, h2, h3⟩ := run_append_arg_grows (P := P) w t ty e i z size bytes ht hi hz hsize hbs hzs hsz b n cap xs l1 c1 b' m c news l2 c2 hfull h63 hby
  refine ⟨v', w', _, ?_, ⟨(row_of_own h2).1, rfl⟩, hw.row ⟨h3.os, h3.tape, h3.output, h3.size, fun k hk => h3.block k hk (by simp)⟩ h2⟩
  simp only [execOp, resolve, List.map_toArray, List.map_cons, List.map_nil, ha.eval hs, ha.eval hx, Sem.run_bind, Sem.run_pure, Result.andThen_ok, invoke, builtin, hrun]
end
end Go.Proofs.Ytfffhnefjaomnaa
