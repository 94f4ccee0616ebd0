/- The small logic's steps on slices: what is read, what is one's own and grows. No conditions. Steps on slices for regions that draw their order and only read. No conditions. (Written by tools/mksq.py.) The small logic's steps for regions that draw their order, with marks. No conditions. (Written by tools/mksq.py out of Sx2, Sx4, Sx5.) Regions that draw their order and load one entry that no store of theirs touches. No conditions. Steps on bytes made of a text. No conditions. -/
import Derived.Test.YtbldhokgbcljjaaGsx2
import Derived.Test.YtbldhokgbcljjaaMem
import Derived.ArgAppend
import Derived.Laws.IdiomStrings
namespace Go.Proofs.Ytbldhokgbcljjaa
open Go.RowKit
set_option linter.unusedVariables false
set_option linter.unusedSimpArgs false
set_option linter.unusedSectionVars false
/-- A block that holds n elements, with room for c. -/
def RowP (e : TypeId) (size n c : Nat) (xs : List Value) (o : Obj) : Prop :=
  ∃ cur : Array Value, o = .cells cur e (0, 0) ∧ n ≤ c ∧ c ≤ maxLen ∧ cur.size = c * size ∧ cur.toList.take (n * size) = xs ∧ xs.length = n * size
def rowE (v : Value) (e : TypeId) (size : Nat) (xs : List Value) : Heap :=
  match v with
  | .slice (some a) n c => [.ob a.block (RowP e size n c xs)]
  | _ => []
def RowOk (v : Value) (n : Nat) : Prop := (v = .slice none 0 0 ∧ n = 0) ∨ ∃ g c, v = .slice (some ⟨g, 0, none⟩) n c
/-- A slice that came in, and what is read of it. -/
def SlOk (A : Option Addr) (n : Nat) : Prop := (A = none ∧ n = 0) ∨ ∃ g o, A = some ⟨g, o, none⟩
def roE (A : Option Addr) (xs : List Value) : Heap :=
  match A with
  | some a => [.ro a.block a.off xs]
  | none => []
theorem SlOk.some {A : Option Addr} {n : Nat} (h : SlOk A n) (hn : 0 < n) : ∃ g o, A = Option.some ⟨g, o, none⟩ := by
  rcases h with ⟨_, rfl⟩ | h
  · omega
  · exact h
theorem rowE_wr (v : Value) (e : TypeId) (size : Nat) (xs : List Value) : (rowE v e size xs).filter Ent.wr = rowE v e size xs := by
  unfold rowE
  split <;> rfl
theorem RowOk.nil : RowOk (.slice none 0 0) 0 := .inl ⟨rfl, rfl⟩
theorem RowOk.form {v : Value} {n : Nat} (h : RowOk v n) : ∃ A c, v = .slice A n c ∧ SlOk A n := by
  rcases h with ⟨rfl, rfl⟩ | ⟨g, c, rfl⟩
  · exact ⟨none, 0, rfl, .inl ⟨rfl, rfl⟩⟩
  · exact ⟨_, c, rfl, .inr ⟨g, 0, rfl⟩⟩
theorem RowOk.some {v : Value} {n : Nat} (h : RowOk v n) (hn : 0 < n) : ∃ g c, v = .slice (Option.some ⟨g, 0, none⟩) n c := by
  rcases h with ⟨_, rfl⟩ | h
  · omega
  · exact h
theorem RowOk.mk (g n c : Nat) : RowOk (.slice (Option.some ⟨g, 0, none⟩) n c) n := .inr ⟨g, c, rfl⟩
theorem HLe.sub {H' H : Heap} (h : H'.Sublist H) : HLe H' H := fun _ _ _ hw => hw.sub h
theorem HLe.trans {a b c : Heap} (h : HLe a b) (k : HLe b c) : HLe a c := fun _ _ _ hw => h _ _ _ (k _ _ _ hw)
theorem Enters.mk {P : Program} {f : FuncId} {fn : Func} (hf : P.funcs[f]? = some fn) (hn : (fn.name == "runtime.NumGoroutine") = false) (hb : fn.body.isNone = false) : Enters P f := ⟨fn, hf, hn, hb⟩
theorem Fn.of_bel {P : Program} {f : FuncId} {vs : List Value} {v : Value} (hE : Enters P f) (h : ∀ w, Calls P f vs.toArray w fun e w' => e = .returned v ∧ Bel w w') : Fn P f vs [] fun u _ => u = v :=
  ⟨hE, fun w hw => (h w).mono fun e w' ⟨he, hb⟩ => ⟨v, [], he, rfl, ⟨Only.of_bel hb, by simp, List.Pairwise.nil⟩⟩⟩
theorem Fn.of_same {P : Program} {f : FuncId} {vs : List Value} {v : Value} (hE : Enters P f) (h : ∀ w, Calls P f vs.toArray w fun e w' => e = .returned v ∧ w = w') : Fn P f vs [] fun u _ => u = v :=
  Fn.of_bel hE fun w => (h w).mono fun e w' ⟨he, hb⟩ => ⟨he, hb ▸ Bel.refl w⟩
theorem Fn.bel {P : Program} {f : FuncId} {vs : List Value} {v : Value} (h : Fn P f vs [] fun u _ => u = v) (w : World) : Calls P f vs.toArray w fun e w' => e = .returned v ∧ Bel w w' :=
  (h.2 w (Sat.nil w)).mono fun e w' he => by
    obtain ⟨u, H', rfl, rfl, hS⟩ := he
    exact ⟨rfl, hS.only.bel⟩
section
variable {w0 w w' : World} {Wr : List Nat} {H H1 : Heap} {size n m c g o i : Nat} {e : TypeId} {xs : List Value} {A : Option Addr} {v : Value}
theorem rd_own (hH : H[i]? = some (.own g e xs)) (hl : xs.length = n * size) (hw : Sat w0 Wr H w) : Rd w size (some ⟨g, 0, none⟩) n xs :=
  ⟨hl, fun h => (by cases h), fun _ => ⟨g, 0, rfl, Ent.lt (hw.mem hH), fun j u hu => by rw [Nat.zero_add]; exact (Ent.cell (hw.mem hH) j).trans hu⟩⟩
theorem rd_ro (hH : H[i]? = some (.ro g o xs)) (hl : xs.length = n * size) (hw : Sat w0 Wr H w) : Rd w size (some ⟨g, o, none⟩) n xs :=
  ⟨hl, fun h => (by cases h), fun _ => ⟨g, o, rfl, (hw.mem hH).1, (hw.mem hH).2⟩⟩
theorem rd_row (hH : H[i]? = some (.ob g (RowP e size n c xs))) (hw : Sat w0 Wr H w) : Rd w size (some ⟨g, 0, none⟩) n xs := by
  obtain ⟨ob, h1, cur, rfl, h2, h3, h4, h5, h6⟩ := hw.mem hH
  refine ⟨h6, fun h => (by cases h), fun _ => ⟨g, 0, rfl, Ent.lt (hw.mem hH), fun j u hu => ?_⟩⟩
  rw [Nat.zero_add, cell_of_row w g j cur e (0, 0) h1]
  have hj : j < xs.length := (List.getElem?_eq_some_iff.1 hu).1
  rw [← h5, List.getElem?_take_of_lt (by omega)] at hu
  simpa using hu
theorem rd_nil {A : Option Addr} (hA : A = none) : Rd w size A 0 [] := ⟨by simp, fun _ => rfl, fun h => absurd h (by omega)⟩
theorem rd_roE (hA : SlOk A n) (hH : ∀ x ∈ roE A xs, x ∈ H) (hl : xs.length = n * size) (hw : Sat w0 Wr H w) : Rd w size A n xs := by
  rcases hA with ⟨rfl, rfl⟩ | ⟨g, o, rfl⟩
  · exact ⟨hl, fun _ => rfl, fun h => absurd h (by omega)⟩
  · obtain ⟨i, hi⟩ := List.mem_iff_getElem?.1 (hH _ List.mem_cons_self)
    exact rd_ro hi hl hw
theorem rd_rowE (hv : RowOk (.slice A n c) n) (hl : xs.length = n * size) (hH : ∀ x ∈ rowE (.slice A n c) e size xs, x ∈ H) (hw : Sat w0 Wr H w) : Rd w size A n xs := by
  rcases hv with ⟨h, rfl⟩ | ⟨g, c', h⟩
  · injection h with h1; subst h1
    exact ⟨hl, fun _ => rfl, fun h => absurd h (by omega)⟩
  · injection h with h1 h2 h3; subst h1; subst h3
    obtain ⟨i, hi⟩ := List.mem_iff_getElem?.1 (hH _ List.mem_cons_self)
    exact rd_row hi hw
theorem own_of_sat {H1 : Heap} (hv : RowOk v n) (hl : xs.length = n * size) (hw : Sat w0 Wr (rowE v e size xs ++ H1) w) : w.ownsRow 0 e size v n xs := by
  rcases hv with ⟨rfl, rfl⟩ | ⟨g, c, rfl⟩
  · exact ⟨hl, .inl ⟨rfl, rfl⟩⟩
  · obtain ⟨ob, h1, cur, rfl, h2, h3, h4, h5, h6⟩ := hw.mem (i := 0) (e := .ob g (RowP e size n c xs)) rfl
    exact ⟨hl, .inr ⟨g, c, cur, rfl, Nat.zero_le _, h1, h2, h3, h4, h5⟩⟩
theorem row_of_own {base : Nat} (h : w.ownsRow base e size v n xs) : RowOk v n ∧ (∀ g c, v = .slice (some ⟨g, 0, none⟩) n c → base ≤ g ∧ (Ent.ob g (RowP e size n c xs)).holds w) := by
  obtain ⟨hl, h | ⟨g, cap, cur, rfl, hb, hh, h1, h2, h3, h4⟩⟩ := h
  · obtain ⟨rfl, rfl⟩ := h
    exact ⟨.inl ⟨rfl, rfl⟩, fun g c hv => by cases hv⟩
  · refine ⟨.inr ⟨g, cap, rfl⟩, fun g' c hv => ?_⟩
    injection hv with hv1 hv2 hv3
    injection hv1 with hv1
    injection hv1 with hv1
    subst hv1; subst hv3
    exact ⟨hb, _, hh, cur, rfl, h1, h2, h3, h4, hl⟩
/-- A row that a call has made. -/
theorem Sat.row (h : Sat w0 Wr H w) (hb : Bel w w') (ho : w'.ownsRow w.heap.size e size v n xs) : Sat w0 Wr (rowE v e size xs ++ H) w' := by
  obtain ⟨h1, h2⟩ := row_of_own ho
  rcases h1 with ⟨rfl, rfl⟩ | ⟨g, c, rfl⟩
  · exact h.bel hb
  · obtain ⟨h3, h4⟩ := h2 g c rfl
    exact h.fresh h4 hb h3
theorem Bel.emp (w : World) : Bel { w with heap := #[] } w := ⟨rfl, rfl, rfl, Nat.zero_le _, fun k hk => by simp at hk⟩
/-- What an append leaves. -/
theorem Sat.app {H1 : Heap} {v' : Value} {n' : Nat} {ys : List Value} (h : Sat w0 Wr (rowE v e size xs ++ H1) w) (hv : RowOk v n) (ho : w'.ownsRow 0 e size v' n' ys) (hg : w.grownBy w' v.ownBlock) (hb : v'.ownBlock = v.ownBlock ∨ v'.ownBlock = some w.heap.size) :
    Sat w0 Wr (rowE v' e size ys ++ H1) w' := by
  obtain ⟨h1, h2⟩ := row_of_own ho
  have hsub : Sat w0 Wr H1 w := h.sub (List.sublist_append_right _ _)
  -- the rest is as it was
  have hrest : ∀ x ∈ H1, some x.g ≠ v.ownBlock := fun x hx => by
    rcases hv with ⟨rfl, rfl⟩ | ⟨g, c, rfl⟩
    · exact fun hh => by cases hh
    · intro hh
      have hgx : x.g = g := by simpa [Value.ownBlock] using hh
      have := (List.pairwise_append.1 h.sep).2.2 (.ob g (RowP e size n c xs)) List.mem_cons_self x hx
      exact this rfl hgx.symm
  have hvg : ∀ k, v.ownBlock = some k → k ∈ Wr ∨ w0.heap.size ≤ k := fun k hk => by
    rcases hv with ⟨rfl, rfl⟩ | ⟨g, c, rfl⟩
    · cases hk
    · have : g = k := by simpa [Value.ownBlock] using hk
      subst this
      exact (h.ents (.ob g (RowP e size n c xs)) (List.mem_append_left _ List.mem_cons_self)).2 rfl
  have honly : Only Wr w0 w' := by
    refine ⟨hg.os.trans h.only.os, hg.tape.trans h.only.tape, hg.output.trans h.only.output, Nat.le_trans h.only.size hg.size, fun i hi hn => ?_⟩
    refine (hg.block i (Nat.lt_of_lt_of_le hi h.only.size) (fun hh => ?_)).trans (h.only.block i hi hn)
    rcases hvg i hh.symm with h3 | h3
    · exact hn h3
    · omega
  have hkeep : ∀ x ∈ H1, x.holds w' ∧ (x.wr = true → x.g ∈ Wr ∨ w0.heap.size ≤ x.g) := fun x hx => by
    have hx1 := hsub.ents x hx
    exact ⟨Ent.keep hx1.1 hg.size (hg.block _ (Ent.lt hx1.1) (hrest x hx)), hx1.2⟩
  rcases h1 with ⟨rfl, rfl⟩ | ⟨g', c', rfl⟩
  · exact ⟨honly, hkeep, hsub.sep⟩
  · have h4 := (h2 g' c' rfl).2
    have hb' : some g' = v.ownBlock ∨ g' = w.heap.size := by
      rcases hb with hb | hb
      · exact .inl (by simpa [Value.ownBlock] using hb)
      · exact .inr (by simpa [Value.ownBlock] using hb)
    refine ⟨honly, ?_, List.Pairwise.cons ?_ hsub.sep⟩
    · intro x hx
      rcases List.mem_cons.1 hx with rfl | hx
      · refine ⟨h4, fun _ => ?_⟩
        rcases hb' with hb' | hb'
        · exact hvg g' hb'.symm
        · exact .inr (by show w0.heap.size ≤ g'; rw [hb']; exact h.only.size)
      · exact hkeep x hx
    · intro x hx _
      show g' ≠ x.g
      rcases hb' with hb' | hb'
      · exact fun hh => hrest x hx (hh ▸ hb')
      · have := Ent.lt (hsub.ents x hx).1
        omega
end
section
variable {P : Program} {N : Frm} {w0 : World} {Wr : List Nat} {ops : Array Oper} {rest : List Oper} {fr : Fr} {H H1 : Heap} {Z : Fr → Heap → Prop}
variable {d ty : Nat} {pos : String} {after : Array Edge}
/-- append onto a row of one's own, from whatever is read. -/
theorem sx_append {t e : TypeId} {size bytes n m c : Nat} {s x : Operand} {v : Value} {xs news : List Value} {A : Option Addr} (hE : ElemOk P t e size bytes) (hs : ev fr s = some v) (hv : RowOk v n) (hl : xs.length = n * size) (hx : ev fr x = some (.slice A m c))
    (hr : ∀ w, Sat w0 Wr H w → Rd w size A m news) (h1 : news.all Value.oneCell' = true) (h63 : n + m ≤ maxLen) (hby : (n + m) * bytes ≤ 140737488355328) (hH : HLe (rowE v e size xs ++ H1) H) (hN : Nat.ble (d + 1) N.n = true)
    (h : ∀ v', RowOk v' (n + m) → sx P N w0 Wr ops rest ((d, v') :: fr) (rowE v' e size (xs ++ news) ++ H1) Z) :
    sx P N w0 Wr ops (⟨some d, .call { callee := .builtin .append, args := #[s, x], argTypes := #[t, t] }, ty, pos, after, none⟩ :: rest) fr H Z := by
  refine sx_make (R := fun v' H' => RowOk v' (n + m) ∧ H' = rowE v' e size (xs ++ news) ++ H1) hN (fun a w ha hw => ?_) (fun v' H' hR => by obtain ⟨h2, rfl⟩ := hR; exact h v' h2)
  have hw' := hH _ _ _ hw
  have hown := own_of_sat hv hl hw'
  obtain ⟨v', w', hrun, h2, h3, h4, h5⟩ := run_app (P := P) (W0 := { w with heap := #[] }) (ty := ty) (c := c) hE (Bel.emp w) (Nat.le_refl _) (Nat.zero_le _) hown (hr w hw) (fun u hu => List.all_eq_true.1 h1 u hu) h63 hby
  refine ⟨v', w', _, ?_, ⟨(row_of_own h2).1, rfl⟩, hw'.app hv h2 h4 h5⟩
  simp only [execOp, resolve, List.map_toArray, List.map_cons, List.map_nil, ha.eval hs, ha.eval hx, Sem.run_bind, Sem.run_pure, Result.andThen_ok, invoke, builtin, hrun]
/-- A call that makes a row. -/
theorem sx_callR {f : FuncId} {xs : List Operand} {vs : List Value} {ts : Array TypeId} {e : TypeId} {size n : Nat} {ys : List Value} (hE : Enters P f) (hx : evs fr xs = some vs) (hN : Nat.ble (d + 1) N.n = true)
    (hc : ∀ w, Sat w0 Wr H w → Calls P f vs.toArray w fun x w' => ∃ A c, x = .returned (.slice A n c) ∧ w'.ownsRow w.heap.size e size (.slice A n c) n ys ∧ (A = none → n = 0 ∧ c = 0) ∧ Bel w w')
    (h : ∀ v, RowOk v n → sx P N w0 Wr ops rest ((d, v) :: fr) (rowE v e size ys ++ H) Z) :
    sx P N w0 Wr ops (⟨some d, .call { callee := .value (.func f), args := xs.toArray, argTypes := ts }, ty, pos, after, none⟩ :: rest) fr H Z :=
  sx_callW (R := fun v H' => RowOk v n ∧ H' = rowE v e size ys ++ H) hE hx hN (fun w hw => (hc w hw).mono fun x w' he => by
    obtain ⟨A, c, rfl, h1, _, h2⟩ := he
    exact ⟨_, _, rfl, ⟨(row_of_own h1).1, rfl⟩, hw.row h2 h1⟩) (fun v H' hR => by obtain ⟨h1, rfl⟩ := hR; exact h v h1)
/-- A load of what a slice holds. -/
theorem sx_loadRd {t : TypeId} {x : Operand} {g o q n size m : Nat} {xs : List Value} {agg : Bool} {v : Value} (k : Nat) (hx : ev fr x = some (ptr g q)) (hq : q = o + k) (hr : ∀ w, Sat w0 Wr H w → Rd w size (some ⟨g, o, none⟩) n xs) (hn0 : 0 < n) (ht : tyAgg P t = some agg) (hn : tySize P t = some m) (hv : rdV agg m xs k = some v) (hN : Nat.ble (d + 1) N.n = true)
    (h : sx P N w0 Wr ops rest ((d, v) :: fr) H Z) : sx P N w0 Wr ops (⟨some d, .load t x, ty, pos, after, none⟩ :: rest) fr H Z :=
  sx_val v hN (fun a w ha hw => by
    subst hq
    obtain ⟨g', o', hA, hlt, hc⟩ := (hr w hw).2.2 hn0
    injection hA with hA
    injection hA with h1 h2 _
    subst h1; subst h2
    simp only [execOp, Instr.loadAt, ha.eval hx, ptr, Instr.sureAddr, Sem.run_bind, Sem.run_pure, Result.andThen_ok]
    have : (loadVar t ⟨g, o + k, none⟩).run P w = .ok v w := by
      unfold loadVar
      simp only [Sem.run_bind, run_isAgg ht, Result.andThen_ok]
      cases agg with
      | false => simp [load, Sem.run, hc k v hv]
      | true =>
        simp only [rdV, cond_true] at hv
        cases hb : Nat.ble (k + m) xs.length with
        | false => rw [hb] at hv; cases hv
        | true =>
          rw [hb] at hv
          obtain rfl := Option.some.inj hv
          have hle := Nat.le_of_ble_eq_true hb
          simp only [if_true, Sem.run_bind, run_sizeOf hn, Result.andThen_ok, loadCells]
          rw [run_loadCells (P := P) ⟨g, o + k, none⟩ m 0 #[] ((xs.drop k).take m) (by simp; omega) (fun j u hu => by
            have e : Addr.add ⟨g, o + k, none⟩ (0 + j) = ⟨g, o + (k + j), none⟩ := by rw [addr_add]; congr 1; omega
            rw [e]
            refine hc _ _ ?_
            rw [List.getElem?_take] at hu
            split at hu
            · rw [← hu, List.getElem?_drop]
            · cases hu)]
          simp
    rw [this]
    rfl) h
/-- Bytes as a text. -/
theorem sx_strB {s t : TypeId} {x : Operand} {A : Option Addr} {n c : Nat} {l : List UInt8} {e : TypeId} (hs : P.underlying s = some (.slice e)) (he : P.underlying e = some (.int .u8)) (ht : P.underlying t = some .string) (hx : ev fr x = some (.slice A n c))
    (hr : ∀ w, Sat w0 Wr H w → Rd w 1 A n (bv l)) (hN : Nat.ble (d + 1) N.n = true)
    (h : sx P N w0 Wr ops rest ((d, .string (str l)) :: fr) H Z) : sx P N w0 Wr ops (⟨some d, .convert s t x, ty, pos, after, none⟩ :: rest) fr H Z :=
  sx_val _ hN (fun a w ha hw => by
    simp only [execOp, ha.eval hx, Sem.run_bind, run_str (hr w hw) s e t hs he ht, Result.andThen_ok, Sem.run_pure]) h
/-- The bytes of a constant text: from here on they are only read. -/
theorem sx_convB (i : Nat) {t e e' : TypeId} {x : Operand} {g n c : Nat} {cs : List Value} (ht : P.underlying t = some (.slice e)) (he : P.underlying e = some (.int .u8)) (hx : ev fr x = some (.slice (some ⟨g, 0, none⟩) n c)) (hH : H[i]? = some (.own g e' cs)) (hN : Nat.ble (d + 1) N.n = true)
    (h : sx P N w0 Wr ops rest ((d, .slice (some ⟨g, 0, none⟩) n c) :: fr) (H.set i (.ro g 0 cs)) Z) : sx P N w0 Wr ops (⟨some d, .convert t t x, ty, pos, after, none⟩ :: rest) fr H Z := by
  refine sx_make (R := fun v H' => v = .slice (some ⟨g, 0, none⟩) n c ∧ H' = H.set i (.ro g 0 cs)) hN (fun a w ha hw => ?_) (fun v H' hR => by obtain ⟨rfl, rfl⟩ := hR; exact h)
  have hm := hw.mem hH
  have hm' : w.heap[g]? = some (.cells cs.toArray e' (0, 0)) := hm
  have hsh : w.shape? g = some (e', cs.length) := by simp [World.shape?, hm']
  refine ⟨_, w.freeze ⟨g, cs.length, none⟩ 1, _, ?_, ⟨rfl, rfl⟩, hw.turn hH rfl (e' := .ro g 0 cs) rfl ?_ ?_⟩
  · simp [execOp, ha.eval hx, convert, Sem.run_bind, run_underlying ht, run_underlying he, markStringish, shape, freeze, Sem.run, hsh]
  · refine ⟨rfl, rfl, rfl, by simp [World.freeze], fun k _ hk => ?_⟩
    have hk' : g ≠ k := fun e => hk (by simp [Ent.g, e])
    simp [World.freeze, Array.getElem?_modify, hk']
  · have hl := Ent.lt hm
    refine ⟨by simpa [World.freeze, Ent.g] using hl, fun j u hu => ?_⟩
    have hh : (w.freeze ⟨g, cs.length, none⟩ 1).heap[g]? = some (.cells cs.toArray e' (cs.length, cs.length + 1)) := by
      simp [World.freeze, Array.getElem?_modify, hm']
    rw [Nat.zero_add]
    simp only [World.cell?, hh]
    simpa using hu
/-- append onto what is full: a new row. -/
theorem sx_appendFull {t e : TypeId} {size bytes n cap m c : Nat} {s x : Operand} {b b' : Addr} {xs news : List Value} (hE : ElemOk P t e size bytes) (hs : ev fr s = some (.slice (some b) n cap)) (hx : ev fr x = some (.slice (some b') m c))
    (hr : ∀ w, Sat w0 Wr H w → Rd w size (some b) n xs) (hr' : ∀ w, Sat w0 Wr H w → Rd w size (some b') m news) (hn0 : 0 < n) (hm0 : 0 < m) (hfull : cap < n + m) (h63 : n + m ≤ maxLen) (hby : (n + m) * bytes ≤ 140737488355328) (hN : Nat.ble (d + 1) N.n = true)
    (h : ∀ v', RowOk v' (n + m) → sx P N w0 Wr ops rest ((d, v') :: fr) (rowE v' e size (xs ++ news) ++ H) Z) :
    sx P N w0 Wr ops (⟨some d, .call { callee := .builtin .append, args := #[s, x], argTypes := #[t, t] }, ty, pos, after, none⟩ :: rest) fr H Z := by
  refine sx_make (R := fun v' H' => RowOk v' (n + m) ∧ H' = rowE v' e size (xs ++ news) ++ H) hN (fun a w ha hw => ?_) (fun v' H' hR => by obtain ⟨h2, rfl⟩ := hR; exact h v' h2)
  obtain ⟨ht, i, z, hi, hz, hsize, hbs, hzs, hsz⟩ := hE
  have cells : ∀ {A : Addr} {k : Nat} {ys : List Value}, Rd w size (some A) k ys → 0 < k → ys.length = k * size ∧ ∀ j u, ys[j]? = some u → w.cell? (A.add j) = some u := fun hR hk => by
    obtain ⟨g, o, hA, _, hc⟩ := hR.2.2 hk
    obtain rfl := Option.some.inj hA
    exact ⟨hR.1, fun j u hu => by rw [addr_add]; exact hc j u hu⟩
  obtain ⟨l1, c1⟩ := cells (hr w hw) hn0
  obtain ⟨l2, c2⟩ := cells (hr' w hw) hm0
  obtain ⟨v', w', hrun, h2, h3⟩ := run_append_arg_grows (P := P) w t ty e i z size bytes ht hi hz hsize hbs hzs hsz b n cap xs l1 c1 b' m c news l2 c2 hfull h63 hby
  refine ⟨v', w', _, ?_, ⟨(row_of_own h2).1, rfl⟩, hw.row ⟨h3.os, h3.tape, h3.output, h3.size, fun k hk => h3.block k hk (by simp)⟩ h2⟩
  simp only [execOp, resolve, List.map_toArray, List.map_cons, List.map_nil, ha.eval hs, ha.eval hx, Sem.run_bind, Sem.run_pure, Result.andThen_ok, invoke, builtin, hrun]
end
end Go.Proofs.Ytbldhokgbcljjaa

namespace Go.Proofs.Ytbldhokgbcljjaa
open Go.RowKit
set_option linter.unusedVariables false
set_option linter.unusedSimpArgs false
set_option linter.unusedSectionVars false
section
variable {P : Program} {N : Frm} {w0 : World} {Wr : List Nat} {ops : Array Oper} {rest : List Oper} {fr : Fr} {H : Heap} {Z : Fr → Heap → Prop}
variable {d ty : Nat} {pos : String} {after : Array Edge}
theorem sq_loadRd {t : TypeId} {x : Operand} {g o q n size m : Nat} {xs : List Value} {agg : Bool} {v : Value} (k : Nat) (hx : ev fr x = some (ptr g q)) (hq : q = o + k) (hr : ∀ w, Sat w0 Wr H w → Rd w size (some ⟨g, o, none⟩) n xs) (hn0 : 0 < n) (ht : tyAgg P t = some agg) (hn : tySize P t = some m) (hv : rdV agg m xs k = some v) (hN : Nat.ble (d + 1) N.n = true)
    (h : sq P N w0 Wr ops rest ((d, v) :: fr) H Z) : sq P N w0 Wr ops (⟨some d, .load t x, ty, pos, after, none⟩ :: rest) fr H Z :=
  sq_val v hN (fun a w ha hw => by
    subst hq
    obtain ⟨g', o', hA, hlt, hc⟩ := (hr w hw).2.2 hn0
    injection hA with hA
    injection hA with h1 h2 _
    subst h1; subst h2
    simp only [execOp, Instr.loadAt, ha.eval hx, ptr, Instr.sureAddr, Sem.run_bind, Sem.run_pure, Result.andThen_ok]
    have : (loadVar t ⟨g, o + k, none⟩).run P w = .ok v w := by
      unfold loadVar
      simp only [Sem.run_bind, run_isAgg ht, Result.andThen_ok]
      cases agg with
      | false => simp [load, Sem.run, hc k v hv]
      | true =>
        simp only [rdV, cond_true] at hv
        cases hb : Nat.ble (k + m) xs.length with
        | false => rw [hb] at hv; cases hv
        | true =>
          rw [hb] at hv
          obtain rfl := Option.some.inj hv
          have hle := Nat.le_of_ble_eq_true hb
          simp only [if_true, Sem.run_bind, run_sizeOf hn, Result.andThen_ok, loadCells]
          rw [run_loadCells (P := P) ⟨g, o + k, none⟩ m 0 #[] ((xs.drop k).take m) (by simp; omega) (fun j u hu => by
            have e : Addr.add ⟨g, o + k, none⟩ (0 + j) = ⟨g, o + (k + j), none⟩ := by rw [addr_add]; congr 1; omega
            rw [e]
            refine hc _ _ ?_
            rw [List.getElem?_take] at hu
            split at hu
            · rw [← hu, List.getElem?_drop]
            · cases hu)]
          simp
    rw [this]
    rfl) h
theorem sq_strB {s t : TypeId} {x : Operand} {A : Option Addr} {n c : Nat} {l : List UInt8} {e : TypeId} (hs : P.underlying s = some (.slice e)) (he : P.underlying e = some (.int .u8)) (ht : P.underlying t = some .string) (hx : ev fr x = some (.slice A n c))
    (hr : ∀ w, Sat w0 Wr H w → Rd w 1 A n (bv l)) (hN : Nat.ble (d + 1) N.n = true)
    (h : sq P N w0 Wr ops rest ((d, .string (str l)) :: fr) H Z) : sq P N w0 Wr ops (⟨some d, .convert s t x, ty, pos, after, none⟩ :: rest) fr H Z :=
  sq_val _ hN (fun a w ha hw => by
    simp only [execOp, ha.eval hx, Sem.run_bind, run_str (hr w hw) s e t hs he ht, Result.andThen_ok, Sem.run_pure]) h
end
end Go.Proofs.Ytbldhokgbcljjaa

namespace Go.Proofs.Ytbldhokgbcljjaa
open Go.RowKit
set_option linter.unusedVariables false
set_option linter.unusedSimpArgs false
set_option linter.unusedSectionVars false
def Wp (P : Program) (ops : Array Oper) (K : Act → Prop) : List Oper → Act → Prop
  | [], a => K a
  | o :: r, a => ∃ v, YAll P ops o v a ∧ Wp P ops K r (a.put o.dst v)
/-- Operations that are seen to yield the same in every world. -/
def sp (P : Program) (N : Frm) (w0 : World) (Wr : List Nat) (ops : Array Oper) (l : List Oper) (fr : Fr) (H : Heap) (Z : Fr → Heap → Prop) : Prop :=
  ∀ (K : Act → Prop), (∀ fr' a, Z fr' H → FrOk N fr' a → K a) → ∀ a, FrOk N fr a → Wp P ops K l a
def tq (P : Program) (N : Frm) (w0 : World) (Wr : List Nat) (ops : Array Oper) (xs : List (Nat × Bool)) (fr : Fr) (H : Heap) (Z : Fr → Heap → Prop) : Prop :=
  ∀ (K : Act → Prop), (∀ fr' a, Z fr' H → FrOk N fr' a → K a) → ∀ a, FrOk N fr a → Wq P ops (Sat w0 Wr H) K xs a
def tg (P : Program) (N : Frm) (w0 : World) (Wr : List Nat) (ops : Array Oper) (xs : List (Nat × Bool)) (fr : Fr) (H : Heap) (Z : Fr → Heap → Prop) : Prop :=
  ∀ (Q : Exit → Act → World → Prop), (∀ fr' H' a w, Z fr' H' → FrOk N fr' a → Sat w0 Wr H' w → Q .normal a w) → ∀ a w, FrOk N fr a → Sat w0 Wr H w → Wg P ops Q xs a w
section
variable {P : Program} {N : Frm} {w0 : World} {Wr : List Nat} {ops : Array Oper} {rest : List Oper} {fr : Fr} {H : Heap} {Z : Fr → Heap → Prop}
variable {d ty : Nat} {pos : String} {after : Array Edge}
theorem sp_nil (h : Z fr H) : sp P N w0 Wr ops [] fr H Z := fun _ hK a ha => hK _ a h ha
theorem sp_val {op : Op} {d ty : Nat} {pos : String} {after : Array Edge} (v : Value) (hN : Nat.ble (d + 1) N.n = true)
    (hrun : ∀ (a : Act) (w : World), FrOk N fr a → True → (execOp a.eval ⟨some d, op, ty, pos, after, none⟩).run P w = .ok (.value v) w)
    (h : sp P N w0 Wr ops rest ((d, v) :: fr) H Z) : sp P N w0 Wr ops (⟨some d, op, ty, pos, after, none⟩ :: rest) fr H Z :=
  fun K hK a ha => ⟨v, fun w => .inl ⟨rfl, hrun a w ha trivial⟩, h K hK _ (ha.put hN v)⟩
theorem sp_on {dst : Option Nat} {op : Op} {j t : Nat} {b : Bool} {oj : Oper} (hj : ops[j]? = some oj) (ht : oj.dst = some t) (hb : lk fr t = some (.bool b))
    (h : sp P N w0 Wr ops (⟨dst, op, ty, pos, after, none⟩ :: rest) fr H Z) : sp P N w0 Wr ops (⟨dst, op, ty, pos, after, some (j, b)⟩ :: rest) fr H Z :=
  fun K hK a ha => by
    obtain ⟨v, hv, hk⟩ := h K hK a ha
    have hy : yielded ops a.tmps j = some b := by
      have := ha.at_ t _ hb
      simp [yielded, hj, ht, this]
    refine ⟨v, fun w => ?_, hk⟩
    rcases hv w with ⟨h1, h2⟩ | ⟨h1, h2⟩
    · exact .inl ⟨by simp [Region.wanted, hy], h2⟩
    · simp [Region.wanted] at h1
theorem sp_off {op : Op} {j t : Nat} {b b' : Bool} {oj : Oper} (hj : ops[j]? = some oj) (ht : oj.dst = some t) (hb : lk fr t = some (.bool b)) (hne : (b == b') = false) (hN : Nat.ble (d + 1) N.n = true)
    (h : sp P N w0 Wr ops rest ((d, undef) :: fr) H Z) : sp P N w0 Wr ops (⟨some d, op, ty, pos, after, some (j, b')⟩ :: rest) fr H Z :=
  fun K hK a ha => by
    have hy : yielded ops a.tmps j = some b := by
      have := ha.at_ t _ hb
      simp [yielded, hj, ht, this]
    refine ⟨undef, fun w => .inr ⟨?_, rfl⟩, h K hK _ (ha.put hN undef)⟩
    simp [Region.wanted, hy]
    simpa using hne
theorem sp_move {x : Operand} {v : Value} (hx : ev fr x = some v) (hN : Nat.ble (d + 1) N.n = true) (h : sp P N w0 Wr ops rest ((d, v) :: fr) H Z) : sp P N w0 Wr ops (⟨some d, .move x, ty, pos, after, none⟩ :: rest) fr H Z :=
  sp_val v hN (fun a w ha _ => by rw [← ha.eval hx]; rfl) h
theorem sp_assign {x : Operand} {v : Value} (hx : ev fr x = some v) (hN : Nat.ble (d + 1) N.n = true) (h : sp P N w0 Wr ops rest ((d, v) :: fr) H Z) : sp P N w0 Wr ops (⟨some d, .assign x, ty, pos, after, none⟩ :: rest) fr H Z :=
  sp_val v hN (fun a w ha _ => by rw [← ha.eval hx]; rfl) h
theorem sp_nilCheck {x : Operand} {g o : Nat} (hx : ev fr x = some (ptr g o)) (hN : Nat.ble (d + 1) N.n = true) (h : sp P N w0 Wr ops rest ((d, ptr g o) :: fr) H Z) : sp P N w0 Wr ops (⟨some d, .nilCheck x, ty, pos, after, none⟩ :: rest) fr H Z :=
  sp_val _ hN (fun a w ha _ => by simp only [execOp, ha.eval hx, ptr]; rfl) h
theorem sp_fieldAddr {s i : Nat} {x : Operand} {g o off n o' : Nat} {b : Bool} (hx : ev fr x = some (ptr g o)) (hf : tyField P s i = some (off, n, b)) (ho : o + off = o') (hN : Nat.ble (d + 1) N.n = true)
    (h : sp P N w0 Wr ops rest ((d, ptr g o') :: fr) H Z) : sp P N w0 Wr ops (⟨some d, .fieldAddr s x i, ty, pos, after, none⟩ :: rest) fr H Z :=
  sp_val _ hN (fun a w ha _ => by
    subst ho
    unfold tyField at hf
    cases hu : P.underlying s with
    | none => simp [hu] at hf
    | some dd =>
      cases dd <;> simp only [hu] at hf <;> try cases hf
      rename_i fs
      cases hi : fs[i]? with
      | none => simp [hi] at hf
      | some f =>
        simp only [hi, Option.bind_some] at hf
        cases hs : tySize P f.type with
        | none => simp [hs] at hf
        | some m =>
          cases hb : tyAgg P f.type with
          | none => simp [hs, hb] at hf
          | some bb =>
            simp only [hs, hb, Option.bind_some] at hf
            split at hf
            · cases hf
            · rename_i hm
              simp only [Option.some.injEq, Prod.mk.injEq] at hf
              obtain ⟨rfl, rfl, rfl⟩ := hf
              have e : Addr.add ⟨g, o, none⟩ f.offset = ⟨g, o + f.offset, none⟩ := by unfold Addr.add; split <;> simp_all
              simp only [execOp, Instr.fieldAt, ha.eval hx, ptr, Sem.run_bind, run_underlying hu, Result.andThen_ok, hi, Instr.sureAddr, Sem.run_pure, fieldPlace, run_sizeOf hs, hm, if_false, e]) h
theorem sp_int2 {op : BinOp} {t t' : TypeId} {x y : Operand} {k : IntKind} {m n : Int} (v : Value) (hx : ev fr x = some (.int k m)) (hy : ev fr y = some (.int k n)) (hv : ∀ w, (binOp op t (.int k m) (.int k n)).run P w = .ok v w) (hN : Nat.ble (d + 1) N.n = true)
    (h : sp P N w0 Wr ops rest ((d, v) :: fr) H Z) : sp P N w0 Wr ops (⟨some d, .binOp op t x y t', ty, pos, after, none⟩ :: rest) fr H Z :=
  sp_val v hN (fun a w ha _ => by
    have hg : (eqGuard op t x y (.int k m) (.int k n)).run P w = .ok () w := by
      unfold eqGuard
      split <;> rfl
    simp only [execOp, ha.eval hx, ha.eval hy, Sem.run_bind, hg, Result.andThen_ok, hv w]
    rfl) h
theorem sp_add {t t' : TypeId} {x y : Operand} {k : IntKind} {m n : Int} (hx : ev fr x = some (.int k m)) (hy : ev fr y = some (.int k n)) (r : Int) (hr : k.wrap (m + n) = r) (hN : Nat.ble (d + 1) N.n = true)
    (h : sp P N w0 Wr ops rest ((d, .int k r) :: fr) H Z) : sp P N w0 Wr ops (⟨some d, .binOp .add t x y t', ty, pos, after, none⟩ :: rest) fr H Z :=
  sp_int2 _ hx hy (fun w => by subst hr; simp [binOp, Op.intArith]) hN h
theorem sp_sub {t t' : TypeId} {x y : Operand} {k : IntKind} {m n : Int} (hx : ev fr x = some (.int k m)) (hy : ev fr y = some (.int k n)) (r : Int) (hr : k.wrap (m - n) = r) (hN : Nat.ble (d + 1) N.n = true)
    (h : sp P N w0 Wr ops rest ((d, .int k r) :: fr) H Z) : sp P N w0 Wr ops (⟨some d, .binOp .sub t x y t', ty, pos, after, none⟩ :: rest) fr H Z :=
  sp_int2 _ hx hy (fun w => by subst hr; simp [binOp, Op.intArith]) hN h
theorem sp_mul {t t' : TypeId} {x y : Operand} {k : IntKind} {m n : Int} (hx : ev fr x = some (.int k m)) (hy : ev fr y = some (.int k n)) (r : Int) (hr : k.wrap (m * n) = r) (hN : Nat.ble (d + 1) N.n = true)
    (h : sp P N w0 Wr ops rest ((d, .int k r) :: fr) H Z) : sp P N w0 Wr ops (⟨some d, .binOp .mul t x y t', ty, pos, after, none⟩ :: rest) fr H Z :=
  sp_int2 _ hx hy (fun w => by subst hr; simp [binOp, Op.intArith]) hN h
theorem sp_quo {t t' : TypeId} {x y : Operand} {k : IntKind} {m n : Int} (hx : ev fr x = some (.int k m)) (hy : ev fr y = some (.int k n)) (hn : n ≠ 0) (r : Int) (hr : k.wrap (m.tdiv n) = r) (hN : Nat.ble (d + 1) N.n = true)
    (h : sp P N w0 Wr ops rest ((d, .int k r) :: fr) H Z) : sp P N w0 Wr ops (⟨some d, .binOp .quo t x y t', ty, pos, after, none⟩ :: rest) fr H Z :=
  sp_int2 _ hx hy (fun w => by subst hr; simp [binOp, Op.intDiv, hn]) hN h
theorem sp_rem {t t' : TypeId} {x y : Operand} {k : IntKind} {m n : Int} (hx : ev fr x = some (.int k m)) (hy : ev fr y = some (.int k n)) (hn : n ≠ 0) (r : Int) (hr : m.tmod n = r) (hN : Nat.ble (d + 1) N.n = true)
    (h : sp P N w0 Wr ops rest ((d, .int k r) :: fr) H Z) : sp P N w0 Wr ops (⟨some d, .binOp .rem t x y t', ty, pos, after, none⟩ :: rest) fr H Z :=
  sp_int2 _ hx hy (fun w => by subst hr; simp [binOp, Op.intDiv, hn]) hN h
theorem sp_lss {t t' : TypeId} {x y : Operand} {k : IntKind} {m n : Int} (hx : ev fr x = some (.int k m)) (hy : ev fr y = some (.int k n)) (hN : Nat.ble (d + 1) N.n = true)
    (h : sp P N w0 Wr ops rest ((d, .bool (decide (m < n))) :: fr) H Z) : sp P N w0 Wr ops (⟨some d, .binOp .lss t x y t', ty, pos, after, none⟩ :: rest) fr H Z :=
  sp_int2 _ hx hy (fun w => by simp [binOp, Op.intCmp]) hN h
theorem sp_leq {t t' : TypeId} {x y : Operand} {k : IntKind} {m n : Int} (hx : ev fr x = some (.int k m)) (hy : ev fr y = some (.int k n)) (hN : Nat.ble (d + 1) N.n = true)
    (h : sp P N w0 Wr ops rest ((d, .bool (decide (m ≤ n))) :: fr) H Z) : sp P N w0 Wr ops (⟨some d, .binOp .leq t x y t', ty, pos, after, none⟩ :: rest) fr H Z :=
  sp_int2 _ hx hy (fun w => by simp [binOp, Op.intCmp]) hN h
theorem sp_gtr {t t' : TypeId} {x y : Operand} {k : IntKind} {m n : Int} (hx : ev fr x = some (.int k m)) (hy : ev fr y = some (.int k n)) (hN : Nat.ble (d + 1) N.n = true)
    (h : sp P N w0 Wr ops rest ((d, .bool (decide (n < m))) :: fr) H Z) : sp P N w0 Wr ops (⟨some d, .binOp .gtr t x y t', ty, pos, after, none⟩ :: rest) fr H Z :=
  sp_int2 _ hx hy (fun w => by simp [binOp, Op.intCmp]) hN h
theorem sp_geq {t t' : TypeId} {x y : Operand} {k : IntKind} {m n : Int} (hx : ev fr x = some (.int k m)) (hy : ev fr y = some (.int k n)) (hN : Nat.ble (d + 1) N.n = true)
    (h : sp P N w0 Wr ops rest ((d, .bool (decide (n ≤ m))) :: fr) H Z) : sp P N w0 Wr ops (⟨some d, .binOp .geq t x y t', ty, pos, after, none⟩ :: rest) fr H Z :=
  sp_int2 _ hx hy (fun w => by simp [binOp, Op.intCmp]) hN h
theorem sp_eql {t t' : TypeId} {x y : Operand} {k : IntKind} {m n : Int} (hx : ev fr x = some (.int k m)) (hy : ev fr y = some (.int k n)) (hN : Nat.ble (d + 1) N.n = true)
    (h : sp P N w0 Wr ops rest ((d, .bool (m == n)) :: fr) H Z) : sp P N w0 Wr ops (⟨some d, .binOp .eql t x y t', ty, pos, after, none⟩ :: rest) fr H Z :=
  sp_int2 _ hx hy (fun w => by simp [binOp, Op.intCmp]) hN h
theorem sp_neq {t t' : TypeId} {x y : Operand} {k : IntKind} {m n : Int} (hx : ev fr x = some (.int k m)) (hy : ev fr y = some (.int k n)) (hN : Nat.ble (d + 1) N.n = true)
    (h : sp P N w0 Wr ops rest ((d, .bool (m != n)) :: fr) H Z) : sp P N w0 Wr ops (⟨some d, .binOp .neq t x y t', ty, pos, after, none⟩ :: rest) fr H Z :=
  sp_int2 _ hx hy (fun w => by simp [binOp, Op.intCmp]) hN h
theorem sp_bits {op : BinOp} (hop : op = .and ∨ op = .or ∨ op = .xor ∨ op = .andNot) {t t' : TypeId} {x y : Operand} {k : IntKind} {m n : Int} (hx : ev fr x = some (.int k m)) (hy : ev fr y = some (.int k n)) (r : Int) (hr : bitsV op k m n = r) (hN : Nat.ble (d + 1) N.n = true)
    (h : sp P N w0 Wr ops rest ((d, .int k r) :: fr) H Z) : sp P N w0 Wr ops (⟨some d, .binOp op t x y t', ty, pos, after, none⟩ :: rest) fr H Z :=
  sp_int2 _ hx hy (fun w => by subst hr; rcases hop with rfl | rfl | rfl | rfl <;> simp [binOp, Op.intBits, bitsV]) hN h
theorem sp_shl {t t' : TypeId} {x y : Operand} {k k' : IntKind} {m n : Int} (hx : ev fr x = some (.int k m)) (hy : ev fr y = some (.int k' n)) (hn : 0 ≤ n) (r : Int) (hr : k.wrap (m * 2 ^ (min n.toNat k.bits)) = r) (hN : Nat.ble (d + 1) N.n = true)
    (h : sp P N w0 Wr ops rest ((d, .int k r) :: fr) H Z) : sp P N w0 Wr ops (⟨some d, .binOp .shl t x y t', ty, pos, after, none⟩ :: rest) fr H Z :=
  sp_val (.int k r) hN (fun a w ha _ => by
    subst hr
    have : ¬ n < 0 := by omega
    simp [execOp, ha.eval hx, ha.eval hy, Sem.run_bind, eqGuard, binOp, Op.shift, this]) h
theorem sp_shr {t t' : TypeId} {x y : Operand} {k k' : IntKind} {m n : Int} (hx : ev fr x = some (.int k m)) (hy : ev fr y = some (.int k' n)) (hn : 0 ≤ n) (r : Int) (hr : m.fdiv (2 ^ (min n.toNat k.bits)) = r) (hN : Nat.ble (d + 1) N.n = true)
    (h : sp P N w0 Wr ops rest ((d, .int k r) :: fr) H Z) : sp P N w0 Wr ops (⟨some d, .binOp .shr t x y t', ty, pos, after, none⟩ :: rest) fr H Z :=
  sp_val (.int k r) hN (fun a w ha _ => by
    subst hr
    have : ¬ n < 0 := by omega
    simp [execOp, ha.eval hx, ha.eval hy, Sem.run_bind, eqGuard, binOp, Op.shift, this]) h
theorem sp_str2 {op : BinOp} {t t' : TypeId} {x y : Operand} {l m : List UInt8} (v : Value) (hx : ev fr x = some (.string (str l))) (hy : ev fr y = some (.string (str m))) (hv : ∀ w, (binOp op t (.string (str l)) (.string (str m))).run P w = .ok v w) (hN : Nat.ble (d + 1) N.n = true)
    (h : sp P N w0 Wr ops rest ((d, v) :: fr) H Z) : sp P N w0 Wr ops (⟨some d, .binOp op t x y t', ty, pos, after, none⟩ :: rest) fr H Z :=
  sp_val v hN (fun a w ha _ => by
    have hg : (eqGuard op t x y (.string (str l)) (.string (str m))).run P w = .ok () w := by
      unfold eqGuard
      split <;> rfl
    simp only [execOp, ha.eval hx, ha.eval hy, Sem.run_bind, hg, Result.andThen_ok, hv w]
    rfl) h
theorem sp_cat {t t' : TypeId} {x y : Operand} {l m : List UInt8} (hx : ev fr x = some (.string (str l))) (hy : ev fr y = some (.string (str m))) (hl : l.length + m.length ≤ 9223372036854775807) (hN : Nat.ble (d + 1) N.n = true)
    (h : sp P N w0 Wr ops rest ((d, .string (str (l ++ m))) :: fr) H Z) : sp P N w0 Wr ops (⟨some d, .binOp .add t x y t', ty, pos, after, none⟩ :: rest) fr H Z :=
  sp_str2 _ hx hy (fun w => by
    have : ¬ (((str l).size + (str m).size : Nat) : Int) > IntKind.i64.max := by
      rw [str_size, str_size]; show ¬ (_ : Int) > 9223372036854775807; omega
    simp only [binOp, Op.stringOp, this, if_false, str_cat]
    rfl) hN h
theorem sp_seql {t t' : TypeId} {x y : Operand} {l m : List UInt8} (hx : ev fr x = some (.string (str l))) (hy : ev fr y = some (.string (str m))) (hN : Nat.ble (d + 1) N.n = true)
    (h : sp P N w0 Wr ops rest ((d, .bool (l == m)) :: fr) H Z) : sp P N w0 Wr ops (⟨some d, .binOp .eql t x y t', ty, pos, after, none⟩ :: rest) fr H Z :=
  sp_str2 _ hx hy (fun w => by simp [binOp, Op.stringOp, str_toL]) hN h
theorem sp_sneq {t t' : TypeId} {x y : Operand} {l m : List UInt8} (hx : ev fr x = some (.string (str l))) (hy : ev fr y = some (.string (str m))) (hN : Nat.ble (d + 1) N.n = true)
    (h : sp P N w0 Wr ops rest ((d, .bool (l != m)) :: fr) H Z) : sp P N w0 Wr ops (⟨some d, .binOp .neq t x y t', ty, pos, after, none⟩ :: rest) fr H Z :=
  sp_str2 _ hx hy (fun w => by simp [binOp, Op.stringOp, str_toL, bne]) hN h
theorem sp_not {t : TypeId} {x : Operand} {b : Bool} (hx : ev fr x = some (.bool b)) (hN : Nat.ble (d + 1) N.n = true)
    (h : sp P N w0 Wr ops rest ((d, .bool (!b)) :: fr) H Z) : sp P N w0 Wr ops (⟨some d, .unOp .not t x, ty, pos, after, none⟩ :: rest) fr H Z :=
  sp_val _ hN (fun a w ha _ => by simp only [execOp, ha.eval hx]; rfl) h
theorem sp_neg {t : TypeId} {x : Operand} {k : IntKind} {m : Int} (hx : ev fr x = some (.int k m)) (r : Int) (hr : k.wrap (0 - m) = r) (hN : Nat.ble (d + 1) N.n = true)
    (h : sp P N w0 Wr ops rest ((d, .int k r) :: fr) H Z) : sp P N w0 Wr ops (⟨some d, .unOp .neg t x, ty, pos, after, none⟩ :: rest) fr H Z :=
  sp_val _ hN (fun a w ha _ => by subst hr; simp only [execOp, ha.eval hx]; rfl) h
theorem sp_conv {s t : TypeId} {x : Operand} {k k' : IntKind} {ds : TypeDesc} {m : Int} (hs : P.underlying s = some ds) (ht : P.underlying t = some (.int k')) (hx : ev fr x = some (.int k m)) (r : Int) (hr : k'.wrap m = r) (hN : Nat.ble (d + 1) N.n = true)
    (h : sp P N w0 Wr ops rest ((d, .int k' r) :: fr) H Z) : sp P N w0 Wr ops (⟨some d, .convert s t x, ty, pos, after, none⟩ :: rest) fr H Z :=
  sp_val (.int k' r) hN (fun a w ha _ => by
    subst hr
    simp only [execOp, ha.eval hx, convert, Sem.run_bind, run_underlying hs, run_underlying ht, Result.andThen_ok]
    cases ds <;> rfl) h
theorem sp_extract {x : Operand} {i : Nat} {vs : List Value} {v : Value} (hx : ev fr x = some (.tuple vs.toArray)) (hv : vs[i]? = some v) (hN : Nat.ble (d + 1) N.n = true)
    (h : sp P N w0 Wr ops rest ((d, v) :: fr) H Z) : sp P N w0 Wr ops (⟨some d, .extract x i, ty, pos, after, none⟩ :: rest) fr H Z :=
  sp_val v hN (fun a w ha _ => by
    have : vs.toArray[i]? = some v := by simpa using hv
    simp only [execOp, ha.eval hx, Instr.extract, this]; rfl) h
theorem sp_len {x : Operand} {t e : TypeId} {A : Option Addr} {n c : Nat} (ht : P.underlying t = some (.slice e)) (hx : ev fr x = some (.slice A n c)) (hN : Nat.ble (d + 1) N.n = true)
    (h : sp P N w0 Wr ops rest ((d, .int .i64 n) :: fr) H Z) : sp P N w0 Wr ops (⟨some d, .call { callee := .builtin .len, args := #[x], argTypes := #[t] }, ty, pos, after, none⟩ :: rest) fr H Z :=
  sp_val _ hN (fun a w ha _ => by
    have := ha.eval hx
    simp [execOp, resolve, invoke, builtin, this, Sem.run_bind, Builtin.len_, run_underlying ht, goInt]) h
theorem sp_lenS {x : Operand} {t : TypeId} {l : List UInt8} (ht : P.underlying t = some .string) (hx : ev fr x = some (.string (str l))) (hN : Nat.ble (d + 1) N.n = true)
    (h : sp P N w0 Wr ops rest ((d, .int .i64 (l.length : Int)) :: fr) H Z) : sp P N w0 Wr ops (⟨some d, .call { callee := .builtin .len, args := #[x], argTypes := #[t] }, ty, pos, after, none⟩ :: rest) fr H Z :=
  sp_val _ hN (fun a w ha _ => by
    have := ha.eval hx
    simp [execOp, resolve, invoke, builtin, this, Sem.run_bind, Builtin.len_, run_underlying ht, goInt, str_size]) h
theorem sp_field {s i off n : Nat} {b : Bool} {x : Operand} {cs : List Value} {v : Value} (hx : ev fr x = some (.agg cs.toArray)) (hf : tyField P s i = some (off, n, b)) (hv : rdV b n cs off = some v) (hN : Nat.ble (d + 1) N.n = true)
    (h : sp P N w0 Wr ops rest ((d, v) :: fr) H Z) : sp P N w0 Wr ops (⟨some d, .field s x i, ty, pos, after, none⟩ :: rest) fr H Z :=
  sp_val v hN (fun a w ha _ => by
    obtain ⟨fs, f, h1, h2, rfl, h3, h4⟩ := tyField_split hf
    simp only [execOp, Instr.field, ha.eval hx, Sem.run_bind, run_underlying h1, Result.andThen_ok, h2, asAgg, Sem.run_pure, run_part h4 h3 hv]) h
theorem sp_indexA {t e len n : Nat} {b : Bool} {x y : Operand} {cs : List Value} {k : IntKind} {i : Int} {v : Value} (ht : P.underlying t = some (.array len e)) (ha' : tyAgg P e = some b) (hs : tySize P e = some n) (hx : ev fr x = some (.agg cs.toArray)) (hy : ev fr y = some (.int k i)) (hi : 0 ≤ i ∧ i < len) (hv : rdV b n cs (i.toNat * n) = some v) (hN : Nat.ble (d + 1) N.n = true)
    (h : sp P N w0 Wr ops rest ((d, v) :: fr) H Z) : sp P N w0 Wr ops (⟨some d, .index t x y, ty, pos, after, none⟩ :: rest) fr H Z :=
  sp_val v hN (fun a w ha _ => by
    simp only [execOp, Instr.index, ha.eval hx, ha.eval hy, asIntOf, Sem.run_bind, Sem.run_pure, run_underlying ht, Result.andThen_ok, if_pos hi, run_sizeOf hs, run_part ha' hs hv]) h
theorem sp_indexS {t : Nat} {x y : Operand} {l : List UInt8} {k : IntKind} {i : Int} {c : UInt8} (ht : P.underlying t = some .string) (hx : ev fr x = some (.string (str l))) (hy : ev fr y = some (.int k i)) (hi : 0 ≤ i) (hv : l[i.toNat]? = some c) (hN : Nat.ble (d + 1) N.n = true)
    (h : sp P N w0 Wr ops rest ((d, .int .u8 (c.toNat : Int)) :: fr) H Z) : sp P N w0 Wr ops (⟨some d, .index t x y, ty, pos, after, none⟩ :: rest) fr H Z :=
  sp_val _ hN (fun a w ha _ => by
    have : (str l)[i.toNat]? = some c := by
      have hl := (List.getElem?_eq_some_iff.1 hv)
      obtain ⟨h1, h2⟩ := hl
      have h3 : i.toNat < (str l).size := by rw [str_size]; exact h1
      rw [getElem?_pos (str l) i.toNat h3]
      congr 1
    simp only [execOp, Instr.index, ha.eval hx, ha.eval hy, asIntOf, Sem.run_bind, Sem.run_pure, run_underlying ht, Result.andThen_ok, if_pos hi, this]) h
theorem sp_indexAddr {t e n g o len c : Nat} {x y : Operand} {k : IntKind} {i : Int} (o' : Nat) (ht : P.underlying t = some (.slice e)) (hs : tySize P e = some n) (hx : ev fr x = some (.slice (some ⟨g, o, none⟩) len c)) (hy : ev fr y = some (.int k i)) (hi : 0 ≤ i ∧ i < len) (ho : o + i.toNat * n = o') (hN : Nat.ble (d + 1) N.n = true)
    (h : sp P N w0 Wr ops rest ((d, ptr g o') :: fr) H Z) : sp P N w0 Wr ops (⟨some d, .indexAddr t x y, ty, pos, after, none⟩ :: rest) fr H Z :=
  sp_val _ hN (fun a w ha _ => by
    subst ho
    simp only [execOp, Instr.indexAt, ha.eval hx, ha.eval hy, asIntOf, Sem.run_bind, Sem.run_pure, run_underlying ht, Result.andThen_ok, if_pos hi, run_sizeOf hs, addr_add]
    rfl) h
theorem sp_indexAddrA {t e n g o len : Nat} {x y : Operand} {k : IntKind} {i : Int} (o' : Nat) (ht : P.underlying t = some (.array len e)) (hs : tySize P e = some n) (hx : ev fr x = some (ptr g o)) (hy : ev fr y = some (.int k i)) (hi : 0 ≤ i ∧ i < len) (ho : o + i.toNat * n = o') (hN : Nat.ble (d + 1) N.n = true)
    (h : sp P N w0 Wr ops rest ((d, ptr g o') :: fr) H Z) : sp P N w0 Wr ops (⟨some d, .indexAddr t x y, ty, pos, after, none⟩ :: rest) fr H Z :=
  sp_val _ hN (fun a w ha _ => by
    subst ho
    simp only [execOp, Instr.indexAt, ha.eval hx, ha.eval hy, asIntOf, Sem.run_bind, Sem.run_pure, run_underlying ht, Result.andThen_ok, ptr, Instr.sureAddr, if_pos hi, run_sizeOf hs, addr_add]) h
theorem sp_sliceS {t : TypeId} {x : Operand} {lo hi : Option Operand} {l : List UInt8} {i j : Int} (m : List UInt8) (ht : P.underlying t = some .string) (hx : ev fr x = some (.string (str l))) (hl : bnd fr 0 lo = some i) (hh : bnd fr (l.length : Int) hi = some j) (h0 : 0 ≤ i) (h1 : i ≤ j) (h2 : j ≤ l.length) (hm : (l.drop i.toNat).take (j.toNat - i.toNat) = m) (hN : Nat.ble (d + 1) N.n = true)
    (h : sp P N w0 Wr ops rest ((d, .string (str m)) :: fr) H Z) : sp P N w0 Wr ops (⟨some d, .slice t x lo hi none, ty, pos, after, none⟩ :: rest) fr H Z :=
  sp_val _ hN (fun a w ha _ => by
    subst hm
    have hb := sliceBounds_ok (P := P) (isS := false) (len := (str l).size) (cap := (str l).size) (w := w) ha hl (by rw [str_size]; exact hh) h0 h1 (by rw [str_size]; exact h2)
    simp only [execOp, Instr.sliceAt, Instr.slice, ha.eval hx, Sem.run_bind, run_underlying ht, Result.andThen_ok, Option.map_none, Option.isSome_none, Bool.false_eq_true, if_false, hb, Sem.run_pure, str_cut]) h
theorem sp_slice {t e n g o len c : Nat} {x : Operand} {lo hi : Option Operand} {i j : Int} (ht : P.underlying t = some (.slice e)) (hs : tySize P e = some n) (hx : ev fr x = some (.slice (some ⟨g, o, none⟩) len c)) (hl : bnd fr 0 lo = some i) (hh : bnd fr (len : Int) hi = some j) (h0 : 0 ≤ i) (h1 : i ≤ j) (h2 : j ≤ c) (hN : Nat.ble (d + 1) N.n = true)
    (h : ∀ o', (i < j → o' = o + i.toNat * n) → sp P N w0 Wr ops rest ((d, .slice (some ⟨g, o', none⟩) (j.toNat - i.toNat) (c - i.toNat)) :: fr) H Z) : sp P N w0 Wr ops (⟨some d, .slice t x lo hi none, ty, pos, after, none⟩ :: rest) fr H Z :=
  sp_val (.slice (some ⟨g, (if c = i.toNat then o else o + i.toNat * n), none⟩) (j.toNat - i.toNat) (c - i.toNat)) hN (fun a w ha _ => by
    have hb := sliceBounds_ok (P := P) (isS := true) (len := len) (cap := c) (w := w) ha hl hh h0 h1 h2
    simp only [execOp, Instr.sliceAt, Instr.slice, ha.eval hx, Sem.run_bind, run_underlying ht, Result.andThen_ok, Option.map_none, hb, Sem.run_pure, run_sizeOf hs, Option.map_some, addr_add]
    by_cases hc : c = i.toNat <;> simp [hc]) (h _ (fun hlt => by rw [if_neg (by omega)]))
theorem sp_build {t : TypeId} {parts : List (Nat × Operand)} {pv : List (Nat × Value)} {z cs cs' : List Value} {pl : List (Nat × Nat)} (hz : tyZero P t = some z) (hp : tyPlaces P t = some pl) (hx : evParts fr parts = some pv) (hf : fillV (pl[·]?) z (celled pv) = some cs) (hn : cs = cs') (hN : Nat.ble (d + 1) N.n = true)
    (h : sp P N w0 Wr ops rest ((d, .agg cs'.toArray) :: fr) H Z) : sp P N w0 Wr ops (⟨some d, .build t parts.toArray, ty, pos, after, none⟩ :: rest) fr H Z :=
  sp_val _ hN (fun a w ha _ => by
    subst hn
    obtain ⟨v, h1, h2⟩ := run_zero (w := w) hz
    unfold tyPlaces at hp
    cases hu : P.underlying t with
    | none => simp [hu] at hp
    | some dd =>
      cases dd <;> simp only [hu] at hp <;> try cases hp
      rename_i fs
      have hpl := places_ok (P := P) fs.toList pl w hp
      have hpl' : (fs.mapM (m := Sem) fun f => do pure (f.offset, ← sizeOf f.type)).run P w = .ok pl.toArray w := by
        rw [← Array.toArray_toList (xs := fs), List.mapM_toArray]
        rw [Sem.run_map, hpl]
        rfl
      have hfl : Instr.fill (fun i => pl.toArray[i]?) v.cells pv = some cs.toArray := fill_ok _ pv v.cells cs (by rw [h2]; simpa using hf)
      have hpv := ha.parts hx
      have hpv' : (parts.toArray.map fun (p : Nat × Operand) => (p.1, a.eval p.2)).toList = pv := by simpa using hpv
      simp only [execOp, Instr.build, Sem.run_bind, h1, Result.andThen_ok, run_underlying hu, hpl', hpv', hfl]
      rfl) h
theorem sp_buildA {t e len n : TypeId} {parts : List (Nat × Operand)} {pv : List (Nat × Value)} {z cs cs' : List Value} (hz : tyZero P t = some z) (ht : P.underlying t = some (.array len e)) (hs : tySize P e = some n) (hx : evParts fr parts = some pv) (hf : fillV (fun i => some (i * n, n)) z (celled pv) = some cs) (hn : cs = cs') (hN : Nat.ble (d + 1) N.n = true)
    (h : sp P N w0 Wr ops rest ((d, .agg cs'.toArray) :: fr) H Z) : sp P N w0 Wr ops (⟨some d, .build t parts.toArray, ty, pos, after, none⟩ :: rest) fr H Z :=
  sp_val _ hN (fun a w ha _ => by
    subst hn
    obtain ⟨v, h1, h2⟩ := run_zero (w := w) hz
    have hfl : Instr.fill (fun i => some (i * n, n)) v.cells pv = some cs.toArray := fill_ok _ pv v.cells cs (by rw [h2]; simpa using hf)
    have hpv := ha.parts hx
    have hpv' : (parts.toArray.map fun (p : Nat × Operand) => (p.1, a.eval p.2)).toList = pv := by simpa using hpv
    simp only [execOp, Instr.build, Sem.run_bind, h1, Result.andThen_ok, run_underlying ht, run_sizeOf hs, hpv', hfl]
    rfl) h
theorem sp_pick {c x y : Operand} {b : Bool} {v : Value} (hc : ev fr c = some (.bool b)) (hx : ev fr (bif b then x else y) = some v) (hN : Nat.ble (d + 1) N.n = true)
    (h : sp P N w0 Wr ops rest ((d, v) :: fr) H Z) : sp P N w0 Wr ops (⟨some d, .pick c x y, ty, pos, after, none⟩ :: rest) fr H Z :=
  sp_val v hN (fun a w ha _ => by
    cases b <;> simp only [cond_true, cond_false] at hx <;> simp [execOp, ha.eval hc, ha.eval hx, asBool, Sem.run_bind]) h
theorem sp_aeql {t t' : TypeId} {x y : Operand} {xs ys : List Value} {b : Bool} (hE : EqV P 10000 t (.agg xs.toArray) (.agg ys.toArray) b) (hG : P.eqGuardType P.depth t = false) (hx : ev fr x = some (.agg xs.toArray)) (hy : ev fr y = some (.agg ys.toArray)) (hN : Nat.ble (d + 1) N.n = true)
    (h : sp P N w0 Wr ops rest ((d, .bool b) :: fr) H Z) : sp P N w0 Wr ops (⟨some d, .binOp .eql t x y t', ty, pos, after, none⟩ :: rest) fr H Z :=
  sp_val _ hN (fun a w ha _ => by
    have hg : (eqGuard .eql t x y (.agg xs.toArray) (.agg ys.toArray)).run P w = .ok () w := by
      simp [eqGuard, program, Sem.run_bind, Sem.run, hG]
    have he : (Op.equal t (.agg xs.toArray) (.agg ys.toArray)).run P w = .ok b w := hE w
    simp only [execOp, ha.eval hx, ha.eval hy, Sem.run_bind, hg, Result.andThen_ok, binOp, he, Sem.run_pure]) h
theorem sp_aneq {t t' : TypeId} {x y : Operand} {xs ys : List Value} {b : Bool} (hE : EqV P 10000 t (.agg xs.toArray) (.agg ys.toArray) b) (hG : P.eqGuardType P.depth t = false) (hx : ev fr x = some (.agg xs.toArray)) (hy : ev fr y = some (.agg ys.toArray)) (hN : Nat.ble (d + 1) N.n = true)
    (h : sp P N w0 Wr ops rest ((d, .bool (!b)) :: fr) H Z) : sp P N w0 Wr ops (⟨some d, .binOp .neq t x y t', ty, pos, after, none⟩ :: rest) fr H Z :=
  sp_val _ hN (fun a w ha _ => by
    have hg : (eqGuard .neq t x y (.agg xs.toArray) (.agg ys.toArray)).run P w = .ok () w := by
      simp [eqGuard, program, Sem.run_bind, Sem.run, hG]
    have he : (Op.equal t (.agg xs.toArray) (.agg ys.toArray)).run P w = .ok b w := hE w
    simp only [execOp, ha.eval hx, ha.eval hy, Sem.run_bind, hg, Result.andThen_ok, binOp, he, Sem.run_pure]) h
theorem sp_beql {t t' : TypeId} {x y : Operand} {a b : Bool} (ht : P.underlying t = some .bool) (hx : ev fr x = some (.bool a)) (hy : ev fr y = some (.bool b)) (hN : Nat.ble (d + 1) N.n = true)
    (h : sp P N w0 Wr ops rest ((d, .bool (a == b)) :: fr) H Z) : sp P N w0 Wr ops (⟨some d, .binOp .eql t x y t', ty, pos, after, none⟩ :: rest) fr H Z :=
  sp_val _ hN (fun c w ha _ => by
    have hg : (eqGuard .eql t x y (.bool a) (.bool b)).run P w = .ok () w := by
      unfold eqGuard
      split <;> rfl
    have he : (Op.equal t (.bool a) (.bool b)).run P w = .ok (a == b) w := by
      unfold Op.equal Op.maxDepth Op.equalIn
      simp [Sem.run_bind, run_underlying ht]
    simp only [execOp, ha.eval hx, ha.eval hy, Sem.run_bind, hg, Result.andThen_ok, binOp, he, Sem.run_pure]) h
theorem sp_bneq {t t' : TypeId} {x y : Operand} {a b : Bool} (ht : P.underlying t = some .bool) (hx : ev fr x = some (.bool a)) (hy : ev fr y = some (.bool b)) (hN : Nat.ble (d + 1) N.n = true)
    (h : sp P N w0 Wr ops rest ((d, .bool (!(a == b))) :: fr) H Z) : sp P N w0 Wr ops (⟨some d, .binOp .neq t x y t', ty, pos, after, none⟩ :: rest) fr H Z :=
  sp_val _ hN (fun c w ha _ => by
    have hg : (eqGuard .neq t x y (.bool a) (.bool b)).run P w = .ok () w := by
      unfold eqGuard
      split <;> rfl
    have he : (Op.equal t (.bool a) (.bool b)).run P w = .ok (a == b) w := by
      unfold Op.equal Op.maxDepth Op.equalIn
      simp [Sem.run_bind, run_underlying ht]
    simp only [execOp, ha.eval hx, ha.eval hy, Sem.run_bind, hg, Result.andThen_ok, binOp, he, Sem.run_pure]) h
theorem tq_nil (h : Z fr H) : tq P N w0 Wr ops [] fr H Z := fun _ hK a ha => hK _ a h ha
theorem tg_nil (h : Z fr H) : tg P N w0 Wr ops [] fr H Z := fun _ hQ a w ha hw => ⟨rfl, hQ _ _ a w h ha hw⟩
theorem tq_p {i : Nat} {o : Oper} {xs : List (Nat × Bool)} (ho : ops[i]? = some o) (h : sp P N w0 Wr ops [o] fr H fun fr' H' => tq P N w0 Wr ops xs fr' H' Z) : tq P N w0 Wr ops ((i, true) :: xs) fr H Z :=
  fun K hK a ha => by
    obtain ⟨v, hv, hk⟩ := h (Wq P ops (Sat w0 Wr H) K xs) (fun fr' a ht hf => ht K hK a hf) a ha
    exact ⟨o, v, ho, hv, hk⟩
theorem tg_p {i : Nat} {o : Oper} {xs : List (Nat × Bool)} (ho : ops[i]? = some o) (h : sp P N w0 Wr ops [o] fr H fun fr' H' => tg P N w0 Wr ops xs fr' H' Z) : tg P N w0 Wr ops ((i, true) :: xs) fr H Z :=
  fun Q hQ a w ha hw => by
    obtain ⟨v, hv, hk⟩ := h (fun a => Wg P ops Q xs a w) (fun fr' a ht hf => ht Q hQ a w hf hw) a ha
    exact ⟨o, v, ho, hv, hk⟩
theorem tq_q {i : Nat} {o : Oper} {xs : List (Nat × Bool)} (ho : ops[i]? = some o) (h : sq P N w0 Wr ops [o] fr H fun fr' H' => tq P N w0 Wr ops xs fr' H' Z) : tq P N w0 Wr ops ((i, false) :: xs) fr H Z :=
  fun K hK a ha => by
    have h1 := h (Wq P ops (Sat w0 Wr H) K xs) (fun fr' a ht hf => ht K hK a hf) a ha
    have h2 : qOp P ops (Sat w0 Wr H) i (Wq P ops (Sat w0 Wr H) K xs) a := by
      unfold qOp
      simp only [ho]
      exact h1
    obtain ⟨v, hv, hk⟩ := yieldsIn_of_qOp ho h2
    exact ⟨o, v, ho, hv, hk⟩
theorem wpOp_any {Q Q' : Exit → Act → World → Prop} {i : Nat} {o : Oper} {K : Act → World → Prop} {a : Act} {w : World} (hi : ops[i]? = some o) (h : wpOp P ops (QN Q) i K a w) : wpOp P ops (QN Q') i K a w := by
  rw [wpOp_iff hi] at h ⊢
  split
  · rename_i hw
    rw [if_pos hw] at h
    unfold Oper.wp at h ⊢
    cases hr : (execOp a.eval o).run P w with
    | ok n w' =>
      rw [hr] at h
      cases n <;> simp only [Oper.upon] at h ⊢ <;> try exact h
      refine Calls.mono h fun e w'' he => ?_
      cases e with
      | returned x => exact he
      | panicked c => cases he.1
      | outgrown => exact (QN_out he).elim
    | halt x w' =>
      rw [hr] at h
      cases x <;> simp only [Oper.upon] at h ⊢ <;> first | exact h | (cases h.1)
  · rename_i hw
    rw [if_neg hw] at h
    exact h
theorem tg_g {i : Nat} {o : Oper} {xs : List (Nat × Bool)} (ho : ops[i]? = some o) (h : sx P N w0 Wr ops [o] fr H fun fr' H' => tg P N w0 Wr ops xs fr' H' Z) : tg P N w0 Wr ops ((i, false) :: xs) fr H Z :=
  fun Q hQ a w ha hw => by
    have h1 := h (QN fun _ a w => Wg P ops Q xs a w) (fun fr' H' a w ht hf hS => ⟨rfl, ht Q hQ a w hf hS⟩) a w ha hw
    show wpOp P ops (QN Q) i (Wg P ops Q xs) a w
    refine wpOp_any (Q := fun _ a w => Wg P ops Q xs a w) ho ?_
    unfold wpOp
    simp only [ho]
    unfold wpList at h1
    split
    · rename_i hw'
      rw [if_pos hw'] at h1
      exact h1.imp (Oper.wp_mono fun a w hh => hh.2) id
    · rename_i hw'
      rw [if_neg hw'] at h1
      exact h1.2
/-- A test's two ways. -/
theorem tq_split {xs : List (Nat × Bool)} (t : Nat) {b : Bool} (hb : lk fr t = some (.bool b)) (h1 : b = true → tq P N w0 Wr ops xs ((t, .bool true) :: fr) H Z) (h2 : b = false → tq P N w0 Wr ops xs ((t, .bool false) :: fr) H Z) : tq P N w0 Wr ops xs fr H Z := by
  have key : ∀ c, b = c → tq P N w0 Wr ops xs ((t, .bool c) :: fr) H Z → tq P N w0 Wr ops xs fr H Z := fun c hc h K hK a ha => by
    refine h K hK a ⟨ha.size, ha.defers, fun k v hv => ?_⟩
    simp only [lk] at hv
    cases hbq : Nat.beq t k with
    | true =>
      rw [hbq] at hv
      obtain rfl := Nat.eq_of_beq_eq_true hbq
      simp only [cond_true] at hv
      rw [← hv, ← hc]
      exact ha.at_ t _ hb
    | false => rw [hbq] at hv; exact ha.at_ k v hv
  cases hbb : b with
  | true => exact key true hbb (h1 hbb)
  | false => exact key false hbb (h2 hbb)
end
section
variable {P : Program} {N : Frm} {w0 : World} {Wr : List Nat} {fr : Fr} {H : Heap} {Q : Exit → Act → World → Prop}
theorem awt_region {id : Nat} {l : List Oper} (qs ls : List (Nat × Bool)) (hm : P.follows .mixedOrders = true) (hB : tagB P l qs ls = true)
    (h : ∀ Z : Fr → Heap → Prop, (∀ fr H, nx N w0 Wr fr H Q .normal → Z fr H) → tq P N w0 Wr l.toArray qs fr H (fun fr' H' => tg P N w0 Wr l.toArray ls fr' H' Z)) : awp P N w0 Wr (.region id l.toArray true) fr H Q :=
  fun a w ha hw => wp_region_tag (C := Sat w0 Wr H) qs ls hm hB hw.drew
    (h (fun fr H => nx N w0 Wr fr H Q .normal) (fun _ _ h => h) (fun a' => ∀ w', Sat w0 Wr H w' → Wg P l.toArray Q ls a' w') (fun fr' a' hz hf w' hw' => hz Q (fun fr' H' a w hz hf hs => hz a w hf hs) a' w' hf hw') a ha)
theorem awt_seq_region {id : Nat} {l : List Oper} {y : Code} (qs ls : List (Nat × Bool)) (hm : P.follows .mixedOrders = true) (hB : tagB P l qs ls = true)
    (h : ∀ Z : Fr → Heap → Prop, (∀ fr H, awp P N w0 Wr y fr H Q → Z fr H) → tq P N w0 Wr l.toArray qs fr H (fun fr' H' => tg P N w0 Wr l.toArray ls fr' H' Z)) : awp P N w0 Wr (.seq (.region id l.toArray true) y) fr H Q :=
  awp_seq (awt_region qs ls hm hB fun Z hZ => h Z fun fr H hy => hZ fr H hy)
end
end Go.Proofs.Ytbldhokgbcljjaa

namespace Go.Proofs.Ytbldhokgbcljjaa
open Go.RowKit
set_option linter.unusedVariables false
set_option linter.unusedSimpArgs false
set_option linter.unusedSectionVars false
section
variable {P : Program} {ops : Array Oper} {Q : Exit → Act → World → Prop} {C : World → Prop} {a b : Act} {w : World} {i j : Nat} {o oi oj : Oper} {v u : Value}
def YC (P : Program) (ops : Array Oper) (C : World → Prop) (o : Oper) (v : Value) (a : Act) : Prop := ∀ w, C w → YAt P ops o v a w
def vst (P : Program) (ops : Array Oper) (C : World → Prop) (Q : Exit → Act → World → Prop) (x : Nat × Bool) (K : Act → World → Prop) (a : Act) (w : World) : Prop :=
  match x.2 with
  | true => ∃ o v, ops[x.1]? = some o ∧ YC P ops C o v a ∧ K (a.put o.dst v) w
  | false => wpOp P ops (QN Q) x.1 (fun a w' => C w' ∧ K a w') a w
def Wv (P : Program) (ops : Array Oper) (C : World → Prop) (Q : Exit → Act → World → Prop) : List (Nat × Bool) → Act → World → Prop
  | [], a, w => QN Q .normal a w
  | x :: r, a, w => vst P ops C Q x (Wv P ops C Q r) a w
theorem vst_mono {x : Nat × Bool} {K K' : Act → World → Prop} (h : ∀ a w, K a w → K' a w) (hh : vst P ops C Q x K a w) : vst P ops C Q x K' a w := by
  unfold vst at hh ⊢
  split
  · rename_i hx
    rw [hx] at hh
    obtain ⟨o, v, h1, h2, h3⟩ := hh
    exact ⟨o, v, h1, h2, h _ _ h3⟩
  · rename_i hx
    rw [hx] at hh
    exact wpOp_mono (fun a w ⟨hc, hk⟩ => ⟨hc, h a w hk⟩) hh
theorem vst_op {x : Nat × Bool} {K : Act → World → Prop} (hC : C w) (hh : vst P ops C Q x K a w) : wpOp P ops (QN Q) x.1 (fun a w' => C w' ∧ K a w') a w := by
  unfold vst at hh
  split at hh
  · obtain ⟨o, v, h1, h2, h3⟩ := hh
    exact (h2 w hC).wp h1 ⟨hC, h3⟩
  · exact hh
theorem vst_swap {x y : Nat × Bool} {K : Act → World → Prop} (hi : ops[x.1]? = some oi) (hj : ops[y.1]? = some oj) (hap : oi.apart ops oj = true) (hsi : ∀ cs b, oi.op ≠ .select cs b) (hsj : ∀ cs b, oj.op ≠ .select cs b)
    (hc : x.2 = true ∨ y.2 = true) (h : vst P ops C Q x (vst P ops C Q y K) a w) : vst P ops C Q y (vst P ops C Q x K) a w := by
  obtain ⟨h1, h2, h3⟩ := Oper.apart_spec hap
  have h4 : ∀ t, oj.dst = some t → oi.dst ≠ some t := fun t ht hi' => h2 t hi' ht
  obtain ⟨i, bi⟩ := x
  obtain ⟨j, bj⟩ := y
  cases bi <;> cases bj
  · simp at hc
  · simp only [vst] at h ⊢
    have h' := wpOp_near hi h
    by_cases hv : ∃ v, YC P ops C oj v a
    · obtain ⟨v, hv⟩ := hv
      refine ⟨oj, v, hj, hv, ?_⟩
      rw [wpOp_put hi hsi h3 h4]
      refine wpOp_mono (fun b w' hb => ?_) h'
      obtain ⟨⟨hC', o, u, e, hu, hk⟩, hn⟩ := hb
      rw [hj] at e; obtain rfl := Option.some.inj e
      have : u = v := (hu w' hC').uniq ((hv w' hC').near hn hsj h1)
      exact ⟨hC', this ▸ hk⟩
    · refine (wpOp_false hi (wpOp_mono (fun b w' hb => ?_) h')).elim
      obtain ⟨⟨hC', o, u, e, hu, hk⟩, hn⟩ := hb
      rw [hj] at e; obtain rfl := Option.some.inj e
      exact hv ⟨u, fun w'' hC'' => (hu w'' hC'').back hn hsj h1⟩
  · simp only [vst] at h ⊢
    obtain ⟨o, v, e, hv, hk⟩ := h
    rw [hi] at e; obtain rfl := Option.some.inj e
    rw [wpOp_put hj hsj h1 h2] at hk
    exact wpOp_mono (fun b w' ⟨⟨hC', hb⟩, hn⟩ => ⟨hC', oi, v, hi, fun w'' hC'' => (hv w'' hC'').near hn hsi h3, hb⟩) (wpOp_near hj hk)
  · simp only [vst] at h ⊢
    obtain ⟨o, v, e, hv, o', u, e', hu, hk⟩ := h
    rw [hi] at e; obtain rfl := Option.some.inj e
    rw [hj] at e'; obtain rfl := Option.some.inj e'
    exact ⟨oj, u, hj, fun w'' hC'' => (hu w'' hC'').back ⟨v, rfl⟩ hsj h1, oi, v, hi, fun w'' hC'' => (hv w'' hC'').near ⟨u, rfl⟩ hsi h3, by rw [← Act.put_comm a v u h2]; exact hk⟩
def MayV (ops : Array Oper) (x y : Nat × Bool) : Prop := ∃ oi oj, ops[x.1]? = some oi ∧ ops[y.1]? = some oj ∧ oi.apart ops oj = true ∧ (x.2 = true ∨ y.2 = true)
theorem v_front (hsel : ∀ (j : Nat) (o : Oper) cs b, ops[j]? = some o → o.op ≠ .select cs b) {y : Nat × Bool} {r : List (Nat × Bool)} : ∀ (p : List (Nat × Bool)) (a : Act) (w : World),
    (∀ x ∈ p, MayV ops x y) → Wv P ops C Q (p ++ y :: r) a w → vst P ops C Q y (Wv P ops C Q (p ++ r)) a w
  | [], a, w, _, h => h
  | x :: p, a, w, hp, h => by
    obtain ⟨oi, oj, h1, h2, h3, h4⟩ := hp x List.mem_cons_self
    have h5 : vst P ops C Q x (vst P ops C Q y (Wv P ops C Q (p ++ r))) a w := vst_mono (fun b w' hb => v_front hsel p b w' (fun k hk => hp k (List.mem_cons_of_mem _ hk)) hb) h
    exact vst_swap h1 h2 h3 (fun cs b => hsel x.1 oi cs b h1) (fun cs b => hsel y.1 oj cs b h2) h4 h5
theorem any_of_v (hsel : ∀ (j : Nat) (o : Oper) cs b, ops[j]? = some o → o.op ≠ .select cs b) (hedge : ∀ (j : Nat) (o : Oper), ops[j]? = some o → ∀ e ∈ o.after, Region.binds .any e = true → e.on < ops.size) :
    ∀ (n : Nat) (ord : List (Nat × Bool)) (listed : Array Bool) (a : Act) (w : World), ord.length = n → C w → Left ops (ord.map Prod.fst) listed →
    (ord.Pairwise fun x y => Dep ops x.1 y.1 ∨ MayV ops x y) → Wv P ops C Q ord a w → wpAny P .any ops (QN Q) n listed a w := by
  intro n
  induction n with
  | zero =>
    intro ord listed a w hl hC hL hp h
    obtain rfl := List.eq_nil_of_length_eq_zero hl
    refine ⟨List.eq_nil_iff_forall_not_mem.2 fun j hj => ?_, h⟩
    obtain ⟨h0, o, ho, _⟩ := mem_ready.1 hj
    have := (hL.mem j (Array.getElem?_eq_some_iff.1 ho).1).1 h0
    simp at this
  | succ n ih =>
    intro ord listed a w hl hC hL hp h
    refine ⟨fun hnil => ?_, fun j hj => ?_⟩
    · exfalso
      match ord, hl with
      | x :: r, _ =>
        have := hL.first hedge
        rw [hnil] at this
        cases this
    · have hdeps := hL.deps hedge hj
      obtain ⟨h0, o, ho, hall⟩ := mem_ready.1 hj
      have hjm := (hL.mem j (Array.getElem?_eq_some_iff.1 ho).1).1 h0
      obtain ⟨bj, hjb⟩ := mem_fst hjm
      obtain ⟨p, r, rfl⟩ := List.append_of_mem hjb
      have hpp := List.pairwise_append.1 hp
      have hswap : ∀ x ∈ p, MayV ops x (j, bj) := fun x hx => by
        rcases hpp.2.2 x hx (j, bj) List.mem_cons_self with hd | hd
        · exact absurd (List.mem_map.2 ⟨x, List.mem_append_left _ hx, rfl⟩) (hdeps x.1 hd)
        · exact hd
      have hL' : Left ops ((p ++ r).map Prod.fst) (listed.setIfInBounds j true) := by
        rw [List.map_append]
        exact Left.step (by simpa using hL) hedge hj
      refine wpOp_mono (fun b w' hb => ih (p ++ r) _ b w' (by simp at hl ⊢; omega) hb.1 hL' ?_ hb.2) (vst_op hC (v_front hsel p a w hswap h))
      exact List.pairwise_append.2 ⟨hpp.1, (List.pairwise_cons.1 hpp.2.1).2, fun x hx y hy => hpp.2.2 x hx y (List.mem_cons_of_mem _ hy)⟩
def vB (ops : Array Oper) (A : List (List Nat)) : List (Nat × Bool) → Bool
  | [] => true
  | x :: r => (r.all fun y => (A.getD y.1 []).contains x.1 || (apB ops x.1 y.1 && (x.2 || y.2))) && vB ops A r
theorem vB_ok {A : List (List Nat)} (hA : ∀ j i, i ∈ A.getD j [] → Dep ops i j) : ∀ {l : List (Nat × Bool)}, vB ops A l = true → l.Pairwise fun x y => Dep ops x.1 y.1 ∨ MayV ops x y
  | [], _ => List.Pairwise.nil
  | x :: r, h => by
    simp only [vB, Bool.and_eq_true] at h
    refine List.Pairwise.cons (fun y hy => ?_) (vB_ok hA h.2)
    have := List.all_eq_true.1 h.1 y hy
    simp only [Bool.or_eq_true, Bool.and_eq_true] at this
    rcases this with h1 | ⟨h1, h2⟩
    · exact .inl (hA _ _ (by simpa using h1))
    · obtain ⟨oi, oj, e1, e2, e3⟩ := apB_ok h1
      exact .inr ⟨oi, oj, e1, e2, e3, h2⟩
def calmB (l : List Oper) (ls : List (Nat × Bool)) : Bool :=
  Region.noSelect l.toArray && Nat.beq ls.length l.length && decide (ls.map Prod.fst).Nodup && extB l.toArray [] (ls.map Prod.fst) && vB l.toArray (ancs l) ls
theorem wp_region_calm {N : Frm} {id : Nat} {l : List Oper} {a : Act} {w : World} (ls : List (Nat × Bool)) (hm : P.follows .mixedOrders = true) (hB : calmB l ls = true) (hC : C w.drew) (h : Wv P l.toArray C Q ls a w.drew) : wq P N (.region id l.toArray true) Q a w := by
  simp only [calmB, Bool.and_eq_true, decide_eq_true_eq] at hB
  obtain ⟨⟨⟨⟨hsel, hlen⟩, hnd⟩, hext⟩, hpairs⟩ := hB
  have hlen := Nat.eq_of_beq_eq_true hlen
  obtain ⟨he1, he2⟩ := ext_ok hext (by simp) hnd
  have hall : ∀ k, k < l.length → k ∈ ls.map Prod.fst := all_in l.length _ hnd (by simpa using hlen) (fun x hx => by simpa using he2 x hx)
  have hedge : ∀ (j : Nat) (o : Oper), l.toArray[j]? = some o → ∀ e ∈ o.after, Region.binds .any e = true → e.on < l.toArray.size := fun j o ho e he hb =>
    ext_edges _ _ hext (by simp) j (hall j (by simpa using (Array.getElem?_eq_some_iff.1 ho).1)) o ho e he hb
  refine wq_any hm ?_
  have hA := ancs_ok l
  have := any_of_v (P := P) (Q := Q) (C := C) (Region.noSelect_spec hsel) hedge ls.length ls (Array.replicate l.toArray.size false) a w.drew rfl hC
    ⟨hnd, by simp, he2, fun k hk => by
      have h1 : k ∈ ls.map Prod.fst := hall k (by simpa using hk)
      have hk' : k < l.length := by simpa using hk
      have h2 : (Array.replicate l.toArray.size false).getD k true = false := by simp [Array.getD_eq_getD_getElem?, hk']
      exact ⟨fun _ => h1, fun _ => h2⟩, he1, fun j o ho hj => absurd (hall j (by simpa using (Array.getElem?_eq_some_iff.1 ho).1)) hj⟩
    (vB_ok hA hpairs) h
  have e : ls.length = l.toArray.size := by simpa using hlen
  rw [e] at this
  exact this
end
def tv (P : Program) (N : Frm) (w0 : World) (Wr : List Nat) (ops : Array Oper) (e0 : Ent) (xs : List (Nat × Bool)) (fr : Fr) (H : Heap) (Z : Fr → Heap → Prop) : Prop :=
  ∀ (Q : Exit → Act → World → Prop), (∀ fr' H' a w, Z fr' H' → FrOk N fr' a → Sat w0 Wr H' w → Q .normal a w) → ∀ a w, FrOk N fr a → Sat w0 Wr H w → Wv P ops e0.holds Q xs a w
section
variable {P : Program} {N : Frm} {w0 : World} {Wr : List Nat} {ops : Array Oper} {fr : Fr} {H : Heap} {Z : Fr → Heap → Prop} {e0 : Ent}
variable {d ty : Nat} {pos : String} {after : Array Edge}
theorem tv_nil (h : Z fr H) : tv P N w0 Wr ops e0 [] fr H Z := fun _ hQ a w ha hw => ⟨rfl, hQ _ _ a w h ha hw⟩
theorem tv_p {i : Nat} {o : Oper} {xs : List (Nat × Bool)} (ho : ops[i]? = some o) (h : sp P N w0 Wr ops [o] fr H fun fr' H' => tv P N w0 Wr ops e0 xs fr' H' Z) : tv P N w0 Wr ops e0 ((i, true) :: xs) fr H Z :=
  fun Q hQ a w ha hw => by
    obtain ⟨v, hv, hk⟩ := h (fun a => Wv P ops e0.holds Q xs a w) (fun fr' a ht hf => ht Q hQ a w hf hw) a ha
    exact ⟨o, v, ho, fun w _ => hv w, hk⟩
theorem tv_load {t : TypeId} {x : Operand} {g o i : Nat} {e : TypeId} {cs : List Value} {agg : Bool} {n : Nat} {v : Value} {xs : List (Nat × Bool)} (ho : ops[i]? = some ⟨some d, .load t x, ty, pos, after, none⟩) (hx : ev fr x = some (ptr g o)) (ht : tyAgg P t = some agg) (hn : tySize P t = some n) (hv : rdV agg n cs o = some v) (hN : Nat.ble (d + 1) N.n = true)
    (h : tv P N w0 Wr ops (.own g e cs) xs ((d, v) :: fr) H Z) : tv P N w0 Wr ops (.own g e cs) ((i, true) :: xs) fr H Z :=
  fun Q hQ a w ha hw => ⟨_, v, ho, fun w hc => .inl ⟨rfl, by
    have hc := Ent.cell hc
    simp only [execOp, Instr.loadAt, ha.eval hx, ptr, Instr.sureAddr, Sem.run_bind, Sem.run_pure, Result.andThen_ok]
    rw [run_loadVar ht hn hv (fun j u hu => (hc j).trans hu)]
    rfl⟩, h Q hQ _ w (ha.put hN v) hw⟩
theorem tv_g (k : Nat) {i : Nat} {o : Oper} {xs : List (Nat × Bool)} (ho : ops[i]? = some o) (h : sx P N w0 Wr ops [o] fr H fun fr' H' => H'[k]? = some e0 ∧ tv P N w0 Wr ops e0 xs fr' H' Z) : tv P N w0 Wr ops e0 ((i, false) :: xs) fr H Z :=
  fun Q hQ a w ha hw => by
    have h1 := h (QN fun _ a w => e0.holds w ∧ Wv P ops e0.holds Q xs a w) (fun fr' H' a w ht hf hS => ⟨rfl, hS.mem ht.1, ht.2 Q hQ a w hf hS⟩) a w ha hw
    show wpOp P ops (QN Q) i (fun a w' => e0.holds w' ∧ Wv P ops e0.holds Q xs a w') a w
    refine wpOp_any (Q := fun _ a w => e0.holds w ∧ Wv P ops e0.holds Q xs a w) ho ?_
    unfold wpOp
    simp only [ho]
    unfold wpList at h1
    split
    · rename_i hw'
      rw [if_pos hw'] at h1
      exact h1.imp (Oper.wp_mono fun a w hh => hh.2) id
    · rename_i hw'
      rw [if_neg hw'] at h1
      exact h1.2
theorem awv_region {Q : Exit → Act → World → Prop} {id : Nat} {l : List Oper} (k : Nat) (ls : List (Nat × Bool)) (hm : P.follows .mixedOrders = true) (hB : calmB l ls = true) (hk : H[k]? = some e0)
    (h : ∀ Z : Fr → Heap → Prop, (∀ fr H, nx N w0 Wr fr H Q .normal → Z fr H) → tv P N w0 Wr l.toArray e0 ls fr H Z) : awp P N w0 Wr (.region id l.toArray true) fr H Q :=
  fun a w ha hw => wp_region_calm (C := e0.holds) ls hm hB (hw.drew.mem hk)
    (h (fun fr H => nx N w0 Wr fr H Q .normal) (fun _ _ h => h) Q (fun fr' H' a w hz hf hs => hz a w hf hs) a w.drew ha hw.drew)
theorem awv_seq_region {Q : Exit → Act → World → Prop} {id : Nat} {l : List Oper} {y : Code} (k : Nat) (ls : List (Nat × Bool)) (hm : P.follows .mixedOrders = true) (hB : calmB l ls = true) (hk : H[k]? = some e0)
    (h : ∀ Z : Fr → Heap → Prop, (∀ fr H, awp P N w0 Wr y fr H Q → Z fr H) → tv P N w0 Wr l.toArray e0 ls fr H Z) : awp P N w0 Wr (.seq (.region id l.toArray true) y) fr H Q :=
  awp_seq (awv_region k ls hm hB hk fun Z hZ => h Z fun fr H hy => hZ fr H hy)
end
end Go.Proofs.Ytbldhokgbcljjaa

namespace Go.Proofs.Ytbldhokgbcljjaa
open Go.RowKit
set_option linter.unusedVariables false
set_option linter.unusedSimpArgs false
set_option linter.unusedSectionVars false
/-- A conversion's row of bytes: the mark stands behind its last cell. -/
def BrP (e : TypeId) (l : List UInt8) (o : Obj) : Prop := ∃ cur : Array Value, o = .cells cur e (cur.size, cur.size + 1) ∧ cur.toList.take l.length = bv l ∧ l.length ≤ cur.size
section
variable {w0 w : World} {Wr : List Nat} {H : Heap} {g i : Nat} {e : TypeId} {l : List UInt8}
theorem rd_brp (hH : H[i]? = some (.ob g (BrP e l))) (hw : Sat w0 Wr H w) : Rd w 1 (some ⟨g, 0, none⟩) l.length (bv l) := by
  obtain ⟨ob, h1, cur, rfl, h2, h3⟩ := hw.mem hH
  refine ⟨by rw [bv_length, Nat.mul_one], fun h => (by cases h), fun _ => ⟨g, 0, rfl, Ent.lt (hw.mem hH), fun j u hu => ?_⟩⟩
  rw [Nat.zero_add, cell_of_row w g j cur e _ h1]
  have hj : j < (bv l).length := (List.getElem?_eq_some_iff.1 hu).1
  rw [bv_length] at hj
  rw [← h2, List.getElem?_take_of_lt hj] at hu
  simpa using hu
end
section
variable {P : Program} {N : Frm} {w0 : World} {Wr : List Nat} {ops : Array Oper} {rest : List Oper} {fr : Fr} {H H1 : Heap} {Z : Fr → Heap → Prop}
variable {d ty : Nat} {pos : String} {after : Array Edge}
theorem sx_convS {s t e : TypeId} {x : Operand} {l : List UInt8} (hs : P.underlying s = some .string) (ht : P.underlying t = some (.slice e)) (he : P.underlying e = some (.int .u8)) (hx : ev fr x = some (.string (str l))) (hN : Nat.ble (d + 1) N.n = true)
    (h : ∀ g c, sx P N w0 Wr ops rest ((d, .slice (some ⟨g, 0, none⟩) l.length c) :: fr) (.ob g (BrP e l) :: H) Z) : sx P N w0 Wr ops (⟨some d, .convert s t x, ty, pos, after, none⟩ :: rest) fr H Z := by
  refine sx_make (R := fun v H' => ∃ g c, v = .slice (some ⟨g, 0, none⟩) l.length c ∧ H' = .ob g (BrP e l) :: H) hN (fun a w ha hw => ?_) (fun v H' hR => by obtain ⟨g, c, rfl, rfl⟩ := hR; exact h g c)
  have hrun := run_bytes_of_string w s t e (str l) hs ht he
  refine ⟨_, w.drew.alloc (.cells (bytesRow (str l) (grownCap w (str l).size 0 e)) e ((bytesRow (str l) (grownCap w (str l).size 0 e)).size, (bytesRow (str l) (grownCap w (str l).size 0 e)).size + 1)), .ob w.heap.size (BrP e l) :: H, ?_, ⟨w.heap.size, grownCap w (str l).size 0 e, rfl, rfl⟩, ?_⟩
  · simp only [execOp, ha.eval hx, Sem.run_bind, hrun, Result.andThen_ok, Sem.run_pure, str_size]
  · refine hw.fresh (w := w) ?_ (((Bel.refl w).drew).alloc _) (Nat.le_refl _)
    refine ⟨_, ?_, bytesRow (str l) (grownCap w (str l).size 0 e), rfl, ?_, ?_⟩
    · show (w.heap.push _)[w.heap.size]? = _
      simp
    · simp [bytesRow, str, bv]
    · simp [bytesRow, str]
theorem sx_storeB (i : Nat) {t : TypeId} {x y : Operand} {g o : Nat} {e : TypeId} {l : List UInt8} {c : UInt8} (hx : ev fr x = some (ptr g o)) (hy : ev fr y = some (.int .u8 (c.toNat : Int))) (hH : H[i]? = some (.ob g (BrP e l))) (hn : tySize P t = some 1)
    (hlen : o < l.length) {H2 : Heap} (hs : H.set i (.ob g (BrP e (l.set o c))) = H2)
    (h : sx P N w0 Wr ops rest fr H2 Z) : sx P N w0 Wr ops (⟨none, .store t x y, ty, pos, after, none⟩ :: rest) fr H Z :=
  sx_do (fun a w ha hw => by
    subst hs
    obtain ⟨ob, h1, cur, rfl, h2, h3⟩ := hw.mem hH
    have hc : w.cell? ⟨g, o, none⟩ = some cur[o] := by rw [cell_of_row w g o cur e _ h1]; simp
    have hf : w.frozen? ⟨g, o, none⟩ = false := by
      simp [World.frozen?, h1]
      omega
    have hst : (store ⟨g, o, none⟩ (.int .u8 (c.toNat : Int))).run P w = .ok () (w.setCell ⟨g, o, none⟩ (.int .u8 (c.toNat : Int))) := by simp [store, Sem.run, hc, hf]
    refine ⟨w.setCell ⟨g, o, none⟩ (.int .u8 (c.toNat : Int)), ?_, hw.turn hH rfl rfl (Only.setCell w g o _) ?_⟩
    · have hsz : (Value.int .u8 (c.toNat : Int)).cells = #[.int .u8 (c.toNat : Int)] := rfl
      have ha0 : Addr.add ⟨g, o, none⟩ 0 = ⟨g, o, none⟩ := rfl
      simp [execOp, Instr.storeAt, ha.eval hx, ha.eval hy, ptr, Instr.sureAddr, Sem.run_bind, Sem.run_pure, Result.andThen_ok, storeVar, run_sizeOf hn, hsz, storeCells, ha0, hst]
    · refine ⟨.cells (cur.set! o (.int .u8 (c.toNat : Int))) e (cur.size, cur.size + 1), ?_, cur.set! o (.int .u8 (c.toNat : Int)), by simp, ?_, by simpa using h3⟩
      · simp [World.setCell, Array.getElem?_modify, h1]
      · rw [List.length_set]
        have : (cur.set! o (.int .u8 (c.toNat : Int))).toList = cur.toList.set o (.int .u8 (c.toNat : Int)) := by simp
        rw [this, List.take_set, h2]
        simp [bv, List.map_set]) h
theorem sx_offU {op : Op} {j t : Nat} {b' : Bool} {oj : Oper} (hj : ops[j]? = some oj) (ht : oj.dst = some t) (hb : lk fr t = some undef) (hN : Nat.ble (d + 1) N.n = true)
    (h : sx P N w0 Wr ops rest ((d, undef) :: fr) H Z) : sx P N w0 Wr ops (⟨some d, op, ty, pos, after, some (j, b')⟩ :: rest) fr H Z :=
  fun Q hQ a w ha hw => by
    have hy : yielded ops a.tmps j = none := by
      have := ha.at_ t _ hb
      simp [yielded, hj, ht, this, undef]
    unfold wpList
    have h2 : Region.wanted (⟨some d, op, ty, pos, after, some (j, b')⟩ : Oper) (yielded ops a.tmps) = false := by simp [Region.wanted, hy]
    rw [if_neg (by simp [h2])]
    exact h Q hQ _ w (ha.put hN undef) hw
theorem sq_offU {op : Op} {j t : Nat} {b' : Bool} {oj : Oper} (hj : ops[j]? = some oj) (ht : oj.dst = some t) (hb : lk fr t = some undef) (hN : Nat.ble (d + 1) N.n = true)
    (h : sq P N w0 Wr ops rest ((d, undef) :: fr) H Z) : sq P N w0 Wr ops (⟨some d, op, ty, pos, after, some (j, b')⟩ :: rest) fr H Z :=
  fun Q hQ a ha => by
    have hy : yielded ops a.tmps j = none := by
      have := ha.at_ t _ hb
      simp [yielded, hj, ht, this, undef]
    unfold wpQuiet
    have h2 : Region.wanted (⟨some d, op, ty, pos, after, some (j, b')⟩ : Oper) (yielded ops a.tmps) = false := by simp [Region.wanted, hy]
    rw [if_neg (by simp [h2])]
    exact h Q hQ _ (ha.put hN undef)
theorem bits_u8 (x y : UInt8) : bitsV .xor .u8 (x.toNat : Int) (y.toNat : Int) = ((x ^^^ y).toNat : Int) := by
  have hb : ∀ z : UInt8, (BitVec.ofInt 8 (z.toNat : Int)).toNat = z.toNat := fun z => by
    have := z.toNat_lt
    rw [BitVec.toNat_ofInt]
    omega
  show IntKind.u8.wrap (((BitVec.ofInt 8 (x.toNat : Int)) ^^^ (BitVec.ofInt 8 (y.toNat : Int))).toNat : Int) = _
  rw [BitVec.toNat_xor, hb, hb, ← UInt8.toNat_xor]
  exact IntWalk.u8_in _ (by have := (x ^^^ y).toNat_lt; omega)
end
end Go.Proofs.Ytbldhokgbcljjaa
