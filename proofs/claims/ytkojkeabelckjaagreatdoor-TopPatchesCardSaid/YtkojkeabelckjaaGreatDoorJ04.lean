/- Walks and plain laws for this claim (texts Mem, Gsx3, joined). Each theorem states its own conditions. -/
import Derived.Test.YtkojkeabelckjaaGreatDoorJ01
import Derived.Maps.AppendAt
import Derived.Deep.AppendLies
import Derived.Deep.Onto
import Derived.Laws.OwnMore
import Derived.Test.YtkojkeabelckjaaGreatDoorJ03
import Derived.ArgAppend
import Derived.Laws.IdiomStrings

set_option linter.all false
namespace Go.Proofs.YtkojkeabelckjaaGreatDoor
open Go.RowKit
def Rd (w : World) (size : Nat) (A : Option Addr) (n : Nat) (xs : List Value) : Prop :=
 xs.length = n * size ∧ (A = none → n = 0) ∧ (0 < n → ∃ g o, A = some ⟨g, o, none⟩ ∧ g < w.heap.size ∧ ∀ j u, xs[j]? = some u → w.cell? ⟨g, o + j, none⟩ = some u)
section
variable {w w' W0 : World} {size n : Nat} {A : Option Addr} {xs : List Value}
theorem Rd.bel (h : Rd w size A n xs) (hb : Bel w w') : Rd w' size A n xs :=
 ⟨h.1, h.2.1, fun hn => by
  obtain ⟨g, o, a, b, c⟩ := h.2.2 hn
  exact ⟨g, o, a, Nat.lt_of_lt_of_le b hb.size, fun j u hu => ((Bel.took hb).1 _ _ b).trans (c j u hu)⟩⟩
theorem Rd.alloc (h : Rd w size A n xs) (o : Obj) : Rd (w.alloc o) size A n xs := h.bel ((Bel.refl w).alloc o)
theorem Rd.newM (w : World) (cs : Array Value) (t : TypeId) (m : Nat × Nat) (n : Nat) (hs : cs.size = n * size) : Rd (w.alloc (.cells cs t m)) size (some ⟨w.heap.size, 0, none⟩) n cs.toList := by
 refine ⟨by simpa using hs, ?_, ?_⟩
 ·intro h; exact absurd h (by simp)
 ·intro _
  refine ⟨_, _, rfl, by simp, fun j u hu => ?_⟩
  have hh : (w.alloc (.cells cs t m)).heap[w.heap.size]? = some (.cells cs t m) := by
   show (w.heap.push _)[w.heap.size]? = _
   simp
  simp only [Nat.zero_add]
  rw [cell_of_row _ w.heap.size j cs t m hh]
  simpa using hu
theorem Rd.new (w : World) (cs : Array Value) (t : TypeId) (n : Nat) (hs : cs.size = n * size) : Rd (w.alloc (.cells cs t)) size (some ⟨w.heap.size, 0, none⟩) n cs.toList := Rd.newM w cs t _ n hs
end
def ElemOk (P : Program) (t e : TypeId) (size bytes : Nat) : Prop :=
 P.underlying t = some (.slice e) ∧ ∃ (i : TypeInfo) (z : Value), P.info? e = some i ∧ i.zero = some z ∧ i.size = size ∧ i.bytes = bytes ∧ z.cells.size = size ∧ 0 < size
theorem ElemOk.mk_ {P : Program} {t e : TypeId} {size bytes : Nat} {z : Value} (ht : P.underlying t = some (.slice e)) (hi : (P.info? e).map (fun i => (i.zero, i.size, i.bytes)) = some (some z, size, bytes))
  (hz : z.cells.size = size) (hs : 0 < size) : ElemOk P t e size bytes := by
 obtain ⟨i, h1, h2, h3, h4⟩ := info_parts hi
 exact ⟨ht, i, z, h1, h2, h3, h4, hz, hs⟩
section
variable {P : Program}
theorem run_app {w W0 : World} {t ty e : TypeId} {size bytes : Nat} (hE : ElemOk P t e size bytes) {base : Nat} (hW : Bel W0 w) (hbase : W0.heap.size ≤ base) (hbw : base ≤ w.heap.size)
  {v : Value} {n : Nat} {xs : List Value} (hown : w.ownsRow base e size v n xs) {A : Option Addr} {m c : Nat} {news : List Value} (hr : Rd w size A m news) (h1 : ∀ u ∈ news, u.oneCell' = true)
  (h63 : n + m ≤ maxLen) (hby : (n + m) * bytes ≤ 140737488355328) :
  ∃ v' w', (Builtin.append_ #[t, t] ty #[v, .slice A m c]).run P w = .ok v' w' ∧ w'.ownsRow base e size v' (n + m) (xs ++ news) ∧ Bel W0 w' ∧ w.grownBy w' v.ownBlock ∧
   (v'.ownBlock = v.ownBlock ∨ v'.ownBlock = some w.heap.size) := by
 obtain ⟨ht, i, z, hi, hz, hsize, hbs, hzs, hsz⟩ := hE
 have bel : ∀ w', w.grownBy w' v.ownBlock → Bel W0 w' := fun w' hg =>
  Below.grown hW hg hW.size (fun k hk => by have := (World.ownsRow.lt hown k hk).1; omega)
 rcases A with _ | ad
 ·have hm := hr.2.1 rfl
  subst hm
  have hn : news = [] := List.eq_nil_of_length_eq_zero (by simpa using hr.1)
  subst hn
  refine ⟨v, w, ?_, by simpa using hown, hW, World.grownBy.refl w _, .inl rfl⟩
  rcases hown.2 with ⟨rfl, rfl⟩ | ⟨g, cap, cur, rfl, _, _, hnc, _⟩
  ·simp [Builtin.append_, run_underlying ht, sizeOf, typeInfo, hi, Builtin.lenOf, Builtin.firstCells]
  ·simp [Builtin.append_, run_underlying ht, sizeOf, typeInfo, hi, Builtin.lenOf, Builtin.firstCells, hnc, storeCells]
 ·have hcells : ∀ j u, news[j]? = some u → w.cell? (ad.add j) = some u := fun j u hu => by
   have hj : j < news.length := (List.getElem?_eq_some_iff.1 hu).1
   have hm : 0 < m := by
    rcases Nat.eq_zero_or_pos m with h0 | h0
    ·have hl := hr.1
     rw [h0, Nat.zero_mul] at hl
     omega
    ·exact h0
   obtain ⟨g, o, ha, _, hc⟩ := hr.2.2 hm
   obtain rfl := Option.some.inj ha
   have := hc j u hu
   unfold Addr.add
   by_cases hj : j = 0
   ·subst hj; simpa using this
   ·simpa [hj] using this
  obtain ⟨v', w', hrun, h2, h3, _, h5⟩ := run_append_own_at (P := P) w base t ty e i z size bytes ht hi hz hsize hbs hzs hsz v n xs hown ad m c news hr.1 hcells h1 h63 hby hbw
  exact ⟨v', w', hrun, h2, bel _ h3, h3, h5⟩
theorem wp_app {w W0 : World} {o : Oper} {a : Act} {K : Act → World → Prop} {Q : Exit → Act → World → Prop} {t e : TypeId} {size bytes : Nat} (hE : ElemOk P t e size bytes) (s x : Operand)
  (ho : o.op = .call { callee := .builtin .append, args := #[s, x], argTypes := #[t, t] }) {base : Nat} (hW : Bel W0 w) (hbase : W0.heap.size ≤ base) (hbw : base ≤ w.heap.size)
  {v : Value} {n : Nat} {xs : List Value} (hs : a.eval s = v) (hown : w.ownsRow base e size v n xs) {A : Option Addr} {m c : Nat} {news : List Value} (hx : a.eval x = .slice A m c) (hr : Rd w size A m news) (h1 : ∀ u ∈ news, u.oneCell' = true)
  (h63 : n + m ≤ maxLen) (hby : (n + m) * bytes ≤ 140737488355328)
  (h : ∀ v' w', w'.ownsRow base e size v' (n + m) (xs ++ news) → Bel W0 w' → w.grownBy w' v.ownBlock → (v'.ownBlock = v.ownBlock ∨ v'.ownBlock = some w.heap.size) → K (a.put o.dst v') w') : o.wp P a w K Q := by
 obtain ⟨v', w', hrun, h2, h3, h4, h5⟩ := run_app (P := P) (ty := o.type) (c := c) hE hW hbase hbw hown hr h1 h63 hby
 unfold Oper.wp execOp
 simp only [ho, resolve, invoke, builtin, Sem.run_bind, Sem.run_pure, Result.andThen_ok, List.map_toArray, List.map_cons, List.map_nil, hs, hx, hrun]
 exact h v' w' h2 h3 h4 h5
theorem wpList_app {w : World} {ops : Array Oper} {rest : List Oper} {o : Oper} {a : Act} {Q : Exit → Act → World → Prop} (W0 : World) {t e : TypeId} {size bytes : Nat} (hE : ElemOk P t e size bytes) (hgd : o.guard = none) (s x : Operand)
  (ho : o.op = .call { callee := .builtin .append, args := #[s, x], argTypes := #[t, t] }) {base : Nat} (hW : Bel W0 w) (hbase : W0.heap.size ≤ base) (hbw : base ≤ w.heap.size)
  {v : Value} {n : Nat} {xs : List Value} (hs : a.eval s = v) (hown : w.ownsRow base e size v n xs) {A : Option Addr} {m c : Nat} {news : List Value} (hx : a.eval x = .slice A m c) (hr : Rd w size A m news) (h1 : ∀ u ∈ news, u.oneCell' = true)
  (h63 : n + m ≤ maxLen) (hby : (n + m) * bytes ≤ 140737488355328)
  (h : ∀ v' w', w'.ownsRow base e size v' (n + m) (xs ++ news) → Bel W0 w' → w.grownBy w' v.ownBlock → (v'.ownBlock = v.ownBlock ∨ v'.ownBlock = some w.heap.size) → wpList P ops Q rest (a.put o.dst v') w') : wpList P ops Q (o :: rest) a w :=
 wpList_plain hgd fun _ hK => wp_app hE s x ho hW hbase hbw hs hown hx hr h1 h63 hby fun v' w' h2 h3 h4 h5 => hK _ _ (h v' w' h2 h3 h4 h5)
end
section
variable {w w' : World} {g : Nat} {t : TypeId} {cs : Array Value}
end
def bv (l : List UInt8) : List Value := l.map fun b => .int .u8 (b.toNat : Int)
theorem bv_length (l : List UInt8) : (bv l).length = l.length := by simp [bv]
theorem bv_append (a b : List UInt8) : bv (a ++ b) = bv a ++ bv b := by simp [bv]
theorem bv_one (l : List UInt8) : ∀ u ∈ bv l, u.oneCell' = true := by
 intro u hu
 simp only [bv, List.mem_map] at hu
 obtain ⟨b, _, rfl⟩ := hu
 rfl
theorem bv_at (l : List UInt8) (k : Nat) (h : k < l.length) : (bv l)[k]? = some (.int .u8 (l[k].toNat : Int)) := by simp [bv, h]
@[simp, go_sem] theorem str_toList (l : List UInt8) : (str l).toList = l := by rw [ByteArray.toList_eq]; rfl
@[go_sem] theorem str_append (a b : List UInt8) : str a ++ str b = str (a ++ b) := by
 have h : (str a ++ str b).data.toList = a ++ b := by
  rw [ByteArray.data_append]
  simp [str]
 obtain ⟨l, e⟩ := str_of (str a ++ str b)
 rw [e, str_data] at h
 rw [e, h]
@[go_sem] theorem str_extract (l : List UInt8) (i j : Nat) : (str l).extract i j = str ((l.drop i).take (j - i)) := by
 have h : ((str l).extract i j).data.toList = (l.drop i).take (j - i) := by
  rw [ByteArray.data_extract]
  simp [str]
 obtain ⟨m, e⟩ := str_of ((str l).extract i j)
 rw [e, str_data] at h
 rw [e, h]
@[go_sem] theorem str_at (l : List UInt8) (i : Nat) (h : i < (str l).size) : (str l)[i] = l[i]'(by rw [str_size] at h; exact h) := rfl
theorem run_str {P : Program} {w : World} {A : Option Addr} {l : List UInt8} {n c : Nat} (hr : Rd w 1 A n (bv l)) (src e dst : TypeId) (hs : P.underlying src = some (.slice e)) (he : P.underlying e = some (.int .u8)) (hd : P.underlying dst = some .string) :
  (convert src dst (.slice A n c)).run P w = .ok (.string (str l)) w := by
 have hl : n = l.length := by have := hr.1; simp [bv_length] at this; exact this.symm
 subst hl
 rcases A with _ | ad
 ·have h0 := hr.2.1 rfl
  obtain rfl : l = [] := List.eq_nil_of_length_eq_zero h0
  exact run_convert_bytes_nil w src e hs he _ c dst hd
 rcases Nat.eq_zero_or_pos l.length with h0 | h0
 ·obtain rfl : l = [] := List.eq_nil_of_length_eq_zero h0
  obtain ⟨i, _⟩ : ∃ i : Nat, i = i := ⟨0, rfl⟩
  rw [run_convert_bytes_string w src dst e _ _ c hs he hd, run_bytesToString w _ _ c [] (by simp [loadCells, loadCellsFrom])]
  rfl
 ·obtain ⟨g, o, ha, _, hc⟩ := hr.2.2 h0
  obtain rfl := Option.some.inj ha
  have := run_convert_bytes_arg (P := P) w src e hs he g o l.length c (l.map fun b => (b.toNat : Int)) (by simp) (fun i hi => by
   rw [hc i _ (bv_at l i hi)]
   simp [List.getD, hi]) dst hd
  rw [this]
  have e2 : strOfNums (l.map fun b => (b.toNat : Int)) = str l := by
   unfold strOfNums str
   congr 1
   simp only [List.map_map]
   congr 1
   conv => rhs; rw [← List.map_id l]
   apply List.map_congr_left
   intro b _
   simp
  rw [e2]
def RowP (e : TypeId) (size n c : Nat) (xs : List Value) (o : Obj) : Prop :=
 ∃ cur : Array Value, o = .cells cur e (0, 0) ∧ n ≤ c ∧ c ≤ maxLen ∧ cur.size = c * size ∧ cur.toList.take (n * size) = xs ∧ xs.length = n * size
def rowE (v : Value) (e : TypeId) (size : Nat) (xs : List Value) : Heap :=
 match v with
 | .slice (some a) n c => [.ob a.block (RowP e size n c xs)]
 | _ => []
def RowOk (v : Value) (n : Nat) : Prop := (v = .slice none 0 0 ∧ n = 0) ∨ ∃ g c, v = .slice (some ⟨g, 0, none⟩) n c
def SlOk (A : Option Addr) (n : Nat) : Prop := (A = none ∧ n = 0) ∨ ∃ g o, A = some ⟨g, o, none⟩
def roE (A : Option Addr) (xs : List Value) : Heap :=
 match A with
 | some a => [.ro a.block a.off xs]
 | none => []
theorem SlOk.some {A : Option Addr} {n : Nat} (h : SlOk A n) (hn : 0 < n) : ∃ g o, A = Option.some ⟨g, o, none⟩ := by
 rcases h with ⟨_, rfl⟩ | h
 ·omega
 ·exact h
theorem rowE_wr (v : Value) (e : TypeId) (size : Nat) (xs : List Value) : (rowE v e size xs).filter Ent.wr = rowE v e size xs := by
 unfold rowE
 split <;> rfl
theorem RowOk.nil : RowOk (.slice none 0 0) 0 := .inl ⟨rfl, rfl⟩
theorem RowOk.form {v : Value} {n : Nat} (h : RowOk v n) : ∃ A c, v = .slice A n c ∧ SlOk A n := by
 rcases h with ⟨rfl, rfl⟩ | ⟨g, c, rfl⟩
 ·exact ⟨none, 0, rfl, .inl ⟨rfl, rfl⟩⟩
 ·exact ⟨_, c, rfl, .inr ⟨g, 0, rfl⟩⟩
theorem RowOk.some {v : Value} {n : Nat} (h : RowOk v n) (hn : 0 < n) : ∃ g c, v = .slice (Option.some ⟨g, 0, none⟩) n c := by
 rcases h with ⟨_, rfl⟩ | h
 ·omega
 ·exact h
theorem RowOk.mk (g n c : Nat) : RowOk (.slice (Option.some ⟨g, 0, none⟩) n c) n := .inr ⟨g, c, rfl⟩
theorem HLe.sub {H' H : Heap} (h : H'.Sublist H) : HLe H' H := fun _ _ _ hw => hw.sub h
theorem HLe.trans {a b c : Heap} (h : HLe a b) (k : HLe b c) : HLe a c := fun _ _ _ hw => h _ _ _ (k _ _ _ hw)
theorem Enters.mk {P : Program} {f : FuncId} {fn : Func} (hf : P.funcs[f]? = some fn) (hn : (fn.name == "runtime.NumGoroutine") = false) (hb : fn.body.isNone = false) : Enters P f := ⟨fn, hf, hn, hb⟩
theorem Fn.of_bel {P : Program} {f : FuncId} {vs : List Value} {v : Value} (hE : Enters P f) (h : ∀ w, Calls P f vs.toArray w fun e w' => e = .returned v ∧ Bel w w') : Fn P f vs [] fun u _ => u = v :=
 ⟨hE, fun w hw => (h w).mono fun e w' ⟨he, hb⟩ => ⟨v, [], he, rfl, ⟨Only.of_bel hb, by simp, List.Pairwise.nil⟩⟩⟩
theorem Fn.of_same {P : Program} {f : FuncId} {vs : List Value} {v : Value} (hE : Enters P f) (h : ∀ w, Calls P f vs.toArray w fun e w' => e = .returned v ∧ w = w') : Fn P f vs [] fun u _ => u = v :=
 Fn.of_bel hE fun w => (h w).mono fun e w' ⟨he, hb⟩ => ⟨he, hb ▸ Bel.refl w⟩
section
variable {w0 w w' : World} {Wr : List Nat} {H H1 : Heap} {size n m c g o i : Nat} {e : TypeId} {xs : List Value} {A : Option Addr} {v : Value}
theorem rd_own (hH : H[i]? = some (.own g e xs)) (hl : xs.length = n * size) (hw : Sat w0 Wr H w) : Rd w size (some ⟨g, 0, none⟩) n xs :=
 ⟨hl, fun h => (by cases h), fun _ => ⟨g, 0, rfl, Ent.lt (hw.mem hH), fun j u hu => by rw [Nat.zero_add]; exact (Ent.cell (hw.mem hH) j).trans hu⟩⟩
theorem rd_ro (hH : H[i]? = some (.ro g o xs)) (hl : xs.length = n * size) (hw : Sat w0 Wr H w) : Rd w size (some ⟨g, o, none⟩) n xs :=
 ⟨hl, fun h => (by cases h), fun _ => ⟨g, o, rfl, (hw.mem hH).1, (hw.mem hH).2⟩⟩
theorem rd_row (hH : H[i]? = some (.ob g (RowP e size n c xs))) (hw : Sat w0 Wr H w) : Rd w size (some ⟨g, 0, none⟩) n xs := by
 obtain ⟨ob, h1, cur, rfl, h2, h3, h4, h5, h6⟩ := hw.mem hH
 refine ⟨h6, fun h => (by cases h), fun _ => ⟨g, 0, rfl, Ent.lt (hw.mem hH), fun j u hu => ?_⟩⟩
 rw [Nat.zero_add, cell_of_row w g j cur e (0, 0) h1]
 have hj : j < xs.length := (List.getElem?_eq_some_iff.1 hu).1
 rw [← h5, List.getElem?_take_of_lt (by omega)] at hu
 simpa using hu
theorem rd_nil {A : Option Addr} (hA : A = none) : Rd w size A 0 [] := ⟨by simp, fun _ => rfl, fun h => absurd h (by omega)⟩
theorem rd_roE (hA : SlOk A n) (hH : ∀ x ∈ roE A xs, x ∈ H) (hl : xs.length = n * size) (hw : Sat w0 Wr H w) : Rd w size A n xs := by
 rcases hA with ⟨rfl, rfl⟩ | ⟨g, o, rfl⟩
 ·exact ⟨hl, fun _ => rfl, fun h => absurd h (by omega)⟩
 ·obtain ⟨i, hi⟩ := List.mem_iff_getElem?.1 (hH _ List.mem_cons_self)
  exact rd_ro hi hl hw
theorem rd_rowE (hv : RowOk (.slice A n c) n) (hl : xs.length = n * size) (hH : ∀ x ∈ rowE (.slice A n c) e size xs, x ∈ H) (hw : Sat w0 Wr H w) : Rd w size A n xs := by
 rcases hv with ⟨h, rfl⟩ | ⟨g, c', h⟩
 ·injection h with h1; subst h1
  exact ⟨hl, fun _ => rfl, fun h => absurd h (by omega)⟩
 ·injection h with h1 h2 h3; subst h1; subst h3
  obtain ⟨i, hi⟩ := List.mem_iff_getElem?.1 (hH _ List.mem_cons_self)
  exact rd_row hi hw
theorem own_of_sat {H1 : Heap} (hv : RowOk v n) (hl : xs.length = n * size) (hw : Sat w0 Wr (rowE v e size xs ++ H1) w) : w.ownsRow 0 e size v n xs := by
 rcases hv with ⟨rfl, rfl⟩ | ⟨g, c, rfl⟩
 ·exact ⟨hl, .inl ⟨rfl, rfl⟩⟩
 ·obtain ⟨ob, h1, cur, rfl, h2, h3, h4, h5, h6⟩ := hw.mem (i := 0) (e := .ob g (RowP e size n c xs)) rfl
  exact ⟨hl, .inr ⟨g, c, cur, rfl, Nat.zero_le _, h1, h2, h3, h4, h5⟩⟩
theorem row_of_own {base : Nat} (h : w.ownsRow base e size v n xs) : RowOk v n ∧ (∀ g c, v = .slice (some ⟨g, 0, none⟩) n c → base ≤ g ∧ (Ent.ob g (RowP e size n c xs)).holds w) := by
 obtain ⟨hl, h | ⟨g, cap, cur, rfl, hb, hh, h1, h2, h3, h4⟩⟩ := h
 ·obtain ⟨rfl, rfl⟩ := h
  exact ⟨.inl ⟨rfl, rfl⟩, fun g c hv => by cases hv⟩
 ·refine ⟨.inr ⟨g, cap, rfl⟩, fun g' c hv => ?_⟩
  injection hv with hv1 hv2 hv3
  injection hv1 with hv1
  injection hv1 with hv1
  subst hv1; subst hv3
  exact ⟨hb, _, hh, cur, rfl, h1, h2, h3, h4, hl⟩
theorem Sat.row (h : Sat w0 Wr H w) (hb : Bel w w') (ho : w'.ownsRow w.heap.size e size v n xs) : Sat w0 Wr (rowE v e size xs ++ H) w' := by
 obtain ⟨h1, h2⟩ := row_of_own ho
 rcases h1 with ⟨rfl, rfl⟩ | ⟨g, c, rfl⟩
 ·exact h.bel hb
 ·obtain ⟨h3, h4⟩ := h2 g c rfl
  exact h.fresh h4 hb h3
theorem Bel.emp (w : World) : Bel { w with heap := #[] } w := ⟨rfl, rfl, rfl, Nat.zero_le _, fun k hk => by simp at hk⟩
theorem Sat.app {H1 : Heap} {v' : Value} {n' : Nat} {ys : List Value} (h : Sat w0 Wr (rowE v e size xs ++ H1) w) (hv : RowOk v n) (ho : w'.ownsRow 0 e size v' n' ys) (hg : w.grownBy w' v.ownBlock) (hb : v'.ownBlock = v.ownBlock ∨ v'.ownBlock = some w.heap.size) :
  Sat w0 Wr (rowE v' e size ys ++ H1) w' := by
 obtain ⟨h1, h2⟩ := row_of_own ho
 have hsub : Sat w0 Wr H1 w := h.sub (List.sublist_append_right _ _)
 have hrest : ∀ x ∈ H1, some x.g ≠ v.ownBlock := fun x hx => by
  rcases hv with ⟨rfl, rfl⟩ | ⟨g, c, rfl⟩
  ·exact fun hh => by cases hh
  ·intro hh
   have hgx : x.g = g := by simpa [Value.ownBlock] using hh
   have := (List.pairwise_append.1 h.sep).2.2 (.ob g (RowP e size n c xs)) List.mem_cons_self x hx
   exact this rfl hgx.symm
 have hvg : ∀ k, v.ownBlock = some k → k ∈ Wr ∨ w0.heap.size ≤ k := fun k hk => by
  rcases hv with ⟨rfl, rfl⟩ | ⟨g, c, rfl⟩
  ·cases hk
  ·have : g = k := by simpa [Value.ownBlock] using hk
   subst this
   exact (h.ents (.ob g (RowP e size n c xs)) (List.mem_append_left _ List.mem_cons_self)).2 rfl
 have honly : Only Wr w0 w' := by
  refine ⟨hg.os.trans h.only.os, hg.tape.trans h.only.tape, hg.output.trans h.only.output, Nat.le_trans h.only.size hg.size, fun i hi hn => ?_⟩
  refine (hg.block i (Nat.lt_of_lt_of_le hi h.only.size) (fun hh => ?_)).trans (h.only.block i hi hn)
  rcases hvg i hh.symm with h3 | h3
  ·exact hn h3
  ·omega
 have hkeep : ∀ x ∈ H1, x.holds w' ∧ (x.wr = true → x.g ∈ Wr ∨ w0.heap.size ≤ x.g) := fun x hx => by
  have hx1 := hsub.ents x hx
  exact ⟨Ent.keep hx1.1 hg.size (hg.block _ (Ent.lt hx1.1) (hrest x hx)), hx1.2⟩
 rcases h1 with ⟨rfl, rfl⟩ | ⟨g', c', rfl⟩
 ·exact ⟨honly, hkeep, hsub.sep⟩
 ·have h4 := (h2 g' c' rfl).2
  have hb' : some g' = v.ownBlock ∨ g' = w.heap.size := by
   rcases hb with hb | hb
   ·exact .inl (by simpa [Value.ownBlock] using hb)
   ·exact .inr (by simpa [Value.ownBlock] using hb)
  refine ⟨honly, ?_, List.Pairwise.cons ?_ hsub.sep⟩
  ·intro x hx
   rcases List.mem_cons.1 hx with rfl | hx
   ·refine ⟨h4, fun _ => ?_⟩
    rcases hb' with hb' | hb'
    ·exact hvg g' hb'.symm
    ·exact .inr (by show w0.heap.size ≤ g'; rw [hb']; exact h.only.size)
   ·exact hkeep x hx
  ·intro x hx _
   show g' ≠ x.g
   rcases hb' with hb' | hb'
   ·exact fun hh => hrest x hx (hh ▸ hb')
   ·have := Ent.lt (hsub.ents x hx).1
    omega
end
section
variable {P : Program} {N : Frm} {w0 : World} {Wr : List Nat} {ops : Array Oper} {rest : List Oper} {fr : Fr} {H H1 : Heap} {Z : Fr → Heap → Prop}
variable {d ty : Nat} {pos : String} {after : Array Edge}
theorem sx_append {t e : TypeId} {size bytes n m c : Nat} {s x : Operand} {v : Value} {xs news : List Value} {A : Option Addr} (hE : ElemOk P t e size bytes) (hs : ev fr s = some v) (hv : RowOk v n) (hl : xs.length = n * size) (hx : ev fr x = some (.slice A m c))
  (hr : ∀ w, Sat w0 Wr H w → Rd w size A m news) (h1 : news.all Value.oneCell' = true) (h63 : n + m ≤ maxLen) (hby : (n + m) * bytes ≤ 140737488355328) (hH : HLe (rowE v e size xs ++ H1) H) (hN : Nat.ble (d + 1) N.n = true)
  (h : ∀ v', RowOk v' (n + m) → sx P N w0 Wr ops rest ((d, v') :: fr) (rowE v' e size (xs ++ news) ++ H1) Z) :
  sx P N w0 Wr ops (⟨some d, .call { callee := .builtin .append, args := #[s, x], argTypes := #[t, t] }, ty, pos, after, none⟩ :: rest) fr H Z := by
 refine sx_make (R := fun v' H' => RowOk v' (n + m) ∧ H' = rowE v' e size (xs ++ news) ++ H1) hN (fun a w ha hw => ?_) (fun v' H' hR => by obtain ⟨h2, rfl⟩ := hR; exact h v' h2)
 have hw' := hH _ _ _ hw
 have hown := own_of_sat hv hl hw'
 obtain ⟨v', w', hrun, h2, h3, h4, h5⟩ := run_app (P := P) (W0 := { w with heap := #[] }) (ty := ty) (c := c) hE (Bel.emp w) (Nat.le_refl _) (Nat.zero_le _) hown (hr w hw) (fun u hu => List.all_eq_true.1 h1 u hu) h63 hby
 refine ⟨v', w', _, ?_, ⟨(row_of_own h2).1, rfl⟩, hw'.app hv h2 h4 h5⟩
 simp only [execOp, resolve, List.map_toArray, List.map_cons, List.map_nil, ha.eval hs, ha.eval hx, Sem.run_bind, Sem.run_pure, Result.andThen_ok, invoke, builtin, hrun]
theorem sx_callR {f : FuncId} {xs : List Operand} {vs : List Value} {ts : Array TypeId} {e : TypeId} {size n : Nat} {ys : List Value} (hE : Enters P f) (hx : evs fr xs = some vs) (hN : Nat.ble (d + 1) N.n = true)
  (hc : ∀ w, Sat w0 Wr H w → Calls P f vs.toArray w fun x w' => ∃ A c, x = .returned (.slice A n c) ∧ w'.ownsRow w.heap.size e size (.slice A n c) n ys ∧ (A = none → n = 0 ∧ c = 0) ∧ Bel w w')
  (h : ∀ v, RowOk v n → sx P N w0 Wr ops rest ((d, v) :: fr) (rowE v e size ys ++ H) Z) :
  sx P N w0 Wr ops (⟨some d, .call { callee := .value (.func f), args := xs.toArray, argTypes := ts }, ty, pos, after, none⟩ :: rest) fr H Z :=
 sx_callW (R := fun v H' => RowOk v n ∧ H' = rowE v e size ys ++ H) hE hx hN (fun w hw => (hc w hw).mono fun x w' he => by
  obtain ⟨A, c, rfl, h1, _, h2⟩ := he
  exact ⟨_, _, rfl, ⟨(row_of_own h1).1, rfl⟩, hw.row h2 h1⟩) (fun v H' hR => by obtain ⟨h1, rfl⟩ := hR; exact h v h1)
theorem sx_loadRd {t : TypeId} {x : Operand} {g o q n size m : Nat} {xs : List Value} {agg : Bool} {v : Value} (k : Nat) (hx : ev fr x = some (ptr g q)) (hq : q = o + k) (hr : ∀ w, Sat w0 Wr H w → Rd w size (some ⟨g, o, none⟩) n xs) (hn0 : 0 < n) (ht : tyAgg P t = some agg) (hn : tySize P t = some m) (hv : rdV agg m xs k = some v) (hN : Nat.ble (d + 1) N.n = true)
  (h : sx P N w0 Wr ops rest ((d, v) :: fr) H Z) : sx P N w0 Wr ops (⟨some d, .load t x, ty, pos, after, none⟩ :: rest) fr H Z :=
 jE3 v hN (fun a w ha hw => by
  subst hq
  obtain ⟨g', o', hA, hlt, hc⟩ := (hr w hw).2.2 hn0
  injection hA with hA
  injection hA with h1 h2 _
  subst h1; subst h2
  simp only [execOp, Instr.loadAt, ha.eval hx, ptr, Instr.sureAddr, Sem.run_bind, Sem.run_pure, Result.andThen_ok]
  have : (loadVar t ⟨g, o + k, none⟩).run P w = .ok v w := by
   unfold loadVar
   simp only [Sem.run_bind, run_isAgg ht, Result.andThen_ok]
   cases agg with
   | false => simp [load, Sem.run, hc k v hv]
   | true =>
    simp only [rdV, cond_true] at hv
    cases hb : Nat.ble (k + m) xs.length with
    | false => rw [hb] at hv; cases hv
    | true =>
     rw [hb] at hv
     obtain rfl := Option.some.inj hv
     have hle := Nat.le_of_ble_eq_true hb
     simp only [if_true, Sem.run_bind, jB2 hn, Result.andThen_ok, loadCells]
     rw [run_loadCells (P := P) ⟨g, o + k, none⟩ m 0 #[] ((xs.drop k).take m) (by simp; omega) (fun j u hu => by
      have e : Addr.add ⟨g, o + k, none⟩ (0 + j) = ⟨g, o + (k + j), none⟩ := by rw [jH6]; congr 1; omega
      rw [e]
      refine hc _ _ ?_
      rw [List.getElem?_take] at hu
      split at hu
      ·rw [← hu, List.getElem?_drop]
      ·cases hu)]
     simp
  rw [this]
  rfl) h
theorem sx_strB {s t : TypeId} {x : Operand} {A : Option Addr} {n c : Nat} {l : List UInt8} {e : TypeId} (hs : P.underlying s = some (.slice e)) (he : P.underlying e = some (.int .u8)) (ht : P.underlying t = some .string) (hx : ev fr x = some (.slice A n c))
  (hr : ∀ w, Sat w0 Wr H w → Rd w 1 A n (bv l)) (hN : Nat.ble (d + 1) N.n = true)
  (h : sx P N w0 Wr ops rest ((d, .string (str l)) :: fr) H Z) : sx P N w0 Wr ops (⟨some d, .convert s t x, ty, pos, after, none⟩ :: rest) fr H Z :=
 jE3 _ hN (fun a w ha hw => by
  simp only [execOp, ha.eval hx, Sem.run_bind, run_str (hr w hw) s e t hs he ht, Result.andThen_ok, Sem.run_pure]) h
theorem sx_convB (i : Nat) {t e e' : TypeId} {x : Operand} {g n c : Nat} {cs : List Value} (ht : P.underlying t = some (.slice e)) (he : P.underlying e = some (.int .u8)) (hx : ev fr x = some (.slice (some ⟨g, 0, none⟩) n c)) (hH : H[i]? = some (.own g e' cs)) (hN : Nat.ble (d + 1) N.n = true)
  (h : sx P N w0 Wr ops rest ((d, .slice (some ⟨g, 0, none⟩) n c) :: fr) (H.set i (.ro g 0 cs)) Z) : sx P N w0 Wr ops (⟨some d, .convert t t x, ty, pos, after, none⟩ :: rest) fr H Z := by
 refine sx_make (R := fun v H' => v = .slice (some ⟨g, 0, none⟩) n c ∧ H' = H.set i (.ro g 0 cs)) hN (fun a w ha hw => ?_) (fun v H' hR => by obtain ⟨rfl, rfl⟩ := hR; exact h)
 have hm := hw.mem hH
 have hm' : w.heap[g]? = some (.cells cs.toArray e' (0, 0)) := hm
 have hsh : w.shape? g = some (e', cs.length) := by simp [World.shape?, hm']
 refine ⟨_, w.freeze ⟨g, cs.length, none⟩ 1, _, ?_, ⟨rfl, rfl⟩, hw.turn hH rfl (e' := .ro g 0 cs) rfl ?_ ?_⟩
 ·simp [execOp, ha.eval hx, convert, Sem.run_bind, run_underlying ht, run_underlying he, markStringish, shape, freeze, Sem.run, hsh]
 ·refine ⟨rfl, rfl, rfl, by simp [World.freeze], fun k _ hk => ?_⟩
  have hk' : g ≠ k := fun e => hk (by simp [Ent.g, e])
  simp [World.freeze, Array.getElem?_modify, hk']
 ·have hl := Ent.lt hm
  refine ⟨by simpa [World.freeze, Ent.g] using hl, fun j u hu => ?_⟩
  have hh : (w.freeze ⟨g, cs.length, none⟩ 1).heap[g]? = some (.cells cs.toArray e' (cs.length, cs.length + 1)) := by
   simp [World.freeze, Array.getElem?_modify, hm']
  rw [Nat.zero_add]
  simp only [World.cell?, hh]
  simpa using hu
theorem sx_appendFull {t e : TypeId} {size bytes n cap m c : Nat} {s x : Operand} {b b' : Addr} {xs news : List Value} (hE : ElemOk P t e size bytes) (hs : ev fr s = some (.slice (some b) n cap)) (hx : ev fr x = some (.slice (some b') m c))
  (hr : ∀ w, Sat w0 Wr H w → Rd w size (some b) n xs) (hr' : ∀ w, Sat w0 Wr H w → Rd w size (some b') m news) (hn0 : 0 < n) (hm0 : 0 < m) (hfull : cap < n + m) (h63 : n + m ≤ maxLen) (hby : (n + m) * bytes ≤ 140737488355328) (hN : Nat.ble (d + 1) N.n = true)
  (h : ∀ v', RowOk v' (n + m) → sx P N w0 Wr ops rest ((d, v') :: fr) (rowE v' e size (xs ++ news) ++ H) Z) :
  sx P N w0 Wr ops (⟨some d, .call { callee := .builtin .append, args := #[s, x], argTypes := #[t, t] }, ty, pos, after, none⟩ :: rest) fr H Z := by
 refine sx_make (R := fun v' H' => RowOk v' (n + m) ∧ H' = rowE v' e size (xs ++ news) ++ H) hN (fun a w ha hw => ?_) (fun v' H' hR => by obtain ⟨h2, rfl⟩ := hR; exact h v' h2)
 obtain ⟨ht, i, z, hi, hz, hsize, hbs, hzs, hsz⟩ := hE
 have cells : ∀ {A : Addr} {k : Nat} {ys : List Value}, Rd w size (some A) k ys → 0 < k → ys.length = k * size ∧ ∀ j u, ys[j]? = some u → w.cell? (A.add j) = some u := fun hR hk => by
  obtain ⟨g, o, hA, _, hc⟩ := hR.2.2 hk
  obtain rfl := Option.some.inj hA
  exact ⟨hR.1, fun j u hu => by rw [jH6]; exact hc j u hu⟩
 obtain ⟨l1, c1⟩ := cells (hr w hw) hn0
 obtain ⟨l2, c2⟩ := cells (hr' w hw) hm0
 obtain ⟨v', w', hrun, h2, h3⟩ := run_append_arg_grows (P := P) w t ty e i z size bytes ht hi hz hsize hbs hzs hsz b n cap xs l1 c1 b' m c news l2 c2 hfull h63 hby
 refine ⟨v', w', _, ?_, ⟨(row_of_own h2).1, rfl⟩, hw.row ⟨h3.os, h3.tape, h3.output, h3.size, fun k hk => h3.block k hk (by simp)⟩ h2⟩
 simp only [execOp, resolve, List.map_toArray, List.map_cons, List.map_nil, ha.eval hs, ha.eval hx, Sem.run_bind, Sem.run_pure, Result.andThen_ok, invoke, builtin, hrun]
end
end Go.Proofs.YtkojkeabelckjaaGreatDoor
namespace Go.Proofs.YtkojkeabelckjaaGreatDoor
open Go.RowKit
section
variable {P : Program} {N : Frm} {w0 : World} {Wr : List Nat} {ops : Array Oper} {rest : List Oper} {fr : Fr} {H : Heap} {Z : Fr → Heap → Prop}
variable {d ty : Nat} {pos : String} {after : Array Edge}
theorem sq_loadRd {t : TypeId} {x : Operand} {g o q n size m : Nat} {xs : List Value} {agg : Bool} {v : Value} (k : Nat) (hx : ev fr x = some (ptr g q)) (hq : q = o + k) (hr : ∀ w, Sat w0 Wr H w → Rd w size (some ⟨g, o, none⟩) n xs) (hn0 : 0 < n) (ht : tyAgg P t = some agg) (hn : tySize P t = some m) (hv : rdV agg m xs k = some v) (hN : Nat.ble (d + 1) N.n = true)
  (h : sq P N w0 Wr ops rest ((d, v) :: fr) H Z) : sq P N w0 Wr ops (⟨some d, .load t x, ty, pos, after, none⟩ :: rest) fr H Z :=
 sq_val v hN (fun a w ha hw => by
  subst hq
  obtain ⟨g', o', hA, hlt, hc⟩ := (hr w hw).2.2 hn0
  injection hA with hA
  injection hA with h1 h2 _
  subst h1; subst h2
  simp only [execOp, Instr.loadAt, ha.eval hx, ptr, Instr.sureAddr, Sem.run_bind, Sem.run_pure, Result.andThen_ok]
  have : (loadVar t ⟨g, o + k, none⟩).run P w = .ok v w := by
   unfold loadVar
   simp only [Sem.run_bind, run_isAgg ht, Result.andThen_ok]
   cases agg with
   | false => simp [load, Sem.run, hc k v hv]
   | true =>
    simp only [rdV, cond_true] at hv
    cases hb : Nat.ble (k + m) xs.length with
    | false => rw [hb] at hv; cases hv
    | true =>
     rw [hb] at hv
     obtain rfl := Option.some.inj hv
     have hle := Nat.le_of_ble_eq_true hb
     simp only [if_true, Sem.run_bind, jB2 hn, Result.andThen_ok, loadCells]
     rw [run_loadCells (P := P) ⟨g, o + k, none⟩ m 0 #[] ((xs.drop k).take m) (by simp; omega) (fun j u hu => by
      have e : Addr.add ⟨g, o + k, none⟩ (0 + j) = ⟨g, o + (k + j), none⟩ := by rw [jH6]; congr 1; omega
      rw [e]
      refine hc _ _ ?_
      rw [List.getElem?_take] at hu
      split at hu
      ·rw [← hu, List.getElem?_drop]
      ·cases hu)]
     simp
  rw [this]
  rfl) h
theorem sq_strB {s t : TypeId} {x : Operand} {A : Option Addr} {n c : Nat} {l : List UInt8} {e : TypeId} (hs : P.underlying s = some (.slice e)) (he : P.underlying e = some (.int .u8)) (ht : P.underlying t = some .string) (hx : ev fr x = some (.slice A n c))
  (hr : ∀ w, Sat w0 Wr H w → Rd w 1 A n (bv l)) (hN : Nat.ble (d + 1) N.n = true)
  (h : sq P N w0 Wr ops rest ((d, .string (str l)) :: fr) H Z) : sq P N w0 Wr ops (⟨some d, .convert s t x, ty, pos, after, none⟩ :: rest) fr H Z :=
 sq_val _ hN (fun a w ha hw => by
  simp only [execOp, ha.eval hx, Sem.run_bind, run_str (hr w hw) s e t hs he ht, Result.andThen_ok, Sem.run_pure]) h
end
end Go.Proofs.YtkojkeabelckjaaGreatDoor
namespace Go.Proofs.YtkojkeabelckjaaGreatDoor
open Go.RowKit
def Wp (P : Program) (ops : Array Oper) (K : Act → Prop) : List Oper → Act → Prop
 | [], a => K a
 | o :: r, a => ∃ v, YAll P ops o v a ∧ Wp P ops K r (a.put o.dst v)
def sp (P : Program) (N : Frm) (w0 : World) (Wr : List Nat) (ops : Array Oper) (l : List Oper) (fr : Fr) (H : Heap) (Z : Fr → Heap → Prop) : Prop :=
 ∀ (K : Act → Prop), (∀ fr' a, Z fr' H → FrOk N fr' a → K a) → ∀ a, FrOk N fr a → Wp P ops K l a
section
variable {P : Program} {N : Frm} {w0 : World} {Wr : List Nat} {ops : Array Oper} {rest : List Oper} {fr : Fr} {H : Heap} {Z : Fr → Heap → Prop}
variable {d ty : Nat} {pos : String} {after : Array Edge}
theorem sp_nil (h : Z fr H) : sp P N w0 Wr ops [] fr H Z := fun _ hK a ha => hK _ a h ha
theorem sp_val {op : Op} {d ty : Nat} {pos : String} {after : Array Edge} (v : Value) (hN : Nat.ble (d + 1) N.n = true)
  (hrun : ∀ (a : Act) (w : World), FrOk N fr a → True → (execOp a.eval ⟨some d, op, ty, pos, after, none⟩).run P w = .ok (.value v) w)
  (h : sp P N w0 Wr ops rest ((d, v) :: fr) H Z) : sp P N w0 Wr ops (⟨some d, op, ty, pos, after, none⟩ :: rest) fr H Z :=
 fun K hK a ha => ⟨v, fun w => .inl ⟨rfl, hrun a w ha trivial⟩, h K hK _ (ha.put hN v)⟩
theorem sp_fieldAddr {s i : Nat} {x : Operand} {g o off n o' : Nat} {b : Bool} (hx : ev fr x = some (ptr g o)) (hf : tyF P s i = some (off, n, b)) (ho : o + off = o') (hN : Nat.ble (d + 1) N.n = true)
  (h : sp P N w0 Wr ops rest ((d, ptr g o') :: fr) H Z) : sp P N w0 Wr ops (⟨some d, .fieldAddr s x i, ty, pos, after, none⟩ :: rest) fr H Z :=
 sp_val _ hN (fun a w ha _ => by
  subst ho
  unfold tyF at hf
  cases hu : P.underlying s with
  | none => simp [hu] at hf
  | some dd =>
   cases dd <;> simp only [hu] at hf <;> try cases hf
   rename_i fs
   cases hi : fs[i]? with
   | none => simp [hi] at hf
   | some f =>
    simp only [hi, Option.bind_some] at hf
    cases hs : tySize P f.type with
    | none => simp [hs] at hf
    | some m =>
     cases hb : tyAgg P f.type with
     | none => simp [hs, hb] at hf
     | some bb =>
      simp only [hs, hb, Option.bind_some] at hf
      split at hf
      ·cases hf
      ·rename_i hm
       simp only [Option.some.injEq, Prod.mk.injEq] at hf
       obtain ⟨rfl, rfl, rfl⟩ := hf
       have e : Addr.add ⟨g, o, none⟩ f.offset = ⟨g, o + f.offset, none⟩ := by unfold Addr.add; split <;> simp_all
       simp only [execOp, Instr.fieldAt, ha.eval hx, ptr, Sem.run_bind, run_underlying hu, Result.andThen_ok, hi, Instr.sureAddr, Sem.run_pure, fieldPlace, jB2 hs, hm, if_false, e]) h
theorem sp_indexAddrA {t e n g o len : Nat} {x y : Operand} {k : IntKind} {i : Int} (o' : Nat) (ht : P.underlying t = some (.array len e)) (hs : tySize P e = some n) (hx : ev fr x = some (ptr g o)) (hy : ev fr y = some (.int k i)) (hi : 0 ≤ i ∧ i < len) (ho : o + i.toNat * n = o') (hN : Nat.ble (d + 1) N.n = true)
  (h : sp P N w0 Wr ops rest ((d, ptr g o') :: fr) H Z) : sp P N w0 Wr ops (⟨some d, .indexAddr t x y, ty, pos, after, none⟩ :: rest) fr H Z :=
 sp_val _ hN (fun a w ha _ => by
  subst ho
  simp only [execOp, Instr.indexAt, ha.eval hx, ha.eval hy, asIntOf, Sem.run_bind, Sem.run_pure, run_underlying ht, Result.andThen_ok, ptr, Instr.sureAddr, if_pos hi, jB2 hs, jH6]) h
theorem wpOp_any {Q Q' : Exit → Act → World → Prop} {i : Nat} {o : Oper} {K : Act → World → Prop} {a : Act} {w : World} (hi : ops[i]? = some o) (h : wpOp P ops (QN Q) i K a w) : wpOp P ops (QN Q') i K a w := by
 rw [wpOp_iff hi] at h ⊢
 split
 ·rename_i hw
  rw [if_pos hw] at h
  unfold Oper.wp at h ⊢
  cases hr : (execOp a.eval o).run P w with
  | ok n w' =>
   rw [hr] at h
   cases n <;> simp only [Oper.upon] at h ⊢ <;> try exact h
   refine Calls.mono h fun e w'' he => ?_
   cases e with
   | returned x => exact he
   | panicked c => cases he.1
   | outgrown => exact (QN_out he).elim
  | halt x w' =>
   rw [hr] at h
   cases x <;> simp only [Oper.upon] at h ⊢ <;> first | exact h | (cases h.1)
 ·rename_i hw
  rw [if_neg hw] at h
  exact h
end
section
variable {P : Program} {N : Frm} {w0 : World} {Wr : List Nat} {fr : Fr} {H : Heap} {Q : Exit → Act → World → Prop}
end
end Go.Proofs.YtkojkeabelckjaaGreatDoor
namespace Go.Proofs.YtkojkeabelckjaaGreatDoor
open Go.RowKit
section
variable {P : Program} {ops : Array Oper} {Q : Exit → Act → World → Prop} {C : World → Prop} {a b : Act} {w : World} {i j : Nat} {o oi oj : Oper} {v u : Value}
def YC (P : Program) (ops : Array Oper) (C : World → Prop) (o : Oper) (v : Value) (a : Act) : Prop := ∀ w, C w → YAt P ops o v a w
def vst (P : Program) (ops : Array Oper) (C : World → Prop) (Q : Exit → Act → World → Prop) (x : Nat × Bool) (K : Act → World → Prop) (a : Act) (w : World) : Prop :=
 match x.2 with
 | true => ∃ o v, ops[x.1]? = some o ∧ YC P ops C o v a ∧ K (a.put o.dst v) w
 | false => wpOp P ops (QN Q) x.1 (fun a w' => C w' ∧ K a w') a w
def Wv (P : Program) (ops : Array Oper) (C : World → Prop) (Q : Exit → Act → World → Prop) : List (Nat × Bool) → Act → World → Prop
 | [], a, w => QN Q .normal a w
 | x :: r, a, w => vst P ops C Q x (Wv P ops C Q r) a w
theorem vst_mono {x : Nat × Bool} {K K' : Act → World → Prop} (h : ∀ a w, K a w → K' a w) (hh : vst P ops C Q x K a w) : vst P ops C Q x K' a w := by
 unfold vst at hh ⊢
 split
 ·rename_i hx
  rw [hx] at hh
  obtain ⟨o, v, h1, h2, h3⟩ := hh
  exact ⟨o, v, h1, h2, h _ _ h3⟩
 ·rename_i hx
  rw [hx] at hh
  exact wpOp_mono (fun a w ⟨hc, hk⟩ => ⟨hc, h a w hk⟩) hh
theorem vst_op {x : Nat × Bool} {K : Act → World → Prop} (hC : C w) (hh : vst P ops C Q x K a w) : wpOp P ops (QN Q) x.1 (fun a w' => C w' ∧ K a w') a w := by
 unfold vst at hh
 split at hh
 ·obtain ⟨o, v, h1, h2, h3⟩ := hh
  exact (h2 w hC).wp h1 ⟨hC, h3⟩
 ·exact hh
theorem vst_swap {x y : Nat × Bool} {K : Act → World → Prop} (hi : ops[x.1]? = some oi) (hj : ops[y.1]? = some oj) (hap : oi.apart ops oj = true) (hsi : ∀ cs b, oi.op ≠ .select cs b) (hsj : ∀ cs b, oj.op ≠ .select cs b)
  (hc : x.2 = true ∨ y.2 = true) (h : vst P ops C Q x (vst P ops C Q y K) a w) : vst P ops C Q y (vst P ops C Q x K) a w := by
 obtain ⟨h1, h2, h3⟩ := Oper.apart_spec hap
 have h4 : ∀ t, oj.dst = some t → oi.dst ≠ some t := fun t ht hi' => h2 t hi' ht
 obtain ⟨i, bi⟩ := x
 obtain ⟨j, bj⟩ := y
 cases bi <;> cases bj
 ·simp at hc
 ·simp only [vst] at h ⊢
  have h' := wpOp_near hi h
  by_cases hv : ∃ v, YC P ops C oj v a
  ·obtain ⟨v, hv⟩ := hv
   refine ⟨oj, v, hj, hv, ?_⟩
   rw [wpOp_put hi hsi h3 h4]
   refine wpOp_mono (fun b w' hb => ?_) h'
   obtain ⟨⟨hC', o, u, e, hu, hk⟩, hn⟩ := hb
   rw [hj] at e; obtain rfl := Option.some.inj e
   have : u = v := (hu w' hC').uniq ((hv w' hC').near hn hsj h1)
   exact ⟨hC', this ▸ hk⟩
  ·refine (wpOp_false hi (wpOp_mono (fun b w' hb => ?_) h')).elim
   obtain ⟨⟨hC', o, u, e, hu, hk⟩, hn⟩ := hb
   rw [hj] at e; obtain rfl := Option.some.inj e
   exact hv ⟨u, fun w'' hC'' => (hu w'' hC'').back hn hsj h1⟩
 ·simp only [vst] at h ⊢
  obtain ⟨o, v, e, hv, hk⟩ := h
  rw [hi] at e; obtain rfl := Option.some.inj e
  rw [wpOp_put hj hsj h1 h2] at hk
  exact wpOp_mono (fun b w' ⟨⟨hC', hb⟩, hn⟩ => ⟨hC', oi, v, hi, fun w'' hC'' => (hv w'' hC'').near hn hsi h3, hb⟩) (wpOp_near hj hk)
 ·simp only [vst] at h ⊢
  obtain ⟨o, v, e, hv, o', u, e', hu, hk⟩ := h
  rw [hi] at e; obtain rfl := Option.some.inj e
  rw [hj] at e'; obtain rfl := Option.some.inj e'
  exact ⟨oj, u, hj, fun w'' hC'' => (hu w'' hC'').back ⟨v, rfl⟩ hsj h1, oi, v, hi, fun w'' hC'' => (hv w'' hC'').near ⟨u, rfl⟩ hsi h3, by rw [← Act.put_comm a v u h2]; exact hk⟩
def MayV (ops : Array Oper) (x y : Nat × Bool) : Prop := ∃ oi oj, ops[x.1]? = some oi ∧ ops[y.1]? = some oj ∧ oi.apart ops oj = true ∧ (x.2 = true ∨ y.2 = true)
theorem v_front (hsel : ∀ (j : Nat) (o : Oper) cs b, ops[j]? = some o → o.op ≠ .select cs b) {y : Nat × Bool} {r : List (Nat × Bool)} : ∀ (p : List (Nat × Bool)) (a : Act) (w : World),
  (∀ x ∈ p, MayV ops x y) → Wv P ops C Q (p ++ y :: r) a w → vst P ops C Q y (Wv P ops C Q (p ++ r)) a w
 | [], a, w, _, h => h
 | x :: p, a, w, hp, h => by
  obtain ⟨oi, oj, h1, h2, h3, h4⟩ := hp x List.mem_cons_self
  have h5 : vst P ops C Q x (vst P ops C Q y (Wv P ops C Q (p ++ r))) a w := vst_mono (fun b w' hb => v_front hsel p b w' (fun k hk => hp k (List.mem_cons_of_mem _ hk)) hb) h
  exact vst_swap h1 h2 h3 (fun cs b => hsel x.1 oi cs b h1) (fun cs b => hsel y.1 oj cs b h2) h4 h5
theorem any_of_v (hsel : ∀ (j : Nat) (o : Oper) cs b, ops[j]? = some o → o.op ≠ .select cs b) (hedge : ∀ (j : Nat) (o : Oper), ops[j]? = some o → ∀ e ∈ o.after, Region.binds .any e = true → e.on < ops.size) :
  ∀ (n : Nat) (ord : List (Nat × Bool)) (listed : Array Bool) (a : Act) (w : World), ord.length = n → C w → Left ops (ord.map Prod.fst) listed →
  (ord.Pairwise fun x y => Dep ops x.1 y.1 ∨ MayV ops x y) → Wv P ops C Q ord a w → wpAny P .any ops (QN Q) n listed a w := by
 intro n
 induction n with
 | zero =>
  intro ord listed a w hl hC hL hp h
  obtain rfl := List.eq_nil_of_length_eq_zero hl
  refine ⟨List.eq_nil_iff_forall_not_mem.2 fun j hj => ?_, h⟩
  obtain ⟨h0, o, ho, _⟩ := mem_ready.1 hj
  have := (hL.mem j (Array.getElem?_eq_some_iff.1 ho).1).1 h0
  simp at this
 | succ n ih =>
  intro ord listed a w hl hC hL hp h
  refine ⟨fun hnil => ?_, fun j hj => ?_⟩
  ·exfalso
   match ord, hl with
   | x :: r, _ =>
    have := hL.first hedge
    rw [hnil] at this
    cases this
  ·have hdeps := hL.deps hedge hj
   obtain ⟨h0, o, ho, hall⟩ := mem_ready.1 hj
   have hjm := (hL.mem j (Array.getElem?_eq_some_iff.1 ho).1).1 h0
   obtain ⟨bj, hjb⟩ := mem_fst hjm
   obtain ⟨p, r, rfl⟩ := List.append_of_mem hjb
   have hpp := List.pairwise_append.1 hp
   have hswap : ∀ x ∈ p, MayV ops x (j, bj) := fun x hx => by
    rcases hpp.2.2 x hx (j, bj) List.mem_cons_self with hd | hd
    ·exact absurd (List.mem_map.2 ⟨x, List.mem_append_left _ hx, rfl⟩) (hdeps x.1 hd)
    ·exact hd
   have hL' : Left ops ((p ++ r).map Prod.fst) (listed.setIfInBounds j true) := by
    rw [List.map_append]
    exact Left.step (by simpa using hL) hedge hj
   refine wpOp_mono (fun b w' hb => ih (p ++ r) _ b w' (by simp at hl ⊢; omega) hb.1 hL' ?_ hb.2) (vst_op hC (v_front hsel p a w hswap h))
   exact List.pairwise_append.2 ⟨hpp.1, (List.pairwise_cons.1 hpp.2.1).2, fun x hx y hy => hpp.2.2 x hx y (List.mem_cons_of_mem _ hy)⟩
def vB (ops : Array Oper) (A : List (List Nat)) : List (Nat × Bool) → Bool
 | [] => true
 | x :: r => (r.all fun y => (A.getD y.1 []).contains x.1 || (apB ops x.1 y.1 && (x.2 || y.2))) && vB ops A r
theorem vB_ok {A : List (List Nat)} (hA : ∀ j i, i ∈ A.getD j [] → Dep ops i j) : ∀ {l : List (Nat × Bool)}, vB ops A l = true → l.Pairwise fun x y => Dep ops x.1 y.1 ∨ MayV ops x y
 | [], _ => List.Pairwise.nil
 | x :: r, h => by
  simp only [vB, Bool.and_eq_true] at h
  refine List.Pairwise.cons (fun y hy => ?_) (vB_ok hA h.2)
  have := List.all_eq_true.1 h.1 y hy
  simp only [Bool.or_eq_true, Bool.and_eq_true] at this
  rcases this with h1 | ⟨h1, h2⟩
  ·exact .inl (hA _ _ (by simpa using h1))
  ·obtain ⟨oi, oj, e1, e2, e3⟩ := apB_ok h1
   exact .inr ⟨oi, oj, e1, e2, e3, h2⟩
def calmB (l : List Oper) (ls : List (Nat × Bool)) : Bool :=
 Region.noSelect l.toArray && Nat.beq ls.length l.length && decide (ls.map Prod.fst).Nodup && extB l.toArray [] (ls.map Prod.fst) && vB l.toArray (ancs l) ls
theorem wp_region_calm {N : Frm} {id : Nat} {l : List Oper} {a : Act} {w : World} (ls : List (Nat × Bool)) (hm : P.follows .mixedOrders = true) (hB : calmB l ls = true) (hC : C w.drew) (h : Wv P l.toArray C Q ls a w.drew) : wq P N (.region id l.toArray true) Q a w := by
 simp only [calmB, Bool.and_eq_true, decide_eq_true_eq] at hB
 obtain ⟨⟨⟨⟨hsel, hlen⟩, hnd⟩, hext⟩, hpairs⟩ := hB
 have hlen := Nat.eq_of_beq_eq_true hlen
 obtain ⟨he1, he2⟩ := ext_ok hext (by simp) hnd
 have hall : ∀ k, k < l.length → k ∈ ls.map Prod.fst := all_in l.length _ hnd (by simpa using hlen) (fun x hx => by simpa using he2 x hx)
 have hedge : ∀ (j : Nat) (o : Oper), l.toArray[j]? = some o → ∀ e ∈ o.after, Region.binds .any e = true → e.on < l.toArray.size := fun j o ho e he hb =>
  ext_edges _ _ hext (by simp) j (hall j (by simpa using (Array.getElem?_eq_some_iff.1 ho).1)) o ho e he hb
 refine wq_any hm ?_
 have hA := ancs_ok l
 have := any_of_v (P := P) (Q := Q) (C := C) (Region.noSelect_spec hsel) hedge ls.length ls (Array.replicate l.toArray.size false) a w.drew rfl hC
  ⟨hnd, by simp, he2, fun k hk => by
   have h1 : k ∈ ls.map Prod.fst := hall k (by simpa using hk)
   have hk' : k < l.length := by simpa using hk
   have h2 : (Array.replicate l.toArray.size false).getD k true = false := by simp [Array.getD_eq_getD_getElem?, hk']
   exact ⟨fun _ => h1, fun _ => h2⟩, he1, fun j o ho hj => absurd (hall j (by simpa using (Array.getElem?_eq_some_iff.1 ho).1)) hj⟩
  (vB_ok hA hpairs) h
 have e : ls.length = l.toArray.size := by simpa using hlen
 rw [e] at this
 exact this
end
def tv (P : Program) (N : Frm) (w0 : World) (Wr : List Nat) (ops : Array Oper) (e0 : Ent) (xs : List (Nat × Bool)) (fr : Fr) (H : Heap) (Z : Fr → Heap → Prop) : Prop :=
 ∀ (Q : Exit → Act → World → Prop), (∀ fr' H' a w, Z fr' H' → FrOk N fr' a → Sat w0 Wr H' w → Q .normal a w) → ∀ a w, FrOk N fr a → Sat w0 Wr H w → Wv P ops e0.holds Q xs a w
section
variable {P : Program} {N : Frm} {w0 : World} {Wr : List Nat} {ops : Array Oper} {fr : Fr} {H : Heap} {Z : Fr → Heap → Prop} {e0 : Ent}
variable {d ty : Nat} {pos : String} {after : Array Edge}
theorem tv_nil (h : Z fr H) : tv P N w0 Wr ops e0 [] fr H Z := fun _ hQ a w ha hw => ⟨rfl, hQ _ _ a w h ha hw⟩
theorem tv_p {i : Nat} {o : Oper} {xs : List (Nat × Bool)} (ho : ops[i]? = some o) (h : sp P N w0 Wr ops [o] fr H fun fr' H' => tv P N w0 Wr ops e0 xs fr' H' Z) : tv P N w0 Wr ops e0 ((i, true) :: xs) fr H Z :=
 fun Q hQ a w ha hw => by
  obtain ⟨v, hv, hk⟩ := h (fun a => Wv P ops e0.holds Q xs a w) (fun fr' a ht hf => ht Q hQ a w hf hw) a ha
  exact ⟨o, v, ho, fun w _ => hv w, hk⟩
theorem tv_load {t : TypeId} {x : Operand} {g o i : Nat} {e : TypeId} {cs : List Value} {agg : Bool} {n : Nat} {v : Value} {xs : List (Nat × Bool)} (ho : ops[i]? = some ⟨some d, .load t x, ty, pos, after, none⟩) (hx : ev fr x = some (ptr g o)) (ht : tyAgg P t = some agg) (hn : tySize P t = some n) (hv : rdV agg n cs o = some v) (hN : Nat.ble (d + 1) N.n = true)
  (h : tv P N w0 Wr ops (.own g e cs) xs ((d, v) :: fr) H Z) : tv P N w0 Wr ops (.own g e cs) ((i, true) :: xs) fr H Z :=
 fun Q hQ a w ha hw => ⟨_, v, ho, fun w hc => .inl ⟨rfl, by
  have hc := Ent.cell hc
  simp only [execOp, Instr.loadAt, ha.eval hx, ptr, Instr.sureAddr, Sem.run_bind, Sem.run_pure, Result.andThen_ok]
  rw [run_loadVar ht hn hv (fun j u hu => (hc j).trans hu)]
  rfl⟩, h Q hQ _ w (ha.put hN v) hw⟩
theorem tv_g (k : Nat) {i : Nat} {o : Oper} {xs : List (Nat × Bool)} (ho : ops[i]? = some o) (h : sx P N w0 Wr ops [o] fr H fun fr' H' => H'[k]? = some e0 ∧ tv P N w0 Wr ops e0 xs fr' H' Z) : tv P N w0 Wr ops e0 ((i, false) :: xs) fr H Z :=
 fun Q hQ a w ha hw => by
  have h1 := h (QN fun _ a w => e0.holds w ∧ Wv P ops e0.holds Q xs a w) (fun fr' H' a w ht hf hS => ⟨rfl, hS.mem ht.1, ht.2 Q hQ a w hf hS⟩) a w ha hw
  show wpOp P ops (QN Q) i (fun a w' => e0.holds w' ∧ Wv P ops e0.holds Q xs a w') a w
  refine wpOp_any (Q := fun _ a w => e0.holds w ∧ Wv P ops e0.holds Q xs a w) ho ?_
  unfold wpOp
  simp only [ho]
  unfold wpList at h1
  split
  ·rename_i hw'
   rw [if_pos hw'] at h1
   exact h1.imp (Oper.wp_mono fun a w hh => hh.2) id
  ·rename_i hw'
   rw [if_neg hw'] at h1
   exact h1.2
theorem awv_region {Q : Exit → Act → World → Prop} {id : Nat} {l : List Oper} (k : Nat) (ls : List (Nat × Bool)) (hm : P.follows .mixedOrders = true) (hB : calmB l ls = true) (hk : H[k]? = some e0)
  (h : ∀ Z : Fr → Heap → Prop, (∀ fr H, nx N w0 Wr fr H Q .normal → Z fr H) → tv P N w0 Wr l.toArray e0 ls fr H Z) : awp P N w0 Wr (.region id l.toArray true) fr H Q :=
 fun a w ha hw => wp_region_calm (C := e0.holds) ls hm hB (hw.drew.mem hk)
  (h (fun fr H => nx N w0 Wr fr H Q .normal) (fun _ _ h => h) Q (fun fr' H' a w hz hf hs => hz a w hf hs) a w.drew ha hw.drew)
theorem awv_seq_region {Q : Exit → Act → World → Prop} {id : Nat} {l : List Oper} {y : Code} (k : Nat) (ls : List (Nat × Bool)) (hm : P.follows .mixedOrders = true) (hB : calmB l ls = true) (hk : H[k]? = some e0)
  (h : ∀ Z : Fr → Heap → Prop, (∀ fr H, awp P N w0 Wr y fr H Q → Z fr H) → tv P N w0 Wr l.toArray e0 ls fr H Z) : awp P N w0 Wr (.seq (.region id l.toArray true) y) fr H Q :=
 aS (awv_region k ls hm hB hk fun Z hZ => h Z fun fr H hy => hZ fr H hy)
end
end Go.Proofs.YtkojkeabelckjaaGreatDoor
namespace Go.Proofs.YtkojkeabelckjaaGreatDoor
open Go.RowKit
section
variable {w0 w : World} {Wr : List Nat} {H : Heap} {g i : Nat} {e : TypeId} {l : List UInt8}
end
section
variable {P : Program} {N : Frm} {w0 : World} {Wr : List Nat} {ops : Array Oper} {rest : List Oper} {fr : Fr} {H H1 : Heap} {Z : Fr → Heap → Prop}
variable {d ty : Nat} {pos : String} {after : Array Edge}
theorem sq_offU {op : Op} {j t : Nat} {b' : Bool} {oj : Oper} (hj : ops[j]? = some oj) (ht : oj.dst = some t) (hb : lk fr t = some undef) (hN : Nat.ble (d + 1) N.n = true)
  (h : sq P N w0 Wr ops rest ((d, undef) :: fr) H Z) : sq P N w0 Wr ops (⟨some d, op, ty, pos, after, some (j, b')⟩ :: rest) fr H Z :=
 fun Q hQ a ha => by
  have hy : yielded ops a.tmps j = none := by
   have := ha.at_ t _ hb
   simp [yielded, hj, ht, this, undef]
  unfold wpQuiet
  have h2 : Region.wanted (⟨some d, op, ty, pos, after, some (j, b')⟩ : Oper) (yielded ops a.tmps) = false := by simp [Region.wanted, hy]
  rw [if_neg (by simp [h2])]
  exact h Q hQ _ (ha.put hN undef)
end
end Go.Proofs.YtkojkeabelckjaaGreatDoor
