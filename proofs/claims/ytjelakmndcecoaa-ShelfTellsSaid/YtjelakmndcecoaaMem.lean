/- Words on slices that all walks of this seat share: a slice that reads as a list of values, a row of the call's own, an append onto it. No conditions. -/
import Derived.Test.YtjelakmndcecoaaBase
import Derived.Maps.AppendAt
import Derived.Deep.AppendLies
import Derived.Deep.Onto
import Derived.Laws.OwnMore
namespace Go.Proofs.Ytjelakmndcecoaa
open Go.RowKit
set_option linter.unusedVariables false
set_option linter.unusedSimpArgs false

/-- The slice value '.slice A n c' reads as the cells xs ('size' cells an element). -/
def Rd (w : World) (size : Nat) (A : Option Addr) (n : Nat) (xs : List Value) : Prop :=
  xs.length = n * size ∧ (A = none → n = 0) ∧ (0 < n → ∃ g o, A = some ⟨g, o, none⟩ ∧ g < w.heap.size ∧ ∀ j u, xs[j]? = some u → w.cell? ⟨g, o + j, none⟩ = some u)

section
variable {w w' W0 : World} {size n : Nat} {A : Option Addr} {xs : List Value}
theorem Rd.nil (w : World) (size : Nat) : Rd w size none 0 [] := ⟨by simp, fun _ => rfl, fun h => absurd h (by omega)⟩
theorem Rd.bel (h : Rd w size A n xs) (hb : Bel w w') : Rd w' size A n xs :=
  ⟨h.1, h.2.1, fun hn => by
    obtain ⟨g, o, a, b, c⟩ := h.2.2 hn
    exact ⟨g, o, a, Nat.lt_of_lt_of_le b hb.size, fun j u hu => ((Bel.took hb).1 _ _ b).trans (c j u hu)⟩⟩
theorem Rd.alloc (h : Rd w size A n xs) (o : Obj) : Rd (w.alloc o) size A n xs := h.bel ((Bel.refl w).alloc o)
theorem Rd.drew (h : Rd w size A n xs) : Rd w.drew size A n xs := h
theorem Rd.drewN (h : Rd w size A n xs) (k : Nat) : Rd (w.drewN k) size A n xs := h
theorem Rd.newM (w : World) (cs : Array Value) (t : TypeId) (m : Nat × Nat) (n : Nat) (hs : cs.size = n * size) : Rd (w.alloc (.cells cs t m)) size (some ⟨w.heap.size, 0, none⟩) n cs.toList := by
  refine ⟨by simpa using hs, ?_, ?_⟩
  · intro h; exact absurd h (by simp)
  · intro _
    refine ⟨_, _, rfl, by simp, fun j u hu => ?_⟩
    have hh : (w.alloc (.cells cs t m)).heap[w.heap.size]? = some (.cells cs t m) := by
      show (w.heap.push _)[w.heap.size]? = _
      simp
    simp only [Nat.zero_add]
    rw [cell_of_row _ w.heap.size j cs t m hh]
    simpa using hu
theorem Rd.new (w : World) (cs : Array Value) (t : TypeId) (n : Nat) (hs : cs.size = n * size) : Rd (w.alloc (.cells cs t)) size (some ⟨w.heap.size, 0, none⟩) n cs.toList := Rd.newM w cs t _ n hs
end

/-- The element type of a slice type, as the laws on append ask it. -/
def ElemOk (P : Program) (t e : TypeId) (size bytes : Nat) : Prop :=
  P.underlying t = some (.slice e) ∧ ∃ (i : TypeInfo) (z : Value), P.info? e = some i ∧ i.zero = some z ∧ i.size = size ∧ i.bytes = bytes ∧ z.cells.size = size ∧ 0 < size
theorem ElemOk.mk_ {P : Program} {t e : TypeId} {size bytes : Nat} {z : Value} (ht : P.underlying t = some (.slice e)) (hi : (P.info? e).map (fun i => (i.zero, i.size, i.bytes)) = some (some z, size, bytes))
    (hz : z.cells.size = size) (hs : 0 < size) : ElemOk P t e size bytes := by
  obtain ⟨i, h1, h2, h3, h4⟩ := info_parts hi
  exact ⟨ht, i, z, h1, h2, h3, h4, hz, hs⟩

section
variable {P : Program}
theorem run_app {w W0 : World} {t ty e : TypeId} {size bytes : Nat} (hE : ElemOk P t e size bytes) {base : Nat} (hW : Bel W0 w) (hbase : W0.heap.size ≤ base) (hbw : base ≤ w.heap.size)
    {v : Value} {n : Nat} {xs : List Value} (hown : w.ownsRow base e size v n xs) {A : Option Addr} {m c : Nat} {news : List Value} (hr : Rd w size A m news) (h1 : ∀ u ∈ news, u.oneCell' = true)
    (h63 : n + m ≤ maxLen) (hby : (n + m) * bytes ≤ 140737488355328) :
    ∃ v' w', (Builtin.append_ #[t, t] ty #[v, .slice A m c]).run P w = .ok v' w' ∧ w'.ownsRow base e size v' (n + m) (xs ++ news) ∧ Bel W0 w' ∧ w.grownBy w' v.ownBlock ∧
      (v'.ownBlock = v.ownBlock ∨ v'.ownBlock = some w.heap.size) := by
  obtain ⟨ht, i, z, hi, hz, hsize, hbs, hzs, hsz⟩ := hE
  have bel : ∀ w', w.grownBy w' v.ownBlock → Bel W0 w' := fun w' hg =>
    Below.grown hW hg hW.size (fun k hk => by have := (World.ownsRow.lt hown k hk).1; omega)
  rcases A with _ | ad
  · have hm := hr.2.1 rfl
    subst hm
    have hn : news = [] := List.eq_nil_of_length_eq_zero (by simpa using hr.1)
    subst hn
    refine ⟨v, w, ?_, by simpa using hown, hW, World.grownBy.refl w _, .inl rfl⟩
    rcases hown.2 with ⟨rfl, rfl⟩ | ⟨g, cap, cur, rfl, _, _, hnc, _⟩
    · simp [Builtin.append_, run_underlying ht, sizeOf, typeInfo, hi, Builtin.lenOf, Builtin.firstCells]
    · simp [Builtin.append_, run_underlying ht, sizeOf, typeInfo, hi, Builtin.lenOf, Builtin.firstCells, hnc, storeCells]
  · have hcells : ∀ j u, news[j]? = some u → w.cell? (ad.add j) = some u := fun j u hu => by
      have hj : j < news.length := (List.getElem?_eq_some_iff.1 hu).1
      have hm : 0 < m := by
        rcases Nat.eq_zero_or_pos m with h0 | h0
        · have hl := hr.1
          rw [h0, Nat.zero_mul] at hl
          omega
        · exact h0
      obtain ⟨g, o, ha, _, hc⟩ := hr.2.2 hm
      obtain rfl := Option.some.inj ha
      have := hc j u hu
      unfold Addr.add
      by_cases hj : j = 0
      · subst hj; simpa using this
      · simpa [hj] using this
    obtain ⟨v', w', hrun, h2, h3, _, h5⟩ := run_append_own_at (P := P) w base t ty e i z size bytes ht hi hz hsize hbs hzs hsz v n xs hown ad m c news hr.1 hcells h1 h63 hby hbw
    exact ⟨v', w', hrun, h2, bel _ h3, h3, h5⟩
end

/-- Block g holds just the cells cs of type t, none frozen. -/
def Box (w : World) (g : Nat) (t : TypeId) (cs : Array Value) : Prop := w.heap[g]? = some (.cells cs t (0, 0))
section
variable {w w' : World} {g : Nat} {t : TypeId} {cs : Array Value}
theorem Box.lt (h : Box w g t cs) : g < w.heap.size := by
  rcases Nat.lt_or_ge g w.heap.size with h' | h'
  · exact h'
  · unfold Box at h; rw [Array.getElem?_eq_none h'] at h; cases h
theorem Box.cell (h : Box w g t cs) (i : Nat) : w.cell? ⟨g, i, none⟩ = cs[i]? := cell_of_row w g i cs t (0, 0) h
theorem Box.frozen (h : Box w g t cs) (i : Nat) : w.frozen? ⟨g, i, none⟩ = false := by
  unfold Box at h
  simp [World.frozen?, h]
theorem Box.new (w : World) (t : TypeId) (cs : Array Value) : Box (w.alloc (.cells cs t)) w.heap.size t cs := by
  show (w.heap.push _)[w.heap.size]? = _
  simp
theorem Box.bel (h : Box w g t cs) (hb : Bel w w') : Box w' g t cs := (Below.block hb g h.lt).trans h
theorem Box.drew (h : Box w g t cs) : Box w.drew g t cs := h
theorem Box.alloc (h : Box w g t cs) (o : Obj) : Box (w.alloc o) g t cs := h.bel ((Bel.refl w).alloc o)
theorem Box.set (h : Box w g t cs) (i : Nat) (u : Value) : Box (w.setCell ⟨g, i, none⟩ u) g t (cs.setIfInBounds i u) := by
  unfold Box at h ⊢
  simp [World.setCell, Array.getElem?_modify, h]
theorem Box.far (h : Box w g t cs) {p : Addr} (hp : g ≠ p.block) (u : Value) : Box (w.setCell p u) g t cs := (Below.heap_setCell w p u g hp).trans h
/-- What the walk reads off a box of three cells. -/
theorem Box.three {a b c : Value} (h : Box w g t #[a, b, c]) : w.cell? ⟨g, 0, none⟩ = some a ∧ w.cell? ⟨g, 1, none⟩ = some b ∧ w.cell? ⟨g, 2, none⟩ = some c ∧ (∀ i, w.frozen? ⟨g, i, none⟩ = false) ∧ g < w.heap.size :=
  ⟨h.cell 0, h.cell 1, h.cell 2, h.frozen, h.lt⟩
end
/-- Bytes as the model holds them. -/
def bv (l : List UInt8) : List Value := l.map fun b => .int .u8 (b.toNat : Int)
@[simp, go_sem] theorem str_toList (l : List UInt8) : (str l).toList = l := by rw [ByteArray.toList_eq]; rfl
@[go_sem] theorem str_append (a b : List UInt8) : str a ++ str b = str (a ++ b) := by
  have h : (str a ++ str b).data.toList = a ++ b := by
    rw [ByteArray.data_append]
    simp [str]
  obtain ⟨l, e⟩ := str_of (str a ++ str b)
  rw [e, str_data] at h
  rw [e, h]
@[go_sem] theorem str_extract (l : List UInt8) (i j : Nat) : (str l).extract i j = str ((l.drop i).take (j - i)) := by
  have h : ((str l).extract i j).data.toList = (l.drop i).take (j - i) := by
    rw [ByteArray.data_extract]
    simp [str]
  obtain ⟨m, e⟩ := str_of ((str l).extract i j)
  rw [e, str_data] at h
  rw [e, h]
@[go_sem] theorem str_at (l : List UInt8) (i : Nat) (h : i < (str l).size) : (str l)[i] = l[i]'(by rw [str_size] at h; exact h) := rfl
end Go.Proofs.Ytjelakmndcecoaa
