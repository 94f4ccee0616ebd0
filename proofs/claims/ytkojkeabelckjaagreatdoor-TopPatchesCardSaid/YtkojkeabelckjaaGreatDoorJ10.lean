/- Walks and plain laws for this claim (texts LaySort, Zo1, SxC, joined). Each theorem states its own conditions. -/
import Derived.Test.YtkojkeabelckjaaGreatDoorJ09
import Derived.Shelf.SlSortCmp.WholeK
import Derived.Shelf.SlSortCmp.NoneTotal
import Derived.WalkKit
import Derived.Test.YtkojkeabelckjaaGreatDoorJ08
import Derived.Test.YtkojkeabelckjaaGreatDoorJ07
import Derived.Lib.ItoaNum

section
set_option linter.all false
namespace Go.Proofs.YtkojkeabelckjaaGreatDoor
open Go.RowKit Go.Sort
set_option maxRecDepth 100000
def sortI_rho : Go.Shelf.Ren := ⟨fun n => match n with | 0 => 0 | 1 => 1 | 2 => 2 | 6 => 38 | 14 => 80 | 15 => 81 | 20 => 121 | 21 => 122 | 22 => 123 | 23 => 124 | 24 => 125 | 25 => 126 | 26 => 127 | 27 => 128 | 28 => 129 | 29 => 130 | 46 => 159 | 47 => 160 | 48 => 161 | 49 => 162 | 50 => 163 | 57 => 187 | 60 => 246 | 61 => 247 | 62 => 248 | 63 => 249 | 64 => 250 | 65 => 251 | 66 => 252 | 67 => 253 | 68 => 254 | 69 => 255 | 70 => 256 | 71 => 257 | 72 => 258 | 73 => 259 | 74 => 260 | 75 => 270 | _ => 0, fun n => match n with | 0 => 0 | 1 => 1 | 2 => 2 | 3 => 3 | 4 => 4 | 5 => 5 | 6 => 6 | 7 => 7 | 8 => 8 | 9 => 9 | 10 => 10 | 11 => 11 | 12 => 12 | 13 => 13 | 14 => 14 | 15 => 15 | 16 => 16 | 17 => 17 | 18 => 18 | 19 => 19 | 20 => 20 | 21 => 21 | 22 => 25 | 23 => 97 | 24 => 62 | 25 => 99 | 27 => 247 | 37 => 171 | 38 => 172 | 39 => 48 | 42 => 289 | 44 => 236 | 45 => 237 | 46 => 238 | 47 => 239 | 48 => 240 | 49 => 241 | 50 => 101 | 51 => 242 | 52 => 243 | 53 => 112 | 54 => 193 | 55 => 45 | 66 => 268 | 67 => 269 | 68 => 218 | 69 => 270 | 70 => 271 | 71 => 272 | 76 => 296 | 77 => 297 | 78 => 298 | 81 => 126 | 82 => 356 | 83 => 357 | 84 => 358 | 85 => 359 | 86 => 360 | 87 => 148 | 88 => 361 | 89 => 362 | 90 => 363 | 91 => 254 | 92 => 364 | 93 => 365 | 94 => 366 | 95 => 367 | 96 => 290 | _ => 0, fun n => match n with | _ => 0⟩
theorem sortI0 : SlLaysF0.n6 Tryz.prog sortI_rho where
 mixed := by kernel_rfl
 f6 := ⟨"slices.SortFunc[[]gazetteer/chart.Item,gazetteer/chart.Item]", by decide, by kernel_rfl⟩
 f14 := ⟨"slices.pdqsortCmpFunc[gazetteer/chart.Item]", by decide, by kernel_rfl⟩
 f15 := by kernel_rfl
 f20 := ⟨"slices.insertionSortCmpFunc[gazetteer/chart.Item]", by decide, by kernel_rfl⟩
 f21 := ⟨"slices.heapSortCmpFunc[gazetteer/chart.Item]", by decide, by kernel_rfl⟩
 f22 := ⟨"slices.breakPatternsCmpFunc[gazetteer/chart.Item]", by decide, by kernel_rfl⟩
 f23 := ⟨"slices.choosePivotCmpFunc[gazetteer/chart.Item]", by decide, by kernel_rfl⟩
 f24 := ⟨"slices.reverseRangeCmpFunc[gazetteer/chart.Item]", by decide, by kernel_rfl⟩
 f25 := ⟨"slices.partialInsertionSortCmpFunc[gazetteer/chart.Item]", by decide, by kernel_rfl⟩
 f26 := ⟨"slices.partitionEqualCmpFunc[gazetteer/chart.Item]", by decide, by kernel_rfl⟩
 f27 := ⟨"slices.partitionCmpFunc[gazetteer/chart.Item]", by decide, by kernel_rfl⟩
 f28 := by kernel_rfl
 f29 := by kernel_rfl
 f46 := ⟨"slices.siftDownCmpFunc[gazetteer/chart.Item]", by decide, by kernel_rfl⟩
 f47 := by kernel_rfl
 f48 := by kernel_rfl
 f49 := ⟨"slices.medianAdjacentCmpFunc[gazetteer/chart.Item]", by decide, by kernel_rfl⟩
 f50 := ⟨"slices.medianCmpFunc[gazetteer/chart.Item]", by decide, by kernel_rfl⟩
 f57 := ⟨"slices.order2CmpFunc[gazetteer/chart.Item]", by decide, by kernel_rfl⟩
 t0 := by kernel_rfl
 a0 := fun w => by kernel_rfl
 z0 := fun w => by kernel_rfl
 v0 := fun w => by kernel_rfl
 t3 := by kernel_rfl
 a3 := fun w => by kernel_rfl
 z3 := fun w => by kernel_rfl
 v3 := fun w => by kernel_rfl
 t4 := by kernel_rfl
 a4 := fun w => by kernel_rfl
 z4 := fun w => by kernel_rfl
 v4 := fun w => by kernel_rfl
 t5 := by kernel_rfl
 a5 := fun w => by kernel_rfl
 z5 := fun w => by kernel_rfl
 v5 := fun w => by kernel_rfl
 t9 := by kernel_rfl
 a9 := fun w => by kernel_rfl
 z9 := fun w => by kernel_rfl
 v9 := fun w => by kernel_rfl
 t22 := by kernel_rfl
 a22 := fun w => by kernel_rfl
 z22 := fun w => by kernel_rfl
 v22 := fun w => by kernel_rfl
 t25 := by kernel_rfl
 a25 := fun w => by kernel_rfl
 z25 := fun w => by kernel_rfl
 v25 := fun w => by kernel_rfl
 t39 := by kernel_rfl
 a39 := fun w => by kernel_rfl
 z39 := fun w => by kernel_rfl
 v39 := fun w => by kernel_rfl
 t45 := by kernel_rfl
 a45 := fun w => by kernel_rfl
 z45 := fun w => by kernel_rfl
 v45 := fun w => by kernel_rfl
 t46 := by kernel_rfl
 a46 := fun w => by kernel_rfl
 z46 := fun w => by kernel_rfl
 v46 := fun w => by kernel_rfl
 t50 := by kernel_rfl
 a50 := fun w => by kernel_rfl
 z50 := fun w => by kernel_rfl
 v50 := fun w => by kernel_rfl
 t53 := by kernel_rfl
 a53 := fun w => by kernel_rfl
 z53 := fun w => by kernel_rfl
 v53 := fun w => by kernel_rfl
 t55 := by kernel_rfl
 a55 := fun w => by kernel_rfl
 z55 := fun w => by kernel_rfl
 v55 := fun w => by kernel_rfl
 t66 := by kernel_rfl
 a66 := fun w => by kernel_rfl
 z66 := fun w => by kernel_rfl
 v66 := fun w => by kernel_rfl
 t70 := by kernel_rfl
 a70 := fun w => by kernel_rfl
 z70 := fun w => by kernel_rfl
 v70 := fun w => by kernel_rfl
 t76 := by kernel_rfl
 a76 := fun w => by kernel_rfl
 z76 := fun w => by kernel_rfl
 v76 := fun w => by kernel_rfl
 t77 := by kernel_rfl
 a77 := fun w => by kernel_rfl
 z77 := fun w => by kernel_rfl
 v77 := fun w => by kernel_rfl
theorem of1_is (x y : It) (W : World) : Calls Tryz.prog 39 #[x.val, y.val] W fun e w' => e = .returned (iq (cmpQ x.id y.id)) ∧ ∃ q os', w' = grow (W.drewN q) os' := by
 have hcon := cmp_is x.id y.id
 generalize cmpQ x.id y.id = r at hcon ⊢
 go_enter Tryz.func39, Tryz.ntmps39
 go_wp2_with (go_at_call 40; refine (hcon _).mono ?_; rintro e w' ⟨rfl, rfl⟩)
 go_ret
 exact ⟨rfl, 0, _, by rw [alloc_eq_grow, alloc_eq_grow, grow_grow]; rfl⟩
instance : Inhabited It := ⟨⟨0, []⟩⟩
theorem it_cmpLays (blk off size : Nat) (w : World) : CmpLays Tryz.prog 39 #[] It.cells 2 (fun x y => cmpQ x.id y.id) blk off size w :=
 fun _ _ _ _ x y => of1_is x y _
theorem it_ltOf (x y : It) : ltOf (fun x y : It => cmpQ x.id y.id) x y = decide (x.id < y.id) := by
 unfold ltOf
 rw [Bool.eq_iff_iff]
 simp [cmpQ_lt]
theorem it_swo : SWO (ltOf fun x y : It => cmpQ x.id y.id) where
 irrefl x := by rw [it_ltOf]; simp
 trans x y z h1 h2 := by rw [it_ltOf] at *; simp at *; omega
 ntrans x y z h1 h2 := by rw [it_ltOf] at *; simp at *; omega
theorem icells_get : ∀ (L : List It) (t : Nat), t < L.length * 2 → (jA0 L)[t]? = some ((L[t / 2]!).cells)[t % 2]!
 | [], t, h => by simp at h
 | e :: r, 0, _ => by simp
 | e :: r, 1, _ => by simp
 | e :: r, t + 2, h => by
  have h1 := icells_get r t (by simp at h; omega)
  have e1 : (t + 2) / 2 = t / 2 + 1 := by omega
  have e2 : (t + 2) % 2 = t % 2 := by omega
  rw [e1, e2]
  simp only [jA0, List.flatMap_cons, It.cells] at h1 ⊢
  simpa using h1
theorem it_flat (L : List It) : (flatK It.cells 2 L.toArray).toList = jA0 L := by
 refine List.ext_getElem? fun t => ?_
 rcases Nat.lt_or_ge t (L.length * 2) with h | h
 ·rw [icells_get L t h]
  have hs : t < (flatK It.cells 2 L.toArray).size := by rw [size_flatK]; simpa using h
  have g := get_flatK It.cells 2 L.toArray t (by simpa using h)
  rw [getElem!_pos _ t hs] at g
  rw [Array.getElem?_toList, Array.getElem?_eq_getElem hs, g]
  simp
 ·rw [List.getElem?_eq_none (by simpa using h), List.getElem?_eq_none (by rw [jF4]; omega)]
theorem enter_sort : Enters Tryz.prog 38 := Enters.mk Tryz.func38 (by kernel_rfl) (by kernel_rfl)
theorem sort_fn (g n c : Nat) (L : List It) (hn : n = L.length) (hL : L.length ≤ 1000000) :
  Fn Tryz.prog 38 [.slice (some ⟨g, 0, none⟩) n c, .func (.func 39) #[] #[]] [.ob g (RowP 62 2 n c (jA0 L))] fun v H' => v = .tuple #[] ∧ ∃ M : List It, M.Perm L ∧ M.Pairwise (fun a b => a.id ≤ b.id) ∧ H' = [.ob g (RowP 62 2 n c (jA0 M))] := by
 refine ⟨enter_sort, fun w hw => ?_⟩
 subst hn
 obtain ⟨⟨ob, hob, cur, rfl, hc1, hc2, hc3, hc4, hc5⟩, _⟩ := hw.ents _ List.mem_cons_self
 have hlt : g < w.heap.size := (Array.getElem?_eq_some_iff.1 hob).1
 have eg : ∀ args w, (callFunc 39 args).run Tryz.prog w = .ok (.enter 39 args) w := enters_of Tryz.func39 (by kernel_rfl) rfl
 have hH : HoldsK It.cells 2 w g 0 L.toArray := fun j hj => by
  have hj' : j < L.length * 2 := by simpa using hj
  have hjs : j < (flatK It.cells 2 L.toArray).size := hj
  have h1 : (jA0 L)[j]? = some ((flatK It.cells 2 L.toArray)[j]!) := by
   rw [← it_flat, Array.getElem?_toList, Array.getElem?_eq_getElem hjs, getElem!_pos _ j hjs]
  refine ⟨?_, ?_⟩
  ·rw [Nat.zero_add]
   simp only [World.cell?, hob]
   rw [← hc4, List.getElem?_take, if_pos hj'] at h1
   simpa using h1
  ·simp [World.frozen?, hob]
 have hcon := AnyQ.slices_SortFunc sortI0 2 (fun w => by kernel_rfl) (fun w => by kernel_rfl) It.cells (fun _ => rfl) (fun x v hv => by simp [It.cells] at hv; rcases hv with rfl | rfl <;> rfl) (fun x y => cmpQ x.id y.id) it_swo 39 #[] g 0 c L.toArray w eg (it_cmpLays g 0 _ w) hH hlt (by simp; omega)
 have hcon' : Calls Tryz.prog 38 #[.slice (some ⟨g, 0, none⟩) L.length c, .func (.func 39) #[] #[]] w (fun e w' => e = .returned (.tuple #[]) ∧ ∃ d' n os, PermIn 0 L.length L.toArray d' ∧ SortedIn (ltOf fun x y : It => cmpQ x.id y.id) 0 L.length d' ∧ w' = sortWorldK It.cells 2 w g 0 n d' os) := hcon
 refine hcon'.mono fun e w' he => ?_
 obtain ⟨he, d', m, os, hp, hs, rfl⟩ := he
 have hsz : d'.size = L.length := by simpa using hp.1
 have hperm : d'.toList.Perm L := by
  have := hp.2.2
  have e : List.take d'.size L = L := by rw [hsz, List.take_length]
  simpa [← hsz, e] using this
 refine ⟨_, [.ob g (RowP 62 2 L.length c (jA0 d'.toList))], he, ⟨rfl, d'.toList, hperm, ?_, rfl⟩, ?_⟩
 ·refine List.pairwise_iff_getElem.2 fun i j hi hj hij => ?_
  have h1 := hs i j (Nat.zero_le _) hij (by simp at hj ⊢; omega)
  rw [it_ltOf] at h1
  simp at hi hj
  rw [getElem!_pos d' i hi, getElem!_pos d' j hj] at h1
  simpa using h1
 ·have hfs : (flatK It.cells 2 d').size = L.length * 2 := by rw [size_flatK, hsz]
  have hfl : (flatK It.cells 2 d').toList = jA0 d'.toList := by have := it_flat d'.toList; simpa using this
  obtain ⟨cur', hcur'⟩ : ∃ c', putCells id 0 (flatK It.cells 2 d') cur = c' := ⟨_, rfl⟩
  have hcs : cur'.size = c * 2 := by rw [← hcur']; simp [putCells, hc3]
  have hct : cur'.toList.take (L.length * 2) = jA0 d'.toList := by
   refine List.ext_getElem? fun t => ?_
   rcases Nat.lt_or_ge t (L.length * 2) with h | h
   ·have ht : t < cur.size := by omega
    have htf : t < (flatK It.cells 2 d').size := by omega
    rw [List.getElem?_take, if_pos h, Array.getElem?_toList, ← hcur', ← hfl, Array.getElem?_toList]
    simp only [putCells, Array.getElem?_mapIdx, Array.getElem?_eq_getElem ht, Option.map_some, Array.getElem?_eq_getElem htf]
    rw [if_pos ⟨Nat.zero_le _, by omega⟩, Nat.sub_zero, getElem!_pos _ t htf]
    rfl
   ·rw [List.getElem?_eq_none (by rw [List.length_take]; omega), List.getElem?_eq_none (by rw [jF4]; simp; omega)]
  have hblk : ∀ k, k < w.heap.size → (sortWorldK It.cells 2 w g 0 m d' os).heap[k]? = if g = k then some (.cells cur' 62 (0, 0)) else w.heap[k]? := fun k hk => by
   simp only [sortWorldK, grow, putRowK, putRow, mapBlock, Go.Sort.ahead]
   rw [Array.getElem?_append_left (by simpa using hk), Array.getElem?_modify]
   by_cases hgk : g = k
   ·subst hgk
    rw [if_pos rfl, if_pos rfl, hob, Option.map_some, onCells, hcur']
   ·rw [if_neg hgk, if_neg hgk]
  refine ⟨⟨rfl, rfl, rfl, by simp only [sortWorldK, grow, putRowK, putRow, mapBlock, Go.Sort.ahead, Array.size_append, Array.size_modify]; exact Nat.le_add_right _ _, fun k hk hn => ?_⟩, fun x hx => ?_, List.pairwise_singleton _ _⟩
  ·rw [hblk k hk, if_neg (fun h => hn (by subst h; exact (List.mem_cons_self : g ∈ [g])))]
  ·obtain rfl := List.mem_singleton.1 hx
   refine ⟨⟨_, ?_, cur', rfl, hc1, hc2, hcs, hct, by rw [jF4]; simp [hsz]⟩, fun _ => .inl (List.mem_cons_self : g ∈ [g])⟩
   have := hblk g hlt
   rw [if_pos rfl] at this
   exact this
theorem sortE_fn (A : Option Addr) (c : Nat) : Fn Tryz.prog 38 [.slice A 0 c, .func (.func 39) #[] #[]] [] fun v _ => v = .tuple #[] :=
 Fn.of_same enter_sort fun w => (AnyF.slices_SortFunc_none sortI0 A c (.func (.func 39) #[] #[]) w).mono fun e w' ⟨he, hw⟩ => ⟨he, hw.symm⟩
end Go.Proofs.YtkojkeabelckjaaGreatDoor
end

section
set_option linter.all false
namespace Go.Proofs.YtkojkeabelckjaaGreatDoor
open Go.RowKit
def zoomQ (k : Nat) : Int := if 6004799503160661 ≤ k then -1 else (((Lib.bitLen (3 * k + 1) - 1) / 2 : Nat) : Int)
def base4 : Nat → Nat
 | 0 => 0
 | z + 1 => base4 z + 4 ^ z
theorem base4_eq (z : Nat) : 3 * base4 z + 1 = 4 ^ z := by
 induction z with
 | zero => rfl
 | succ z ih => rw [base4, Nat.pow_succ]; omega
theorem base4_27 : base4 27 = 6004799503160661 := by decide
theorem bitLen_b (x : Nat) (h0 : x ≠ 0) (h : x < 18446744073709551616) : 1 ≤ Lib.bitLen x ∧ 2 ^ (Lib.bitLen x - 1) ≤ x ∧ x < 2 ^ Lib.bitLen x := Lib.bitLenAux_bounds 64 x h h0
theorem pow_mono {a b : Nat} (h : a ≤ b) : 4 ^ a ≤ 4 ^ b := Nat.pow_le_pow_right (by decide) h
theorem base4_mono {a b : Nat} (h : a ≤ b) : base4 a ≤ base4 b := by
 have h1 := base4_eq a
 have h2 := base4_eq b
 have h3 := pow_mono h
 omega
theorem zoom_at {k z : Nat} (hz : z ≤ 26) (h1 : base4 z ≤ k) (h2 : k < base4 (z + 1)) : zoomQ k = (z : Int) := by
 have e1 := base4_eq z
 have e2 := base4_eq (z + 1)
 have e3 : base4 (z + 1) ≤ base4 27 := base4_mono (by omega)
 rw [base4_27] at e3
 unfold zoomQ
 rw [if_neg (by omega)]
 obtain ⟨b1, b2, b3⟩ := bitLen_b (3 * k + 1) (by omega) (by omega)
 have p1 : (4 : Nat) ^ z = 2 ^ (2 * z) := by rw [Nat.pow_mul]
 have p2 : (4 : Nat) ^ (z + 1) = 2 ^ (2 * z + 2) := by rw [show 2 * z + 2 = 2 * (z + 1) by omega, Nat.pow_mul]
 generalize Lib.bitLen (3 * k + 1) = b at b1 b2 b3 ⊢
 have q1 : b - 1 < 2 * z + 2 := (Nat.pow_lt_pow_iff_right (a := 2) (by decide)).1 (by omega)
 have q2 : 2 * z < b := (Nat.pow_lt_pow_iff_right (a := 2) (by decide)).1 (by omega)
 have : (b - 1) / 2 = z := by omega
 rw [this]
theorem zoom_ex {k : Nat} (h : k < 6004799503160661) : ∃ z : Nat, z ≤ 26 ∧ zoomQ k = (z : Int) ∧ base4 z ≤ k ∧ k < base4 (z + 1) := by
 have key : ∀ n, k < base4 n → ∃ z, z < n ∧ base4 z ≤ k ∧ k < base4 (z + 1) := by
  intro n
  induction n with
  | zero => intro h; simp [base4] at h
  | succ n ih =>
   intro h
   rcases Nat.lt_or_ge k (base4 n) with h1 | h1
   ·obtain ⟨z, h2, h3⟩ := ih h1
    exact ⟨z, by omega, h3⟩
   ·exact ⟨n, by omega, h1, h⟩
 obtain ⟨z, h1, h2, h3⟩ := key 27 (by rw [base4_27]; exact h)
 exact ⟨z, by omega, zoom_at (by omega) h2 h3, h2, h3⟩
theorem zoom_fn (k : Nat) (hk : k < 18446744073709551616) : Fn Tryz.prog 108 [uq k] [] fun v _ => v = iq (zoomQ k) := by
 refine Fn.enter (N := 11) Tryz.func108 rfl (by kernel_rfl) rfl (fun w0 => ?_)
 refine aR fun Z hZ => sA rfl rfl <| sN (hZ _ _ ?_)
 refine aF [(0, _)] (Kn.cons rfl (Kn.nil)) ?_
 refine aS ?_
 refine aR fun Z hZ => sM rfl rfl ?_
 first | refine sx_geq rfl rfl rfl ?_ | refine sx_sgeq rfl rfl rfl ?_
 refine sN (hZ _ _ ?_)
 refine aF [(0, _), (4, _)] (kR rfl) ?_
 first | refine aC rfl (fun h => ?_) (fun h => ?_) | refine aS (aC rfl (fun h => ?_) (fun h => ?_))
 ·have h' : 6004799503160661 ≤ k := by simp at h; omega
  rw [show zoomQ k = -1 by unfold zoomQ; rw [if_pos h']]
  refine aR fun Z hZ => sA rfl rfl <| sN (hZ _ _ ?_)
  refine aF [(2, _)] (Kn.cons rfl (Kn.nil)) ?_
  refine aE ?_
  repeat (with_reducible (first | refine nTR ?_ | refine nBR ?_ | refine jE9 ?_))
  exact nR1 rfl rfl rfl
 have h' : ¬ 6004799503160661 ≤ k := by simp at h; omega
 rw [show zoomQ k = (((Lib.bitLen (3 * k + 1) - 1) / 2 : Nat) : Int) by unfold zoomQ; rw [if_neg h']]
 obtain ⟨b1, b2, b3⟩ := bitLen_b (3 * k + 1) (by omega) (by omega)
 obtain ⟨b, hb⟩ : ∃ b, Lib.bitLen (3 * k + 1) = b := ⟨_, rfl⟩
 have hl := clen_fn (3 * k + 1) (by omega)
 have hb64 : b ≤ 64 := by
  have : b - 1 < 64 := (Nat.pow_lt_pow_iff_right (a := 2) (by decide)).1 (by rw [← hb]; omega)
  omega
 rw [hb] at hl b1 ⊢
 refine aK ?_
 repeat (with_reducible (first | refine nBN ?_ | refine nx_scope_normal ?_))
 with_reducible first | refine nN ?_ | refine nx_normalM ?_
 refine aR fun Z hZ => sM rfl rfl ?_
 refine sx_mul rfl rfl ((3 * k : Nat) : Int) (by rw [IntWalk.u64_in _ (by omega)]; omega) rfl ?_
 refine jB8 rfl rfl ((3 * k + 1 : Nat) : Int) (by rw [IntWalk.u64_in _ (by omega)]; omega) rfl ?_
 refine sCP hl rfl rfl ?_
 refine sx_sub rfl rfl ((b - 1 : Nat) : Int) (by rw [IntWalk.i64_in _ (by omega)]; omega) rfl ?_
 refine sx_quo rfl rfl (by omega) (((b - 1) / 2 : Nat) : Int) (by rw [Int.tdiv_eq_ediv_of_nonneg (by omega), IntWalk.i64_in _ (by omega)]; omega) rfl ?_
 refine sA rfl rfl <| sN (hZ _ _ ?_)
 refine aF [(2, _)] (Kn.cons rfl (Kn.nil)) ?_
 refine aE ?_
 repeat (with_reducible (first | refine nTR ?_ | refine nBR ?_ | refine jE9 ?_))
 exact nR1 rfl rfl rfl
section
variable {P : Program} {N : Frm} {w0 w : World} {Wr : List Nat} {ops : Array Oper} {rest : List Oper} {fr : Fr} {H : Heap} {Z : Fr → Heap → Prop} {d ty : Nat} {pos : String} {after : Array Edge}
end
section
variable {P : Program} {Q : Exit → Act → World → Prop} {C : World → Prop}
end
end Go.Proofs.YtkojkeabelckjaaGreatDoor
end
