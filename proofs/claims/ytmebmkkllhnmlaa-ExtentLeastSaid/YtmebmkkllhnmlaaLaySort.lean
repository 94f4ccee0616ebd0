/- slices.SortFunc at items, by the library's contract. No conditions but of lengths. -/
import Derived.Test.YtmebmkkllhnmlaaGch1
import Derived.Shelf.SlSortCmp.WholeK
import Derived.Shelf.SlSortCmp.NoneTotal
import Derived.WalkKit
namespace Go.Proofs.Ytmebmkkllhnmlaa
open Go.RowKit Go.Sort
set_option linter.unusedVariables false
set_option linter.unusedSimpArgs false
set_option maxRecDepth 100000
def sortI_rho : Go.Shelf.Ren := ⟨fun n => match n with | 0 => 0 | 1 => 1 | 2 => 2 | 6 => 58 | 14 => 75 | 15 => 76 | 20 => 81 | 21 => 82 | 22 => 83 | 23 => 84 | 24 => 85 | 25 => 86 | 26 => 87 | 27 => 88 | 28 => 89 | 29 => 74 | 46 => 90 | 47 => 91 | 48 => 92 | 49 => 93 | 50 => 94 | 57 => 95 | 60 => 96 | 61 => 97 | 62 => 98 | 63 => 99 | 64 => 100 | 65 => 101 | 66 => 102 | 67 => 103 | 68 => 104 | 69 => 105 | 70 => 106 | 71 => 107 | 72 => 108 | 73 => 109 | 74 => 110 | 75 => 113 | _ => 0, fun n => match n with | 0 => 0 | 1 => 1 | 2 => 2 | 3 => 3 | 4 => 4 | 5 => 5 | 6 => 6 | 7 => 7 | 8 => 8 | 9 => 9 | 10 => 10 | 11 => 11 | 12 => 12 | 13 => 13 | 14 => 14 | 15 => 15 | 16 => 16 | 17 => 17 | 18 => 18 | 19 => 19 | 20 => 20 | 21 => 21 | 22 => 27 | 23 => 116 | 24 => 82 | 25 => 118 | 37 => 137 | 38 => 138 | 39 => 132 | 44 => 147 | 45 => 148 | 46 => 149 | 47 => 150 | 48 => 151 | 49 => 152 | 50 => 108 | 51 => 153 | 52 => 154 | 53 => 155 | 54 => 100 | 55 => 66 | 66 => 156 | 67 => 157 | 68 => 158 | 69 => 159 | 70 => 160 | 71 => 161 | 76 => 162 | 77 => 140 | 78 => 163 | 81 => 164 | 82 => 165 | 83 => 166 | 84 => 167 | 85 => 168 | 86 => 169 | 87 => 170 | 88 => 171 | 89 => 172 | 90 => 173 | 91 => 174 | 92 => 175 | 93 => 176 | 94 => 177 | 95 => 178 | 96 => 179 | _ => 0, fun n => match n with | _ => 0⟩
theorem sortI0 : SlLaysF0.n6 Try.prog sortI_rho where
  mixed := by kernel_rfl
  f6 := ⟨"slices.SortFunc[[]gazetteer/chart.Item,gazetteer/chart.Item]", by decide, by kernel_rfl⟩
  f14 := ⟨"slices.pdqsortCmpFunc[gazetteer/chart.Item]", by decide, by kernel_rfl⟩
  f15 := by kernel_rfl
  f20 := ⟨"slices.insertionSortCmpFunc[gazetteer/chart.Item]", by decide, by kernel_rfl⟩
  f21 := ⟨"slices.heapSortCmpFunc[gazetteer/chart.Item]", by decide, by kernel_rfl⟩
  f22 := ⟨"slices.breakPatternsCmpFunc[gazetteer/chart.Item]", by decide, by kernel_rfl⟩
  f23 := ⟨"slices.choosePivotCmpFunc[gazetteer/chart.Item]", by decide, by kernel_rfl⟩
  f24 := ⟨"slices.reverseRangeCmpFunc[gazetteer/chart.Item]", by decide, by kernel_rfl⟩
  f25 := ⟨"slices.partialInsertionSortCmpFunc[gazetteer/chart.Item]", by decide, by kernel_rfl⟩
  f26 := ⟨"slices.partitionEqualCmpFunc[gazetteer/chart.Item]", by decide, by kernel_rfl⟩
  f27 := ⟨"slices.partitionCmpFunc[gazetteer/chart.Item]", by decide, by kernel_rfl⟩
  f28 := by kernel_rfl
  f29 := by kernel_rfl
  f46 := ⟨"slices.siftDownCmpFunc[gazetteer/chart.Item]", by decide, by kernel_rfl⟩
  f47 := by kernel_rfl
  f48 := by kernel_rfl
  f49 := ⟨"slices.medianAdjacentCmpFunc[gazetteer/chart.Item]", by decide, by kernel_rfl⟩
  f50 := ⟨"slices.medianCmpFunc[gazetteer/chart.Item]", by decide, by kernel_rfl⟩
  f57 := ⟨"slices.order2CmpFunc[gazetteer/chart.Item]", by decide, by kernel_rfl⟩
  t0 := by kernel_rfl
  a0 := fun w => by kernel_rfl
  z0 := fun w => by kernel_rfl
  v0 := fun w => by kernel_rfl
  t3 := by kernel_rfl
  a3 := fun w => by kernel_rfl
  z3 := fun w => by kernel_rfl
  v3 := fun w => by kernel_rfl
  t4 := by kernel_rfl
  a4 := fun w => by kernel_rfl
  z4 := fun w => by kernel_rfl
  v4 := fun w => by kernel_rfl
  t5 := by kernel_rfl
  a5 := fun w => by kernel_rfl
  z5 := fun w => by kernel_rfl
  v5 := fun w => by kernel_rfl
  t9 := by kernel_rfl
  a9 := fun w => by kernel_rfl
  z9 := fun w => by kernel_rfl
  v9 := fun w => by kernel_rfl
  t22 := by kernel_rfl
  a22 := fun w => by kernel_rfl
  z22 := fun w => by kernel_rfl
  v22 := fun w => by kernel_rfl
  t25 := by kernel_rfl
  a25 := fun w => by kernel_rfl
  z25 := fun w => by kernel_rfl
  v25 := fun w => by kernel_rfl
  t39 := by kernel_rfl
  a39 := fun w => by kernel_rfl
  z39 := fun w => by kernel_rfl
  v39 := fun w => by kernel_rfl
  t45 := by kernel_rfl
  a45 := fun w => by kernel_rfl
  z45 := fun w => by kernel_rfl
  v45 := fun w => by kernel_rfl
  t46 := by kernel_rfl
  a46 := fun w => by kernel_rfl
  z46 := fun w => by kernel_rfl
  v46 := fun w => by kernel_rfl
  t50 := by kernel_rfl
  a50 := fun w => by kernel_rfl
  z50 := fun w => by kernel_rfl
  v50 := fun w => by kernel_rfl
  t53 := by kernel_rfl
  a53 := fun w => by kernel_rfl
  z53 := fun w => by kernel_rfl
  v53 := fun w => by kernel_rfl
  t55 := by kernel_rfl
  a55 := fun w => by kernel_rfl
  z55 := fun w => by kernel_rfl
  v55 := fun w => by kernel_rfl
  t66 := by kernel_rfl
  a66 := fun w => by kernel_rfl
  z66 := fun w => by kernel_rfl
  v66 := fun w => by kernel_rfl
  t70 := by kernel_rfl
  a70 := fun w => by kernel_rfl
  z70 := fun w => by kernel_rfl
  v70 := fun w => by kernel_rfl
  t76 := by kernel_rfl
  a76 := fun w => by kernel_rfl
  z76 := fun w => by kernel_rfl
  v76 := fun w => by kernel_rfl
  t77 := by kernel_rfl
  a77 := fun w => by kernel_rfl
  z77 := fun w => by kernel_rfl
  v77 := fun w => by kernel_rfl
theorem of1_is (x y : It) (W : World) : Calls Try.prog 59 #[x.val, y.val] W fun e w' => e = .returned (iq (cmpQ x.id y.id)) ∧ ∃ q os', w' = grow (W.drewN q) os' := by
  have hcon := cmp_is x.id y.id
  generalize cmpQ x.id y.id = r at hcon ⊢
  go_enter Try.func59, Try.ntmps59
  go_wp2_with (go_at_call 60; refine (hcon _).mono ?_; rintro e w' ⟨rfl, rfl⟩)
  go_ret
  exact ⟨rfl, 0, _, by rw [alloc_eq_grow, alloc_eq_grow, grow_grow]; rfl⟩
instance : Inhabited It := ⟨⟨0, []⟩⟩
theorem it_cmpLays (blk off size : Nat) (w : World) : CmpLays Try.prog 59 #[] It.cells 2 (fun x y => cmpQ x.id y.id) blk off size w :=
  fun _ _ _ _ x y => of1_is x y _
theorem it_ltOf (x y : It) : ltOf (fun x y : It => cmpQ x.id y.id) x y = decide (x.id < y.id) := by
  unfold ltOf
  rw [Bool.eq_iff_iff]
  simp [cmpQ_lt]
theorem it_swo : SWO (ltOf fun x y : It => cmpQ x.id y.id) where
  irrefl x := by rw [it_ltOf]; simp
  trans x y z h1 h2 := by rw [it_ltOf] at *; simp at *; omega
  ntrans x y z h1 h2 := by rw [it_ltOf] at *; simp at *; omega
theorem icells_get : ∀ (L : List It) (t : Nat), t < L.length * 2 → (icells L)[t]? = some ((L[t / 2]!).cells)[t % 2]!
  | [], t, h => by simp at h
  | e :: r, 0, _ => by simp
  | e :: r, 1, _ => by simp
  | e :: r, t + 2, h => by
    have h1 := icells_get r t (by simp at h; omega)
    have e1 : (t + 2) / 2 = t / 2 + 1 := by omega
    have e2 : (t + 2) % 2 = t % 2 := by omega
    rw [e1, e2]
    simp only [icells, List.flatMap_cons, It.cells] at h1 ⊢
    simpa using h1
theorem it_flat (L : List It) : (flatK It.cells 2 L.toArray).toList = icells L := by
  refine List.ext_getElem? fun t => ?_
  rcases Nat.lt_or_ge t (L.length * 2) with h | h
  · rw [icells_get L t h]
    have hs : t < (flatK It.cells 2 L.toArray).size := by rw [size_flatK]; simpa using h
    have g := get_flatK It.cells 2 L.toArray t (by simpa using h)
    rw [getElem!_pos _ t hs] at g
    rw [Array.getElem?_toList, Array.getElem?_eq_getElem hs, g]
    simp
  · rw [List.getElem?_eq_none (by simpa using h), List.getElem?_eq_none (by rw [icells_len]; omega)]
theorem enter_sort : Enters Try.prog 58 := Enters.mk Try.func58 (by kernel_rfl) (by kernel_rfl)
theorem sort_fn (g n c : Nat) (L : List It) (hn : n = L.length) (hL : L.length ≤ 1000000) :
    Fn Try.prog 58 [.slice (some ⟨g, 0, none⟩) n c, .func (.func 59) #[] #[]] [.ob g (RowP 82 2 n c (icells L))] fun v H' => v = .tuple #[] ∧ ∃ M : List It, M.Perm L ∧ M.Pairwise (fun a b => a.id ≤ b.id) ∧ H' = [.ob g (RowP 82 2 n c (icells M))] := by
  refine ⟨enter_sort, fun w hw => ?_⟩
  subst hn
  obtain ⟨⟨ob, hob, cur, rfl, hc1, hc2, hc3, hc4, hc5⟩, _⟩ := hw.ents _ List.mem_cons_self
  have hlt : g < w.heap.size := (Array.getElem?_eq_some_iff.1 hob).1
  have eg : ∀ args w, (callFunc 59 args).run Try.prog w = .ok (.enter 59 args) w := enters_of Try.func59 (by kernel_rfl) rfl
  have hH : HoldsK It.cells 2 w g 0 L.toArray := fun j hj => by
    have hj' : j < L.length * 2 := by simpa using hj
    have hjs : j < (flatK It.cells 2 L.toArray).size := hj
    have h1 : (icells L)[j]? = some ((flatK It.cells 2 L.toArray)[j]!) := by
      rw [← it_flat, Array.getElem?_toList, Array.getElem?_eq_getElem hjs, getElem!_pos _ j hjs]
    refine ⟨?_, ?_⟩
    · rw [Nat.zero_add]
      simp only [World.cell?, hob]
      rw [← hc4, List.getElem?_take, if_pos hj'] at h1
      simpa using h1
    · simp [World.frozen?, hob]
  have hcon := AnyQ.slices_SortFunc sortI0 2 (fun w => by kernel_rfl) (fun w => by kernel_rfl) It.cells (fun _ => rfl) (fun x v hv => by simp [It.cells] at hv; rcases hv with rfl | rfl <;> rfl) (fun x y => cmpQ x.id y.id) it_swo 59 #[] g 0 c L.toArray w eg (it_cmpLays g 0 _ w) hH hlt (by simp; omega)
  have hcon' : Calls Try.prog 58 #[.slice (some ⟨g, 0, none⟩) L.length c, .func (.func 59) #[] #[]] w (fun e w' => e = .returned (.tuple #[]) ∧ ∃ d' n os, PermIn 0 L.length L.toArray d' ∧ SortedIn (ltOf fun x y : It => cmpQ x.id y.id) 0 L.length d' ∧ w' = sortWorldK It.cells 2 w g 0 n d' os) := hcon
  refine hcon'.mono fun e w' he => ?_
  obtain ⟨he, d', m, os, hp, hs, rfl⟩ := he
  have hsz : d'.size = L.length := by simpa using hp.1
  have hperm : d'.toList.Perm L := by
    have := hp.2.2
    have e : List.take d'.size L = L := by rw [hsz, List.take_length]
    simpa [← hsz, e] using this
  refine ⟨_, [.ob g (RowP 82 2 L.length c (icells d'.toList))], he, ⟨rfl, d'.toList, hperm, ?_, rfl⟩, ?_⟩
  · refine List.pairwise_iff_getElem.2 fun i j hi hj hij => ?_
    have h1 := hs i j (Nat.zero_le _) hij (by simp at hj ⊢; omega)
    rw [it_ltOf] at h1
    simp at hi hj
    rw [getElem!_pos d' i hi, getElem!_pos d' j hj] at h1
    simpa using h1
  · have hfs : (flatK It.cells 2 d').size = L.length * 2 := by rw [size_flatK, hsz]
    have hfl : (flatK It.cells 2 d').toList = icells d'.toList := by have := it_flat d'.toList; simpa using this
    obtain ⟨cur', hcur'⟩ : ∃ c', putCells id 0 (flatK It.cells 2 d') cur = c' := ⟨_, rfl⟩
    have hcs : cur'.size = c * 2 := by rw [← hcur']; simp [putCells, hc3]
    have hct : cur'.toList.take (L.length * 2) = icells d'.toList := by
      refine List.ext_getElem? fun t => ?_
      rcases Nat.lt_or_ge t (L.length * 2) with h | h
      · have ht : t < cur.size := by omega
        have htf : t < (flatK It.cells 2 d').size := by omega
        rw [List.getElem?_take, if_pos h, Array.getElem?_toList, ← hcur', ← hfl, Array.getElem?_toList]
        simp only [putCells, Array.getElem?_mapIdx, Array.getElem?_eq_getElem ht, Option.map_some, Array.getElem?_eq_getElem htf]
        rw [if_pos ⟨Nat.zero_le _, by omega⟩, Nat.sub_zero, getElem!_pos _ t htf]
        rfl
      · rw [List.getElem?_eq_none (by rw [List.length_take]; omega), List.getElem?_eq_none (by rw [icells_len]; simp; omega)]
    have hblk : ∀ k, k < w.heap.size → (sortWorldK It.cells 2 w g 0 m d' os).heap[k]? = if g = k then some (.cells cur' 82 (0, 0)) else w.heap[k]? := fun k hk => by
      simp only [sortWorldK, grow, putRowK, putRow, mapBlock, Go.Sort.ahead]
      rw [Array.getElem?_append_left (by simpa using hk), Array.getElem?_modify]
      by_cases hgk : g = k
      · subst hgk
        rw [if_pos rfl, if_pos rfl, hob, Option.map_some, onCells, hcur']
      · rw [if_neg hgk, if_neg hgk]
    refine ⟨⟨rfl, rfl, rfl, by simp only [sortWorldK, grow, putRowK, putRow, mapBlock, Go.Sort.ahead, Array.size_append, Array.size_modify]; exact Nat.le_add_right _ _, fun k hk hn => ?_⟩, fun x hx => ?_, List.pairwise_singleton _ _⟩
    · rw [hblk k hk, if_neg (fun h => hn (by subst h; exact (List.mem_cons_self : g ∈ [g])))]
    · obtain rfl := List.mem_singleton.1 hx
      refine ⟨⟨_, ?_, cur', rfl, hc1, hc2, hcs, hct, by rw [icells_len]; simp [hsz]⟩, fun _ => .inl (List.mem_cons_self : g ∈ [g])⟩
      have := hblk g hlt
      rw [if_pos rfl] at this
      exact this
theorem sortE_fn (A : Option Addr) (c : Nat) : Fn Try.prog 58 [.slice A 0 c, .func (.func 59) #[] #[]] [] fun v _ => v = .tuple #[] :=
  Fn.of_same enter_sort fun w => (AnyF.slices_SortFunc_none sortI0 A c (.func (.func 59) #[] #[]) w).mono fun e w' ⟨he, hw⟩ => ⟨he, hw.symm⟩
end Go.Proofs.Ytmebmkkllhnmlaa
