/- slices.SortFunc at items, by the library's contract. No conditions but of lengths. -/
import Derived.Test.YtahmhcmfeloclaaGreatGch1
import Derived.Shelf.SlSortCmp.WholeK
import Derived.Shelf.SlSortCmp.NoneTotal
import Derived.WalkKit
namespace Go.Proofs.YtahmhcmfeloclaaGreat
open Go.RowKit Go.Sort
set_option linter.unusedVariables false
set_option linter.unusedSimpArgs false
set_option maxRecDepth 100000
def sortI_rho : Go.Shelf.Ren := ⟨fun n => match n with | 0 => 0 | 1 => 1 | 2 => 2 | 6 => 18 | 14 => 29 | 15 => 30 | 20 => 46 | 21 => 47 | 22 => 48 | 23 => 49 | 24 => 50 | 25 => 51 | 26 => 52 | 27 => 53 | 28 => 54 | 29 => 55 | 46 => 74 | 47 => 75 | 48 => 76 | 49 => 77 | 50 => 78 | 57 => 100 | 60 => 116 | 61 => 117 | 62 => 118 | 63 => 119 | 64 => 120 | 65 => 121 | 66 => 122 | 67 => 123 | 68 => 124 | 69 => 125 | 70 => 126 | 71 => 127 | 72 => 128 | 73 => 129 | 74 => 130 | 75 => 134 | _ => 0, fun n => match n with | 0 => 0 | 1 => 1 | 2 => 2 | 3 => 3 | 4 => 4 | 5 => 5 | 6 => 6 | 7 => 7 | 8 => 8 | 9 => 9 | 10 => 10 | 11 => 11 | 12 => 12 | 13 => 13 | 14 => 14 | 15 => 15 | 16 => 16 | 17 => 17 | 18 => 18 | 19 => 19 | 20 => 20 | 21 => 21 | 22 => 33 | 23 => 55 | 24 => 40 | 25 => 57 | 27 => 190 | 37 => 74 | 38 => 75 | 39 => 76 | 42 => 189 | 44 => 110 | 45 => 111 | 46 => 112 | 47 => 113 | 48 => 114 | 49 => 115 | 50 => 116 | 51 => 117 | 52 => 118 | 53 => 95 | 54 => 119 | 55 => 38 | 66 => 149 | 67 => 150 | 68 => 126 | 69 => 151 | 70 => 152 | 71 => 153 | 76 => 174 | 77 => 171 | 78 => 175 | 81 => 192 | 82 => 193 | 83 => 194 | 84 => 195 | 85 => 196 | 86 => 197 | 87 => 163 | 88 => 198 | 89 => 199 | 90 => 200 | 91 => 201 | 92 => 202 | 93 => 203 | 94 => 204 | 95 => 205 | 96 => 206 | _ => 0, fun n => match n with | _ => 0⟩
theorem sortI0 : SlLaysF0.n6 Tryz.prog sortI_rho where
  mixed := by kernel_rfl
  f6 := ⟨"slices.SortFunc[[]gazetteer/chart.Item,gazetteer/chart.Item]", by decide, by kernel_rfl⟩
  f14 := ⟨"slices.pdqsortCmpFunc[gazetteer/chart.Item]", by decide, by kernel_rfl⟩
  f15 := by kernel_rfl
  f20 := ⟨"slices.insertionSortCmpFunc[gazetteer/chart.Item]", by decide, by kernel_rfl⟩
  f21 := ⟨"slices.heapSortCmpFunc[gazetteer/chart.Item]", by decide, by kernel_rfl⟩
  f22 := ⟨"slices.breakPatternsCmpFunc[gazetteer/chart.Item]", by decide, by kernel_rfl⟩
  f23 := ⟨"slices.choosePivotCmpFunc[gazetteer/chart.Item]", by decide, by kernel_rfl⟩
  f24 := ⟨"slices.reverseRangeCmpFunc[gazetteer/chart.Item]", by decide, by kernel_rfl⟩
  f25 := ⟨"slices.partialInsertionSortCmpFunc[gazetteer/chart.Item]", by decide, by kernel_rfl⟩
  f26 := ⟨"slices.partitionEqualCmpFunc[gazetteer/chart.Item]", by decide, by kernel_rfl⟩
  f27 := ⟨"slices.partitionCmpFunc[gazetteer/chart.Item]", by decide, by kernel_rfl⟩
  f28 := by kernel_rfl
  f29 := by kernel_rfl
  f46 := ⟨"slices.siftDownCmpFunc[gazetteer/chart.Item]", by decide, by kernel_rfl⟩
  f47 := by kernel_rfl
  f48 := by kernel_rfl
  f49 := ⟨"slices.medianAdjacentCmpFunc[gazetteer/chart.Item]", by decide, by kernel_rfl⟩
  f50 := ⟨"slices.medianCmpFunc[gazetteer/chart.Item]", by decide, by kernel_rfl⟩
  f57 := ⟨"slices.order2CmpFunc[gazetteer/chart.Item]", by decide, by kernel_rfl⟩
  t0 := by kernel_rfl
  a0 := fun w => by kernel_rfl
  z0 := fun w => by kernel_rfl
  v0 := fun w => by kernel_rfl
  t3 := by kernel_rfl
  a3 := fun w => by kernel_rfl
  z3 := fun w => by kernel_rfl
  v3 := fun w => by kernel_rfl
  t4 := by kernel_rfl
  a4 := fun w => by kernel_rfl
  z4 := fun w => by kernel_rfl
  v4 := fun w => by kernel_rfl
  t5 := by kernel_rfl
  a5 := fun w => by kernel_rfl
  z5 := fun w => by kernel_rfl
  v5 := fun w => by kernel_rfl
  t9 := by kernel_rfl
  a9 := fun w => by kernel_rfl
  z9 := fun w => by kernel_rfl
  v9 := fun w => by kernel_rfl
  t22 := by kernel_rfl
  a22 := fun w => by kernel_rfl
  z22 := fun w => by kernel_rfl
  v22 := fun w => by kernel_rfl
  t25 := by kernel_rfl
  a25 := fun w => by kernel_rfl
  z25 := fun w => by kernel_rfl
  v25 := fun w => by kernel_rfl
  t39 := by kernel_rfl
  a39 := fun w => by kernel_rfl
  z39 := fun w => by kernel_rfl
  v39 := fun w => by kernel_rfl
  t45 := by kernel_rfl
  a45 := fun w => by kernel_rfl
  z45 := fun w => by kernel_rfl
  v45 := fun w => by kernel_rfl
  t46 := by kernel_rfl
  a46 := fun w => by kernel_rfl
  z46 := fun w => by kernel_rfl
  v46 := fun w => by kernel_rfl
  t50 := by kernel_rfl
  a50 := fun w => by kernel_rfl
  z50 := fun w => by kernel_rfl
  v50 := fun w => by kernel_rfl
  t53 := by kernel_rfl
  a53 := fun w => by kernel_rfl
  z53 := fun w => by kernel_rfl
  v53 := fun w => by kernel_rfl
  t55 := by kernel_rfl
  a55 := fun w => by kernel_rfl
  z55 := fun w => by kernel_rfl
  v55 := fun w => by kernel_rfl
  t66 := by kernel_rfl
  a66 := fun w => by kernel_rfl
  z66 := fun w => by kernel_rfl
  v66 := fun w => by kernel_rfl
  t70 := by kernel_rfl
  a70 := fun w => by kernel_rfl
  z70 := fun w => by kernel_rfl
  v70 := fun w => by kernel_rfl
  t76 := by kernel_rfl
  a76 := fun w => by kernel_rfl
  z76 := fun w => by kernel_rfl
  v76 := fun w => by kernel_rfl
  t77 := by kernel_rfl
  a77 := fun w => by kernel_rfl
  z77 := fun w => by kernel_rfl
  v77 := fun w => by kernel_rfl
theorem nan_is (a : Nat) (W : World) : Calls Tryz.prog 31 #[uq a] W fun e w' => e = .returned (.bool false) ∧ w' = W := by
  go_enter Tryz.func31, Tryz.ntmps31
  go_wp2
  go_ret
  exact ⟨rfl, rfl⟩
theorem cmp_is (a b : Nat) (W : World) : Calls Tryz.prog 20 #[uq a, uq b] W fun e w' => e = .returned (iq (cmpQ a b)) ∧ w' = W := by
  have h1 := nan_is a
  have h2 := nan_is b
  by_cases hab : a < b
  · rw [show cmpQ a b = -1 by unfold cmpQ; rw [if_pos hab]]
    go_enter Tryz.func20, Tryz.ntmps20
    go_wp2_with (first | (go_at_call 31; refine (h1 _).mono ?_; rintro e w' ⟨rfl, rfl⟩) | (go_at_call 31; refine (h2 _).mono ?_; rintro e w' ⟨rfl, rfl⟩))
    go_ret
    exact ⟨rfl, rfl⟩
  · by_cases hba : b < a
    · rw [show cmpQ a b = 1 by unfold cmpQ; rw [if_neg hab, if_pos hba]]
      go_enter Tryz.func20, Tryz.ntmps20
      go_wp2_with (first | (go_at_call 31; refine (h1 _).mono ?_; rintro e w' ⟨rfl, rfl⟩) | (go_at_call 31; refine (h2 _).mono ?_; rintro e w' ⟨rfl, rfl⟩))
      go_ret
      exact ⟨rfl, rfl⟩
    · rw [show cmpQ a b = 0 by unfold cmpQ; rw [if_neg hab, if_neg hba]]
      go_enter Tryz.func20, Tryz.ntmps20
      go_wp2_with (first | (go_at_call 31; refine (h1 _).mono ?_; rintro e w' ⟨rfl, rfl⟩) | (go_at_call 31; refine (h2 _).mono ?_; rintro e w' ⟨rfl, rfl⟩))
      go_ret
      exact ⟨rfl, rfl⟩
theorem of1_is (x y : It) (W : World) : Calls Tryz.prog 19 #[x.val, y.val] W fun e w' => e = .returned (iq (cmpQ x.id y.id)) ∧ ∃ q os', w' = grow (W.drewN q) os' := by
  have hcon := cmp_is x.id y.id
  generalize cmpQ x.id y.id = r at hcon ⊢
  go_enter Tryz.func19, Tryz.ntmps19
  go_wp2_with (go_at_call 20; refine (hcon _).mono ?_; rintro e w' ⟨rfl, rfl⟩)
  go_ret
  exact ⟨rfl, 0, _, by rw [alloc_eq_grow, alloc_eq_grow, grow_grow]; rfl⟩
instance : Inhabited It := ⟨⟨0, []⟩⟩
theorem it_cmpLays (blk off size : Nat) (w : World) : CmpLays Tryz.prog 19 #[] It.cells 2 (fun x y => cmpQ x.id y.id) blk off size w :=
  fun _ _ _ _ x y => of1_is x y _
theorem it_ltOf (x y : It) : ltOf (fun x y : It => cmpQ x.id y.id) x y = decide (x.id < y.id) := by
  unfold ltOf
  rw [Bool.eq_iff_iff]
  simp [cmpQ_lt]
theorem it_swo : SWO (ltOf fun x y : It => cmpQ x.id y.id) where
  irrefl x := by rw [it_ltOf]; simp
  trans x y z h1 h2 := by rw [it_ltOf] at *; simp at *; omega
  ntrans x y z h1 h2 := by rw [it_ltOf] at *; simp at *; omega
theorem icells_get : ∀ (L : List It) (t : Nat), t < L.length * 2 → (icells L)[t]? = some ((L[t / 2]!).cells)[t % 2]!
  | [], t, h => by simp at h
  | e :: r, 0, _ => by simp
  | e :: r, 1, _ => by simp
  | e :: r, t + 2, h => by
    have h1 := icells_get r t (by simp at h; omega)
    have e1 : (t + 2) / 2 = t / 2 + 1 := by omega
    have e2 : (t + 2) % 2 = t % 2 := by omega
    rw [e1, e2]
    simp only [icells, List.flatMap_cons, It.cells] at h1 ⊢
    simpa using h1
theorem it_flat (L : List It) : (flatK It.cells 2 L.toArray).toList = icells L := by
  refine List.ext_getElem? fun t => ?_
  rcases Nat.lt_or_ge t (L.length * 2) with h | h
  · rw [icells_get L t h]
    have hs : t < (flatK It.cells 2 L.toArray).size := by rw [size_flatK]; simpa using h
    have g := get_flatK It.cells 2 L.toArray t (by simpa using h)
    rw [getElem!_pos _ t hs] at g
    rw [Array.getElem?_toList, Array.getElem?_eq_getElem hs, g]
    simp
  · rw [List.getElem?_eq_none (by simpa using h), List.getElem?_eq_none (by rw [icells_len]; omega)]
theorem enter_sort : Enters Tryz.prog 18 := Enters.mk Tryz.func18 (by kernel_rfl) (by kernel_rfl)
theorem sort_fn (g n c : Nat) (L : List It) (hn : n = L.length) (hL : L.length ≤ 1000000) :
    Fn Tryz.prog 18 [.slice (some ⟨g, 0, none⟩) n c, .func (.func 19) #[] #[]] [.ob g (RowP 40 2 n c (icells L))] fun v H' => v = .tuple #[] ∧ ∃ M : List It, M.Perm L ∧ M.Pairwise (fun a b => a.id ≤ b.id) ∧ H' = [.ob g (RowP 40 2 n c (icells M))] := by
  refine ⟨enter_sort, fun w hw => ?_⟩
  subst hn
  obtain ⟨⟨ob, hob, cur, rfl, hc1, hc2, hc3, hc4, hc5⟩, _⟩ := hw.ents _ List.mem_cons_self
  have hlt : g < w.heap.size := (Array.getElem?_eq_some_iff.1 hob).1
  have eg : ∀ args w, (callFunc 19 args).run Tryz.prog w = .ok (.enter 19 args) w := enters_of Tryz.func19 (by kernel_rfl) rfl
  have hH : HoldsK It.cells 2 w g 0 L.toArray := fun j hj => by
    have hj' : j < L.length * 2 := by simpa using hj
    have hjs : j < (flatK It.cells 2 L.toArray).size := hj
    have h1 : (icells L)[j]? = some ((flatK It.cells 2 L.toArray)[j]!) := by
      rw [← it_flat, Array.getElem?_toList, Array.getElem?_eq_getElem hjs, getElem!_pos _ j hjs]
    refine ⟨?_, ?_⟩
    · rw [Nat.zero_add]
      simp only [World.cell?, hob]
      rw [← hc4, List.getElem?_take, if_pos hj'] at h1
      simpa using h1
    · simp [World.frozen?, hob]
  have hcon := AnyQ.slices_SortFunc sortI0 2 (fun w => by kernel_rfl) (fun w => by kernel_rfl) It.cells (fun _ => rfl) (fun x v hv => by simp [It.cells] at hv; rcases hv with rfl | rfl <;> rfl) (fun x y => cmpQ x.id y.id) it_swo 19 #[] g 0 c L.toArray w eg (it_cmpLays g 0 _ w) hH hlt (by simp; omega)
  have hcon' : Calls Tryz.prog 18 #[.slice (some ⟨g, 0, none⟩) L.length c, .func (.func 19) #[] #[]] w (fun e w' => e = .returned (.tuple #[]) ∧ ∃ d' n os, PermIn 0 L.length L.toArray d' ∧ SortedIn (ltOf fun x y : It => cmpQ x.id y.id) 0 L.length d' ∧ w' = sortWorldK It.cells 2 w g 0 n d' os) := hcon
  refine hcon'.mono fun e w' he => ?_
  obtain ⟨he, d', m, os, hp, hs, rfl⟩ := he
  have hsz : d'.size = L.length := by simpa using hp.1
  have hperm : d'.toList.Perm L := by
    have := hp.2.2
    have e : List.take d'.size L = L := by rw [hsz, List.take_length]
    simpa [← hsz, e] using this
  refine ⟨_, [.ob g (RowP 40 2 L.length c (icells d'.toList))], he, ⟨rfl, d'.toList, hperm, ?_, rfl⟩, ?_⟩
  · refine List.pairwise_iff_getElem.2 fun i j hi hj hij => ?_
    have h1 := hs i j (Nat.zero_le _) hij (by simp at hj ⊢; omega)
    rw [it_ltOf] at h1
    simp at hi hj
    rw [getElem!_pos d' i hi, getElem!_pos d' j hj] at h1
    simpa using h1
  · have hfs : (flatK It.cells 2 d').size = L.length * 2 := by rw [size_flatK, hsz]
    have hfl : (flatK It.cells 2 d').toList = icells d'.toList := by have := it_flat d'.toList; simpa using this
    obtain ⟨cur', hcur'⟩ : ∃ c', putCells id 0 (flatK It.cells 2 d') cur = c' := ⟨_, rfl⟩
    have hcs : cur'.size = c * 2 := by rw [← hcur']; simp [putCells, hc3]
    have hct : cur'.toList.take (L.length * 2) = icells d'.toList := by
      refine List.ext_getElem? fun t => ?_
      rcases Nat.lt_or_ge t (L.length * 2) with h | h
      · have ht : t < cur.size := by omega
        have htf : t < (flatK It.cells 2 d').size := by omega
        rw [List.getElem?_take, if_pos h, Array.getElem?_toList, ← hcur', ← hfl, Array.getElem?_toList]
        simp only [putCells, Array.getElem?_mapIdx, Array.getElem?_eq_getElem ht, Option.map_some, Array.getElem?_eq_getElem htf]
        rw [if_pos ⟨Nat.zero_le _, by omega⟩, Nat.sub_zero, getElem!_pos _ t htf]
        rfl
      · rw [List.getElem?_eq_none (by rw [List.length_take]; omega), List.getElem?_eq_none (by rw [icells_len]; simp; omega)]
    have hblk : ∀ k, k < w.heap.size → (sortWorldK It.cells 2 w g 0 m d' os).heap[k]? = if g = k then some (.cells cur' 40 (0, 0)) else w.heap[k]? := fun k hk => by
      simp only [sortWorldK, grow, putRowK, putRow, mapBlock, Go.Sort.ahead]
      rw [Array.getElem?_append_left (by simpa using hk), Array.getElem?_modify]
      by_cases hgk : g = k
      · subst hgk
        rw [if_pos rfl, if_pos rfl, hob, Option.map_some, onCells, hcur']
      · rw [if_neg hgk, if_neg hgk]
    refine ⟨⟨rfl, rfl, rfl, by simp only [sortWorldK, grow, putRowK, putRow, mapBlock, Go.Sort.ahead, Array.size_append, Array.size_modify]; exact Nat.le_add_right _ _, fun k hk hn => ?_⟩, fun x hx => ?_, List.pairwise_singleton _ _⟩
    · rw [hblk k hk, if_neg (fun h => hn (by subst h; exact (List.mem_cons_self : g ∈ [g])))]
    · obtain rfl := List.mem_singleton.1 hx
      refine ⟨⟨_, ?_, cur', rfl, hc1, hc2, hcs, hct, by rw [icells_len]; simp [hsz]⟩, fun _ => .inl (List.mem_cons_self : g ∈ [g])⟩
      have := hblk g hlt
      rw [if_pos rfl] at this
      exact this
theorem sortE_fn (A : Option Addr) (c : Nat) : Fn Tryz.prog 18 [.slice A 0 c, .func (.func 19) #[] #[]] [] fun v _ => v = .tuple #[] :=
  Fn.of_same enter_sort fun w => (AnyF.slices_SortFunc_none sortI0 A c (.func (.func 19) #[] #[]) w).mono fun e w' ⟨he, hw⟩ => ⟨he, hw.symm⟩
end Go.Proofs.YtahmhcmfeloclaaGreat
