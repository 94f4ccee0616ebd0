/- slices.SortFunc at intervals, by the library's contract. No conditions but of lengths. -/
import Derived.Test.YtbldhokgbcljjaaKv1
import Derived.Test.YtbldhokgbcljjaaCm1
import Derived.Shelf.SlSortCmp.WholeK
import Derived.Shelf.SlSortCmp.NoneTotal
import Derived.WalkKit
namespace Go.Proofs.Ytbldhokgbcljjaa
open Go.RowKit Go.Sort
set_option linter.unusedVariables false
set_option linter.unusedSimpArgs false
set_option maxRecDepth 100000
def sortS_rho : Go.Shelf.Ren := ⟨fun n => match n with | 0 => 0 | 1 => 1 | 2 => 2 | 6 => 78 | 14 => 101 | 15 => 102 | 20 => 111 | 21 => 112 | 22 => 113 | 23 => 114 | 24 => 115 | 25 => 116 | 26 => 117 | 27 => 118 | 28 => 119 | 29 => 89 | 46 => 122 | 47 => 123 | 48 => 124 | 49 => 125 | 50 => 126 | 57 => 127 | 60 => 128 | 61 => 129 | 62 => 130 | 63 => 131 | 64 => 132 | 65 => 133 | 66 => 134 | 67 => 135 | 68 => 136 | 69 => 137 | 70 => 138 | 71 => 139 | 72 => 140 | 73 => 141 | 74 => 142 | 75 => 144 | _ => 0, fun n => match n with | 0 => 0 | 1 => 1 | 2 => 2 | 3 => 3 | 4 => 4 | 5 => 5 | 6 => 6 | 7 => 7 | 8 => 8 | 9 => 9 | 10 => 10 | 11 => 11 | 12 => 12 | 13 => 13 | 14 => 14 | 15 => 15 | 16 => 16 | 17 => 17 | 18 => 18 | 19 => 19 | 20 => 20 | 21 => 21 | 22 => 24 | 23 => 95 | 24 => 43 | 25 => 97 | 37 => 122 | 38 => 123 | 39 => 117 | 40 => 86 | 44 => 133 | 45 => 134 | 46 => 135 | 47 => 136 | 48 => 137 | 49 => 138 | 50 => 139 | 51 => 140 | 52 => 141 | 53 => 142 | 54 => 74 | 55 => 36 | 66 => 146 | 67 => 147 | 68 => 148 | 69 => 149 | 70 => 150 | 71 => 151 | 76 => 152 | 77 => 144 | 78 => 153 | 81 => 154 | 82 => 155 | 83 => 156 | 84 => 157 | 85 => 158 | 86 => 159 | 87 => 160 | 88 => 161 | 89 => 162 | 90 => 163 | 91 => 164 | 92 => 165 | 93 => 166 | 94 => 167 | 95 => 168 | 96 => 169 | _ => 0, fun n => match n with | _ => 0⟩
theorem sortS0 : SlLaysF0.n6 Try.prog sortS_rho where
  mixed := by kernel_rfl
  f6 := ⟨"slices.SortFunc[[]gazetteer/cover.Span,gazetteer/cover.Span]", by decide, by kernel_rfl⟩
  f14 := ⟨"slices.pdqsortCmpFunc[gazetteer/cover.Span]", by decide, by kernel_rfl⟩
  f15 := by kernel_rfl
  f20 := ⟨"slices.insertionSortCmpFunc[gazetteer/cover.Span]", by decide, by kernel_rfl⟩
  f21 := ⟨"slices.heapSortCmpFunc[gazetteer/cover.Span]", by decide, by kernel_rfl⟩
  f22 := ⟨"slices.breakPatternsCmpFunc[gazetteer/cover.Span]", by decide, by kernel_rfl⟩
  f23 := ⟨"slices.choosePivotCmpFunc[gazetteer/cover.Span]", by decide, by kernel_rfl⟩
  f24 := ⟨"slices.reverseRangeCmpFunc[gazetteer/cover.Span]", by decide, by kernel_rfl⟩
  f25 := ⟨"slices.partialInsertionSortCmpFunc[gazetteer/cover.Span]", by decide, by kernel_rfl⟩
  f26 := ⟨"slices.partitionEqualCmpFunc[gazetteer/cover.Span]", by decide, by kernel_rfl⟩
  f27 := ⟨"slices.partitionCmpFunc[gazetteer/cover.Span]", by decide, by kernel_rfl⟩
  f28 := by kernel_rfl
  f29 := by kernel_rfl
  f46 := ⟨"slices.siftDownCmpFunc[gazetteer/cover.Span]", by decide, by kernel_rfl⟩
  f47 := by kernel_rfl
  f48 := by kernel_rfl
  f49 := ⟨"slices.medianAdjacentCmpFunc[gazetteer/cover.Span]", by decide, by kernel_rfl⟩
  f50 := ⟨"slices.medianCmpFunc[gazetteer/cover.Span]", by decide, by kernel_rfl⟩
  f57 := ⟨"slices.order2CmpFunc[gazetteer/cover.Span]", by decide, by kernel_rfl⟩
  t0 := by kernel_rfl
  a0 := fun w => by kernel_rfl
  z0 := fun w => by kernel_rfl
  v0 := fun w => by kernel_rfl
  t3 := by kernel_rfl
  a3 := fun w => by kernel_rfl
  z3 := fun w => by kernel_rfl
  v3 := fun w => by kernel_rfl
  t4 := by kernel_rfl
  a4 := fun w => by kernel_rfl
  z4 := fun w => by kernel_rfl
  v4 := fun w => by kernel_rfl
  t5 := by kernel_rfl
  a5 := fun w => by kernel_rfl
  z5 := fun w => by kernel_rfl
  v5 := fun w => by kernel_rfl
  t9 := by kernel_rfl
  a9 := fun w => by kernel_rfl
  z9 := fun w => by kernel_rfl
  v9 := fun w => by kernel_rfl
  t22 := by kernel_rfl
  a22 := fun w => by kernel_rfl
  z22 := fun w => by kernel_rfl
  v22 := fun w => by kernel_rfl
  t25 := by kernel_rfl
  a25 := fun w => by kernel_rfl
  z25 := fun w => by kernel_rfl
  v25 := fun w => by kernel_rfl
  t39 := by kernel_rfl
  a39 := fun w => by kernel_rfl
  z39 := fun w => by kernel_rfl
  v39 := fun w => by kernel_rfl
  t45 := by kernel_rfl
  a45 := fun w => by kernel_rfl
  z45 := fun w => by kernel_rfl
  v45 := fun w => by kernel_rfl
  t46 := by kernel_rfl
  a46 := fun w => by kernel_rfl
  z46 := fun w => by kernel_rfl
  v46 := fun w => by kernel_rfl
  t50 := by kernel_rfl
  a50 := fun w => by kernel_rfl
  z50 := fun w => by kernel_rfl
  v50 := fun w => by kernel_rfl
  t53 := by kernel_rfl
  a53 := fun w => by kernel_rfl
  z53 := fun w => by kernel_rfl
  v53 := fun w => by kernel_rfl
  t55 := by kernel_rfl
  a55 := fun w => by kernel_rfl
  z55 := fun w => by kernel_rfl
  v55 := fun w => by kernel_rfl
  t66 := by kernel_rfl
  a66 := fun w => by kernel_rfl
  z66 := fun w => by kernel_rfl
  v66 := fun w => by kernel_rfl
  t70 := by kernel_rfl
  a70 := fun w => by kernel_rfl
  z70 := fun w => by kernel_rfl
  v70 := fun w => by kernel_rfl
  t76 := by kernel_rfl
  a76 := fun w => by kernel_rfl
  z76 := fun w => by kernel_rfl
  v76 := fun w => by kernel_rfl
  t77 := by kernel_rfl
  a77 := fun w => by kernel_rfl
  z77 := fun w => by kernel_rfl
  v77 := fun w => by kernel_rfl
/-- A function that compares intervals by their beginnings. -/
structure SpCmp (F : FuncId) : Prop where
  is_ : ∀ (x y : Sp) (W : World), Calls Try.prog F #[x.val, y.val] W fun e w' => e = .returned (iq (cmpQ x.a y.a)) ∧ ∃ q os', w' = grow (W.drewN q) os'
  enter : ∀ (args : Array Value) (w : World), (callFunc F args).run Try.prog w = .ok (.enter F args) w
instance : Inhabited Sp := ⟨⟨0, 0⟩⟩
theorem spi_cmpLays {F : FuncId} (hF : SpCmp F) (blk off size : Nat) (w : World) : CmpLays Try.prog F #[] Sp.cells 2 (fun x y => cmpQ x.a y.a) blk off size w :=
  fun _ _ _ _ x y => hF.is_ x y _
theorem spi_ltOf (x y : Sp) : ltOf (fun x y : Sp => cmpQ x.a y.a) x y = decide (x.a < y.a) := by
  unfold ltOf
  rw [Bool.eq_iff_iff]
  simp [cmpQ_lt]
theorem spi_swo : SWO (ltOf fun x y : Sp => cmpQ x.a y.a) where
  irrefl x := by rw [spi_ltOf]; simp
  trans x y z h1 h2 := by rw [spi_ltOf] at *; simp at *; omega
  ntrans x y z h1 h2 := by rw [spi_ltOf] at *; simp at *; omega
theorem scells_get : ∀ (L : List Sp) (t : Nat), t < L.length * 2 → (scells L)[t]? = some ((L[t / 2]!).cells)[t % 2]!
  | [], t, h => by simp at h
  | e :: r, 0, _ => by simp
  | e :: r, 1, _ => by simp
  | e :: r, t + 2, h => by
    have h1 := scells_get r t (by simp at h; omega)
    have e1 : (t + 2) / 2 = t / 2 + 1 := by omega
    have e2 : (t + 2) % 2 = t % 2 := by omega
    rw [e1, e2]
    simp only [scells, List.flatMap_cons, Sp.cells] at h1 ⊢
    simpa using h1
theorem spi_flat (L : List Sp) : (flatK Sp.cells 2 L.toArray).toList = scells L := by
  refine List.ext_getElem? fun t => ?_
  rcases Nat.lt_or_ge t (L.length * 2) with h | h
  · rw [scells_get L t h]
    have hs : t < (flatK Sp.cells 2 L.toArray).size := by rw [size_flatK]; simpa using h
    have g := get_flatK Sp.cells 2 L.toArray t (by simpa using h)
    rw [getElem!_pos _ t hs] at g
    rw [Array.getElem?_toList, Array.getElem?_eq_getElem hs, g]
    simp
  · rw [List.getElem?_eq_none (by simpa using h), List.getElem?_eq_none (by rw [scells_len]; omega)]
theorem enter_ssort : Enters Try.prog 78 := Enters.mk Try.func78 (by kernel_rfl) (by kernel_rfl)
theorem ssort_fn {F : FuncId} (hF : SpCmp F) (g n c : Nat) (L : List Sp) (hn : n = L.length) (hL : L.length ≤ 1000000) :
    Fn Try.prog 78 [.slice (some ⟨g, 0, none⟩) n c, .func (.func F) #[] #[]] [.ob g (RowP 43 2 n c (scells L))] fun v H' => v = .tuple #[] ∧ ∃ M : List Sp, M.Perm L ∧ M.Pairwise (fun a b => a.a ≤ b.a) ∧ H' = [.ob g (RowP 43 2 n c (scells M))] := by
  refine ⟨enter_ssort, fun w hw => ?_⟩
  subst hn
  obtain ⟨⟨ob, hob, cur, rfl, hc1, hc2, hc3, hc4, hc5⟩, _⟩ := hw.ents _ List.mem_cons_self
  have hlt : g < w.heap.size := (Array.getElem?_eq_some_iff.1 hob).1
  have eg := hF.enter
  have hH : HoldsK Sp.cells 2 w g 0 L.toArray := fun j hj => by
    have hj' : j < L.length * 2 := by simpa using hj
    have hjs : j < (flatK Sp.cells 2 L.toArray).size := hj
    have h1 : (scells L)[j]? = some ((flatK Sp.cells 2 L.toArray)[j]!) := by
      rw [← spi_flat, Array.getElem?_toList, Array.getElem?_eq_getElem hjs, getElem!_pos _ j hjs]
    refine ⟨?_, ?_⟩
    · rw [Nat.zero_add]
      simp only [World.cell?, hob]
      rw [← hc4, List.getElem?_take, if_pos hj'] at h1
      simpa using h1
    · simp [World.frozen?, hob]
  have hcon := AnyQ.slices_SortFunc sortS0 2 (fun w => by kernel_rfl) (fun w => by kernel_rfl) Sp.cells (fun _ => rfl) (fun x v hv => by simp [Sp.cells] at hv; rcases hv with rfl | rfl <;> rfl) (fun x y => cmpQ x.a y.a) spi_swo F #[] g 0 c L.toArray w eg (spi_cmpLays hF g 0 _ w) hH hlt (by simp; omega)
  have hcon' : Calls Try.prog 78 #[.slice (some ⟨g, 0, none⟩) L.length c, .func (.func F) #[] #[]] w (fun e w' => e = .returned (.tuple #[]) ∧ ∃ d' n os, PermIn 0 L.length L.toArray d' ∧ SortedIn (ltOf fun x y : Sp => cmpQ x.a y.a) 0 L.length d' ∧ w' = sortWorldK Sp.cells 2 w g 0 n d' os) := hcon
  refine hcon'.mono fun e w' he => ?_
  obtain ⟨he, d', m, os, hp, hs, rfl⟩ := he
  have hsz : d'.size = L.length := by simpa using hp.1
  have hperm : d'.toList.Perm L := by
    have := hp.2.2
    have e : List.take d'.size L = L := by rw [hsz, List.take_length]
    simpa [← hsz, e] using this
  refine ⟨_, [.ob g (RowP 43 2 L.length c (scells d'.toList))], he, ⟨rfl, d'.toList, hperm, ?_, rfl⟩, ?_⟩
  · refine List.pairwise_iff_getElem.2 fun i j hi hj hij => ?_
    have h1 := hs i j (Nat.zero_le _) hij (by simp at hj ⊢; omega)
    rw [spi_ltOf] at h1
    simp at hi hj
    rw [getElem!_pos d' i hi, getElem!_pos d' j hj] at h1
    simpa using h1
  · have hfs : (flatK Sp.cells 2 d').size = L.length * 2 := by rw [size_flatK, hsz]
    have hfl : (flatK Sp.cells 2 d').toList = scells d'.toList := by have := spi_flat d'.toList; simpa using this
    obtain ⟨cur', hcur'⟩ : ∃ c', putCells id 0 (flatK Sp.cells 2 d') cur = c' := ⟨_, rfl⟩
    have hcs : cur'.size = c * 2 := by rw [← hcur']; simp [putCells, hc3]
    have hct : cur'.toList.take (L.length * 2) = scells d'.toList := by
      refine List.ext_getElem? fun t => ?_
      rcases Nat.lt_or_ge t (L.length * 2) with h | h
      · have ht : t < cur.size := by omega
        have htf : t < (flatK Sp.cells 2 d').size := by omega
        rw [List.getElem?_take, if_pos h, Array.getElem?_toList, ← hcur', ← hfl, Array.getElem?_toList]
        simp only [putCells, Array.getElem?_mapIdx, Array.getElem?_eq_getElem ht, Option.map_some, Array.getElem?_eq_getElem htf]
        rw [if_pos ⟨Nat.zero_le _, by omega⟩, Nat.sub_zero, getElem!_pos _ t htf]
        rfl
      · rw [List.getElem?_eq_none (by rw [List.length_take]; omega), List.getElem?_eq_none (by rw [scells_len]; simp; omega)]
    have hblk : ∀ k, k < w.heap.size → (sortWorldK Sp.cells 2 w g 0 m d' os).heap[k]? = if g = k then some (.cells cur' 43 (0, 0)) else w.heap[k]? := fun k hk => by
      simp only [sortWorldK, grow, putRowK, putRow, mapBlock, Go.Sort.ahead]
      rw [Array.getElem?_append_left (by simpa using hk), Array.getElem?_modify]
      by_cases hgk : g = k
      · subst hgk
        rw [if_pos rfl, if_pos rfl, hob, Option.map_some, onCells, hcur']
      · rw [if_neg hgk, if_neg hgk]
    refine ⟨⟨rfl, rfl, rfl, by simp only [sortWorldK, grow, putRowK, putRow, mapBlock, Go.Sort.ahead, Array.size_append, Array.size_modify]; exact Nat.le_add_right _ _, fun k hk hn => ?_⟩, fun x hx => ?_, List.pairwise_singleton _ _⟩
    · rw [hblk k hk, if_neg (fun h => hn (by subst h; exact (List.mem_cons_self : g ∈ [g])))]
    · obtain rfl := List.mem_singleton.1 hx
      refine ⟨⟨_, ?_, cur', rfl, hc1, hc2, hcs, hct, by rw [scells_len]; simp [hsz]⟩, fun _ => .inl (List.mem_cons_self : g ∈ [g])⟩
      have := hblk g hlt
      rw [if_pos rfl] at this
      exact this
theorem ssortE_fn (F : FuncId) (A : Option Addr) (c : Nat) : Fn Try.prog 78 [.slice A 0 c, .func (.func F) #[] #[]] [] fun v _ => v = .tuple #[] :=
  Fn.of_same enter_ssort fun w => (AnyF.slices_SortFunc_none sortS0 A c (.func (.func F) #[] #[]) w).mono fun e w' ⟨he, hw⟩ => ⟨he, hw.symm⟩
theorem ssortR_fn {F : FuncId} (hF : SpCmp F) (v : Value) (L : List Sp) (hv : RowOk v L.length) (hL : L.length ≤ 1000000) :
    Fn Try.prog 78 [v, .func (.func F) #[] #[]] (rowE v 43 2 (scells L)) fun u H' => u = .tuple #[] ∧ ∃ M : List Sp, M.Perm L ∧ M.Pairwise (fun a b => a.a ≤ b.a) ∧ H' = rowE v 43 2 (scells M) := by
  rcases Nat.eq_zero_or_pos L.length with h0 | h0
  · obtain rfl := List.eq_nil_of_length_eq_zero h0
    obtain ⟨A, c, rfl, hA⟩ := hv.form
    exact ⟨enter_ssort, fun w hw => (AnyF.slices_SortFunc_none sortS0 A c (.func (.func F) #[] #[]) w).mono fun e w' ⟨he, hw'⟩ => ⟨_, _, he, ⟨rfl, [], List.Perm.refl _, List.Pairwise.nil, rfl⟩, by rw [hw']; exact hw⟩⟩
  · obtain ⟨g, c, rfl⟩ := hv.some h0
    exact ssort_fn hF g L.length c L rfl hL
end Go.Proofs.Ytbldhokgbcljjaa
