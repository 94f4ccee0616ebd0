/- What a row of linked nodes spells, and what cutting and pushing make of it: no program in sight. No conditions. The walks of package lru: what only looks. No conditions. The walks of package lru: cut and push. No conditions. The walks of package lru: Put, Get, Drop, by the items that a cache holds. No conditions. The walks of package lru: Keys, by the items that a cache holds. No conditions. -/
import Derived.Test.YtjelakmndcecoaaMapOwn
import Derived.Test.YtjelakmndcecoaaTy
import Derived.Test.YtjelakmndcecoaaGsx4
namespace Go.Proofs.Ytjelakmndcecoaa
set_option linter.unusedVariables false
set_option linter.unusedSimpArgs false
abbrev Ky := Nat × Nat
abbrev Item := Ky × List UInt8
structure Node where
  v : List UInt8
  o : Ky
  n : Ky
def node0 : Node := ⟨[], (0, 0), (0, 0)⟩
/-- What a lookup of a node tells. -/
def nd (M : List (Ky × Node)) (k : Ky) : Node := (aget M k).getD node0
structure CS where
  M : List (Ky × Node)
  old : Ky
  new : Ky
/-- The row of the nodes spells these items, from the oldest to the newest. -/
structure Rep (s : CS) (L : List Item) : Prop where
  len : s.M.length = L.length
  mn : (akeys s.M).Nodup
  inj : ∀ (i j : Nat) (k : Ky) (v v' : List UInt8), L[i]? = some (k, v) → L[j]? = some (k, v') → i = j
  at_ : ∀ (i : Nat) (k : Ky) (v : List UInt8), L[i]? = some (k, v) → ∃ x, aget s.M k = some x ∧ x.v = v ∧ (∀ y : Item, L[i + 1]? = some y → x.n = y.1) ∧ (∀ (j : Nat) (y : Item), i = j + 1 → L[j]? = some y → x.o = y.1)
  mem : ∀ k, (aget s.M k).isSome = true → ∃ (i : Nat) (v : List UInt8), L[i]? = some (k, v)
  old : ∀ y : Item, L[0]? = some y → s.old = y.1
  new : ∀ (i : Nat) (y : Item), L[i]? = some y → i + 1 = L.length → s.new = y.1
def cutA (s : CS) (k : Ky) : CS :=
  if k = s.old then { s with M := adel s.M k, old := (nd s.M k).n }
  else { s with M := aput (adel s.M k) (nd s.M k).o { nd (adel s.M k) (nd s.M k).o with n := (nd s.M k).n } }
def cutB (s : CS) (k : Ky) (x : Node) : CS :=
  if k = s.new then { s with new := x.o }
  else { s with M := aput s.M x.n { nd s.M x.n with o := x.o } }
def cutS (s : CS) (k : Ky) : CS := cutB (cutA s k) k (nd s.M k)
def pushA (s : CS) (k : Ky) : CS :=
  if s.M.length = 0 then { s with old := k } else { s with M := aput s.M s.new { nd s.M s.new with n := k } }
def pushS (s : CS) (k : Ky) (v : List UInt8) : CS := { (pushA s k) with M := aput (pushA s k).M k ⟨v, (pushA s k).new, (0, 0)⟩, new := k }
theorem mem_akeys {M : List (Ky × Node)} {k : Ky} {x : Node} (h : aget M k = some x) : k ∈ akeys M := by
  rcases Decidable.em (k ∈ akeys M) with h' | h'
  · exact h'
  · rw [aget_none.2 h'] at h; cases h
theorem Rep.empty : Rep ⟨[], (0, 0), (0, 0)⟩ [] :=
  ⟨rfl, List.nodup_nil, by simp, by simp, by simp [aget], by simp, by simp⟩
section
variable {s : CS} {L : List Item} {i : Nat} {k : Ky} {v : List UInt8}
theorem Rep.nd_v (h : Rep s L) (hi : L[i]? = some (k, v)) : (nd s.M k).v = v := by
  obtain ⟨x, hx, hv, _⟩ := h.at_ i k v hi
  simp [nd, hx, hv]
theorem Rep.first (h : Rep s L) (hi : L[i]? = some (k, v)) : k = s.old ↔ i = 0 := by
  have hlt : i < L.length := (List.getElem?_eq_some_iff.1 hi).1
  have h0 : L[0]? = some L[0] := List.getElem?_eq_getElem (by omega)
  have ho := h.old _ h0
  constructor
  · rintro rfl
    exact h.inj _ _ _ _ _ hi (by rw [h0, ho])
  · rintro rfl
    rw [h0] at hi
    rw [ho, Option.some.inj hi]
theorem Rep.last (h : Rep s L) (hi : L[i]? = some (k, v)) : k = s.new ↔ i + 1 = L.length := by
  have hlt : i < L.length := (List.getElem?_eq_some_iff.1 hi).1
  have h0 : L[L.length - 1]? = some L[L.length - 1] := List.getElem?_eq_getElem (by omega)
  have ho := h.new _ _ h0 (by omega)
  constructor
  · rintro rfl
    have := h.inj _ _ _ _ _ hi (by rw [h0, ho])
    omega
  · intro hl
    have e : i = L.length - 1 := by omega
    subst e
    rw [h0] at hi
    rw [ho, Option.some.inj hi]
/-- Cut: each other node as it was, but for the links to the one that goes. -/
theorem Rep.cut (h : Rep s L) (hi : L[i]? = some (k, v)) : Rep (cutS s k) (L.eraseIdx i) := by
  have hlt : i < L.length := (List.getElem?_eq_some_iff.1 hi).1
  obtain ⟨x, hx, hxv, hxn, hxo⟩ := h.at_ i k v hi
  have hnd : nd s.M k = x := by simp [nd, hx]
  have hold := h.first hi
  have hnew := h.last hi
  have hkM := mem_akeys hx
  have hlenD := length_del_in (M := s.M) hkM
  have hndD := nodup_del h.mn k
  have hne : ∀ (m : Nat) (k' : Ky) (v' : List UInt8), m ≠ i → L[m]? = some (k', v') → k' ≠ k := fun (m : Nat) (k' : Ky) (v' : List UInt8) hm h1 e => hm (h.inj _ _ _ _ _ (e ▸ h1) hi)
  -- the map behind the first half
  have hA : (cutA s k).new = s.new ∧ (cutA s k).M.length = s.M.length - 1 ∧ (akeys (cutA s k).M).Nodup ∧ (∀ k', (aget (cutA s k).M k').isSome = true → k' ≠ k ∧ (aget s.M k').isSome = true) ∧
      (∀ y : Item, (L.eraseIdx i)[0]? = some y → (cutA s k).old = y.1) ∧
      ∀ (m : Nat) (k' : Ky) (v' : List UInt8), m ≠ i → L[m]? = some (k', v') → ∃ x' y, aget s.M k' = some x' ∧ aget (cutA s k).M k' = some y ∧ y.v = x'.v ∧ y.o = x'.o ∧ y.n = (if m + 1 = i then x.n else x'.n) := by
    unfold cutA
    rw [hnd]
    by_cases h0 : k = s.old
    · rw [if_pos h0]
      have hi0 := hold.1 h0
      refine ⟨rfl, hlenD, hndD, fun k' hk' => ?_, fun y hy => ?_, fun m k' v' hm hm' => ?_⟩
      · simp only [aget_del h.mn] at hk'
        split at hk'
        · cases hk'
        · exact ⟨fun e => by simp_all, hk'⟩
      · subst hi0
        rw [List.getElem?_eraseIdx] at hy
        simp only [Nat.lt_irrefl, if_false] at hy
        exact hxn y hy
      · obtain ⟨x', hx', _⟩ := h.at_ m k' v' hm'
        refine ⟨x', x', hx', ?_, rfl, rfl, ?_⟩
        · simp only [aget_del h.mn]
          rw [if_neg (fun e => hne m k' v' hm hm' e.symm)]
          exact hx'
        · rw [if_neg (by omega)]
    · rw [if_neg h0]
      have hi0 : i ≠ 0 := fun e => h0 (hold.2 e)
      have hp : L[i - 1]? = some L[i - 1] := List.getElem?_eq_getElem (by omega)
      have hxo' : x.o = L[i - 1].1 := hxo (i - 1) _ (by omega) hp
      obtain ⟨xp, hxp, _⟩ := h.at_ (i - 1) L[i - 1].1 L[i - 1].2 hp
      have hpk : L[i - 1].1 ≠ k := hne (i - 1) _ _ (by omega) hp
      have hxpD : aget (adel s.M k) x.o = some xp := by
        rw [aget_del h.mn, hxo', if_neg (fun e => hpk e.symm)]
        exact hxp
      have hin := mem_akeys hxpD
      refine ⟨rfl, ?_, nodup_put hndD _ _, fun k' hk' => ?_, fun y hy => ?_, fun m k' v' hm hm' => ?_⟩
      · simp only
        rw [length_put_in _ hin, hlenD]
      · simp only [aget_put, aget_del h.mn] at hk'
        split at hk'
        · rename_i e
          rw [← e, hxo']
          exact ⟨hpk, by simp [hxp]⟩
        · split at hk'
          · cases hk'
          · exact ⟨fun e => by simp_all, hk'⟩
      · rw [List.getElem?_eraseIdx, if_pos (by omega)] at hy
        exact h.old y hy
      · obtain ⟨x', hx', _⟩ := h.at_ m k' v' hm'
        by_cases he : m + 1 = i
        · have e : m = i - 1 := by omega
          subst e
          have hk' : k' = x.o := by rw [hxo']; rw [hp] at hm'; rw [Option.some.inj hm']
          have : x' = xp := by rw [hk', hxo'] at hx'; exact Option.some.inj (hx'.symm.trans hxp)
          subst this
          refine ⟨x', _, hx', by simp only [aget_put]; rw [if_pos hk'.symm], ?_⟩
          simp [nd, hxpD, he]
        · refine ⟨x', x', hx', ?_, rfl, rfl, by rw [if_neg he]⟩
          simp only [aget_put, aget_del h.mn]
          rw [if_neg, if_neg (fun e => hne m k' v' hm hm' e.symm)]
          · exact hx'
          · rw [hxo']
            intro e
            have := h.inj (i - 1) m k' L[i - 1].2 v' (by rw [hp, ← e]) hm'
            omega
  obtain ⟨a1, a2, a3, a4, a5, a6⟩ := hA
  have hB : (cutS s k).M.length = s.M.length - 1 ∧ (akeys (cutS s k).M).Nodup ∧ (∀ k', (aget (cutS s k).M k').isSome = true → k' ≠ k ∧ (aget s.M k').isSome = true) ∧
      (cutS s k).old = (cutA s k).old ∧ (∀ (j : Nat) (y : Item), (L.eraseIdx i)[j]? = some y → j + 1 = (L.eraseIdx i).length → (cutS s k).new = y.1) ∧
      ∀ (m : Nat) (k' : Ky) (v' : List UInt8), m ≠ i → L[m]? = some (k', v') → ∃ x' y, aget s.M k' = some x' ∧ aget (cutS s k).M k' = some y ∧ y.v = x'.v ∧ y.o = (if m = i + 1 then x.o else x'.o) ∧ y.n = (if m + 1 = i then x.n else x'.n) := by
    unfold cutS cutB
    rw [hnd]
    have hle : (L.eraseIdx i).length = L.length - 1 := by rw [List.length_eraseIdx, if_pos hlt]
    by_cases h0 : k = (cutA s k).new
    · rw [if_pos h0]
      have hi0 := hnew.1 (h0.trans a1)
      refine ⟨a2, a3, a4, rfl, fun j y hy hj => ?_, fun m k' v' hm hm' => ?_⟩
      · rw [List.getElem?_eraseIdx, if_pos (by omega)] at hy
        exact hxo j y (by omega) hy
      · obtain ⟨x', y, h1, h2, h3, h4, h5⟩ := a6 m k' v' hm hm'
        have : m < L.length := (List.getElem?_eq_some_iff.1 hm').1
        exact ⟨x', y, h1, h2, h3, by rw [if_neg (by omega)]; exact h4, h5⟩
    · rw [if_neg h0]
      have hi0 : i + 1 ≠ L.length := fun e => h0 ((hnew.2 e).trans a1.symm)
      have hp : L[i + 1]? = some L[i + 1] := List.getElem?_eq_getElem (by omega)
      have hxn' : x.n = L[i + 1].1 := hxn _ hp
      obtain ⟨xp, yp, hxp, hyp, g1, g2, g3⟩ := a6 (i + 1) L[i + 1].1 L[i + 1].2 (by omega) hp
      have hpk : L[i + 1].1 ≠ k := hne (i + 1) _ _ (by omega) hp
      have hypD : aget (cutA s k).M x.n = some yp := by rw [hxn']; exact hyp
      have hin := mem_akeys hypD
      refine ⟨?_, nodup_put a3 _ _, fun k' hk' => ?_, rfl, fun j y hy hj => ?_, fun m k' v' hm hm' => ?_⟩
      · simp only
        rw [length_put_in _ hin, a2]
      · simp only [aget_put] at hk'
        split at hk'
        · rename_i e
          rw [← e, hxn']
          exact ⟨hpk, by simp [hxp]⟩
        · exact a4 k' hk'
      · rw [List.getElem?_eraseIdx, if_neg (by omega)] at hy
        rw [a1]
        exact h.new _ _ hy (by omega)
      · obtain ⟨x', y, h1, h2, h3, h4, h5⟩ := a6 m k' v' hm hm'
        by_cases he : m = i + 1
        · subst he
          have hk' : k' = x.n := by rw [hxn']; rw [hp] at hm'; rw [Option.some.inj hm']
          have : y = yp := by rw [hk'] at h2; exact Option.some.inj (h2.symm.trans hypD)
          subst this
          refine ⟨x', _, h1, by simp only [aget_put]; rw [if_pos hk'.symm], ?_⟩
          simp [nd, hypD, h3, h5]
        · refine ⟨x', y, h1, ?_, h3, by rw [if_neg he]; exact h4, h5⟩
          simp only [aget_put]
          rw [if_neg]
          · exact h2
          · rw [hxn']
            intro e
            have := h.inj (i + 1) m k' L[i + 1].2 v' (by rw [hp, ← e]) hm'
            omega
  obtain ⟨b2, b3, b4, b5, b6, b7⟩ := hB
  have hget : ∀ (j : Nat) (k' : Ky) (v' : List UInt8), (L.eraseIdx i)[j]? = some (k', v') → L[if j < i then j else j + 1]? = some (k', v') := fun j k' v' hj => by
    rw [List.getElem?_eraseIdx] at hj
    split <;> simp_all
  have hmne : ∀ j, (if j < i then j else j + 1) ≠ i := fun j => by split <;> omega
  refine ⟨?_, b3, fun j j' k' v1 v2 h1 h2 => ?_, fun j k' v' hj => ?_, fun k' hk' => ?_, fun y hy => by rw [b5]; exact a5 y hy, b6⟩
  · rw [b2, h.len, List.length_eraseIdx, if_pos hlt]
  · have := h.inj _ _ _ _ _ (hget _ _ _ h1) (hget _ _ _ h2)
    split at this <;> split at this <;> omega
  · have hj' := hget j k' v' hj
    obtain ⟨x', y, h1, h2, h3, h4, h5⟩ := b7 _ k' v' (hmne j) hj'
    obtain ⟨x2, g1, g2, g3, g4⟩ := h.at_ _ k' v' hj'
    obtain rfl : x' = x2 := Option.some.inj (h1.symm.trans g1)
    refine ⟨y, h2, h3.trans g2, fun z hz => ?_, fun j' z hj'' hz => ?_⟩
    · rw [h5]
      have hz' := hget (j + 1) z.1 z.2 hz
      by_cases c1 : j + 1 = i
      · rw [if_pos (by rw [if_pos (by omega)]; exact c1)]
        rw [if_neg (by omega), c1] at hz'
        exact hxn _ hz'
      · rw [if_neg (by split <;> omega)]
        refine g3 _ ?_
        by_cases c2 : j < i
        · rw [if_pos c2]
          rw [if_pos (by omega)] at hz'
          exact hz'
        · rw [if_neg c2]
          rw [if_neg (by omega)] at hz'
          exact hz'
    · rw [h4]
      subst hj''
      have hz' := hget j' z.1 z.2 hz
      by_cases c1 : j' + 1 = i
      · rw [if_pos (by rw [if_neg (by omega)]; omega)]
        rw [if_pos (by omega)] at hz'
        exact hxo j' z (by omega) hz'
      · rw [if_neg (by split <;> omega)]
        by_cases c2 : j' < i
        · rw [if_pos c2] at hz'
          exact g4 j' z (by rw [if_pos (by omega)]) hz'
        · rw [if_neg c2] at hz'
          exact g4 (j' + 1) z (by rw [if_neg (by omega)]) hz'
  · obtain ⟨g1, g2⟩ := b4 k' hk'
    obtain ⟨m, v', hm⟩ := h.mem k' g2
    have hmi : m ≠ i := fun e => g1 (by subst e; rw [hm] at hi; exact congrArg Prod.fst (Option.some.inj hi))
    refine ⟨if m < i then m else m - 1, v', ?_⟩
    rw [List.getElem?_eraseIdx]
    by_cases c : m < i
    · rw [if_pos c, if_pos c]; exact hm
    · rw [if_neg c, if_neg (by omega), show m - 1 + 1 = m by omega]; exact hm
/-- Push: one item more, behind all. -/
theorem Rep.push (h : Rep s L) (hk : aget s.M k = none) : Rep (pushS s k v) (L ++ [(k, v)]) := by
  have hnk : ∀ (m : Nat) (k' : Ky) (v' : List UInt8), L[m]? = some (k', v') → k' ≠ k := fun m k' v' hm e => by
    obtain ⟨x, hx, _⟩ := h.at_ m k' v' hm
    rw [e, hk] at hx
    cases hx
  have hA : (pushA s k).M.length = s.M.length ∧ (akeys (pushA s k).M).Nodup ∧ aget (pushA s k).M k = none ∧ (∀ k', (aget (pushA s k).M k').isSome = true → (aget s.M k').isSome = true) ∧ (pushA s k).new = s.new ∧
      (∀ y : Item, (L ++ [(k, v)])[0]? = some y → (pushA s k).old = y.1) ∧
      ∀ (m : Nat) (k' : Ky) (v' : List UInt8), L[m]? = some (k', v') → ∃ x y, aget s.M k' = some x ∧ aget (pushA s k).M k' = some y ∧ y.v = x.v ∧ y.o = x.o ∧ y.n = (if m + 1 = L.length then k else x.n) := by
    unfold pushA
    by_cases h0 : s.M.length = 0
    · rw [if_pos h0]
      have hL : L = [] := List.eq_nil_of_length_eq_zero (by rw [← h.len]; exact h0)
      subst hL
      exact ⟨rfl, h.mn, hk, fun _ h => h, rfl, fun y hy => by simp at hy; rw [← hy], fun m k' v' hm => by simp at hm⟩
    · rw [if_neg h0]
      have hl : L.length ≠ 0 := by rw [← h.len]; exact h0
      have hp : L[L.length - 1]? = some L[L.length - 1] := List.getElem?_eq_getElem (by omega)
      have hnew : s.new = L[L.length - 1].1 := h.new _ _ hp (by omega)
      obtain ⟨xp, hxp, _⟩ := h.at_ _ _ _ hp
      have hxp' : aget s.M s.new = some xp := by rw [hnew]; exact hxp
      have hin := mem_akeys hxp'
      have hnek : s.new ≠ k := by rw [hnew]; exact hnk _ _ _ hp
      refine ⟨length_put_in _ hin, nodup_put h.mn _ _, ?_, fun k' hk' => ?_, rfl, fun y hy => ?_, fun m k' v' hm => ?_⟩
      · simp only [aget_put]
        rw [if_neg hnek]; exact hk
      · simp only [aget_put] at hk'
        split at hk'
        · rename_i e
          rw [← e, hxp']; rfl
        · exact hk'
      · rw [List.getElem?_append_left (by omega)] at hy
        exact h.old y hy
      · obtain ⟨x, hx, _⟩ := h.at_ m k' v' hm
        by_cases he : m + 1 = L.length
        · have e : m = L.length - 1 := by omega
          have hk' : k' = s.new := by rw [hnew]; rw [e, hp] at hm; rw [Option.some.inj hm]
          obtain rfl : x = xp := by rw [hk'] at hx; exact Option.some.inj (hx.symm.trans hxp')
          refine ⟨x, _, hx, by simp only [aget_put]; rw [if_pos hk'.symm], ?_⟩
          simp [nd, hxp', he]
        · refine ⟨x, x, hx, ?_, rfl, rfl, by rw [if_neg he]⟩
          simp only [aget_put]
          rw [if_neg]
          · exact hx
          · rw [hnew]
            intro e
            have := h.inj (L.length - 1) m k' L[L.length - 1].2 v' (by rw [hp, ← e]) hm
            omega
  obtain ⟨a1, a2, a3, a4, a5, a6, a7⟩ := hA
  have hout := aget_none.1 a3
  have hget : ∀ (j : Nat) (k' : Ky) (v' : List UInt8), (L ++ [(k, v)])[j]? = some (k', v') → (L[j]? = some (k', v')) ∨ (j = L.length ∧ k' = k ∧ v' = v) := fun j k' v' hj => by
    rcases Nat.lt_or_ge j L.length with hl | hl
    · rw [List.getElem?_append_left hl] at hj; exact .inl hj
    · rw [List.getElem?_append_right hl] at hj
      rcases Nat.eq_or_lt_of_le hl with e | e
      · rw [← e, Nat.sub_self] at hj
        simp at hj
        exact .inr ⟨e.symm, hj.1.symm, hj.2.symm⟩
      · rw [List.getElem?_eq_none (by simp; omega)] at hj; cases hj
  have hlt : ∀ {j : Nat} {y : Item}, L[j]? = some y → j < L.length := fun h => (List.getElem?_eq_some_iff.1 h).1
  refine ⟨?_, nodup_put a2 _ _, fun j j' k' v1 v2 h1 h2 => ?_, fun j k' v' hj => ?_, fun k' hk' => ?_, a6, fun j y hy hj => ?_⟩
  · simp only [pushS]
    rw [length_put_out _ hout, a1, h.len]; simp
  · rcases hget _ _ _ h1 with g1 | ⟨g1, g2, _⟩ <;> rcases hget _ _ _ h2 with g3 | ⟨g3, g4, _⟩
    · exact h.inj _ _ _ _ _ g1 g3
    · exact absurd g4 (hnk _ _ _ g1)
    · exact absurd g2 (hnk _ _ _ g3)
    · omega
  · simp only [pushS, aget_put]
    rcases hget _ _ _ hj with g | ⟨g1, g2, g3⟩
    · rw [if_neg (fun e => hnk _ _ _ g e.symm)]
      obtain ⟨x, y, h1, h2, h3, h4, h5⟩ := a7 j k' v' g
      obtain ⟨x2, e1, e2, e3, e4⟩ := h.at_ j k' v' g
      obtain rfl : x = x2 := Option.some.inj (h1.symm.trans e1)
      refine ⟨y, h2, h3.trans e2, fun z hz => ?_, fun j' z hj' hz => ?_⟩
      · rw [h5]
        rcases hget _ z.1 z.2 hz with g' | ⟨g1, g2, g3⟩
        · have := hlt g'
          rw [if_neg (by omega)]
          exact e3 _ g'
        · rw [if_pos g1]; exact g2.symm
      · rw [h4]
        have := hlt g
        rw [List.getElem?_append_left (by omega)] at hz
        exact e4 j' z hj' hz
    · subst g2; subst g3
      rw [if_pos rfl]
      refine ⟨_, rfl, rfl, fun z hz => ?_, fun j' z hj' hz => ?_⟩
      · rw [List.getElem?_eq_none (by simp; omega)] at hz; cases hz
      · simp only
        rw [a5]
        rw [List.getElem?_append_left (by omega)] at hz
        exact h.new _ _ hz (by omega)
  · simp only [pushS, aget_put] at hk'
    split at hk'
    · rename_i e
      exact ⟨L.length, v, by simp [e]⟩
    · obtain ⟨m, v', hm⟩ := h.mem k' (a4 k' hk')
      exact ⟨m, v', by rw [List.getElem?_append_left (hlt hm)]; exact hm⟩
  · rw [List.length_append, List.length_singleton] at hj
    have : j = L.length := by omega
    subst this
    simp at hy
    rw [← hy]; rfl
end
def rDrop (L : List Item) (k : Ky) : List Item := L.filter fun x => decide (x.1 ≠ k)
def hasK (L : List Item) (k : Ky) : Bool := L.any fun x => decide (x.1 = k)
def valK (L : List Item) (k : Ky) : List UInt8 := ((L.find? fun x => decide (x.1 = k)).map Prod.snd).getD []
/-- What putting leaves, what goes, and whether one goes. -/
def rPutL (most : Nat) (L : List Item) (k : Ky) (v : List UInt8) : List Item :=
  if (rDrop L k ++ [(k, v)]).length ≤ most then rDrop L k ++ [(k, v)] else (rDrop L k ++ [(k, v)]).tail
def rPutK (most : Nat) (L : List Item) (k : Ky) (v : List UInt8) : Ky :=
  if (rDrop L k ++ [(k, v)]).length ≤ most then (0, 0) else ((rDrop L k ++ [(k, v)]).head?.map Prod.fst).getD (0, 0)
def rPutB (most : Nat) (L : List Item) (k : Ky) (v : List UInt8) : Bool := decide (most < (rDrop L k ++ [(k, v)]).length)
def rGetL (L : List Item) (k : Ky) : List Item := if hasK L k then rDrop L k ++ [(k, valK L k)] else L
theorem filter_erase : ∀ (L : List Item) (i : Nat) (k : Ky) (v : List UInt8), L[i]? = some (k, v) → (∀ (j : Nat) (v' : List UInt8), L[j]? = some (k, v') → j = i) → rDrop L k = L.eraseIdx i
  | [], _, _, _, h, _ => by simp at h
  | x :: L, 0, k, v, h, hu => by
    have hx : x = (k, v) := by simpa using h
    subst hx
    have : rDrop L k = L := List.filter_eq_self.2 fun y hy => by
      obtain ⟨j, hj⟩ := List.mem_iff_getElem?.1 hy
      refine decide_eq_true fun e => ?_
      have := hu (j + 1) y.2 (by rw [List.getElem?_cons_succ, hj, ← e])
      omega
    simp only [rDrop, List.filter_cons] at this ⊢
    simpa using this
  | x :: L, i + 1, k, v, h, hu => by
    have hx : x.1 ≠ k := fun e => by
      have := hu 0 x.2 (by simp [← e])
      omega
    have ih := filter_erase L i k v (by simpa using h) (fun j v' hj => by have := hu (j + 1) v' (by simpa using hj); omega)
    simp only [rDrop, List.filter_cons] at ih ⊢
    rw [if_pos (decide_eq_true hx), ih]
    rfl
section
variable {s : CS} {L : List Item} {i : Nat} {k : Ky} {v : List UInt8}
theorem hasK_iff : hasK L k = true ↔ ∃ (i : Nat) (v : List UInt8), L[i]? = some (k, v) := by
  simp only [hasK, List.any_eq_true, decide_eq_true_eq]
  constructor
  · rintro ⟨x, hx, rfl⟩
    obtain ⟨i, hi⟩ := List.mem_iff_getElem?.1 hx
    exact ⟨i, x.2, hi⟩
  · rintro ⟨i, v, hi⟩
    exact ⟨_, List.mem_of_getElem? hi, rfl⟩
theorem drop_none (h : hasK L k = false) : rDrop L k = L := by
  refine List.filter_eq_self.2 fun y hy => decide_eq_true fun e => ?_
  have : hasK L k = true := List.any_eq_true.2 ⟨y, hy, decide_eq_true e⟩
  rw [h] at this; cases this
theorem Rep.has (h : Rep s L) (k : Ky) : (aget s.M k).isSome = hasK L k := by
  rw [Bool.eq_iff_iff, hasK_iff]
  constructor
  · exact h.mem k
  · rintro ⟨i, v, hi⟩
    obtain ⟨x, hx, _⟩ := h.at_ i k v hi
    simp [hx]
theorem Rep.drop (h : Rep s L) (hi : L[i]? = some (k, v)) : rDrop L k = L.eraseIdx i :=
  filter_erase L i k v hi fun j v' hj => h.inj _ _ _ _ _ hj hi
theorem Rep.val (h : Rep s L) (hk : hasK L k = true) : (nd s.M k).v = valK L k ∧ Rep (cutS s k) (rDrop L k) := by
  obtain ⟨i, v, hi⟩ := hasK_iff.1 hk
  refine ⟨?_, by rw [h.drop hi]; exact h.cut hi⟩
  rw [h.nd_v hi]
  unfold valK
  cases hf : L.find? (fun x => decide (x.1 = k)) with
  | none =>
    have := List.find?_eq_none.1 hf _ (List.mem_of_getElem? hi)
    simp at this
  | some x =>
    have h1 := List.find?_some hf
    have h2 := List.mem_of_find?_eq_some hf
    obtain ⟨j, hj⟩ := List.mem_iff_getElem?.1 h2
    have hx1 : x.1 = k := by simpa using h1
    have : j = i := h.inj _ _ _ _ _ (by rw [hj, ← hx1]) hi
    subst this
    rw [hj] at hi
    simp [Option.some.inj hi]
theorem drop_has (L : List Item) (k : Ky) : hasK (rDrop L k) k = false := by
  rw [Bool.eq_false_iff]
  intro h
  obtain ⟨x, hx, he⟩ := List.any_eq_true.1 h
  have := (List.mem_filter.1 hx).2
  simp_all
theorem Rep.gone (h : Rep s L) (hk : hasK L k = false) : aget s.M k = none := by
  have := h.has k
  rw [hk] at this
  simpa using this
theorem Rep.oldest (h : Rep s L) {x : Item} {r : List Item} (hL : L = x :: r) : s.old = x.1 ∧ Rep (cutS s x.1) r := by
  subst hL
  refine ⟨h.old x rfl, ?_⟩
  have := h.cut (i := 0) (k := x.1) (v := x.2) rfl
  simpa using this
end
end Go.Proofs.Ytjelakmndcecoaa

namespace Go.Proofs.Ytjelakmndcecoaa
open Go.RowKit
set_option linter.unusedVariables false
set_option linter.unusedSimpArgs false
abbrev encK (a : Ky) : Value := .agg #[uq a.1, uq a.2]
abbrev encV (x : Node) : Value := .agg #[.string (str x.v), uq x.o.1, uq x.o.2, uq x.n.1, uq x.n.2]
theorem keyOk : KeyOk Try.prog 47 encK where
  eq a b w := by
    obtain ⟨a1, a2⟩ := a
    obtain ⟨b1, b2⟩ := b
    simp [go_sem, Op.equal, Op.maxDepth, encK]
    by_cases h1 : a1 = b1 <;> by_cases h2 : a2 = b2
    · simp [h1, h2]
    · have : ¬ (a2 : Int) = b2 := by omega
      simp [h1, h2, this]
    · have : ¬ (a1 : Int) = b1 := by omega
      simp [h1, this]
    · have : ¬ (a1 : Int) = b1 := by omega
      simp [h1, this]
  chk e a w := by
    have hi : ∀ (x : Nat) (n : Nat), (Instr.checkKey e (n + 1) 35 (.int .u64 (x : Int))).run Try.prog w = .ok () w := fun x n => by
      rw [Instr.checkKey]
      simp [run_underlying Try.underlying35]
    rw [show (10000 : Nat) = 9998 + 1 + 1 from rfl, Instr.checkKey]
    simp [go_sem, run_underlying Try.underlying47, encK, hi]
  und := ⟨_, Try.underlying47, .inl fun a b => by simp [Instr.sameNow]⟩
  same a := by simp [Instr.sameBits, encK]
theorem nd_eq (M : List (Ky × Node)) (k : Ky) : ((aget M k).map encV).getD (encV node0) = encV (nd M k) := by
  unfold nd
  cases aget M k <;> rfl
theorem look_v {M : List (Ky × Node)} {k : Ky} {x : Node} (h : nd M k = x) :
    (if false = true then Value.tuple #[((aget M k).map encV).getD (encV node0), .bool (aget M k).isSome] else ((aget M k).map encV).getD (encV node0)) = .agg #[.string (str x.v), uq x.o.1, uq x.o.2, uq x.n.1, uq x.n.2] := by
  subst h
  exact nd_eq M k
theorem look_t {M : List (Ky × Node)} {k : Ky} {x : Node} {is : Bool} (h : nd M k = x) (hi : (aget M k).isSome = is) :
    (if true = true then Value.tuple #[((aget M k).map encV).getD (encV node0), .bool (aget M k).isSome] else ((aget M k).map encV).getD (encV node0)) = .tuple #[.agg #[.string (str x.v), uq x.o.1, uq x.o.2, uq x.n.1, uq x.n.2], .bool is] := by
  subst h
  subst hi
  rw [if_pos rfl, nd_eq M k]
/-- Are two keys the same? -/
def keq (a b : Ky) : Bool := decide (a = b)
theorem key_eq (a b : Ky) : EqV Try.prog 10000 47 (encK a) (encK b) (keq a b) := by
  have h : EqV Try.prog 10000 47 (encK a) (encK b) _ := EqV.struct Try.underlying47 (by kernel_rfl) (.cons rfl tyA35 tyS35 rfl rfl (EqV.int Try.underlying35) (.cons rfl tyA35 tyS35 rfl rfl (EqV.int Try.underlying35) .nil))
  have e : keq a b = ((((a.1 : Int) == (b.1 : Int)) && (((a.2 : Int) == (b.2 : Int)) && true))) := by
    obtain ⟨a1, a2⟩ := a
    obtain ⟨b1, b2⟩ := b
    rw [Bool.eq_iff_iff]
    simp [keq]
    omega
  rw [e]
  exact h
theorem guard_key : Program.eqGuardType Try.prog Try.prog.depth 47 = false := by kernel_rfl
section
variable {P : Program} {N : Nat} {w0 : World} {Wr : List Nat} {ops : Array Oper} {rest : List Oper} {fr : Fr} {H : Heap} {Z : Fr → Heap → Prop}
variable {d ty : Nat} {pos : String} {after : Array Edge}
end
end Go.Proofs.Ytjelakmndcecoaa

namespace Go.Proofs.Ytjelakmndcecoaa
open Go.RowKit
set_option linter.unusedVariables false
set_option linter.unusedSimpArgs false
theorem cutA_yes (s : CS) (k : Ky) (x : Node) (hx : nd s.M k = x) (h : keq k s.old = true) : cutA s k = { s with M := adel s.M k, old := x.n } := by subst hx; exact if_pos (of_decide_eq_true h)
theorem cutA_no (s : CS) (k : Ky) (x y : Node) (hx : nd s.M k = x) (hy : nd (adel s.M k) x.o = y) (h : keq k s.old = false) : cutA s k = { s with M := aput (adel s.M k) x.o { y with n := x.n } } := by subst hx; subst hy; exact if_neg (of_decide_eq_false h)
theorem cutB_yes (s : CS) (k : Ky) (x : Node) (h : keq k s.new = true) : cutB s k x = { s with new := x.o } := if_pos (of_decide_eq_true h)
theorem cutB_no (s : CS) (k : Ky) (x y : Node) (hy : nd s.M x.n = y) (h : keq k s.new = false) : cutB s k x = { s with M := aput s.M x.n { y with o := x.o } } := by subst hy; exact if_neg (of_decide_eq_false h)
theorem pushA_yes (s : CS) (k : Ky) (h : s.M.length = 0) : pushA s k = { s with old := k } := if_pos h
theorem pushA_no (s : CS) (k : Ky) (y : Node) (hy : nd s.M s.new = y) (h : ¬ s.M.length = 0) : pushA s k = { s with M := aput s.M s.new { y with n := k } } := by subst hy; exact if_neg h
end Go.Proofs.Ytjelakmndcecoaa

namespace Go.Proofs.Ytjelakmndcecoaa
open Go.RowKit
set_option linter.unusedVariables false
set_option linter.unusedSimpArgs false
theorem rPut_few {most : Nat} {L : List Item} {k : Ky} {v : List UInt8} (h : (rDrop L k ++ [(k, v)]).length ≤ most) : rPutL most L k v = rDrop L k ++ [(k, v)] ∧ rPutK most L k v = (0, 0) ∧ rPutB most L k v = false :=
  ⟨if_pos h, if_pos h, decide_eq_false (by omega)⟩
theorem rPut_many {most : Nat} {L : List Item} {k : Ky} {v : List UInt8} {x : Item} {r : List Item} (h : ¬ (rDrop L k ++ [(k, v)]).length ≤ most) (hx : rDrop L k ++ [(k, v)] = x :: r) : rPutL most L k v = r ∧ rPutK most L k v = x.1 ∧ rPutB most L k v = true :=
  ⟨by unfold rPutL; rw [if_neg h, hx]; rfl, by unfold rPutK; rw [if_neg h, hx]; rfl, decide_eq_true (by omega)⟩
theorem drop_len (L : List Item) (k : Ky) : (rDrop L k).length ≤ L.length := List.length_filter_le _ _
theorem nd_none {M : List (Ky × Node)} {k : Ky} (h : (aget M k).isSome = false) : (nd M k).v = [] := by
  rw [Option.isSome_eq_false_iff, Option.isNone_iff_eq_none] at h
  unfold nd
  rw [h]; rfl
theorem valK_none {L : List Item} {k : Ky} (h : hasK L k = false) : valK L k = [] := by
  unfold valK
  have : L.find? (fun x => decide (x.1 = k)) = none := List.find?_eq_none.2 fun x hx he => by
    have : hasK L k = true := List.any_eq_true.2 ⟨x, hx, he⟩
    rw [h] at this; cases this
  rw [this]; rfl
end Go.Proofs.Ytjelakmndcecoaa

namespace Go.Proofs.Ytjelakmndcecoaa
open Go.RowKit
set_option linter.unusedVariables false
set_option linter.unusedSimpArgs false
def kcell (x : Item) : List Value := [uq x.1.1, uq x.1.2]
theorem kcell_len (x : Item) : (kcell x).length = 2 := rfl
def kcells (L : List Item) : List Value := L.flatMap kcell
theorem kcells_len (L : List Item) : (kcells L).length = L.length * 2 := fm_len kcell_len L
theorem elemKey : ElemOk Try.prog 42 47 2 16 := ElemOk.mk_ (z := .agg #[.int .u64 0, .int .u64 0]) Try.underlying42 (by kernel_rfl) rfl (by omega)
theorem clip_fn (v : Value) (n : Nat) (xs : List Value) (hv : RowOk v n) :
    Fn Try.prog 44 [v] (rowE v 47 2 xs) fun u H' => RowOk u n ∧ H' = clipE u 47 2 xs := by
  rcases hv with ⟨rfl, rfl⟩ | ⟨g, c, rfl⟩
  · refine Fn.enter (N := 9) Try.func44 rfl (by kernel_rfl) rfl (fun w0 => ?_)

    refine awp_seq_region (fun Z hZ => ?_)
    refine sx_assign rfl rfl ?_
    refine sx_nil (hZ _ _ ?_)
    refine awp_forget [(0, _)] (Kn.cons rfl (Kn.nil)) ?_
    refine awp_seq_region (fun Z hZ => ?_)
    refine sx_move rfl rfl ?_
    refine sx_move rfl rfl ?_
    first | refine sx_len Try.underlying42 rfl rfl ?_ | refine sx_lenS Try.underlying42 rfl rfl ?_
    refine sx_move rfl rfl ?_
    first | refine sx_len Try.underlying42 rfl rfl ?_ | refine sx_lenS Try.underlying42 rfl rfl ?_
    refine sx_clip (n := 0) Try.underlying42 tyS47 (.inl ⟨rfl, rfl⟩) rfl (by omega) rfl rfl rfl ?_
    refine sx_assign rfl rfl ?_
    refine sx_nil (hZ _ _ ?_)
    refine awp_forget [(2, _)] (Kn.cons rfl (Kn.nil)) ?_
    refine awp_ret ?_
    repeat (with_reducible (first | refine nx_then_ret ?_ | refine nx_block_ret ?_ | refine nx_scope_ret ?_))
    exact nx_ret1 rfl rfl ⟨RowOk.nil, rfl⟩
  · rcases Nat.lt_or_ge c n with hlt | hge
    · refine ⟨Enters.mk Try.func44 (by kernel_rfl) (by kernel_rfl), fun w hw => ?_⟩
      obtain ⟨o, _, cur, _, h2, _⟩ := hw.mem (i := 0) (e := .ob g (RowP 47 2 n c xs)) rfl
      omega
    · refine Fn.enter (N := 9) Try.func44 rfl (by kernel_rfl) rfl (fun w0 => ?_)

      refine awp_seq_region (fun Z hZ => ?_)
      refine sx_assign rfl rfl ?_
      refine sx_nil (hZ _ _ ?_)
      refine awp_forget [(0, _)] (Kn.cons rfl (Kn.nil)) ?_
      refine awp_seq_region (fun Z hZ => ?_)
      refine sx_move rfl rfl ?_
      refine sx_move rfl rfl ?_
      first | refine sx_len Try.underlying42 rfl rfl ?_ | refine sx_lenS Try.underlying42 rfl rfl ?_
      refine sx_move rfl rfl ?_
      first | refine sx_len Try.underlying42 rfl rfl ?_ | refine sx_lenS Try.underlying42 rfl rfl ?_
      refine sx_clip Try.underlying42 tyS47 (.inr ⟨g, 0, rfl⟩) rfl hge rfl rfl rfl ?_
      refine sx_assign rfl rfl ?_
      refine sx_nil (hZ _ _ ?_)
      refine awp_forget [(2, _)] (Kn.cons rfl (Kn.nil)) ?_
      refine awp_ret ?_
      repeat (with_reducible (first | refine nx_then_ret ?_ | refine nx_block_ret ?_ | refine nx_scope_ret ?_))
      exact nx_ret1h _ rfl rfl (row_clip []) ⟨RowOk.mk _ _ _, rfl⟩
end Go.Proofs.Ytjelakmndcecoaa
