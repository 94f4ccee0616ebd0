/- What a shelf keeps: its memory, and how it stands to the document's list of texts. No program in sight but for the cells. No conditions. -/
import Derived.Test.YtjelakmndcecoaaLi15
import Derived.Test.YtjelakmndcecoaaGlr2
import Derived.Test.YtjelakmndcecoaaGdr3
import Derived.Test.YtjelakmndcecoaaLf1
import Derived.Test.YtjelakmndcecoaaMr1
import Derived.Test.YtjelakmndcecoaaSxS
import Derived.Test.YtjelakmndcecoaaSxC
namespace Go.Proofs.Ytjelakmndcecoaa
open Go.RowKit
set_option linter.unusedVariables false
set_option linter.unusedSimpArgs false
/-- The directory of a text. -/
abbrev decL (t : List UInt8) : List En := (decQ t).1
/-- A row as it is kept: where it stands, its room, its entries. -/
structure Rw where
  a : Option Addr
  c : Nat
  L : List En
abbrev encR (r : Rw) : Value := .slice r.a r.L.length r.c
def rw0 : Rw := ⟨none, 0, []⟩
/-- The row is there to be read. -/
def Has (T : Heap) (r : Rw) : Prop := SlOk r.a r.L.length ∧ (roE r.a (ecells r.L)).Sublist T
theorem Has.more {T : Heap} {r : Rw} (h : Has T r) (X : Heap) : Has (X ++ T) r := ⟨h.1, h.2.trans (List.sublist_append_right _ _)⟩
theorem zeroR (w : World) : (zeroValue 44).run Try.prog w = .ok (encR rw0) w := by kernel_rfl
theorem keyI : KeyOk Try.prog 3 (fun k : Nat => iq k) where
  eq a b w := by
    have h : ((a : Int) = (b : Int)) ↔ a = b := by omega
    simp [go_sem, Op.equal, Op.maxDepth, run_underlying Try.underlying3]
    rw [Bool.eq_iff_iff]
    simp [h]
  chk e a w := by
    rw [show (10000 : Nat) = 9999 + 1 from rfl, Instr.checkKey]
    simp [run_underlying Try.underlying3]
  und := ⟨_, Try.underlying3, .inr fun a b => by
    have h : ((a : Int) = (b : Int)) ↔ a = b := by omega
    simp only [Instr.sameNow, if_true]
    congr 1
    rw [Bool.eq_iff_iff]
    simp [h]⟩
  same a := by simp [Instr.sameBits]
structure Sh where
  s : LI.CS
  M : List (Nat × Rw)
  nx : Nat
  hi : Nat
  mi : Nat
def sh0 : Sh := ⟨⟨[], (0, 0), (0, 0)⟩, [], 0, 0, 0⟩
abbrev rowsE (b : Nat) (M : List (Nat × Rw)) : Ent := mapW (fun k : Nat => iq k) encR b M
/-- A shelf's blocks: itself, its map of rows, its cache. -/
structure Bk where
  g : Nat
  b : Nat
  cg : Nat
  cb : Nat
abbrev shelfE (B : Bk) (nx hi mi : Nat) : Ent := .own B.g 60 [ptr B.cg 0, .map (some B.b), iq nx, iq hi, iq mi]
abbrev shH (B : Bk) (most : Nat) (S : Sh) : Heap := shelfE B S.nx S.hi S.mi :: rowsE B.b S.M :: LI.cacheH B.cg B.cb most S.s
/-- A shelf and the document's list: numbers in the place of texts, each with its row. -/
structure ShOk (most : Nat) (S : Sh) (X : List Item) (T : Heap) (L : List LI.Item) (tx : Nat → List UInt8) : Prop where
  rep : LI.Rep S.s L
  val : X = L.map fun x => (x.1, tx x.2)
  len : L.length ≤ most
  row : ∀ x ∈ L, x.2 ≤ S.nx ∧ ∃ r, aget S.M x.2 = some r ∧ r.L = decL (tx x.2)
  has : ∀ n r, aget S.M n = some r → Has T r ∧ r.L.length ≤ 4096
  one : (L.map fun x => x.2).Nodup
  mn : (akeys S.M).Nodup
def ShIs (most : Nat) (S : Sh) (X : List Item) (T : Heap) : Prop := ∃ L tx, ShOk most S X T L tx
theorem ShOk.is {most : Nat} {S : Sh} {X : List Item} {T : Heap} {L : List LI.Item} {tx : Nat → List UInt8} (h : ShOk most S X T L tx) : ShIs most S X T := ⟨L, tx, h⟩
theorem sh0_ok (most : Nat) : ShIs most sh0 [] [] :=
  ⟨[], fun _ => [], LI.Rep.empty, rfl, Nat.zero_le _, by simp, fun n r h => by simp [sh0, aget] at h, List.nodup_nil, List.nodup_nil⟩
section
variable (tx : Nat → List UInt8) (L : List LI.Item) (k : Ky)
theorem tx_drop : rDrop (L.map fun x => (x.1, tx x.2)) k = (LI.rDrop L k).map fun x => (x.1, tx x.2) := by
  simp only [rDrop, LI.rDrop, List.filter_map]
  rfl
theorem tx_has : hasK (L.map fun x => (x.1, tx x.2)) k = LI.hasK L k := by
  simp only [hasK, LI.hasK, List.any_map]
  rfl
theorem tx_val (h : LI.hasK L k = true) : valK (L.map fun x => (x.1, tx x.2)) k = tx (LI.valK L k) := by
  unfold valK LI.valK
  rw [List.find?_map]
  have : L.find? ((fun x : Item => decide (x.1 = k)) ∘ fun x : LI.Item => ((x.1, tx x.2) : Item)) = L.find? fun x => decide (x.1 = k) := rfl
  rw [this]
  cases hf : L.find? fun x => decide (x.1 = k) with
  | none =>
    obtain ⟨x, hx, he⟩ := List.any_eq_true.1 h
    exact absurd he (List.find?_eq_none.1 hf x hx)
  | some x => rfl
theorem tx_get : rGetL (L.map fun x => (x.1, tx x.2)) k = (LI.rGetL L k).map fun x => (x.1, tx x.2) := by
  unfold rGetL LI.rGetL
  rw [tx_has]
  cases h : LI.hasK L k with
  | false => rfl
  | true => rw [if_pos rfl, if_pos rfl, tx_drop, tx_val tx L k h, List.map_append]; rfl
end
theorem val_mem {L : List LI.Item} {k : Ky} (h : LI.hasK L k = true) : (k, LI.valK L k) ∈ L := by
  unfold LI.valK
  cases hf : L.find? fun x => decide (x.1 = k) with
  | none =>
    obtain ⟨x, hx, he⟩ := List.any_eq_true.1 h
    exact absurd he (List.find?_eq_none.1 hf x hx)
  | some x =>
    have h1 := List.find?_some hf
    have h2 := List.mem_of_find?_eq_some hf
    have hx1 : x.1 = k := by simpa using h1
    subst hx1
    exact h2
section
variable {most : Nat} {S : Sh} {X : List Item} {T : Heap} {L : List LI.Item} {tx : Nat → List UInt8} {k : Ky}
theorem ShOk.has_eq (h : ShOk most S X T L tx) (k : Ky) : LI.hasK L k = hasK X k := by rw [h.val, tx_has]
/-- What is looked for and there. -/
theorem ShOk.look (h : ShOk most S X T L tx) (hk : LI.hasK L k = true) : ∃ r, aget S.M (LI.valK L k) = some r ∧ r.L = decL (valK X k) ∧ Has T r ∧ r.L.length ≤ 4096 := by
  obtain ⟨_, r, h1, h2⟩ := h.row _ (val_mem hk)
  refine ⟨r, h1, ?_, h.has _ _ h1⟩
  rw [h2, h.val, tx_val tx L k hk]
theorem mem_get {L : List LI.Item} {k : Ky} {x : LI.Item} (hx : x ∈ LI.rGetL L k) : x ∈ L := by
  unfold LI.rGetL at hx
  cases h : LI.hasK L k with
  | false => rw [h] at hx; exact hx
  | true =>
    rw [h, if_pos rfl] at hx
    rcases List.mem_append.1 hx with hx | hx
    · exact (List.mem_filter.1 hx).1
    · rw [List.mem_singleton.1 hx]
      exact val_mem h
theorem drop_len' (L : List LI.Item) (k : Ky) (h : LI.hasK L k = true) : (LI.rDrop L k).length + 1 ≤ L.length := by
  have h1 := val_mem h
  have : (LI.rDrop L k).length < L.length := by
    refine List.length_filter_lt_length_iff_exists.2 ⟨_, h1, by simp⟩
  omega
theorem ShOk.get (h : ShOk most S X T L tx) {s' : LI.CS} (hR : LI.Rep s' (LI.rGetL L k)) (hi mi : Nat) : ShOk most { S with s := s', hi := hi, mi := mi } (rGetL X k) T (LI.rGetL L k) tx := by
  refine ⟨hR, by rw [h.val, tx_get], ?_, fun x hx => h.row x (mem_get hx), h.has, ?_, h.mn⟩
  · have := h.len
    unfold LI.rGetL
    cases hk : LI.hasK L k with
    | false => exact this
    | true =>
      rw [if_pos rfl]
      have h2 := drop_len' L k hk
      rw [List.length_append]
      show _ + 1 ≤ _
      omega
  · unfold LI.rGetL
    cases hk : LI.hasK L k with
    | false => exact h.one
    | true =>
      rw [if_pos rfl, List.map_append]
      refine List.nodup_append.2 ⟨h.one.sublist (List.filter_sublist.map _), by simp, fun a ha b hb => ?_⟩
      obtain ⟨x, hx, rfl⟩ := List.mem_map.1 ha
      obtain ⟨hx1, hx2⟩ := List.mem_filter.1 hx
      simp only [List.map_cons, List.map_nil, List.mem_singleton] at hb
      subst hb
      intro he
      have hm := val_mem hk
      obtain ⟨i, hi⟩ := List.mem_iff_getElem?.1 hx1
      obtain ⟨j, hj⟩ := List.mem_iff_getElem?.1 hm
      have hij : i = j := (List.getElem?_inj (by simpa using (List.getElem?_eq_some_iff.1 hi).1) h.one).1 (by simp only [List.getElem?_map, hi, hj, Option.map_some, he])
      subst hij
      rw [hi] at hj
      have : x.1 = k := congrArg Prod.fst (Option.some.inj hj)
      simp [this] at hx2
/-- A key goes, with its row. -/
theorem ShOk.drop (h : ShOk most S X T L tx) (hk : LI.hasK L k = true) {s' : LI.CS} (hR : LI.Rep s' (LI.rDrop L k)) : ShOk most { S with s := s', M := adel S.M (LI.valK L k) } (rDrop X k) T (LI.rDrop L k) tx := by
  refine ⟨hR, by rw [h.val, tx_drop], Nat.le_trans (List.length_filter_le _ _) h.len, fun x hx => ?_, fun n r hn => ?_, h.one.sublist (List.filter_sublist.map _), nodup_del h.mn _⟩
  · obtain ⟨hx1, hx2⟩ := List.mem_filter.1 hx
    obtain ⟨h1, r, h2, h3⟩ := h.row x hx1
    refine ⟨h1, r, ?_, h3⟩
    show aget (adel S.M _) _ = _
    rw [aget_del h.mn, if_neg, h2]
    intro he
    have hm := val_mem hk
    obtain ⟨i, hi⟩ := List.mem_iff_getElem?.1 hx1
    obtain ⟨j, hj⟩ := List.mem_iff_getElem?.1 hm
    have hij : i = j := (List.getElem?_inj (by simpa using (List.getElem?_eq_some_iff.1 hi).1) h.one).1 (by simp only [List.getElem?_map, hi, hj, Option.map_some, he])
    subst hij
    rw [hi] at hj
    have : x.1 = k := congrArg Prod.fst (Option.some.inj hj)
    simp [this] at hx2
  · have hn : aget (adel S.M (LI.valK L k)) n = some r := hn
    rw [aget_del h.mn] at hn
    split at hn
    · cases hn
    · exact h.has n r hn
theorem ShOk.drop0 (h : ShOk most S X T L tx) (hk : LI.hasK L k = false) : rDrop X k = X ∧ LI.rDrop L k = L := by
  have h1 := LI.drop_none hk
  refine ⟨?_, h1⟩
  rw [h.val, tx_drop, h1]
/-- A row more, behind all others. -/
theorem ShOk.put (h : ShOk most S X T L tx) (hl : L.length < most) {t : List UInt8} {s' : LI.CS} (hR : LI.Rep s' (L ++ [(k, S.nx + 1)])) {r : Rw} {T' : Heap} (hr : Has T' r) (hrl : r.L = decL t) (hT : ∀ x, Has T x → Has T' x) (h4 : r.L.length ≤ 4096) :
    ShIs most { S with s := s', M := aput S.M (S.nx + 1) r, nx := S.nx + 1 } (X ++ [(k, t)]) T' := by
  refine ⟨L ++ [(k, S.nx + 1)], fun n => if n = S.nx + 1 then t else tx n, hR, ?_, ?_, fun x hx => ?_, fun n r' hn => ?_, ?_, nodup_put h.mn _ _⟩
  · rw [h.val, List.map_append]
    congr 1
    · refine List.map_congr_left fun x hx => ?_
      have := (h.row x hx).1
      rw [if_neg (by omega)]
    · simp
  · rw [List.length_append]
    exact hl
  · rcases List.mem_append.1 hx with hx | hx
    · obtain ⟨h1, r', h2, h3⟩ := h.row x hx
      refine ⟨Nat.le_succ_of_le h1, r', ?_, ?_⟩
      · show aget (aput _ _ _) _ = _
        rw [aget_put, if_neg (by omega), h2]
      · rw [if_neg (by omega)]; exact h3
    · rw [List.mem_singleton.1 hx]
      exact ⟨Nat.le_refl _, r, by show aget (aput _ _ _) _ = _; rw [aget_put, if_pos rfl], by rw [if_pos rfl]; exact hrl⟩
  · have hn : aget (aput S.M (S.nx + 1) r) n = some r' := hn
    rw [aget_put] at hn
    split at hn
    · obtain rfl := Option.some.inj hn
      exact ⟨hr, h4⟩
    · exact ⟨hT _ (h.has n r' hn).1, (h.has n r' hn).2⟩
  · rw [List.map_append]
    refine List.nodup_append.2 ⟨h.one, by simp, fun a ha b hb => ?_⟩
    obtain ⟨x, hx, rfl⟩ := List.mem_map.1 ha
    have := (h.row x hx).1
    simp only [List.map_cons, List.map_nil, List.mem_singleton] at hb
    omega
end
end Go.Proofs.Ytjelakmndcecoaa
