/- The entries of a chart: where its texts stand; the rows are put together of its items, each where its text stands. Plain laws. -/
import Derived.Test.YtffahimbmpddpaaMg7
namespace Go.Proofs.Ytffahimbmpddpaa.V
open Go.RowKit
set_option linter.unusedVariables false
set_option linter.unusedSimpArgs false
theorem chk_mk {e : En} (h1 : e.len ≠ 0) (h2 : e.id + e.wide ≤ 6004799503160661) (h3 : e.off + e.len ≤ 1099511627776) : chkE e = 0 := by
  have hw : 1 ≤ e.wide := by unfold En.wide; omega
  have hn : e.next = e.off + e.len := by unfold En.next; omega
  unfold chkE
  rw [if_neg h1, if_neg (by omega), if_neg (by omega)]
theorem last_is {e : En} (h : chkE e = 0) (hr : 0 < e.run) : lastE e = e.id + e.run - 1 := by
  unfold lastE En.wide
  rw [if_pos h]
  omega
theorem fdQ_app : ∀ (ts r : List Tx) (o : Nat) (t : Tx), t ∈ ts → fdQ o (ts ++ r) t = fdQ o ts t
  | [], _, _, _, h => by cases h
  | x :: q, r, o, t, h => by
    rw [List.cons_append, fdQ, fdQ]
    split
    · rfl
    · rename_i hne
      rcases List.mem_cons.1 h with e | h
      · exact absurd e.symm hne
      · exact fdQ_app q r _ t h
theorem addC_app {ts : List Tx} (r : List Tx) {t : Tx} (h : t ∈ ts) : addC (ts ++ r) t = addC ts t := by
  unfold addC
  rw [fdQ_app ts r 0 t h]
  cases hf : fdQ 0 ts t with
  | none => exact absurd h ((fdQ_none ts 0 t).1 hf)
  | some c => rfl
theorem addC_mem {ts : List Tx} (hn : ts.Nodup) {t : Tx} (h : t ∈ ts) : (ts.flatten.drop (addC ts t).1).take (addC ts t).2 = t ∧ (addC ts t).1 + (addC ts t).2 ≤ ts.flatten.length ∧ (addC ts t).2 = t.length := by
  obtain ⟨k, hk, hkt⟩ := List.getElem_of_mem h
  have hg : ts[k]? = some t := by rw [List.getElem?_eq_getElem hk, hkt]
  obtain ⟨h1, h2⟩ := flat_at ts k t hg
  have hc : addC ts t = ((ts.take k).flatten.length, t.length) := by unfold addC; rw [fdQ_at ts 0 k t hn hg, Nat.zero_add]; rfl
  rw [hc]
  exact ⟨h2, h1, rfl⟩
theorem addT_mem (ts : List Tx) (s : Tx) : s ∈ addT ts s := by
  unfold addT
  split
  · assumption
  · simp
theorem addT_sub {ts : List Tx} (s : Tx) {t : Tx} (h : t ∈ ts) : t ∈ addT ts s := by
  unfold addT
  split
  · exact h
  · exact List.mem_append_left _ h
theorem addC_addT {ts : List Tx} (hn : ts.Nodup) (s : Tx) : addC (addT ts s) s = addC ts s := by
  unfold addT
  split
  · rfl
  · rename_i hm
    have hn2 : (ts ++ [s]).Nodup := List.nodup_append.2 ⟨hn, by simp, fun a ha b hb => by rw [List.mem_singleton.1 hb]; exact fun e => hm (e ▸ ha)⟩
    have h1 : addC ts s = (ts.flatten.length, s.length) := by unfold addC; rw [(fdQ_none ts 0 s).2 hm]; rfl
    have h2 : addC (ts ++ [s]) s = (ts.flatten.length, s.length) := by
      unfold addC
      rw [fdQ_at (ts ++ [s]) 0 ts.length s hn2 (by simp), Nat.zero_add]
      simp
    rw [h1, h2]
def tsS (C : List It) : List Tx := C.foldl (fun ts x => addT ts x.tx) []
theorem tsS_pre : ∀ (Q : List It) (ts : List Tx), ∃ r, Q.foldl (fun ts x => addT ts x.tx) ts = ts ++ r
  | [], ts => ⟨[], by simp⟩
  | x :: q, ts => by
    obtain ⟨r, hr⟩ := tsS_pre q (addT ts x.tx)
    rw [List.foldl_cons, hr]
    unfold addT
    split
    · exact ⟨r, rfl⟩
    · exact ⟨[x.tx] ++ r, by rw [List.append_assoc]⟩
theorem tsS_snoc {C : List It} {k : Nat} {x : It} (h : C[k]? = some x) : tsS (C.take (k + 1)) = addT (tsS (C.take k)) x.tx := by
  obtain ⟨hlt, rfl⟩ := List.getElem?_eq_some_iff.1 h
  unfold tsS
  rw [List.take_succ_eq_append_getElem hlt, List.foldl_append, List.foldl_cons, List.foldl_nil]
theorem tsS_take (C : List It) (k : Nat) : ∃ r, tsS C = tsS (C.take k) ++ r := by
  have h : tsS C = (C.drop k).foldl (fun ts x => addT ts x.tx) (tsS (C.take k)) := by
    unfold tsS
    rw [← List.foldl_append, List.take_append_drop]
  rw [h]
  exact tsS_pre _ _
theorem tsS_ok {C : List It} (h : ∀ x ∈ C, x.tx ≠ []) : ∀ k, k ≤ C.length → TsOk (tsS (C.take k)) ∧ ∀ t, t ∈ tsS (C.take k) ↔ ∃ x ∈ C.take k, x.tx = t
  | 0, _ => ⟨⟨List.nodup_nil, fun t ht => by cases ht⟩, fun t => by simp [tsS]⟩
  | k + 1, hk => by
    have hx : C[k]? = some C[k] := List.getElem?_eq_getElem (by omega)
    obtain ⟨h1, h2⟩ := tsS_ok h k (by omega)
    rw [tsS_snoc hx]
    refine ⟨addT_ok h1 (h _ (List.getElem_mem _)), fun t => ?_⟩
    rw [List.take_succ_eq_append_getElem (by omega)]
    constructor
    · intro ht
      unfold addT at ht
      split at ht
      · obtain ⟨x, hx, he⟩ := (h2 t).1 ht
        exact ⟨x, List.mem_append_left _ hx, he⟩
      · rcases List.mem_append.1 ht with ht | ht
        · obtain ⟨x, hx, he⟩ := (h2 t).1 ht
          exact ⟨x, List.mem_append_left _ hx, he⟩
        · exact ⟨C[k], List.mem_append_right _ (List.mem_singleton.2 rfl), (List.mem_singleton.1 ht).symm⟩
    · rintro ⟨x, hx2, rfl⟩
      rcases List.mem_append.1 hx2 with hx2 | hx2
      · exact addT_sub _ ((h2 x.tx).2 ⟨x, hx2, rfl⟩)
      · rw [List.mem_singleton.1 hx2]; exact addT_mem _ _
/-- The items as entries of one tile each. -/
def unitsQ (C : List It) : List En := C.map (enOf (tsS C))
theorem rows_eq {C : List It} (h : ∀ x ∈ C, x.tx ≠ []) : ∀ k, k ≤ C.length → rowsS (C.take k) = (((C.take k).map (enOf (tsS C))).foldl put1 [], tsS (C.take k))
  | 0, _ => by simp [rowsS, tsS]
  | k + 1, hk => by
    have hx : C[k]? = some C[k] := List.getElem?_eq_getElem (by omega)
    obtain ⟨h1, h2⟩ := tsS_ok h k (by omega)
    have hen : enOf (tsS (C.take k)) C[k] = enOf (tsS C) C[k] := by
      obtain ⟨r, hr⟩ := tsS_take C (k + 1)
      unfold enOf
      rw [hr, addC_app r (by rw [tsS_snoc hx]; exact addT_mem _ _), tsS_snoc hx, addC_addT h1.nd]
    rw [rows_snoc hx, rows_eq h k (by omega), tsS_snoc hx]
    unfold rwS
    simp only
    rw [hen, List.take_succ_eq_append_getElem (by omega), List.map_append, List.foldl_append]
    rfl
theorem rows_is {C : List It} (h : ∀ x ∈ C, x.tx ≠ []) : rowsS C = ((unitsQ C).foldl put1 [], tsS C) := by
  have := rows_eq h C.length (Nat.le_refl _)
  rw [List.take_length] at this
  exact this
end Go.Proofs.Ytffahimbmpddpaa.V
