/- The entries of a chart, plain; the walk of merge.Rows. Conditions: the texts are not too long. -/
import Derived.Test.YtffahimbmpddpaaMg6
namespace Go.Proofs.Ytffahimbmpddpaa.V
open Go.RowKit
set_option linter.unusedVariables false
set_option linter.unusedSimpArgs false
set_option maxRecDepth 100000
theorem mset_run {M : List En} {k : Nat} {e : En} (h : M[k]? = some e) (y : Nat) : (ecells M).set (k * 4 + 3) (wq4 y) = ecells (M.set k { e with run := y }) := fm_set (x := e) (y := { e with run := y }) (j := 3) en_len rfl (by omega) h
def put1 (out : List En) (e : En) : List En :=
  match out[out.length - 1]? with
  | some a => if oneQ a e then out.set (out.length - 1) { a with run := a.run + 1 } else out ++ [e]
  | none => out ++ [e]
def enOf (ts : List Tx) (x : It) : En := ⟨x.id, (addC ts x.tx).1, (addC ts x.tx).2, 1⟩
def rwS (s : List En × List Tx) (x : It) : List En × List Tx := (put1 s.1 (enOf s.2 x), addT s.2 x.tx)
def rowsS (L : List It) : List En × List Tx := L.foldl rwS ([], [])
theorem rows_snoc {L : List It} {k : Nat} {x : It} (h : L[k]? = some x) : rowsS (L.take (k + 1)) = rwS (rowsS (L.take k)) x := by
  obtain ⟨hlt, rfl⟩ := List.getElem?_eq_some_iff.1 h
  unfold rowsS
  rw [List.take_succ_eq_append_getElem hlt, List.foldl_append, List.foldl_cons, List.foldl_nil]
theorem fdQ_le : ∀ (ts : List Tx) (o : Nat) (s : Tx) (c : Nat × Nat), fdQ o ts s = some c → c.2 = s.length ∧ c.1 + c.2 ≤ o + ts.flatten.length
  | [], _, _, _, h => by cases h
  | t :: r, o, s, c, h => by
    rw [fdQ] at h
    rw [List.flatten_cons, List.length_append]
    split at h
    · rename_i e
      injection h with h
      subst h
      subst e
      exact ⟨rfl, by simp only; omega⟩
    · obtain ⟨h1, h2⟩ := fdQ_le r _ s c h
      exact ⟨h1, by omega⟩
theorem addC_le (ts : List Tx) (s : Tx) : (addC ts s).2 = s.length ∧ (addC ts s).1 + (addC ts s).2 ≤ ts.flatten.length + s.length := by
  unfold addC
  cases h : fdQ 0 ts s with
  | none => exact ⟨rfl, Nat.le_refl _⟩
  | some c =>
    obtain ⟨h1, h2⟩ := fdQ_le ts 0 s c h
    refine ⟨h1, ?_⟩
    simp only [Option.getD_some]
    omega
/-- What is known of entries and contents that so many items have made. -/
structure RsOk (k : Nat) (s : List En × List Tx) : Prop where
  ts : TsOk s.2
  nt : s.2.length ≤ k
  fl : s.2.flatten.length ≤ k * 65536
  no : s.1.length ≤ k
  es : ∀ e ∈ s.1, e.ok ∧ e.run ≤ k
theorem addT_fl (ts : List Tx) (s : Tx) : (addT ts s).length ≤ ts.length + 1 ∧ (addT ts s).flatten.length ≤ ts.flatten.length + s.length := by
  unfold addT
  split
  · exact ⟨by omega, by omega⟩
  · simp
theorem RsOk.step {k : Nat} {s : List En × List Tx} (h : RsOk k s) (hk : k < 2048) {x : It} (h1 : x.id < 6004799503160661) (h2 : x.tx ≠ []) (h3 : x.tx.length ≤ 65536) : RsOk (k + 1) (rwS s x) := by
  obtain ⟨a1, a2⟩ := addT_fl s.2 x.tx
  have h4 := h.nt
  have h5 := h.fl
  have h6 := h.no
  obtain ⟨c1, c2⟩ := addC_le s.2 x.tx
  have heo : (enOf s.2 x).ok ∧ (enOf s.2 x).run ≤ k + 1 := ⟨⟨by show x.id < _; omega, by show (addC s.2 x.tx).1 < _; omega, by show (addC s.2 x.tx).2 < _; omega, by show 1 < _; omega⟩, by show 1 ≤ k + 1; omega⟩
  have happ : ∀ e ∈ s.1 ++ [enOf s.2 x], e.ok ∧ e.run ≤ k + 1 := fun e he => by
    rcases List.mem_append.1 he with he | he
    · obtain ⟨g1, g2⟩ := h.es e he
      exact ⟨g1, by omega⟩
    · rw [List.mem_singleton.1 he]; exact heo
  have hpl : (put1 s.1 (enOf s.2 x)).length ≤ k + 1 ∧ ∀ e ∈ put1 s.1 (enOf s.2 x), e.ok ∧ e.run ≤ k + 1 := by
    unfold put1
    split
    · rename_i a ha
      split
      · refine ⟨by rw [List.length_set]; omega, fun e he => ?_⟩
        rcases List.mem_or_eq_of_mem_set he with he | rfl
        · obtain ⟨g1, g2⟩ := h.es e he
          exact ⟨g1, by omega⟩
        · obtain ⟨⟨g1, g2, g3, g4⟩, g5⟩ := h.es a (List.mem_of_getElem? ha)
          exact ⟨⟨g1, g2, g3, by show a.run + 1 < _; omega⟩, by show a.run + 1 ≤ k + 1; omega⟩
      · exact ⟨by rw [List.length_append, List.length_singleton]; omega, happ⟩
    · exact ⟨by rw [List.length_append, List.length_singleton]; omega, happ⟩
  exact ⟨addT_ok h.ts h2, by show (addT s.2 x.tx).length ≤ _; omega, by show (addT s.2 x.tx).flatten.length ≤ _; omega, hpl.1, hpl.2⟩
theorem rows_ok {L : List It} (h : ChOk L) : ∀ k, k ≤ L.length → RsOk k (rowsS (L.take k))
  | 0, _ => by
    rw [List.take_zero]
    exact ⟨⟨List.nodup_nil, fun t ht => by cases ht⟩, Nat.le_refl _, by simp [rowsS], by simp [rowsS], fun e he => by cases he⟩
  | k + 1, hk => by
    have hx := itAt_at (show k < L.length by omega)
    have hm := List.mem_of_getElem? hx
    rw [rows_snoc hx]
    have h4 := h.len
    obtain ⟨h5, h6⟩ := h.tx _ hm
    exact (rows_ok h k (by omega)).step (by omega) (h.lt _ hm) h5 h6
end Go.Proofs.Ytffahimbmpddpaa.V
