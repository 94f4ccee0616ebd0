/- What putting leaves: the plain law of LruRoom. No conditions. -/
import Derived.Test.YtoadkdlhbmmdlaaLr13
namespace Go.Proofs.Ytoadkdlhbmmdlaa
open Go.RowKit
set_option linter.unusedVariables false
set_option linter.unusedSimpArgs false
theorem Rep.sent {s : CS} {L : List Item} (h : Rep s L) (k : Ky) (v : List UInt8) : ∃ s', Rep s' (rDrop L k ++ [(k, v)]) := by
  cases hk : hasK L k with
  | true =>
    have hc := (h.val hk).2
    exact ⟨_, hc.push (v := v) (hc.gone (drop_has L k))⟩
  | false =>
    have hd := drop_none hk
    have h' : Rep s (rDrop L k) := by rw [hd]; exact h
    exact ⟨_, h'.push (v := v) (h'.gone (drop_has L k))⟩
/-- What was put last is there, if there is room; the one that goes is not. -/
theorem put_room {s s2 : CS} {most : Nat} {L : List Item} {k : Ky} {v : List UInt8} (hR : Rep s L) (hm : L.length ≤ most) (hR2 : Rep s2 (rPutL most L k v)) :
    hasK (rPutL most L k v) k = decide (0 < most) ∧ (0 < most → valK (rPutL most L k v) k = v) ∧ (rPutB most L k v = true → hasK (rPutL most L k v) (rPutK most L k v) = false) := by
  rcases Nat.eq_zero_or_pos most with h0 | h0
  · subst h0
    obtain rfl : L = [] := List.eq_nil_of_length_eq_zero (by omega)
    exact ⟨rfl, fun h => absurd h (by omega), fun _ => rfl⟩
  obtain ⟨s', hs⟩ := hR.sent k v
  have hlen : (rDrop L k ++ [(k, v)]).length = (rDrop L k).length + 1 := by simp
  have hat : (rDrop L k ++ [(k, v)])[(rDrop L k).length]? = some (k, v) := by simp
  by_cases hf : (rDrop L k ++ [(k, v)]).length ≤ most
  · obtain ⟨e1, e2, e3⟩ := rPut_few hf
    rw [e1] at hR2 ⊢
    obtain ⟨h1, h2⟩ := hR2.item hat
    rw [h2, h1, e3]
    exact ⟨by simp [h0], fun _ => rfl, fun h => by cases h⟩
  · obtain ⟨x, r, hx⟩ : ∃ x r, rDrop L k ++ [(k, v)] = x :: r := by
      cases hh : rDrop L k ++ [(k, v)] with
      | nil => simp at hh
      | cons x r => exact ⟨x, r, rfl⟩
    obtain ⟨e1, e2, e3⟩ := rPut_many hf hx
    rw [e1] at hR2 ⊢
    rw [e2]
    have hr : r[(rDrop L k).length - 1]? = some (k, v) := by
      rw [hx] at hat
      obtain ⟨n, hn⟩ : ∃ n, (rDrop L k).length = n + 1 := ⟨(rDrop L k).length - 1, by omega⟩
      rw [hn] at hat ⊢
      simpa using hat
    obtain ⟨h1, h2⟩ := hR2.item hr
    rw [h2, h1]
    refine ⟨by simp [h0], fun _ => rfl, fun _ => ?_⟩
    rw [Bool.eq_false_iff]
    intro hh
    obtain ⟨i, v', hi⟩ := hasK_iff.1 hh
    rw [hx] at hs
    have := hs.inj 0 (i + 1) x.1 x.2 v' rfl (by simpa using hi)
    omega
theorem rPut_len {most : Nat} {L : List Item} {k : Ky} {v : List UInt8} (hm : L.length ≤ most) : (rPutL most L k v).length ≤ most := by
  have hdl := drop_len L k
  unfold rPutL
  split
  · assumption
  · simp; omega
theorem ocells_key {L : List Opn} {i : Nat} {x : Opn} (h : L[i]? = some x) : rdV true 2 (ocells L) (i * 4 + 1) = some (.agg #[uq x.k.1, uq x.k.2]) := fm_rdm ocell_len 1 2 h (by omega)
theorem kcells_at {L : List Item} {i : Nat} {x : Item} (h : L[i]? = some x) : rdV true 2 (kcells L) (i * 2) = some (.agg #[uq x.1.1, uq x.1.2]) := fm_rd kcell_len h
end Go.Proofs.Ytoadkdlhbmmdlaa
