/- Plain: the chart made of items. No conditions. -/
import Derived.Test.YtahmhcmfeloclaaCh9
namespace Go.Proofs.Ytahmhcmfeloclaa
open Go.RowKit
set_option linter.unusedVariables false
set_option linter.unusedSimpArgs false
/-- Why items make no chart: of those that stand ahead, and the rest. -/
def ofE : List Nat → List It → Nat
  | _, [] => 0
  | seen, e :: r => if e.id ∈ seen then 22 else if wrongQ e.id e.tx (decide (2048 ≤ seen.length)) ≠ 0 then wrongQ e.id e.tx (decide (2048 ≤ seen.length)) else ofE (seen ++ [e.id]) r
def ofQ (L : List It) : Nat := ofE [] L
def sortI (L : List It) : List It := L.foldl (fun acc e => cPut e.id e.tx acc) []
def idsI (L : List It) : List Nat := L.map fun e => e.id
theorem sortI_snoc (L : List It) (x : It) : sortI (L ++ [x]) = cPut x.id x.tx (sortI L) := by simp [sortI]
theorem put_perm {L : List It} (hr : Rise L) {k : Nat} (t : List UInt8) (h : cHas k L = false) : (cPut k t L).Perm (L ++ [⟨k, t⟩]) := by
  obtain ⟨X, Y, hh, ⟨s, rfl⟩ | rfl⟩ := it_half hr k
  · rw [hh.has1] at h; cases h
  · rw [hh.put0]
    exact (List.perm_middle).trans (List.perm_append_singleton _ _).symm
theorem has_mem {L : List It} (hr : Rise L) (k : Nat) : cHas k L = true ↔ k ∈ idsI L := by
  obtain ⟨X, Y, hh, ⟨s, rfl⟩ | rfl⟩ := it_half hr k
  · rw [hh.has1]; simp [idsI]
  · rw [hh.has0]
    simp only [idsI, List.map_append, List.mem_append, List.mem_map, Bool.false_eq_true, false_iff, not_or, not_exists, not_and]
    exact ⟨fun x hx => hh.ne.1 x hx, fun x hx => hh.ne.2 x hx⟩
theorem sortI_ok : ∀ (L : List It), (idsI L).Nodup → Rise (sortI L) ∧ (sortI L).Perm L := by
  intro L
  rw [← List.reverse_reverse L]
  induction L.reverse with
  | nil => exact fun _ => ⟨List.Pairwise.nil, List.Perm.refl _⟩
  | cons x r ih =>
    intro hn
    rw [List.reverse_cons] at hn ⊢
    have hn2 : (idsI r.reverse).Nodup ∧ x.id ∉ idsI r.reverse := by
      simp only [idsI, List.map_append, List.map_cons, List.map_nil] at hn ⊢
      have := List.nodup_append.1 hn
      exact ⟨this.1, fun h => this.2.2 _ h _ (by simp) rfl⟩
    obtain ⟨h1, h2⟩ := ih hn2.1
    rw [sortI_snoc]
    have hh : cHas x.id (sortI r.reverse) = false := by
      cases hc : cHas x.id (sortI r.reverse) with
      | false => rfl
      | true => exact absurd ((h2.map fun e => e.id).mem_iff.1 ((has_mem h1 x.id).1 hc)) hn2.2
    exact ⟨put_rise h1 _ _, (put_perm h1 x.tx hh).trans (h2.append_right _)⟩
/-- Rising lists of the same items are the same. -/
theorem rise_eq : ∀ {L M : List It}, Rise L → Rise M → L.Perm M → L = M
  | [], M, _, _, h => (List.nil_perm.1 h).symm
  | a :: r, [], _, _, h => absurd h (by simp)
  | a :: r, b :: s, hl, hm, h => by
    obtain ⟨a1, a2⟩ := List.pairwise_cons.1 hl
    obtain ⟨b1, b2⟩ := List.pairwise_cons.1 hm
    have hab : a = b := by
      have h1 : a ∈ b :: s := h.mem_iff.1 List.mem_cons_self
      have h2 : b ∈ a :: r := h.mem_iff.2 List.mem_cons_self
      rcases List.mem_cons.1 h1 with h1 | h1
      · exact h1
      · rcases List.mem_cons.1 h2 with h2 | h2
        · exact h2.symm
        · have := a1 b h2
          have := b1 a h1
          omega
    subst hab
    rw [rise_eq a2 b2 (h.cons_inv)]
theorem le_rise {M : List It} (h : M.Pairwise (fun a b => a.id ≤ b.id)) (hn : (idsI M).Nodup) : Rise M := by
  induction M with
  | nil => exact List.Pairwise.nil
  | cons e r ih =>
    obtain ⟨h1, h2⟩ := List.pairwise_cons.1 h
    simp only [idsI, List.map_cons, List.nodup_cons] at hn
    refine List.pairwise_cons.2 ⟨fun x hx => ?_, ih h2 hn.2⟩
    have := h1 x hx
    have hne : e.id ≠ x.id := fun hh => hn.1 (by rw [hh]; exact List.mem_map_of_mem hx)
    omega
theorem ofE_ok : ∀ (L : List It) (seen : List Nat), ofE seen L = 0 → seen.Nodup → (seen ++ idsI L).Nodup ∧ (seen.length ≤ 2048 → seen.length + L.length ≤ 2048) ∧ ∀ e ∈ L, e.id < 6004799503160661 ∧ e.tx ≠ [] ∧ e.tx.length ≤ 65536
  | [], seen, _, hn => by simp [idsI, hn]
  | e :: r, seen, h, hn => by
    rw [ofE] at h
    split at h
    · omega
    rename_i h1
    split at h
    · rename_i h2; exact absurd h h2
    rename_i h2
    have hw : wrongQ e.id e.tx (decide (2048 ≤ seen.length)) = 0 := by omega
    unfold wrongQ at hw
    repeat' split at hw
    all_goals first | omega | skip
    rename_i w1 w2 w3 w4
    have w4' : seen.length < 2048 := by simpa using w4
    have hn2 : (seen ++ [e.id]).Nodup := List.nodup_append.2 ⟨hn, by simp, fun a ha b hb hab => h1 (by simp at hb; rw [← hb, ← hab]; exact ha)⟩
    obtain ⟨i1, i2, i3⟩ := ofE_ok r (seen ++ [e.id]) h hn2
    refine ⟨by simpa [idsI] using i1, fun _ => ?_, fun x hx => ?_⟩
    · have := i2 (by simp; omega)
      simp at this ⊢
      omega
    · rcases List.mem_cons.1 hx with rfl | hx
      · exact ⟨by omega, w2, by omega⟩
      · exact i3 x hx
theorem of_ok {L : List It} (h : ofQ L = 0) : (idsI L).Nodup ∧ L.length ≤ 2048 ∧ ChOk (sortI L) ∧ (sortI L).Perm L := by
  obtain ⟨h1, h2, h3⟩ := ofE_ok L [] h List.nodup_nil
  rw [List.nil_append] at h1
  have h2 := h2 (by simp)
  simp at h2
  obtain ⟨h4, h5⟩ := sortI_ok L h1
  exact ⟨h1, h2, ⟨h4, fun e he => (h3 e (h5.mem_iff.1 he)).1, fun e he => (h3 e (h5.mem_iff.1 he)).2, by rw [h5.length_eq]; exact h2⟩, h5⟩
theorem sort_is {L M : List It} (h : (idsI L).Nodup) (hp : M.Perm L) (hs : M.Pairwise (fun a b => a.id ≤ b.id)) : M = sortI L := by
  obtain ⟨h4, h5⟩ := sortI_ok L h
  exact rise_eq (le_rise hs ((hp.map fun e : It => e.id).nodup_iff.2 h)) h4 (hp.trans h5.symm)
end Go.Proofs.Ytahmhcmfeloclaa
