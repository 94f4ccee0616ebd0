/- The document's Between, plain. No conditions. -/
import Derived.Test.YtahmhcmfeloclaaDf2
namespace Go.Proofs.Ytahmhcmfeloclaa
open Go.RowKit
set_option linter.unusedVariables false
set_option linter.unusedSimpArgs false
def insQ (acc : List It) (x : It) : List It := if cHas x.id acc then acc else cPut x.id x.tx acc
def allQ (l : List It) : List It := l.foldl insQ []
theorem ins_ok {acc : List It} (h : Rise acc) (x : It) : Rise (insQ acc x) ∧ (∀ k, k ∈ idsI (insQ acc x) ↔ k = x.id ∨ k ∈ idsI acc) ∧ (insQ acc x).length ≤ acc.length + 1 := by
  unfold insQ
  split
  · rename_i hh
    refine ⟨h, fun k => ⟨.inr, fun hk => ?_⟩, by omega⟩
    rcases hk with rfl | hk
    · rw [chas_mem h] at hh; exact of_decide_eq_true hh
    · exact hk
  · rename_i hh
    refine ⟨put_rise h _ _, fun k => ?_, by rw [put_len h]; split <;> omega⟩
    obtain ⟨X, Y, hf, ⟨s, rfl⟩ | rfl⟩ := it_half h x.id
    · exact absurd hf.has1 hh
    · rw [hf.put0]
      simp [idsI]
      constructor
      · rintro (h | h | h)
        · exact .inr (.inl h)
        · exact .inl h
        · exact .inr (.inr h)
      · rintro (h | h | h)
        · exact .inr (.inl h)
        · exact .inl h
        · exact .inr (.inr h)
theorem all_ok : ∀ (l acc : List It), Rise acc → Rise (l.foldl insQ acc) ∧ (∀ k, k ∈ idsI (l.foldl insQ acc) ↔ k ∈ idsI l ∨ k ∈ idsI acc) ∧ (l.foldl insQ acc).length ≤ acc.length + l.length
  | [], acc, h => ⟨h, fun k => by simp [idsI], by simp⟩
  | x :: r, acc, h => by
    obtain ⟨h1, h2, h3⟩ := ins_ok h x
    obtain ⟨h4, h5, h6⟩ := all_ok r _ h1
    refine ⟨h4, fun k => ?_, by rw [List.length_cons]; show (List.foldl insQ (insQ acc x) r).length ≤ _; omega⟩
    show k ∈ idsI (List.foldl insQ (insQ acc x) r) ↔ _
    rw [h5, h2]
    simp only [idsI, List.map_cons, List.mem_cons]
    constructor
    · rintro (h | h | h)
      · exact .inl (.inr h)
      · exact .inl (.inl h)
      · exact .inr h
    · rintro ((h | h) | h)
      · exact .inr (.inl h)
      · exact .inl h
      · exact .inr (.inr h)
theorem allQ_snoc (l : List It) (x : It) : allQ (l ++ [x]) = insQ (allQ l) x := by simp [allQ]
theorem allQ_ok (l : List It) : Rise (allQ l) ∧ (∀ k, k ∈ idsI (allQ l) ↔ k ∈ idsI l) ∧ (allQ l).length ≤ l.length := by
  obtain ⟨h1, h2, h3⟩ := all_ok l [] List.Pairwise.nil
  exact ⟨h1, fun k => by rw [show allQ l = l.foldl insQ [] from rfl, h2]; simp [idsI], by simpa [allQ] using h3⟩
/-- What is told of an identifier. -/
def chgOf (a b : List It) (k : Nat) : Chg := ⟨k, cGet k a, cGet k b⟩
def rbetQ (a b : List It) (l : List It) : List Chg := (l.map fun e => chgOf a b e.id).filter difQ
theorem rbet_snoc (a b : List It) (l : List It) (x : It) : rbetQ a b (l ++ [x]) = rbetQ a b l ++ (if difQ (chgOf a b x.id) then [chgOf a b x.id] else []) := by
  unfold rbetQ
  rw [List.map_append, List.filter_append]
  congr 1
  simp [List.filter_cons]
theorem rbet_eq {a b : List It} (ha : ChOk a) (hb : ChOk b) : rbetQ a b (allQ (a ++ b)) = betQ a b := by
  obtain ⟨h1, h2, _⟩ := allQ_ok (a ++ b)
  obtain ⟨b1, b2⟩ := bet_mem ha hb
  refine risec_eq ((show RiseC ((allQ (a ++ b)).map fun e => chgOf a b e.id) by unfold RiseC; rw [List.pairwise_map]; exact h1).sublist List.filter_sublist) b1 fun c => ?_
  unfold rbetQ
  rw [List.mem_filter, b2 c, List.mem_map]
  unfold difQ
  simp only [decide_eq_true_eq]
  constructor
  · rintro ⟨⟨e, _, rfl⟩, h⟩
    exact ⟨rfl, rfl, h⟩
  · rintro ⟨h4, h5, h6⟩
    refine ⟨?_, h6⟩
    have hk : c.id ∈ idsI (allQ (a ++ b)) := by
      rw [h2]
      simp only [idsI, List.map_append, List.mem_append]
      by_cases h7 : cGet c.id a = []
      · right
        have h8 : cGet c.id b ≠ [] := fun h8 => h6 (h4.symm.trans (h7.trans (h8.symm.trans h5)))
        have := (get_ne hb c.id).2 h8
        rw [rget_mem] at this
        exact of_decide_eq_true this
      · left
        have := (get_ne ha c.id).2 h7
        rw [rget_mem] at this
        exact of_decide_eq_true this
    obtain ⟨e, he, e1⟩ := List.mem_map.1 hk
    refine ⟨e, he, ?_⟩
    obtain ⟨i, o, n⟩ := c
    simp only at *
    rw [e1]
    unfold chgOf
    rw [h4, h5]
end Go.Proofs.Ytahmhcmfeloclaa
