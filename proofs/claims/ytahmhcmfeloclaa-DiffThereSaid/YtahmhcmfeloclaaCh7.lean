/- Plain: what is put, dropped and got, by halves. No conditions. -/
import Derived.Test.YtahmhcmfeloclaaCh6
namespace Go.Proofs.Ytahmhcmfeloclaa
open Go.RowKit
set_option linter.unusedVariables false
set_option linter.unusedSimpArgs false
def rGet (k : Nat) : List It → Option (List UInt8)
  | [] => none
  | e :: r => if e.id = k then some e.tx else rGet k r
def rDel (k : Nat) (L : List It) : List It := L.filter fun e => decide (e.id ≠ k)
/-- Two halves: what stands ahead of an identifier, and behind it. -/
structure Half (k : Nat) (X Y : List It) : Prop where
  ahead : ∀ e ∈ X, e.id < k
  behind : ∀ e ∈ Y, k < e.id
  riseX : Rise X
  riseY : Rise Y
theorem lo_of {k : Nat} : ∀ {X Z : List It}, (∀ e ∈ X, e.id < k) → (∀ e ∈ Z, k ≤ e.id) → cLo k (X ++ Z) = X.length
  | [], [], _, _ => rfl
  | [], e :: r, _, h => by
    have := h e List.mem_cons_self
    rw [List.nil_append, cLo, if_neg (by omega)]
    rfl
  | e :: r, Z, h, h2 => by
    have := h e List.mem_cons_self
    rw [List.cons_append, cLo, if_pos this, lo_of (fun x hx => h x (List.mem_cons_of_mem _ hx)) h2]
    rfl
section
variable {k : Nat} {X Y : List It} {s : List UInt8}
theorem itAt_mid (s : It) : itAt (X ++ s :: Y) X.length = s := by simp [itAt]
theorem Half.lo1 (h : Half k X Y) : cLo k (X ++ ⟨k, s⟩ :: Y) = X.length := lo_of h.ahead fun e he => by
  rcases List.mem_cons.1 he with rfl | he
  · exact Nat.le_refl _
  · exact Nat.le_of_lt (h.behind e he)
theorem Half.lo0 (h : Half k X Y) : cLo k (X ++ Y) = X.length := lo_of h.ahead fun e he => Nat.le_of_lt (h.behind e he)
theorem Half.has1 (h : Half k X Y) : cHas k (X ++ ⟨k, s⟩ :: Y) = true := by
  unfold cHas
  rw [h.lo1, itAt_mid]
  simp
theorem Half.has0 (h : Half k X Y) : cHas k (X ++ Y) = false := by
  unfold cHas
  rw [h.lo0]
  cases Y with
  | nil => simp
  | cons y r =>
    have := h.behind y List.mem_cons_self
    rw [itAt_mid]
    simp
    omega
theorem Half.get1 (h : Half k X Y) : cGet k (X ++ ⟨k, s⟩ :: Y) = s := by
  unfold cGet
  rw [h.has1, h.lo1, itAt_mid]
  rfl
theorem Half.get0 (h : Half k X Y) : cGet k (X ++ Y) = [] := by
  unfold cGet
  rw [h.has0]
  rfl
theorem Half.del1 (h : Half k X Y) : cDel k (X ++ ⟨k, s⟩ :: Y) = X ++ Y := by
  unfold cDel
  rw [h.has1, h.lo1, if_pos rfl]
  simp
theorem Half.del0 (h : Half k X Y) : cDel k (X ++ Y) = X ++ Y := by
  unfold cDel
  rw [h.has0]
  rfl
theorem Half.put1 (h : Half k X Y) (t : List UInt8) : cPut k t (X ++ ⟨k, s⟩ :: Y) = X ++ ⟨k, t⟩ :: Y := by
  unfold cPut
  rw [h.has1, h.lo1, if_pos rfl]
  simp
theorem Half.put0 (h : Half k X Y) (t : List UInt8) : cPut k t (X ++ Y) = X ++ ⟨k, t⟩ :: Y := by
  unfold cPut
  rw [h.has0, h.lo0, if_neg (by decide)]
  simp
theorem Half.rise1 (h : Half k X Y) : Rise (X ++ ⟨k, s⟩ :: Y) := by
  refine List.pairwise_append.2 ⟨h.riseX, List.pairwise_cons.2 ⟨fun e he => h.behind e he, h.riseY⟩, fun a ha b hb => ?_⟩
  have h1 := h.ahead a ha
  rcases List.mem_cons.1 hb with rfl | hb
  · exact h1
  · have := h.behind b hb
    omega
theorem Half.rise0 (h : Half k X Y) : Rise (X ++ Y) := by
  refine List.pairwise_append.2 ⟨h.riseX, h.riseY, fun a ha b hb => ?_⟩
  have h1 := h.ahead a ha
  have := h.behind b hb
  omega
theorem rGet_app {Z : List It} (h : ∀ e ∈ X, e.id ≠ k) : rGet k (X ++ Z) = rGet k Z := by
  induction X with
  | nil => rfl
  | cons e r ih =>
    rw [List.cons_append, rGet, if_neg (h e List.mem_cons_self)]
    exact ih fun x hx => h x (List.mem_cons_of_mem _ hx)
theorem rGet_none (h : ∀ e ∈ X, e.id ≠ k) : rGet k X = none := by
  have := rGet_app (Z := []) h
  rw [List.append_nil] at this
  exact this
theorem Half.ne (h : Half k X Y) : (∀ e ∈ X, e.id ≠ k) ∧ (∀ e ∈ Y, e.id ≠ k) := ⟨fun e he => Nat.ne_of_lt (h.ahead e he), fun e he => Nat.ne_of_gt (h.behind e he)⟩
theorem Half.rget1 (h : Half k X Y) : rGet k (X ++ ⟨k, s⟩ :: Y) = some s := by
  rw [rGet_app h.ne.1, rGet, if_pos rfl]
theorem Half.rget0 (h : Half k X Y) : rGet k (X ++ Y) = none := by rw [rGet_app h.ne.1, rGet_none h.ne.2]
theorem rDel_app {Z : List It} : rDel k (X ++ Z) = rDel k X ++ rDel k Z := List.filter_append ..
theorem rDel_self (h : ∀ e ∈ X, e.id ≠ k) : rDel k X = X := List.filter_eq_self.2 fun e he => decide_eq_true (h e he)
theorem Half.rdel1 (h : Half k X Y) : rDel k (X ++ ⟨k, s⟩ :: Y) = X ++ Y := by
  have : rDel k (⟨k, s⟩ :: Y) = rDel k Y := by simp [rDel]
  rw [rDel_app, rDel_self h.ne.1, this, rDel_self h.ne.2]
theorem Half.rdel0 (h : Half k X Y) : rDel k (X ++ Y) = X ++ Y := by rw [rDel_app, rDel_self h.ne.1, rDel_self h.ne.2]
end
theorem it_half {L : List It} (hr : Rise L) (k : Nat) : ∃ X Y, Half k X Y ∧ ((∃ s, L = X ++ ⟨k, s⟩ :: Y) ∨ L = X ++ Y) := by
  induction L with
  | nil => exact ⟨[], [], ⟨by simp, by simp, List.Pairwise.nil, List.Pairwise.nil⟩, .inr rfl⟩
  | cons e r ih =>
    obtain ⟨h1, h2⟩ := List.pairwise_cons.1 hr
    rcases Nat.lt_trichotomy e.id k with h | h | h
    · obtain ⟨X, Y, hh, hl⟩ := ih h2
      have hX : ∀ x ∈ X, x ∈ r := fun x hx => by rcases hl with ⟨s, hl⟩ | hl <;> rw [hl] <;> exact List.mem_append_left _ hx
      refine ⟨e :: X, Y, ⟨fun x hx => ?_, hh.behind, List.pairwise_cons.2 ⟨fun x hx => h1 x (hX x hx), hh.riseX⟩, hh.riseY⟩, ?_⟩
      · rcases List.mem_cons.1 hx with rfl | hx
        · exact h
        · exact hh.ahead x hx
      · rcases hl with ⟨s, hl⟩ | hl
        · exact .inl ⟨s, by rw [hl]; rfl⟩
        · exact .inr (by rw [hl]; rfl)
    · exact ⟨[], r, ⟨by simp, fun x hx => by have := h1 x hx; omega, List.Pairwise.nil, h2⟩, .inl ⟨e.tx, by rw [← h]; rfl⟩⟩
    · exact ⟨[], e :: r, ⟨by simp, fun x hx => by
        rcases List.mem_cons.1 hx with rfl | hx
        · exact h
        · have := h1 x hx; omega, List.Pairwise.nil, hr⟩, .inr rfl⟩
theorem get_eq {L : List It} (hr : Rise L) (k : Nat) : cHas k L = (rGet k L).isSome ∧ cGet k L = (rGet k L).getD [] := by
  obtain ⟨X, Y, h, ⟨s, rfl⟩ | rfl⟩ := it_half hr k
  · rw [h.has1, h.get1, h.rget1]; exact ⟨rfl, rfl⟩
  · rw [h.has0, h.get0, h.rget0]; exact ⟨rfl, rfl⟩
theorem del_eq {L : List It} (hr : Rise L) (k : Nat) : cDel k L = rDel k L := by
  obtain ⟨X, Y, h, ⟨s, rfl⟩ | rfl⟩ := it_half hr k
  · rw [h.del1, h.rdel1]
  · rw [h.del0, h.rdel0]
theorem del_rise {L : List It} (hr : Rise L) (k : Nat) : Rise (cDel k L) := by
  obtain ⟨X, Y, h, ⟨s, rfl⟩ | rfl⟩ := it_half hr k
  · rw [h.del1]; exact h.rise0
  · rw [h.del0]; exact h.rise0
theorem put_rise {L : List It} (hr : Rise L) (k : Nat) (t : List UInt8) : Rise (cPut k t L) := by
  obtain ⟨X, Y, h, ⟨s, rfl⟩ | rfl⟩ := it_half hr k
  · rw [h.put1]; exact h.rise1
  · rw [h.put0]; exact h.rise1
/-- The document's put. -/
def rPut (k : Nat) (t : List UInt8) (L : List It) : List It := (rDel k L).take (cLo k (rDel k L)) ++ ⟨k, t⟩ :: (rDel k L).drop (cLo k (rDel k L))
theorem put_eq {L : List It} (hr : Rise L) (k : Nat) (t : List UInt8) : cPut k t L = rPut k t L := by
  obtain ⟨X, Y, h, ⟨s, rfl⟩ | rfl⟩ := it_half hr k
  · rw [h.put1]; unfold rPut; rw [h.rdel1, h.lo0]; simp
  · rw [h.put0]; unfold rPut; rw [h.rdel0, h.lo0]; simp
theorem put_mem {L : List It} (hr : Rise L) (k : Nat) (t : List UInt8) : ∀ e ∈ cPut k t L, e = ⟨k, t⟩ ∨ e ∈ L := fun e he => by
  unfold cPut at he
  rcases List.mem_append.1 he with he | he
  · exact .inr (List.mem_of_mem_take he)
  · rcases List.mem_cons.1 he with rfl | he
    · exact .inl rfl
    · exact .inr (List.mem_of_mem_drop he)
theorem del_mem {L : List It} (k : Nat) : ∀ e ∈ cDel k L, e ∈ L := fun e he => by
  unfold cDel at he
  split at he
  · rcases List.mem_append.1 he with he | he
    · exact List.mem_of_mem_take he
    · exact List.mem_of_mem_drop he
  · exact he
theorem put_len {L : List It} (hr : Rise L) (k : Nat) (t : List UInt8) : (cPut k t L).length = L.length + (if cHas k L then 0 else 1) := by
  obtain ⟨X, Y, h, ⟨s, rfl⟩ | rfl⟩ := it_half hr k
  · rw [h.put1, h.has1]; simp
  · rw [h.put0, h.has0]; simp <;> omega
theorem del_len {L : List It} (k : Nat) : (cDel k L).length ≤ L.length := by
  unfold cDel
  split
  · rw [List.length_append, List.length_take, List.length_drop]; omega
  · exact Nat.le_refl _
theorem put_bytes {L : List It} (hr : Rise L) (k : Nat) (t : List UInt8) : cBytes (cPut k t L) ≤ cBytes L + t.length := by
  obtain ⟨X, Y, h, ⟨s, rfl⟩ | rfl⟩ := it_half hr k
  · rw [h.put1]; simp [cBytes]; omega
  · rw [h.put0]; simp [cBytes]; omega
theorem del_bytes {L : List It} (hr : Rise L) (k : Nat) : cBytes (cDel k L) ≤ cBytes L := by
  obtain ⟨X, Y, h, ⟨s, rfl⟩ | rfl⟩ := it_half hr k
  · rw [h.del1]; simp [cBytes]
  · rw [h.del0]; exact Nat.le_refl _
theorem wrong_full {k : Nat} {s : List UInt8} {b b' : Bool} (h : wrongQ k s b = 0) (hb : b' = true → b = true) : wrongQ k s b' = 0 := by
  unfold wrongQ at *
  repeat' split at h
  all_goals first | omega | skip
  rename_i h1 h2 h3 h4
  rw [if_neg h1, if_neg h2, if_neg h3, if_neg (fun hh => h4 (hb hh))]
/-- What may be a chart. -/
structure ChOk (L : List It) : Prop where
  rise : Rise L
  lt : ∀ e ∈ L, e.id < 6004799503160661
  tx : ∀ e ∈ L, e.tx ≠ [] ∧ e.tx.length ≤ 65536
  len : L.length ≤ 2048
theorem ChOk.nil : ChOk [] := ⟨List.Pairwise.nil, fun _ h => (by cases h), fun _ h => (by cases h), by simp⟩
theorem ChOk.put {L : List It} (h : ChOk L) {k : Nat} {s : List UInt8} (hw : wrongQ k s (fullQ k L) = 0) : ChOk (cPut k s L) := by
  have hw' := hw
  unfold wrongQ at hw'
  repeat' split at hw'
  all_goals first | omega | skip
  rename_i h1 h2 h3 h4
  refine ⟨put_rise h.rise k s, fun e he => ?_, fun e he => ?_, ?_⟩
  · rcases put_mem h.rise k s e he with rfl | he
    · show k < _; omega
    · exact h.lt e he
  · rcases put_mem h.rise k s e he with rfl | he
    · exact ⟨h2, by show s.length ≤ _; omega⟩
    · exact h.tx e he
  · rw [put_len h.rise]
    have := h.len
    unfold fullQ at h4
    cases hc : cHas k L with
    | true => simp; omega
    | false =>
      rw [hc] at h4
      simp at h4 ⊢
      omega
theorem ChOk.del {L : List It} (h : ChOk L) (k : Nat) : ChOk (cDel k L) := ⟨del_rise h.rise k, fun e he => h.lt e (del_mem k e he), fun e he => h.tx e (del_mem k e he), Nat.le_trans (del_len k) h.len⟩
end Go.Proofs.Ytahmhcmfeloclaa
