/- Sets of identifiers: what one has not, what both have, how many. Plain laws. -/
import Derived.Test.YtbldhokgbcljjaaMk1
namespace Go.Proofs.Ytbldhokgbcljjaa
open Go.RowKit
set_option linter.unusedVariables false
set_option linter.unusedSimpArgs false
def clipQ (L : List Sp) : List Sp := (L.filter fun s => decide (s.a < 6004799503160661)).map fun s => ⟨s.a, min s.b (6004799503160661 - 1)⟩
def plainQ (L : List Sp) : List Sp := unQ (clipQ L) []
theorem clip_in (L : List Sp) (k : Nat) : inS (clipQ L) k ↔ inS L k ∧ k < 6004799503160661 := by
  unfold clipQ
  constructor
  · rintro ⟨s, hs, hk⟩
    obtain ⟨t, ht, rfl⟩ := List.mem_map.1 hs
    obtain ⟨ht, _⟩ := List.mem_filter.1 ht
    have h1 : t.a ≤ k := hk.1
    have h2 : k ≤ min t.b (6004799503160661 - 1) := hk.2
    exact ⟨⟨t, ht, h1, by omega⟩, by omega⟩
  · rintro ⟨⟨s, hs, hk⟩, hlt⟩
    obtain ⟨h1, h2⟩ := hk
    exact ⟨_, List.mem_map.2 ⟨s, List.mem_filter.2 ⟨hs, decide_eq_true (by omega)⟩, rfl⟩, h1, by show k ≤ min s.b (6004799503160661 - 1); omega⟩
theorem plain_in (L : List Sp) (k : Nat) : inS (plainQ L) k ↔ inS L k ∧ k < 6004799503160661 := by
  unfold plainQ
  rw [un_in, clip_in]
  exact ⟨fun h => h.elim id fun h => absurd h (inS_nil k), .inl⟩
theorem plain_plain (L : List Sp) : Plain (plainQ L) := un_plain _ _
theorem plain_below (L : List Sp) : BelowS 6004799503160661 (plainQ L) := (below_in (plain_plain L)).2 fun k hk => ((plain_in L k).1 hk).2
theorem clip_len (L : List Sp) : (clipQ L).length ≤ L.length := by
  unfold clipQ
  rw [List.length_map]
  exact List.length_filter_le _ _
theorem plain_len (L : List Sp) : (plainQ L).length ≤ L.length := by
  have h1 := un_len (clipQ L) []
  have h2 := clip_len L
  unfold plainQ
  simp only [List.length_nil] at h1
  omega
theorem plain_self {L : List Sp} (h : Plain L) (hb : BelowS 6004799503160661 L) : plainQ L = L := plain_ext (plain_plain L) h fun k => by
  rw [plain_in]
  exact ⟨fun h => h.1, fun hk => ⟨hk, (below_in h).1 hb k hk⟩⟩
def orQ (a b : List Sp) : List Sp := unQ (plainQ a) (plainQ b)
theorem or_plain (a b : List Sp) : Plain (orQ a b) := un_plain _ _
theorem or_in (a b : List Sp) (k : Nat) : inS (orQ a b) k ↔ (inS a k ∨ inS b k) ∧ k < 6004799503160661 := by
  unfold orQ
  rw [un_in, plain_in, plain_in, ← or_and_right]
theorem or_below (a b : List Sp) : BelowS 6004799503160661 (orQ a b) := (below_in (or_plain a b)).2 fun k hk => ((or_in a b k).1 hk).2
theorem or_len (a b : List Sp) : (orQ a b).length ≤ a.length + b.length := by
  have h1 := un_len (plainQ a) (plainQ b)
  have h2 := plain_len a
  have h3 := plain_len b
  unfold orQ
  omega
/-- What lies ahead of an interval, behind what has been gone through. -/
def stepN (st : Nat × List Sp) (s : Sp) : Nat × List Sp := (s.b + 1, if st.1 < s.a then st.2 ++ [⟨st.1, s.a - 1⟩] else st.2)
def finN (st : Nat × List Sp) : List Sp := if st.1 < 6004799503160661 then st.2 ++ [⟨st.1, 6004799503160661 - 1⟩] else st.2
def gapN (L : List Sp) : Nat × List Sp := L.foldl stepN (0, [])
def notQ (a : List Sp) : List Sp := finN (gapN (plainQ a))
structure InvN (L : List Sp) (st : Nat × List Sp) : Prop where
  pl : Plain st.2
  lt : ∀ t ∈ st.2, t.b + 1 < st.1
  is_ : ∀ k, inS st.2 k ↔ k < st.1 ∧ ¬ inS L k
  le : ∀ s ∈ L, s.b < st.1
theorem InvN.nil : InvN [] (0, []) := ⟨Plain.nil, (fun t ht => by cases ht), fun k => ⟨fun h => absurd h (inS_nil k), fun h => absurd h.1 (Nat.not_lt_zero _)⟩, (fun s hs => by cases hs)⟩
theorem InvN.step {L : List Sp} {st : Nat × List Sp} (h : InvN L st) {s : Sp} (hs : s.a ≤ s.b) (hf : st.1 ≤ s.a) : InvN (L ++ [s]) (stepN st s) := by
  obtain ⟨free, out⟩ := st
  obtain ⟨h1, h2, h3, h4⟩ := h
  simp only at h1 h2 h3 h4 hf
  have hin : ∀ k, inS (L ++ [s]) k ↔ inS L k ∨ s.has k := fun k => by rw [inS_app, inS_one]
  have hle : ∀ t ∈ L ++ [s], t.b < s.b + 1 := fun t ht => by
    rcases List.mem_append.1 ht with ht | ht
    · have := h4 t ht; omega
    · rw [List.mem_singleton.1 ht]; omega
  have hlow : ∀ k, inS L k → k < free := fun k ⟨t, ht, hk⟩ => by
    have := h4 t ht
    have := hk.2
    omega
  unfold stepN
  simp only
  by_cases hg : free < s.a
  · rw [if_pos hg]
    refine ⟨?_, fun t ht => ?_, fun k => ?_, hle⟩
    · refine h1.app (Plain.one (by show free ≤ s.a - 1; omega)) fun u hu v hv => ?_
      rw [List.mem_singleton.1 hv]
      exact h2 u hu
    · show t.b + 1 < s.b + 1
      rcases List.mem_append.1 ht with ht | ht
      · have := h2 t ht; omega
      · rw [List.mem_singleton.1 ht]; show s.a - 1 + 1 < s.b + 1; omega
    · show inS (out ++ [⟨free, s.a - 1⟩]) k ↔ k < s.b + 1 ∧ ¬ inS (L ++ [s]) k
      rw [inS_app, inS_one, h3, hin]
      constructor
      · rintro (⟨a1, a2⟩ | ⟨a1, a2⟩)
        · exact ⟨by omega, fun hc => hc.elim a2 fun hc => by have := hc.1; omega⟩
        · have a1 : free ≤ k := a1
          have a2 : k ≤ s.a - 1 := a2
          exact ⟨by omega, fun hc => hc.elim (fun hc => by have := hlow k hc; omega) fun hc => by have := hc.1; omega⟩
      · rintro ⟨a1, a2⟩
        by_cases hk : k < free
        · exact .inl ⟨hk, fun hc => a2 (.inl hc)⟩
        · refine .inr ⟨by show free ≤ k; omega, ?_⟩
          show k ≤ s.a - 1
          have : ¬ s.has k := fun hc => a2 (.inr hc)
          have : ¬ (s.a ≤ k ∧ k ≤ s.b) := this
          omega
  · rw [if_neg hg]
    refine ⟨h1, fun t ht => ?_, fun k => ?_, hle⟩
    · have := h2 t ht; show t.b + 1 < s.b + 1; omega
    · show inS out k ↔ k < s.b + 1 ∧ ¬ inS (L ++ [s]) k
      rw [h3, hin]
      constructor
      · rintro ⟨a1, a2⟩
        exact ⟨by omega, fun hc => hc.elim a2 fun hc => by have := hc.1; omega⟩
      · rintro ⟨a1, a2⟩
        have : ¬ s.has k := fun hc => a2 (.inr hc)
        have : ¬ (s.a ≤ k ∧ k ≤ s.b) := this
        exact ⟨by omega, fun hc => a2 (.inl hc)⟩
theorem gapN_snoc {L : List Sp} {k : Nat} {x : Sp} (h : L[k]? = some x) : gapN (L.take (k + 1)) = stepN (gapN (L.take k)) x := by
  obtain ⟨hlt, rfl⟩ := List.getElem?_eq_some_iff.1 h
  unfold gapN
  rw [List.take_succ_eq_append_getElem hlt, List.foldl_append, List.foldl_cons, List.foldl_nil]
theorem gapN_free {L : List Sp} (h : Plain L) (k : Nat) (hk : k < L.length) : (gapN (L.take k)).1 ≤ L[k].a := by
  match k with
  | 0 => simp [gapN]
  | i + 1 =>
    rw [gapN_snoc (List.getElem?_eq_getElem (by omega : i < L.length))]
    have := List.pairwise_iff_getElem.1 h.gap i (i + 1) (by omega) hk (by omega)
    show L[i].b + 1 ≤ L[i + 1].a
    omega
theorem gapN_ok {L : List Sp} (h : Plain L) : ∀ k, k ≤ L.length → InvN (L.take k) (gapN (L.take k))
  | 0, _ => by simpa [gapN] using InvN.nil
  | k + 1, hk => by
    have hx : L[k]? = some L[k] := List.getElem?_eq_getElem (by omega)
    rw [gapN_snoc hx, List.take_succ_eq_append_getElem (by omega)]
    exact (gapN_ok h k (by omega)).step (h.ok _ (List.getElem_mem _)) (gapN_free h k (by omega))
theorem notS_ok (a : List Sp) : Plain (notQ a) ∧ ∀ k, inS (notQ a) k ↔ k < 6004799503160661 ∧ ¬ inS a k := by
  have h := gapN_ok (plain_plain a) (plainQ a).length (Nat.le_refl _)
  rw [List.take_length] at h
  have hp : ∀ k, k < 6004799503160661 → (inS (plainQ a) k ↔ inS a k) := fun k hk => by rw [plain_in]; exact ⟨fun h => h.1, fun h => ⟨h, hk⟩⟩
  have hfr : (gapN (plainQ a)).1 ≤ 6004799503160661 := by
    rcases Nat.eq_zero_or_pos (plainQ a).length with h0 | h0
    · rw [List.eq_nil_of_length_eq_zero h0]; exact Nat.zero_le _
    · obtain ⟨m, hm⟩ : ∃ m, (plainQ a).length = m + 1 := ⟨(plainQ a).length - 1, by omega⟩
      have hx : (plainQ a)[m]? = some (plainQ a)[m] := List.getElem?_eq_getElem (by omega)
      have := gapN_snoc hx
      rw [← hm, List.take_length] at this
      rw [this]
      have := plain_below a _ (List.getElem_mem (l := plainQ a) (n := m) (by omega))
      show (plainQ a)[m].b + 1 ≤ 6004799503160661
      omega
  unfold notQ finN
  obtain ⟨st, hst⟩ : ∃ st, gapN (plainQ a) = st := ⟨_, rfl⟩
  rw [hst] at h hfr ⊢
  obtain ⟨h1, h2, h3, h4⟩ := h
  have hlow : ∀ k, inS (plainQ a) k → k < st.1 := fun k ⟨t, ht, hk⟩ => by
    have := h4 t ht
    have := hk.2
    omega
  by_cases hf : st.1 < 6004799503160661
  · rw [if_pos hf]
    refine ⟨h1.app (Plain.one (by show st.1 ≤ 6004799503160661 - 1; omega)) fun u hu v hv => by rw [List.mem_singleton.1 hv]; exact h2 u hu, fun k => ?_⟩
    rw [inS_app, inS_one, h3]
    constructor
    · rintro (⟨a1, a2⟩ | ⟨a1, a2⟩)
      · exact ⟨by omega, fun hc => a2 ((hp k (by omega)).2 hc)⟩
      · have a1 : st.1 ≤ k := a1
        have a2 : k ≤ 6004799503160661 - 1 := a2
        exact ⟨by omega, fun hc => by have := hlow k ((hp k (by omega)).2 hc); omega⟩
    · rintro ⟨a1, a2⟩
      by_cases hk : k < st.1
      · exact .inl ⟨hk, fun hc => a2 ((hp k a1).1 hc)⟩
      · exact .inr ⟨by show st.1 ≤ k; omega, by show k ≤ 6004799503160661 - 1; omega⟩
  · rw [if_neg hf]
    refine ⟨h1, fun k => ?_⟩
    rw [h3]
    constructor
    · rintro ⟨a1, a2⟩
      exact ⟨by omega, fun hc => a2 ((hp k (by omega)).2 hc)⟩
    · rintro ⟨a1, a2⟩
      exact ⟨by omega, fun hc => a2 ((hp k a1).1 hc)⟩
theorem not_plain (a : List Sp) : Plain (notQ a) := (notS_ok a).1
theorem not_in (a : List Sp) (k : Nat) : inS (notQ a) k ↔ k < 6004799503160661 ∧ ¬ inS a k := (notS_ok a).2 k
theorem not_below (a : List Sp) : BelowS 6004799503160661 (notQ a) := (below_in (not_plain a)).2 fun k hk => ((not_in a k).1 hk).1
theorem gapN_len (L : List Sp) : ∀ k, k ≤ L.length → (gapN (L.take k)).2.length ≤ k
  | 0, _ => by simp [gapN]
  | k + 1, hk => by
    rw [gapN_snoc (List.getElem?_eq_getElem (by omega : k < L.length))]
    have := gapN_len L k (by omega)
    unfold stepN
    simp only
    split
    · rw [List.length_append, List.length_singleton]; omega
    · omega
theorem not_len (a : List Sp) : (notQ a).length ≤ a.length + 1 := by
  have h1 := gapN_len (plainQ a) (plainQ a).length (Nat.le_refl _)
  rw [List.take_length] at h1
  have h2 := plain_len a
  unfold notQ finN
  split
  · rw [List.length_append, List.length_singleton]; omega
  · omega
def andQ (a b : List Sp) : List Sp := notQ (orQ (notQ a) (notQ b))
theorem and_plain (a b : List Sp) : Plain (andQ a b) := not_plain _
theorem and_in (a b : List Sp) (k : Nat) : inS (andQ a b) k ↔ k < 6004799503160661 ∧ inS a k ∧ inS b k := by
  unfold andQ
  rw [not_in, or_in, not_in, not_in]
  constructor
  · rintro ⟨h1, h2⟩
    refine ⟨h1, ?_, ?_⟩
    · exact Decidable.byContradiction fun hc => h2 ⟨.inl ⟨h1, hc⟩, h1⟩
    · exact Decidable.byContradiction fun hc => h2 ⟨.inr ⟨h1, hc⟩, h1⟩
  · rintro ⟨h1, h2, h3⟩
    exact ⟨h1, fun ⟨hc, _⟩ => hc.elim (fun hc => hc.2 h2) (fun hc => hc.2 h3)⟩
theorem and_below (a b : List Sp) : BelowS 6004799503160661 (andQ a b) := not_below _
theorem and_len (a b : List Sp) : (andQ a b).length ≤ a.length + b.length + 3 := by
  have h1 := not_len (orQ (notQ a) (notQ b))
  have h2 := or_len (notQ a) (notQ b)
  have h3 := not_len a
  have h4 := not_len b
  unfold andQ
  omega
/-- What two plain lists have together, gone through side by side. -/
def meetQ (s t : Sp) : Sp := ⟨max s.a t.a, min s.b t.b⟩
theorem meet_has (s t : Sp) (k : Nat) : (meetQ s t).has k ↔ s.has k ∧ t.has k := by
  show (max s.a t.a ≤ k ∧ k ≤ min s.b t.b) ↔ (s.a ≤ k ∧ k ≤ s.b) ∧ (t.a ≤ k ∧ k ≤ t.b)
  omega
def InvA (X Y x y out : List Sp) : Prop := ∀ k, (inS out k ∨ (inS x k ∧ inS y k)) ↔ (inS X k ∧ inS Y k)
def addA (out : List Sp) (m : Sp) : List Sp := if m.a ≤ m.b then out ++ [m] else out
theorem addA_in (out : List Sp) (m : Sp) (k : Nat) : inS (addA out m) k ↔ inS out k ∨ m.has k := by
  unfold addA
  split
  · rw [inS_app, inS_one]
  · rename_i h
    exact ⟨.inl, fun hk => hk.elim id fun hk => absurd (Nat.le_trans hk.1 hk.2) h⟩
theorem InvA.left {X Y x y out : List Sp} {s t : Sp} (h : InvA X Y (s :: x) (t :: y) out) (hy : Plain (t :: y)) (hlt : s.b < t.b) : InvA X Y x (t :: y) (addA out (meetQ s t)) := fun k => by
  rw [← h k, addA_in, meet_has, inS_cons, inS_cons]
  have h1 : s.has k → ¬ inS y k := fun hs ⟨u, hu, hk⟩ => by
    have := hy.head.2 u hu
    have := hs.2
    have := hk.1
    omega
  constructor
  · rintro ((a | ⟨a, b⟩) | ⟨a, b⟩)
    · exact .inl a
    · exact .inr ⟨.inl a, .inl b⟩
    · exact .inr ⟨.inr a, b⟩
  · rintro (a | ⟨a | a, b⟩)
    · exact .inl (.inl a)
    · rcases b with b | b
      · exact .inl (.inr ⟨a, b⟩)
      · exact absurd b (h1 a)
    · exact .inr ⟨a, b⟩
theorem InvA.right {X Y x y out : List Sp} {s t : Sp} (h : InvA X Y (s :: x) (t :: y) out) (hx : Plain (s :: x)) (hlt : t.b ≤ s.b) : InvA X Y (s :: x) y (addA out (meetQ s t)) := fun k => by
  rw [← h k, addA_in, meet_has, inS_cons, inS_cons]
  have h1 : t.has k → ¬ inS x k := fun hs ⟨u, hu, hk⟩ => by
    have := hx.head.2 u hu
    have := hs.2
    have := hk.1
    omega
  constructor
  · rintro ((a | ⟨a, b⟩) | ⟨a, b⟩)
    · exact .inl a
    · exact .inr ⟨.inl a, .inl b⟩
    · exact .inr ⟨a, .inr b⟩
  · rintro (a | ⟨a, b | b⟩)
    · exact .inl (.inl a)
    · rcases a with a | a
      · exact .inl (.inr ⟨a, b⟩)
      · exact absurd a (h1 b)
    · exact .inr ⟨a, b⟩
theorem InvA.done {a b x y out : List Sp} (h : InvA (plainQ a) (plainQ b) x y out) (he : x = [] ∨ y = []) : unQ out [] = andQ a b := plain_ext (un_plain _ _) (and_plain a b) fun k => by
  have h1 := h k
  rw [plain_in, plain_in] at h1
  rw [un_in, and_in]
  have h2 : ¬ (inS x k ∧ inS y k) := by
    rcases he with rfl | rfl
    · exact fun hc => inS_nil k hc.1
    · exact fun hc => inS_nil k hc.2
  constructor
  · rintro (hk | hk)
    · obtain ⟨⟨p, q⟩, r, _⟩ := h1.1 (.inl hk)
      exact ⟨q, p, r⟩
    · exact absurd hk (inS_nil k)
  · rintro ⟨q, p, r⟩
    exact .inl ((h1.2 ⟨⟨p, q⟩, r, q⟩).elim id fun hc => absurd hc h2)
def lessQ (a b : List Sp) : List Sp := andQ a (notQ b)
theorem less_in (a b : List Sp) (k : Nat) : inS (lessQ a b) k ↔ k < 6004799503160661 ∧ inS a k ∧ ¬ inS b k := by
  unfold lessQ
  rw [and_in, not_in]
  exact ⟨fun ⟨h1, h2, _, h3⟩ => ⟨h1, h2, h3⟩, fun ⟨h1, h2, h3⟩ => ⟨h1, h2, h1, h3⟩⟩
def withinQ (a b : List Sp) : Bool := (lessQ a b).isEmpty
theorem plain_empty {L : List Sp} (h : Plain L) : L.isEmpty = true ↔ ∀ k, ¬ inS L k := by
  cases L with
  | nil => exact ⟨fun _ k => inS_nil k, fun _ => rfl⟩
  | cons s r => exact ⟨fun h => (by cases h), fun hn => absurd (inS_cons.2 (.inl ⟨Nat.le_refl _, h.head.1⟩)) (hn s.a)⟩
theorem within_iff (a b : List Sp) : withinQ a b = true ↔ ∀ k, k < 6004799503160661 → inS a k → inS b k := by
  unfold withinQ
  rw [plain_empty (L := lessQ a b) (and_plain _ _)]
  constructor
  · intro h k h1 h2
    exact Decidable.byContradiction fun hc => h k ((less_in a b k).2 ⟨h1, h2, hc⟩)
  · intro h k hk
    obtain ⟨h1, h2, h3⟩ := (less_in a b k).1 hk
    exact h3 (h k h1 h2)
/-- How many numbers a list has. -/
def totalQ (L : List Sp) : Nat := (L.map fun s => s.b + 1 - s.a).sum
def cntB (p : Nat → Bool) : Nat → Nat
  | 0 => 0
  | n + 1 => cntB p n + if p n then 1 else 0
theorem cntB_congr {p q : Nat → Bool} : ∀ n, (∀ k, k < n → p k = q k) → cntB p n = cntB q n
  | 0, _ => rfl
  | n + 1, h => by rw [cntB, cntB, h n (Nat.lt_succ_self n), cntB_congr n (fun k hk => h k (by omega))]
theorem cntB_or (p q : Nat → Bool) : ∀ n, cntB (fun k => p k || q k) n + cntB (fun k => p k && q k) n = cntB p n + cntB q n
  | 0 => rfl
  | n + 1 => by
    have := cntB_or p q n
    rw [cntB, cntB, cntB, cntB]
    cases p n <;> cases q n <;> simp <;> omega
theorem cntB_none {p : Nat → Bool} : ∀ n, (∀ k, k < n → p k = false) → cntB p n = 0
  | 0, _ => rfl
  | n + 1, h => by rw [cntB, cntB_none n (fun k hk => h k (by omega)), h n (Nat.lt_succ_self n)]; rfl
theorem cntB_zero {p : Nat → Bool} : ∀ n, cntB p n = 0 → ∀ k, k < n → p k = false
  | 0, _, k, hk => by omega
  | n + 1, h, k, hk => by
    rw [cntB] at h
    rcases Nat.lt_or_ge k n with hlt | hge
    · exact cntB_zero n (by omega) k hlt
    · have : k = n := by omega
      subst this
      cases hp : p k with
      | false => rfl
      | true => rw [hp] at h; simp at h
theorem cntB_span (a b : Nat) : ∀ n, cntB (fun k => decide (a ≤ k ∧ k ≤ b)) n = min n (b + 1) - a
  | 0 => by simp [cntB]
  | n + 1 => by
    rw [cntB, cntB_span a b n]
    by_cases h : a ≤ n ∧ n ≤ b
    · rw [if_pos (decide_eq_true h)]; omega
    · rw [if_neg (by simpa using h)]; omega
theorem total_cnt : ∀ {L : List Sp} {n : Nat}, Plain L → BelowS n L → totalQ L = cntB (fun k => decide (inS L k)) n
  | [], n, _, _ => by rw [cntB_none n (fun k _ => by simp [inS_nil])]; rfl
  | s :: r, n, h, hb => by
    have ih := total_cnt h.tail (fun t ht => hb t (List.mem_cons_of_mem _ ht))
    have hs := h.head
    have hsb := hb s List.mem_cons_self
    have h1 := cntB_or (fun k => decide (s.a ≤ k ∧ k ≤ s.b)) (fun k => decide (inS r k)) n
    rw [cntB_span, ← ih, cntB_none (p := fun k => decide (s.a ≤ k ∧ k ≤ s.b) && decide (inS r k)) n (fun k _ => by
      rw [Bool.and_eq_false_iff]
      by_cases hk : s.a ≤ k ∧ k ≤ s.b
      · refine .inr (decide_eq_false fun ⟨u, hu, hku⟩ => ?_)
        have := hs.2 u hu
        have := hku.1
        omega
      · exact .inl (decide_eq_false hk))] at h1
    have h2 : totalQ (s :: r) = (s.b + 1 - s.a) + totalQ r := by simp [totalQ]
    rw [h2, cntB_congr (q := fun k => decide (s.a ≤ k ∧ k ≤ s.b) || decide (inS r k)) n (fun k _ => by
      rw [Bool.eq_iff_iff, Bool.or_eq_true, decide_eq_true_iff, decide_eq_true_iff, decide_eq_true_iff, inS_cons])]
    have : min n (s.b + 1) = s.b + 1 := by omega
    omega
theorem total_le {L : List Sp} {n : Nat} (h : Plain L) (hb : BelowS n L) : totalQ L ≤ n := by
  rw [total_cnt h hb]
  have : ∀ (p : Nat → Bool) n, cntB p n ≤ n := by
    intro p n
    induction n with
    | zero => exact Nat.le_refl _
    | succ n ih => rw [cntB]; split <;> omega
  exact this _ _
theorem total_or (a b : List Sp) (ha : Plain a) (hab : BelowS 6004799503160661 a) (hb : Plain b) (hbb : BelowS 6004799503160661 b) : totalQ (orQ a b) + totalQ (andQ a b) = totalQ a + totalQ b := by
  rw [total_cnt (or_plain a b) (or_below a b), total_cnt (and_plain a b) (and_below a b), total_cnt ha hab, total_cnt hb hbb]
  have e1 := cntB_congr (p := fun k => decide (inS (orQ a b) k)) (q := fun k => decide (inS a k) || decide (inS b k)) 6004799503160661 fun k hk => by
    rw [Bool.eq_iff_iff, Bool.or_eq_true, decide_eq_true_iff, decide_eq_true_iff, decide_eq_true_iff, or_in]
    exact ⟨fun h => h.1, fun h => ⟨h, hk⟩⟩
  have e2 := cntB_congr (p := fun k => decide (inS (andQ a b) k)) (q := fun k => decide (inS a k) && decide (inS b k)) 6004799503160661 fun k hk => by
    rw [Bool.eq_iff_iff, Bool.and_eq_true, decide_eq_true_iff, decide_eq_true_iff, decide_eq_true_iff, and_in]
    exact ⟨fun h => h.2, fun h => ⟨hk, h⟩⟩
  rw [e1, e2]
  exact cntB_or _ _ _
theorem total_less (a b : List Sp) (ha : Plain a) (hab : BelowS 6004799503160661 a) : totalQ (lessQ a b) + totalQ (andQ a b) = totalQ a := by
  rw [total_cnt (L := lessQ a b) (and_plain _ _) (and_below _ _), total_cnt (and_plain a b) (and_below a b), total_cnt ha hab, ← cntB_or]
  rw [cntB_none (p := fun k => decide (inS (lessQ a b) k) && decide (inS (andQ a b) k)) 6004799503160661 (fun k hk => by
    rw [Bool.and_eq_false_iff]
    by_cases h : inS b k
    · exact .inl (decide_eq_false fun hc => ((less_in a b k).1 hc).2.2 h)
    · exact .inr (decide_eq_false fun hc => h ((and_in a b k).1 hc).2.2)), Nat.add_zero]
  refine cntB_congr _ fun k hk => ?_
  rw [Bool.eq_iff_iff, Bool.or_eq_true, decide_eq_true_iff, decide_eq_true_iff, decide_eq_true_iff, less_in, and_in]
  constructor
  · rintro (h | h)
    · exact h.2.1
    · exact h.2.1
  · intro h
    by_cases hb : inS b k
    · exact .inr ⟨hk, h, hb⟩
    · exact .inl ⟨hk, h, hb⟩
theorem total_zero {L : List Sp} (h : Plain L) (hb : BelowS 6004799503160661 L) : totalQ L = 0 ↔ L = [] := by
  constructor
  · intro h0
    cases L with
    | nil => rfl
    | cons s r =>
      have h1 := h.head
      have h2 : totalQ (s :: r) = (s.b + 1 - s.a) + totalQ r := by simp [totalQ]
      omega
  · rintro rfl; rfl
theorem not_not {a : List Sp} (h : Plain a) (hb : BelowS 6004799503160661 a) : notQ (notQ a) = a := plain_ext (not_plain _) h fun k => by
  rw [not_in, not_in]
  constructor
  · rintro ⟨h1, h2⟩
    exact Decidable.byContradiction fun hc => h2 ⟨h1, hc⟩
  · intro hk
    exact ⟨(below_in h).1 hb k hk, fun hc => hc.2 hk⟩
theorem within_total (a b : List Sp) (ha : Plain a) (hab : BelowS 6004799503160661 a) : withinQ a b = decide (totalQ (andQ a b) = totalQ a) := by
  have h1 := total_less a b ha hab
  have h2 := total_zero (L := lessQ a b) (and_plain _ _) (and_below _ _)
  rw [Bool.eq_iff_iff, decide_eq_true_iff]
  unfold withinQ
  rw [List.isEmpty_iff, ← h2]
  omega
end Go.Proofs.Ytbldhokgbcljjaa
