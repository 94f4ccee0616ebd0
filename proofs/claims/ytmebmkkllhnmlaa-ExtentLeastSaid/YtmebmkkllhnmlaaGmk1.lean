/- Sets of numbers as lists of intervals: plain lists, and what is put together of two. Plain laws. Sets of identifiers: what one has not, what both have, how many. Plain laws. Hilbert's curve, plain: a tile's place, the tile of a place, there and back, the place of the tile over one. How many places of a square have a property: as many as its tiles have it. Plain laws. -/
import Derived.Test.YtmebmkkllhnmlaaGsx4
namespace Go.Proofs.Ytmebmkkllhnmlaa
open Go.RowKit
set_option linter.unusedVariables false
set_option linter.unusedSimpArgs false
/-- Numbers, one behind the other. -/
structure Sp where
  a : Nat
  b : Nat
abbrev Sp.has (s : Sp) (k : Nat) : Prop := s.a ≤ k ∧ k ≤ s.b
def inS (L : List Sp) (k : Nat) : Prop := ∃ s ∈ L, s.has k
instance (L : List Sp) (k : Nat) : Decidable (inS L k) := by unfold inS; infer_instance
structure Plain (L : List Sp) : Prop where
  gap : L.Pairwise fun s t => s.b + 1 < t.a
  ok : ∀ s ∈ L, s.a ≤ s.b
theorem inS_nil (k : Nat) : ¬ inS [] k := fun ⟨_, h, _⟩ => by cases h
theorem inS_cons {s : Sp} {L : List Sp} {k : Nat} : inS (s :: L) k ↔ s.has k ∨ inS L k := by
  constructor
  · rintro ⟨t, ht, h⟩
    rcases List.mem_cons.1 ht with rfl | ht
    · exact .inl h
    · exact .inr ⟨t, ht, h⟩
  · rintro (h | ⟨t, ht, h⟩)
    · exact ⟨s, List.mem_cons_self, h⟩
    · exact ⟨t, List.mem_cons_of_mem _ ht, h⟩
theorem inS_app {L M : List Sp} {k : Nat} : inS (L ++ M) k ↔ inS L k ∨ inS M k := by
  constructor
  · rintro ⟨t, ht, h⟩
    rcases List.mem_append.1 ht with ht | ht
    · exact .inl ⟨t, ht, h⟩
    · exact .inr ⟨t, ht, h⟩
  · rintro (⟨t, ht, h⟩ | ⟨t, ht, h⟩)
    · exact ⟨t, List.mem_append_left _ ht, h⟩
    · exact ⟨t, List.mem_append_right _ ht, h⟩
theorem inS_one {s : Sp} {k : Nat} : inS [s] k ↔ s.has k := by
  rw [inS_cons]
  exact ⟨fun h => h.elim id fun h => absurd h (inS_nil k), .inl⟩
theorem Plain.nil : Plain [] := ⟨List.Pairwise.nil, fun _ h => by cases h⟩
theorem Plain.tail {s : Sp} {L : List Sp} (h : Plain (s :: L)) : Plain L := ⟨(List.pairwise_cons.1 h.gap).2, fun t ht => h.ok t (List.mem_cons_of_mem _ ht)⟩
theorem Plain.head {s : Sp} {L : List Sp} (h : Plain (s :: L)) : s.a ≤ s.b ∧ ∀ t ∈ L, s.b + 1 < t.a := ⟨h.ok s List.mem_cons_self, (List.pairwise_cons.1 h.gap).1⟩
theorem Plain.one {s : Sp} (h : s.a ≤ s.b) : Plain [s] := ⟨List.pairwise_singleton _ _, fun t ht => by rw [List.mem_singleton.1 ht]; exact h⟩
theorem Plain.app {L M : List Sp} (h : Plain L) (k : Plain M) (hg : ∀ s ∈ L, ∀ t ∈ M, s.b + 1 < t.a) : Plain (L ++ M) :=
  ⟨List.pairwise_append.2 ⟨h.gap, k.gap, hg⟩, fun s hs => (List.mem_append.1 hs).elim (h.ok s) (k.ok s)⟩
theorem Plain.sub {L M : List Sp} (h : Plain L) (hs : M.Sublist L) : Plain M := ⟨h.gap.sublist hs, fun s hm => h.ok s (hs.subset hm)⟩
/-- A set has one plain list. -/
theorem plain_ext : ∀ {L M : List Sp}, Plain L → Plain M → (∀ k, inS L k ↔ inS M k) → L = M
  | [], [], _, _, _ => rfl
  | [], t :: q, _, hM, h => absurd ((h t.a).2 (inS_cons.2 (.inl ⟨Nat.le_refl _, hM.head.1⟩))) (inS_nil _)
  | s :: r, [], hL, _, h => absurd ((h s.a).1 (inS_cons.2 (.inl ⟨Nat.le_refl _, hL.head.1⟩))) (inS_nil _)
  | s :: r, t :: q, hL, hM, h => by
    obtain ⟨s1, s2⟩ := hL.head
    obtain ⟨t1, t2⟩ := hM.head
    have low : ∀ {x : Sp} {l : List Sp} {k : Nat}, x.a ≤ x.b → (∀ u ∈ l, x.b + 1 < u.a) → inS (x :: l) k → x.a ≤ k := fun hx hl hk => by
      rcases inS_cons.1 hk with hk | ⟨u, hu, hk⟩
      · exact hk.1
      · have := hl u hu; omega
    have ea : s.a = t.a := by
      have h1 := low t1 t2 ((h s.a).1 (inS_cons.2 (.inl ⟨Nat.le_refl _, s1⟩)))
      have h2 := low s1 s2 ((h t.a).2 (inS_cons.2 (.inl ⟨Nat.le_refl _, t1⟩)))
      omega
    have nxt : ∀ {x : Sp} {l : List Sp}, (∀ u ∈ l, x.b + 1 < u.a) → ¬ inS (x :: l) (x.b + 1) := fun hl hk => by
      rcases inS_cons.1 hk with hk | ⟨u, hu, hk⟩
      · have := hk.2; omega
      · have := hl u hu; omega
    have eb : s.b = t.b := by
      rcases Nat.lt_trichotomy s.b t.b with hlt | he | hgt
      · exact absurd ((h (s.b + 1)).2 (inS_cons.2 (.inl ⟨by omega, by omega⟩))) (nxt s2)
      · exact he
      · exact absurd ((h (t.b + 1)).1 (inS_cons.2 (.inl ⟨by omega, by omega⟩))) (nxt t2)
    have e : s = t := by cases s; cases t; simp only at ea eb; subst ea; subst eb; rfl
    subst e
    congr 1
    refine plain_ext hL.tail hM.tail fun k => ?_
    have up : ∀ {l : List Sp}, (∀ u ∈ l, s.b + 1 < u.a) → (inS l k ↔ inS (s :: l) k ∧ s.b < k) := fun hl => by
      constructor
      · rintro ⟨u, hu, hk⟩
        have := hl u hu
        exact ⟨inS_cons.2 (.inr ⟨u, hu, hk⟩), by omega⟩
      · rintro ⟨hk, hlt⟩
        rcases inS_cons.1 hk with hk | hk
        · omega
        · exact hk
    rw [up s2, up t2, h k]
/-- The program's way: behind a list, if it does not begin below any of it. -/
def joinQ (L : List Sp) (s : Sp) : List Sp :=
  match L[L.length - 1]? with
  | some t => if s.a ≤ t.b + 1 then L.set (L.length - 1) { t with b := max t.b s.b } else L ++ [s]
  | none => L ++ [s]
/-- The document's way: what touches is put together. -/
def touchQ (x y : Sp) : Bool := decide (y.a ≤ x.b + 1 ∧ x.a ≤ y.b + 1)
def mergeQ : Sp → List Sp → Sp × List Sp
  | s, [] => (s, [])
  | s, t :: r => if touchQ t s then mergeQ ⟨min t.a s.a, max t.b s.b⟩ r else ((mergeQ s r).1, t :: (mergeQ s r).2)
def insQ (s : Sp) (L : List Sp) : List Sp := L.takeWhile (fun t => decide (t.a < s.a)) ++ s :: L.dropWhile (fun t => decide (t.a < s.a))
def putQs (L : List Sp) (s : Sp) : List Sp := if s.b < s.a then L else insQ (mergeQ s L).1 (mergeQ s L).2
theorem merge_far : ∀ (L : List Sp) (s : Sp), (∀ t ∈ L, s.b + 1 < t.a) → mergeQ s L = (s, L)
  | [], _, _ => rfl
  | t :: r, s, h => by
    have ht := h t List.mem_cons_self
    rw [mergeQ, if_neg (by simp [touchQ]; omega), merge_far r s (fun u hu => h u (List.mem_cons_of_mem _ hu))]
theorem merge_ok : ∀ (L : List Sp) (s : Sp), Plain L → s.a ≤ s.b →
    (mergeQ s L).2.Sublist L ∧ (mergeQ s L).1.a ≤ s.a ∧ s.b ≤ (mergeQ s L).1.b ∧ ((mergeQ s L).1.a = s.a ∨ ∃ u ∈ L, (mergeQ s L).1.a = u.a) ∧
    (∀ t ∈ (mergeQ s L).2, t.b + 1 < (mergeQ s L).1.a ∨ (mergeQ s L).1.b + 1 < t.a) ∧ ∀ k, ((mergeQ s L).1.has k ∨ inS (mergeQ s L).2 k) ↔ (s.has k ∨ inS L k)
  | [], s, _, _ => ⟨List.Sublist.refl _, Nat.le_refl _, Nat.le_refl _, .inl rfl, (fun t ht => by cases ht), fun k => Iff.rfl⟩
  | t :: r, s, h, hs => by
    obtain ⟨t1, t2⟩ := h.head
    rw [mergeQ]
    split
    · rename_i hto
      simp only [touchQ, decide_eq_true_eq] at hto
      obtain ⟨m1, m2, m3, m4, m5, m6⟩ := merge_ok r ⟨min t.a s.a, max t.b s.b⟩ h.tail (by show min t.a s.a ≤ max t.b s.b; omega)
      simp only at m2 m3 m4
      obtain ⟨q, hq⟩ : ∃ q, mergeQ ⟨min t.a s.a, max t.b s.b⟩ r = q := ⟨_, rfl⟩
      rw [hq] at m1 m2 m3 m4 m5 m6 ⊢
      refine ⟨m1.trans (List.sublist_cons_self _ _), Nat.le_trans m2 (Nat.min_le_right _ _), Nat.le_trans (Nat.le_max_right _ _) m3, ?_, m5, fun k => ?_⟩
      · rcases m4 with m4 | ⟨u, hu, m4⟩
        · rcases Nat.le_total t.a s.a with hle | hle
          · exact .inr ⟨t, List.mem_cons_self, by omega⟩
          · exact .inl (by omega)
        · exact .inr ⟨u, List.mem_cons_of_mem _ hu, m4⟩
      · rw [m6 k, inS_cons]
        have hm : (⟨min t.a s.a, max t.b s.b⟩ : Sp).has k ↔ s.has k ∨ t.has k := by
          show (min t.a s.a ≤ k ∧ k ≤ max t.b s.b) ↔ ((s.a ≤ k ∧ k ≤ s.b) ∨ (t.a ≤ k ∧ k ≤ t.b))
          omega
        rw [hm, or_assoc]
    · rename_i hto
      simp only [touchQ, decide_eq_true_eq] at hto
      obtain ⟨m1, m2, m3, m4, m5, m6⟩ := merge_ok r s h.tail hs
      refine ⟨m1.cons_cons t, m2, m3, ?_, ?_, fun k => ?_⟩
      · rcases m4 with m4 | ⟨u, hu, m4⟩
        · exact .inl m4
        · exact .inr ⟨u, List.mem_cons_of_mem _ hu, m4⟩
      · intro u hu
        show u.b + 1 < (mergeQ s r).1.a ∨ (mergeQ s r).1.b + 1 < u.a
        rcases List.mem_cons.1 hu with rfl | hu
        · by_cases hb : u.b + 1 < s.a
          · rcases m4 with m4 | ⟨v, hv, m4⟩
            · exact .inl (by omega)
            · have := t2 v hv; exact .inl (by omega)
          · have hfar : mergeQ s r = (s, r) := merge_far r s (fun v hv => by have := t2 v hv; omega)
            rw [hfar]
            exact .inr (by show s.b + 1 < u.a; omega)
        · exact m5 u hu
      · show ((mergeQ s r).1.has k ∨ inS (t :: (mergeQ s r).2) k) ↔ _
        rw [inS_cons, inS_cons, or_left_comm, m6 k, or_left_comm]
theorem putQs_ok {L : List Sp} (h : Plain L) (s : Sp) : Plain (putQs L s) ∧ ∀ k, inS (putQs L s) k ↔ inS L k ∨ s.has k := by
  unfold putQs
  split
  · rename_i hs
    refine ⟨h, fun k => ⟨.inl, fun hk => hk.elim id fun hk => ?_⟩⟩
    obtain ⟨h1, h2⟩ := hk
    omega
  · rename_i hs
    obtain ⟨m1, m2, m3, m4, m5, m6⟩ := merge_ok L s h (by omega)
    obtain ⟨q, hq⟩ : ∃ q, mergeQ s L = q := ⟨_, rfl⟩
    rw [hq] at m1 m2 m3 m4 m5 m6 ⊢
    obtain ⟨x, M⟩ := q
    simp only at m1 m2 m3 m4 m5 m6 ⊢
    have hM := h.sub m1
    have hx : x.a ≤ x.b := by omega
    have hcut : M.takeWhile (fun t => decide (t.a < x.a)) ++ M.dropWhile (fun t => decide (t.a < x.a)) = M := List.takeWhile_append_dropWhile
    have htw : ∀ t ∈ M.takeWhile (fun t => decide (t.a < x.a)), t.b + 1 < x.a := fun t ht => by
      have h1 : t.a < x.a := by
        have : ∀ (l : List Sp), ∀ t ∈ l.takeWhile (fun t => decide (t.a < x.a)), t.a < x.a := by
          intro l
          induction l with
          | nil => intro t ht; cases ht
          | cons u r ih =>
            intro t ht
            rw [List.takeWhile_cons] at ht
            split at ht
            · rename_i hu
              rcases List.mem_cons.1 ht with rfl | ht
              · simpa using hu
              · exact ih t ht
            · cases ht
        exact this M t ht
      have h2 := m5 t (hcut ▸ List.mem_append_left _ ht)
      omega
    have hdw : ∀ t ∈ M.dropWhile (fun t => decide (t.a < x.a)), x.b + 1 < t.a := by
      have hge : ∀ (l : List Sp), Plain l → ∀ t ∈ l.dropWhile (fun t => decide (t.a < x.a)), x.a ≤ t.a := by
        intro l
        induction l with
        | nil => intro _ t ht; cases ht
        | cons u r ih =>
          intro hp t ht
          rw [List.dropWhile_cons] at ht
          split at ht
          · exact ih hp.tail t ht
          · rename_i hu
            simp only [decide_eq_true_eq] at hu
            rcases List.mem_cons.1 ht with rfl | ht
            · omega
            · have h1 := hp.head
              have := h1.2 t ht
              have := h1.1
              omega
      intro t ht
      have h1 := hge M hM t ht
      have hm : t ∈ M := hcut ▸ List.mem_append_right _ ht
      have h2 := m5 t hm
      have h3 := hM.ok t hm
      omega
    have hTW : Plain (M.takeWhile (fun t => decide (t.a < x.a))) := hM.sub (List.takeWhile_sublist _)
    have hDW : Plain (M.dropWhile (fun t => decide (t.a < x.a))) := hM.sub (List.dropWhile_sublist _)
    have hxd : Plain ([x] ++ M.dropWhile (fun t => decide (t.a < x.a))) := (Plain.one hx).app hDW fun u hu t ht => by rw [List.mem_singleton.1 hu]; exact hdw t ht
    refine ⟨?_, fun k => ?_⟩
    · refine hTW.app hxd fun u hu t ht => ?_
      rcases List.mem_cons.1 ht with rfl | ht
      · exact htw u hu
      · have := htw u hu; have := hdw t ht; omega
    · unfold insQ
      have := m6 k
      rw [inS_app, inS_cons]
      rw [← hcut, inS_app] at this
      constructor
      · rintro (h1 | h1 | h1)
        · exact (this.1 (.inr (.inl h1))).symm
        · exact (this.1 (.inl h1)).symm
        · exact (this.1 (.inr (.inr h1))).symm
      · intro h1
        rcases this.2 h1.symm with h1 | h1 | h1
        · exact .inr (.inl h1)
        · exact .inl h1
        · exact .inr (.inr h1)
def unQ (a b : List Sp) : List Sp := (a ++ b).foldl putQs []
theorem put_all : ∀ (M L : List Sp), Plain L → Plain (M.foldl putQs L) ∧ ∀ k, inS (M.foldl putQs L) k ↔ inS L k ∨ inS M k
  | [], L, h => ⟨h, fun k => ⟨.inl, fun h => h.elim id fun h => absurd h (inS_nil k)⟩⟩
  | s :: r, L, h => by
    obtain ⟨j1, j2⟩ := putQs_ok h s
    obtain ⟨k1, k2⟩ := put_all r (putQs L s) j1
    refine ⟨k1, fun k => ?_⟩
    rw [List.foldl_cons, k2, j2, inS_cons, or_assoc]
theorem un_plain (a b : List Sp) : Plain (unQ a b) := (put_all _ [] Plain.nil).1
theorem un_in (a b : List Sp) (k : Nat) : inS (unQ a b) k ↔ inS a k ∨ inS b k := by
  rw [unQ, (put_all _ [] Plain.nil).2, inS_app]
  exact ⟨fun h => h.elim (fun h => absurd h (inS_nil k)) id, .inr⟩
/-- No number is beyond what the lists have. -/
def BelowS (n : Nat) (L : List Sp) : Prop := ∀ s ∈ L, s.b < n
theorem below_in {n : Nat} {L : List Sp} (h : Plain L) : BelowS n L ↔ ∀ k, inS L k → k < n := by
  constructor
  · rintro hb k ⟨s, hs, hk⟩
    have := hb s hs; omega
  · intro hk s hs
    exact hk s.b ⟨s, hs, h.ok s hs, Nat.le_refl _⟩
end Go.Proofs.Ytmebmkkllhnmlaa

namespace Go.Proofs.Ytmebmkkllhnmlaa
open Go.RowKit
set_option linter.unusedVariables false
set_option linter.unusedSimpArgs false
def clipQ (L : List Sp) : List Sp := (L.filter fun s => decide (s.a < 6004799503160661)).map fun s => ⟨s.a, min s.b (6004799503160661 - 1)⟩
def plainQ (L : List Sp) : List Sp := unQ (clipQ L) []
theorem clip_in (L : List Sp) (k : Nat) : inS (clipQ L) k ↔ inS L k ∧ k < 6004799503160661 := by
  unfold clipQ
  constructor
  · rintro ⟨s, hs, hk⟩
    obtain ⟨t, ht, rfl⟩ := List.mem_map.1 hs
    obtain ⟨ht, _⟩ := List.mem_filter.1 ht
    have h1 : t.a ≤ k := hk.1
    have h2 : k ≤ min t.b (6004799503160661 - 1) := hk.2
    exact ⟨⟨t, ht, h1, by omega⟩, by omega⟩
  · rintro ⟨⟨s, hs, hk⟩, hlt⟩
    obtain ⟨h1, h2⟩ := hk
    exact ⟨_, List.mem_map.2 ⟨s, List.mem_filter.2 ⟨hs, decide_eq_true (by omega)⟩, rfl⟩, h1, by show k ≤ min s.b (6004799503160661 - 1); omega⟩
theorem plain_in (L : List Sp) (k : Nat) : inS (plainQ L) k ↔ inS L k ∧ k < 6004799503160661 := by
  unfold plainQ
  rw [un_in, clip_in]
  exact ⟨fun h => h.elim id fun h => absurd h (inS_nil k), .inl⟩
theorem plain_plain (L : List Sp) : Plain (plainQ L) := un_plain _ _
theorem plain_below (L : List Sp) : BelowS 6004799503160661 (plainQ L) := (below_in (plain_plain L)).2 fun k hk => ((plain_in L k).1 hk).2
def orQ (a b : List Sp) : List Sp := unQ (plainQ a) (plainQ b)
theorem or_in (a b : List Sp) (k : Nat) : inS (orQ a b) k ↔ (inS a k ∨ inS b k) ∧ k < 6004799503160661 := by
  unfold orQ
  rw [un_in, plain_in, plain_in, ← or_and_right]
/-- What lies ahead of an interval, behind what has been gone through. -/
def stepN (st : Nat × List Sp) (s : Sp) : Nat × List Sp := (s.b + 1, if st.1 < s.a then st.2 ++ [⟨st.1, s.a - 1⟩] else st.2)
def finN (st : Nat × List Sp) : List Sp := if st.1 < 6004799503160661 then st.2 ++ [⟨st.1, 6004799503160661 - 1⟩] else st.2
def gapN (L : List Sp) : Nat × List Sp := L.foldl stepN (0, [])
def notQ (a : List Sp) : List Sp := finN (gapN (plainQ a))
structure InvN (L : List Sp) (st : Nat × List Sp) : Prop where
  pl : Plain st.2
  lt : ∀ t ∈ st.2, t.b + 1 < st.1
  is_ : ∀ k, inS st.2 k ↔ k < st.1 ∧ ¬ inS L k
  le : ∀ s ∈ L, s.b < st.1
theorem InvN.nil : InvN [] (0, []) := ⟨Plain.nil, (fun t ht => by cases ht), fun k => ⟨fun h => absurd h (inS_nil k), fun h => absurd h.1 (Nat.not_lt_zero _)⟩, (fun s hs => by cases hs)⟩
theorem InvN.step {L : List Sp} {st : Nat × List Sp} (h : InvN L st) {s : Sp} (hs : s.a ≤ s.b) (hf : st.1 ≤ s.a) : InvN (L ++ [s]) (stepN st s) := by
  obtain ⟨free, out⟩ := st
  obtain ⟨h1, h2, h3, h4⟩ := h
  simp only at h1 h2 h3 h4 hf
  have hin : ∀ k, inS (L ++ [s]) k ↔ inS L k ∨ s.has k := fun k => by rw [inS_app, inS_one]
  have hle : ∀ t ∈ L ++ [s], t.b < s.b + 1 := fun t ht => by
    rcases List.mem_append.1 ht with ht | ht
    · have := h4 t ht; omega
    · rw [List.mem_singleton.1 ht]; omega
  have hlow : ∀ k, inS L k → k < free := fun k ⟨t, ht, hk⟩ => by
    have := h4 t ht
    have := hk.2
    omega
  unfold stepN
  simp only
  by_cases hg : free < s.a
  · rw [if_pos hg]
    refine ⟨?_, fun t ht => ?_, fun k => ?_, hle⟩
    · refine h1.app (Plain.one (by show free ≤ s.a - 1; omega)) fun u hu v hv => ?_
      rw [List.mem_singleton.1 hv]
      exact h2 u hu
    · show t.b + 1 < s.b + 1
      rcases List.mem_append.1 ht with ht | ht
      · have := h2 t ht; omega
      · rw [List.mem_singleton.1 ht]; show s.a - 1 + 1 < s.b + 1; omega
    · show inS (out ++ [⟨free, s.a - 1⟩]) k ↔ k < s.b + 1 ∧ ¬ inS (L ++ [s]) k
      rw [inS_app, inS_one, h3, hin]
      constructor
      · rintro (⟨a1, a2⟩ | ⟨a1, a2⟩)
        · exact ⟨by omega, fun hc => hc.elim a2 fun hc => by have := hc.1; omega⟩
        · have a1 : free ≤ k := a1
          have a2 : k ≤ s.a - 1 := a2
          exact ⟨by omega, fun hc => hc.elim (fun hc => by have := hlow k hc; omega) fun hc => by have := hc.1; omega⟩
      · rintro ⟨a1, a2⟩
        by_cases hk : k < free
        · exact .inl ⟨hk, fun hc => a2 (.inl hc)⟩
        · refine .inr ⟨by show free ≤ k; omega, ?_⟩
          show k ≤ s.a - 1
          have : ¬ s.has k := fun hc => a2 (.inr hc)
          have : ¬ (s.a ≤ k ∧ k ≤ s.b) := this
          omega
  · rw [if_neg hg]
    refine ⟨h1, fun t ht => ?_, fun k => ?_, hle⟩
    · have := h2 t ht; show t.b + 1 < s.b + 1; omega
    · show inS out k ↔ k < s.b + 1 ∧ ¬ inS (L ++ [s]) k
      rw [h3, hin]
      constructor
      · rintro ⟨a1, a2⟩
        exact ⟨by omega, fun hc => hc.elim a2 fun hc => by have := hc.1; omega⟩
      · rintro ⟨a1, a2⟩
        have : ¬ s.has k := fun hc => a2 (.inr hc)
        have : ¬ (s.a ≤ k ∧ k ≤ s.b) := this
        exact ⟨by omega, fun hc => a2 (.inl hc)⟩
theorem gapN_snoc {L : List Sp} {k : Nat} {x : Sp} (h : L[k]? = some x) : gapN (L.take (k + 1)) = stepN (gapN (L.take k)) x := by
  obtain ⟨hlt, rfl⟩ := List.getElem?_eq_some_iff.1 h
  unfold gapN
  rw [List.take_succ_eq_append_getElem hlt, List.foldl_append, List.foldl_cons, List.foldl_nil]
theorem gapN_free {L : List Sp} (h : Plain L) (k : Nat) (hk : k < L.length) : (gapN (L.take k)).1 ≤ L[k].a := by
  match k with
  | 0 => simp [gapN]
  | i + 1 =>
    rw [gapN_snoc (List.getElem?_eq_getElem (by omega : i < L.length))]
    have := List.pairwise_iff_getElem.1 h.gap i (i + 1) (by omega) hk (by omega)
    show L[i].b + 1 ≤ L[i + 1].a
    omega
theorem gapN_ok {L : List Sp} (h : Plain L) : ∀ k, k ≤ L.length → InvN (L.take k) (gapN (L.take k))
  | 0, _ => by simpa [gapN] using InvN.nil
  | k + 1, hk => by
    have hx : L[k]? = some L[k] := List.getElem?_eq_getElem (by omega)
    rw [gapN_snoc hx, List.take_succ_eq_append_getElem (by omega)]
    exact (gapN_ok h k (by omega)).step (h.ok _ (List.getElem_mem _)) (gapN_free h k (by omega))
theorem notS_ok (a : List Sp) : Plain (notQ a) ∧ ∀ k, inS (notQ a) k ↔ k < 6004799503160661 ∧ ¬ inS a k := by
  have h := gapN_ok (plain_plain a) (plainQ a).length (Nat.le_refl _)
  rw [List.take_length] at h
  have hp : ∀ k, k < 6004799503160661 → (inS (plainQ a) k ↔ inS a k) := fun k hk => by rw [plain_in]; exact ⟨fun h => h.1, fun h => ⟨h, hk⟩⟩
  have hfr : (gapN (plainQ a)).1 ≤ 6004799503160661 := by
    rcases Nat.eq_zero_or_pos (plainQ a).length with h0 | h0
    · rw [List.eq_nil_of_length_eq_zero h0]; exact Nat.zero_le _
    · obtain ⟨m, hm⟩ : ∃ m, (plainQ a).length = m + 1 := ⟨(plainQ a).length - 1, by omega⟩
      have hx : (plainQ a)[m]? = some (plainQ a)[m] := List.getElem?_eq_getElem (by omega)
      have := gapN_snoc hx
      rw [← hm, List.take_length] at this
      rw [this]
      have := plain_below a _ (List.getElem_mem (l := plainQ a) (n := m) (by omega))
      show (plainQ a)[m].b + 1 ≤ 6004799503160661
      omega
  unfold notQ finN
  obtain ⟨st, hst⟩ : ∃ st, gapN (plainQ a) = st := ⟨_, rfl⟩
  rw [hst] at h hfr ⊢
  obtain ⟨h1, h2, h3, h4⟩ := h
  have hlow : ∀ k, inS (plainQ a) k → k < st.1 := fun k ⟨t, ht, hk⟩ => by
    have := h4 t ht
    have := hk.2
    omega
  by_cases hf : st.1 < 6004799503160661
  · rw [if_pos hf]
    refine ⟨h1.app (Plain.one (by show st.1 ≤ 6004799503160661 - 1; omega)) fun u hu v hv => by rw [List.mem_singleton.1 hv]; exact h2 u hu, fun k => ?_⟩
    rw [inS_app, inS_one, h3]
    constructor
    · rintro (⟨a1, a2⟩ | ⟨a1, a2⟩)
      · exact ⟨by omega, fun hc => a2 ((hp k (by omega)).2 hc)⟩
      · have a1 : st.1 ≤ k := a1
        have a2 : k ≤ 6004799503160661 - 1 := a2
        exact ⟨by omega, fun hc => by have := hlow k ((hp k (by omega)).2 hc); omega⟩
    · rintro ⟨a1, a2⟩
      by_cases hk : k < st.1
      · exact .inl ⟨hk, fun hc => a2 ((hp k a1).1 hc)⟩
      · exact .inr ⟨by show st.1 ≤ k; omega, by show k ≤ 6004799503160661 - 1; omega⟩
  · rw [if_neg hf]
    refine ⟨h1, fun k => ?_⟩
    rw [h3]
    constructor
    · rintro ⟨a1, a2⟩
      exact ⟨by omega, fun hc => a2 ((hp k (by omega)).2 hc)⟩
    · rintro ⟨a1, a2⟩
      exact ⟨by omega, fun hc => a2 ((hp k a1).1 hc)⟩
theorem not_plain (a : List Sp) : Plain (notQ a) := (notS_ok a).1
theorem not_in (a : List Sp) (k : Nat) : inS (notQ a) k ↔ k < 6004799503160661 ∧ ¬ inS a k := (notS_ok a).2 k
def andQ (a b : List Sp) : List Sp := notQ (orQ (notQ a) (notQ b))
theorem and_plain (a b : List Sp) : Plain (andQ a b) := not_plain _
theorem and_in (a b : List Sp) (k : Nat) : inS (andQ a b) k ↔ k < 6004799503160661 ∧ inS a k ∧ inS b k := by
  unfold andQ
  rw [not_in, or_in, not_in, not_in]
  constructor
  · rintro ⟨h1, h2⟩
    refine ⟨h1, ?_, ?_⟩
    · exact Decidable.byContradiction fun hc => h2 ⟨.inl ⟨h1, hc⟩, h1⟩
    · exact Decidable.byContradiction fun hc => h2 ⟨.inr ⟨h1, hc⟩, h1⟩
  · rintro ⟨h1, h2, h3⟩
    exact ⟨h1, fun ⟨hc, _⟩ => hc.elim (fun hc => hc.2 h2) (fun hc => hc.2 h3)⟩
/-- What two plain lists have together, gone through side by side. -/
def meetQ (s t : Sp) : Sp := ⟨max s.a t.a, min s.b t.b⟩
theorem meet_has (s t : Sp) (k : Nat) : (meetQ s t).has k ↔ s.has k ∧ t.has k := by
  show (max s.a t.a ≤ k ∧ k ≤ min s.b t.b) ↔ (s.a ≤ k ∧ k ≤ s.b) ∧ (t.a ≤ k ∧ k ≤ t.b)
  omega
def InvA (X Y x y out : List Sp) : Prop := ∀ k, (inS out k ∨ (inS x k ∧ inS y k)) ↔ (inS X k ∧ inS Y k)
def addA (out : List Sp) (m : Sp) : List Sp := if m.a ≤ m.b then out ++ [m] else out
theorem addA_in (out : List Sp) (m : Sp) (k : Nat) : inS (addA out m) k ↔ inS out k ∨ m.has k := by
  unfold addA
  split
  · rw [inS_app, inS_one]
  · rename_i h
    exact ⟨.inl, fun hk => hk.elim id fun hk => absurd (Nat.le_trans hk.1 hk.2) h⟩
theorem InvA.left {X Y x y out : List Sp} {s t : Sp} (h : InvA X Y (s :: x) (t :: y) out) (hy : Plain (t :: y)) (hlt : s.b < t.b) : InvA X Y x (t :: y) (addA out (meetQ s t)) := fun k => by
  rw [← h k, addA_in, meet_has, inS_cons, inS_cons]
  have h1 : s.has k → ¬ inS y k := fun hs ⟨u, hu, hk⟩ => by
    have := hy.head.2 u hu
    have := hs.2
    have := hk.1
    omega
  constructor
  · rintro ((a | ⟨a, b⟩) | ⟨a, b⟩)
    · exact .inl a
    · exact .inr ⟨.inl a, .inl b⟩
    · exact .inr ⟨.inr a, b⟩
  · rintro (a | ⟨a | a, b⟩)
    · exact .inl (.inl a)
    · rcases b with b | b
      · exact .inl (.inr ⟨a, b⟩)
      · exact absurd b (h1 a)
    · exact .inr ⟨a, b⟩
theorem InvA.done {a b x y out : List Sp} (h : InvA (plainQ a) (plainQ b) x y out) (he : x = [] ∨ y = []) : unQ out [] = andQ a b := plain_ext (un_plain _ _) (and_plain a b) fun k => by
  have h1 := h k
  rw [plain_in, plain_in] at h1
  rw [un_in, and_in]
  have h2 : ¬ (inS x k ∧ inS y k) := by
    rcases he with rfl | rfl
    · exact fun hc => inS_nil k hc.1
    · exact fun hc => inS_nil k hc.2
  constructor
  · rintro (hk | hk)
    · obtain ⟨⟨p, q⟩, r, _⟩ := h1.1 (.inl hk)
      exact ⟨q, p, r⟩
    · exact absurd hk (inS_nil k)
  · rintro ⟨q, p, r⟩
    exact .inl ((h1.2 ⟨⟨p, q⟩, r, q⟩).elim id fun hc => absurd hc h2)
def lessQ (a b : List Sp) : List Sp := andQ a (notQ b)
def withinQ (a b : List Sp) : Bool := (lessQ a b).isEmpty
/-- How many numbers a list has. -/
def totalQ (L : List Sp) : Nat := (L.map fun s => s.b + 1 - s.a).sum
def cntB (p : Nat → Bool) : Nat → Nat
  | 0 => 0
  | n + 1 => cntB p n + if p n then 1 else 0
end Go.Proofs.Ytmebmkkllhnmlaa

namespace Go.Proofs.Ytmebmkkllhnmlaa
open Go.RowKit
set_option linter.unusedVariables false
set_option linter.unusedSimpArgs false
def hp : Nat → Nat → Nat → Nat
  | 0, _, _ => 0
  | z + 1, x, y =>
    if x < 2 ^ z then (if y < 2 ^ z then hp z y x else 4 ^ z + hp z x (y - 2 ^ z))
    else (if y < 2 ^ z then 3 * 4 ^ z + hp z (2 ^ z - 1 - y) (2 ^ z - 1 - (x - 2 ^ z)) else 2 * 4 ^ z + hp z (x - 2 ^ z) (y - 2 ^ z))
def pt : Nat → Nat → Nat × Nat
  | 0, _ => (0, 0)
  | z + 1, d =>
    if d / 4 ^ z = 0 then ((pt z (d % 4 ^ z)).2, (pt z (d % 4 ^ z)).1)
    else if d / 4 ^ z = 1 then ((pt z (d % 4 ^ z)).1, (pt z (d % 4 ^ z)).2 + 2 ^ z)
    else if d / 4 ^ z = 2 then ((pt z (d % 4 ^ z)).1 + 2 ^ z, (pt z (d % 4 ^ z)).2 + 2 ^ z)
    else (2 ^ z - 1 - (pt z (d % 4 ^ z)).2 + 2 ^ z, 2 ^ z - 1 - (pt z (d % 4 ^ z)).1)
theorem pow2_pos (z : Nat) : 0 < 2 ^ z := Nat.pow_pos (by decide)
theorem pow4_pos (z : Nat) : 0 < 4 ^ z := Nat.pow_pos (by decide)
theorem pow4_sq (z : Nat) : 4 ^ z = 2 ^ z * 2 ^ z := by rw [← Nat.mul_pow]
theorem hp_lt : ∀ (z x y : Nat), x < 2 ^ z → y < 2 ^ z → hp z x y < 4 ^ z
  | 0, _, _, _, _ => Nat.one_pos
  | z + 1, x, y, hx, hy => by
    have hq := pow4_pos z
    rw [Nat.pow_succ] at hx hy ⊢
    rw [hp]
    split
    · split
      · have := hp_lt z y x (by assumption) (by assumption); omega
      · have := hp_lt z x (y - 2 ^ z) (by assumption) (by omega); omega
    · split
      · have := hp_lt z (2 ^ z - 1 - y) (2 ^ z - 1 - (x - 2 ^ z)) (by omega) (by omega); omega
      · have := hp_lt z (x - 2 ^ z) (y - 2 ^ z) (by omega) (by omega); omega
theorem pt_lt : ∀ (z d : Nat), d < 4 ^ z → (pt z d).1 < 2 ^ z ∧ (pt z d).2 < 2 ^ z
  | 0, _, _ => ⟨Nat.one_pos, Nat.one_pos⟩
  | z + 1, d, hd => by
    have hm := pt_lt z (d % 4 ^ z) (Nat.mod_lt _ (pow4_pos z))
    rw [Nat.pow_succ 2 z]
    rw [pt]
    split
    · exact ⟨by show (pt z _).2 < _; omega, by show (pt z _).1 < _; omega⟩
    · split
      · exact ⟨by show (pt z _).1 < _; omega, by show (pt z _).2 + 2 ^ z < _; omega⟩
      · split
        · exact ⟨by show (pt z _).1 + 2 ^ z < _; omega, by show (pt z _).2 + 2 ^ z < _; omega⟩
        · exact ⟨by show 2 ^ z - 1 - (pt z _).2 + 2 ^ z < _; omega, by show 2 ^ z - 1 - (pt z _).1 < _; omega⟩
theorem quo_mod (q d k : Nat) (hq : 0 < q) (h : d / q = k) : d = k * q + d % q := by
  have := Nat.div_add_mod d q
  rw [h, Nat.mul_comm] at this
  exact this.symm
theorem div_is {q k m : Nat} (hm : m < q) : (k * q + m) / q = k ∧ (k * q + m) % q = m := by
  have hq : 0 < q := by omega
  rw [Nat.add_comm, Nat.add_mul_div_right _ _ hq, Nat.div_eq_of_lt hm, Nat.add_mul_mod_self_right, Nat.mod_eq_of_lt hm]
  exact ⟨Nat.zero_add _, rfl⟩
theorem hp_pt : ∀ (z d : Nat), d < 4 ^ z → hp z (pt z d).1 (pt z d).2 = d
  | 0, d, hd => by
    have : d = 0 := by simp at hd; omega
    subst this
    rfl
  | z + 1, d, hd => by
    have hq := pow4_pos z
    have hh := pow2_pos z
    have hml := Nat.mod_lt d hq
    have ih := hp_pt z (d % 4 ^ z) hml
    obtain ⟨h1, h2⟩ := pt_lt z (d % 4 ^ z) hml
    rw [Nat.pow_succ] at hd
    rw [pt]
    obtain ⟨p, hp0⟩ : ∃ p, pt z (d % 4 ^ z) = p := ⟨_, rfl⟩
    rw [hp0] at ih h1 h2 ⊢
    obtain ⟨a, b⟩ := p
    simp only at ih h1 h2
    split
    · rename_i h
      have := quo_mod _ d _ hq h
      show hp (z + 1) b a = d
      rw [hp, if_pos h2, if_pos h1, ih]
      omega
    · split
      · rename_i h
        have := quo_mod _ d _ hq h
        show hp (z + 1) a (b + 2 ^ z) = d
        rw [hp, if_pos h1, if_neg (by omega), Nat.add_sub_cancel, ih]
        omega
      · split
        · rename_i h
          have := quo_mod _ d _ hq h
          show hp (z + 1) (a + 2 ^ z) (b + 2 ^ z) = d
          rw [hp, if_neg (by omega), if_neg (by omega), Nat.add_sub_cancel, Nat.add_sub_cancel, ih]
          omega
        · rename_i n0 n1 n2
          have h3 : d / 4 ^ z = 3 := by
            have h4 : d / 4 ^ z < 4 := Nat.div_lt_of_lt_mul hd
            generalize d / 4 ^ z = t at n0 n1 n2 h4
            omega
          have := quo_mod _ d _ hq h3
          show hp (z + 1) (2 ^ z - 1 - b + 2 ^ z) (2 ^ z - 1 - a) = d
          rw [hp, if_neg (by omega), if_pos (by omega), Nat.add_sub_cancel, show 2 ^ z - 1 - (2 ^ z - 1 - a) = a by omega, show 2 ^ z - 1 - (2 ^ z - 1 - b) = b by omega, ih]
          omega
theorem pt_hp : ∀ (z x y : Nat), x < 2 ^ z → y < 2 ^ z → pt z (hp z x y) = (x, y)
  | 0, x, y, hx, hy => by
    have : x = 0 := by simp at hx; omega
    have : y = 0 := by simp at hy; omega
    subst x; subst y
    rfl
  | z + 1, x, y, hx, hy => by
    have hh := pow2_pos z
    rw [Nat.pow_succ] at hx hy
    rw [hp]
    by_cases h1 : x < 2 ^ z <;> by_cases h2 : y < 2 ^ z
    · rw [if_pos h1, if_pos h2]
      have hl := hp_lt z y x h2 h1
      have ih := pt_hp z y x h2 h1
      have hd := div_is (k := 0) hl
      rw [Nat.zero_mul, Nat.zero_add] at hd
      rw [pt, hd.1, hd.2, if_pos rfl, ih]
    · rw [if_pos h1, if_neg h2]
      have hl := hp_lt z x (y - 2 ^ z) h1 (by omega)
      have ih := pt_hp z x (y - 2 ^ z) h1 (by omega)
      have hd := div_is (k := 1) hl
      rw [Nat.one_mul] at hd
      rw [pt, hd.1, hd.2, if_neg (by decide), if_pos rfl, ih]
      show (x, y - 2 ^ z + 2 ^ z) = _
      congr 1
      omega
    · rw [if_neg h1, if_pos h2]
      have hl := hp_lt z (2 ^ z - 1 - y) (2 ^ z - 1 - (x - 2 ^ z)) (by omega) (by omega)
      have ih := pt_hp z (2 ^ z - 1 - y) (2 ^ z - 1 - (x - 2 ^ z)) (by omega) (by omega)
      have hd := div_is (k := 3) hl
      rw [pt, hd.1, hd.2, if_neg (by decide), if_neg (by decide), if_neg (by decide), ih]
      show (2 ^ z - 1 - (2 ^ z - 1 - (x - 2 ^ z)) + 2 ^ z, 2 ^ z - 1 - (2 ^ z - 1 - y)) = _
      congr 1 <;> omega
    · rw [if_neg h1, if_neg h2]
      have hl := hp_lt z (x - 2 ^ z) (y - 2 ^ z) (by omega) (by omega)
      have ih := pt_hp z (x - 2 ^ z) (y - 2 ^ z) (by omega) (by omega)
      have hd := div_is (k := 2) hl
      rw [pt, hd.1, hd.2, if_neg (by decide), if_neg (by decide), if_pos rfl, ih]
      show (x - 2 ^ z + 2 ^ z, y - 2 ^ z + 2 ^ z) = _
      congr 1 <;> omega
theorem hp_inj {z x y u v : Nat} (hx : x < 2 ^ z) (hy : y < 2 ^ z) (hu : u < 2 ^ z) (hv : v < 2 ^ z) (h : hp z x y = hp z u v) : x = u ∧ y = v := by
  have := pt_hp z x y hx hy
  rw [h, pt_hp z u v hu hv] at this
  injection this with a b
  exact ⟨a.symm, b.symm⟩
end Go.Proofs.Ytmebmkkllhnmlaa

namespace Go.Proofs.Ytmebmkkllhnmlaa
open Go.RowKit
set_option linter.unusedVariables false
set_option linter.unusedSimpArgs false
/-- A sum over the first numbers. -/
def sumN (f : Nat → Nat) : Nat → Nat
  | 0 => 0
  | n + 1 => sumN f n + f n
def ind (P : Nat → Nat → Bool) (x y : Nat) : Nat := if P x y then 1 else 0
/-- How many tiles of a rectangle from the corner on have a property. -/
def grid (P : Nat → Nat → Bool) (n m : Nat) : Nat := sumN (fun x => sumN (fun y => ind P x y) m) n
end Go.Proofs.Ytmebmkkllhnmlaa
