/- Sets of numbers as lists of intervals: plain lists, and what is put together of two. Plain laws. -/
import Derived.Test.YtbldhokgbcljjaaGsx4
namespace Go.Proofs.Ytbldhokgbcljjaa
open Go.RowKit
set_option linter.unusedVariables false
set_option linter.unusedSimpArgs false
/-- Numbers, one behind the other. -/
structure Sp where
  a : Nat
  b : Nat
abbrev Sp.has (s : Sp) (k : Nat) : Prop := s.a ≤ k ∧ k ≤ s.b
def inS (L : List Sp) (k : Nat) : Prop := ∃ s ∈ L, s.has k
instance (L : List Sp) (k : Nat) : Decidable (inS L k) := by unfold inS; infer_instance
structure Plain (L : List Sp) : Prop where
  gap : L.Pairwise fun s t => s.b + 1 < t.a
  ok : ∀ s ∈ L, s.a ≤ s.b
theorem inS_nil (k : Nat) : ¬ inS [] k := fun ⟨_, h, _⟩ => by cases h
theorem inS_cons {s : Sp} {L : List Sp} {k : Nat} : inS (s :: L) k ↔ s.has k ∨ inS L k := by
  constructor
  · rintro ⟨t, ht, h⟩
    rcases List.mem_cons.1 ht with rfl | ht
    · exact .inl h
    · exact .inr ⟨t, ht, h⟩
  · rintro (h | ⟨t, ht, h⟩)
    · exact ⟨s, List.mem_cons_self, h⟩
    · exact ⟨t, List.mem_cons_of_mem _ ht, h⟩
theorem inS_app {L M : List Sp} {k : Nat} : inS (L ++ M) k ↔ inS L k ∨ inS M k := by
  constructor
  · rintro ⟨t, ht, h⟩
    rcases List.mem_append.1 ht with ht | ht
    · exact .inl ⟨t, ht, h⟩
    · exact .inr ⟨t, ht, h⟩
  · rintro (⟨t, ht, h⟩ | ⟨t, ht, h⟩)
    · exact ⟨t, List.mem_append_left _ ht, h⟩
    · exact ⟨t, List.mem_append_right _ ht, h⟩
theorem inS_one {s : Sp} {k : Nat} : inS [s] k ↔ s.has k := by
  rw [inS_cons]
  exact ⟨fun h => h.elim id fun h => absurd h (inS_nil k), .inl⟩
theorem Plain.nil : Plain [] := ⟨List.Pairwise.nil, fun _ h => by cases h⟩
theorem Plain.tail {s : Sp} {L : List Sp} (h : Plain (s :: L)) : Plain L := ⟨(List.pairwise_cons.1 h.gap).2, fun t ht => h.ok t (List.mem_cons_of_mem _ ht)⟩
theorem Plain.head {s : Sp} {L : List Sp} (h : Plain (s :: L)) : s.a ≤ s.b ∧ ∀ t ∈ L, s.b + 1 < t.a := ⟨h.ok s List.mem_cons_self, (List.pairwise_cons.1 h.gap).1⟩
theorem Plain.one {s : Sp} (h : s.a ≤ s.b) : Plain [s] := ⟨List.pairwise_singleton _ _, fun t ht => by rw [List.mem_singleton.1 ht]; exact h⟩
theorem Plain.app {L M : List Sp} (h : Plain L) (k : Plain M) (hg : ∀ s ∈ L, ∀ t ∈ M, s.b + 1 < t.a) : Plain (L ++ M) :=
  ⟨List.pairwise_append.2 ⟨h.gap, k.gap, hg⟩, fun s hs => (List.mem_append.1 hs).elim (h.ok s) (k.ok s)⟩
theorem Plain.sub {L M : List Sp} (h : Plain L) (hs : M.Sublist L) : Plain M := ⟨h.gap.sublist hs, fun s hm => h.ok s (hs.subset hm)⟩
/-- A set has one plain list. -/
theorem plain_ext : ∀ {L M : List Sp}, Plain L → Plain M → (∀ k, inS L k ↔ inS M k) → L = M
  | [], [], _, _, _ => rfl
  | [], t :: q, _, hM, h => absurd ((h t.a).2 (inS_cons.2 (.inl ⟨Nat.le_refl _, hM.head.1⟩))) (inS_nil _)
  | s :: r, [], hL, _, h => absurd ((h s.a).1 (inS_cons.2 (.inl ⟨Nat.le_refl _, hL.head.1⟩))) (inS_nil _)
  | s :: r, t :: q, hL, hM, h => by
    obtain ⟨s1, s2⟩ := hL.head
    obtain ⟨t1, t2⟩ := hM.head
    have low : ∀ {x : Sp} {l : List Sp} {k : Nat}, x.a ≤ x.b → (∀ u ∈ l, x.b + 1 < u.a) → inS (x :: l) k → x.a ≤ k := fun hx hl hk => by
      rcases inS_cons.1 hk with hk | ⟨u, hu, hk⟩
      · exact hk.1
      · have := hl u hu; omega
    have ea : s.a = t.a := by
      have h1 := low t1 t2 ((h s.a).1 (inS_cons.2 (.inl ⟨Nat.le_refl _, s1⟩)))
      have h2 := low s1 s2 ((h t.a).2 (inS_cons.2 (.inl ⟨Nat.le_refl _, t1⟩)))
      omega
    have nxt : ∀ {x : Sp} {l : List Sp}, (∀ u ∈ l, x.b + 1 < u.a) → ¬ inS (x :: l) (x.b + 1) := fun hl hk => by
      rcases inS_cons.1 hk with hk | ⟨u, hu, hk⟩
      · have := hk.2; omega
      · have := hl u hu; omega
    have eb : s.b = t.b := by
      rcases Nat.lt_trichotomy s.b t.b with hlt | he | hgt
      · exact absurd ((h (s.b + 1)).2 (inS_cons.2 (.inl ⟨by omega, by omega⟩))) (nxt s2)
      · exact he
      · exact absurd ((h (t.b + 1)).1 (inS_cons.2 (.inl ⟨by omega, by omega⟩))) (nxt t2)
    have e : s = t := by cases s; cases t; simp only at ea eb; subst ea; subst eb; rfl
    subst e
    congr 1
    refine plain_ext hL.tail hM.tail fun k => ?_
    have up : ∀ {l : List Sp}, (∀ u ∈ l, s.b + 1 < u.a) → (inS l k ↔ inS (s :: l) k ∧ s.b < k) := fun hl => by
      constructor
      · rintro ⟨u, hu, hk⟩
        have := hl u hu
        exact ⟨inS_cons.2 (.inr ⟨u, hu, hk⟩), by omega⟩
      · rintro ⟨hk, hlt⟩
        rcases inS_cons.1 hk with hk | hk
        · omega
        · exact hk
    rw [up s2, up t2, h k]
/-- The program's way: behind a list, if it does not begin below any of it. -/
def joinQ (L : List Sp) (s : Sp) : List Sp :=
  match L[L.length - 1]? with
  | some t => if s.a ≤ t.b + 1 then L.set (L.length - 1) { t with b := max t.b s.b } else L ++ [s]
  | none => L ++ [s]
theorem joinQ_snoc (X : List Sp) (t s : Sp) : joinQ (X ++ [t]) s = if s.a ≤ t.b + 1 then X ++ [{ t with b := max t.b s.b }] else X ++ [t] ++ [s] := by
  have hl : (X ++ [t]).length - 1 = X.length := by simp
  have hg : (X ++ [t])[(X ++ [t]).length - 1]? = some t := by rw [hl]; simp
  unfold joinQ
  rw [hg, hl]
  simp only
  split
  · rw [List.set_append_right _ _ (Nat.le_refl _), Nat.sub_self]; rfl
  · rfl
theorem joinQ_nil (s : Sp) : joinQ [] s = [s] := rfl
theorem joinQ_ok {L : List Sp} (h : Plain L) {s : Sp} (hs : s.a ≤ s.b) (ha : ∀ t ∈ L, t.a ≤ s.a) :
    Plain (joinQ L s) ∧ (∀ k, inS (joinQ L s) k ↔ inS L k ∨ s.has k) ∧ (∀ t ∈ joinQ L s, t.a ≤ s.a) := by
  by_cases h0 : L = []
  · subst h0
    exact ⟨Plain.one hs, fun k => by rw [joinQ_nil, inS_one]; exact ⟨.inr, fun h => h.elim (fun h => absurd h (inS_nil k)) id⟩, fun t ht => by rw [List.mem_singleton.1 ht]; exact Nat.le_refl _⟩
  · obtain ⟨X, t, rfl⟩ : ∃ X a, L = X ++ [a] := ⟨L.dropLast, L.getLast h0, (List.dropLast_concat_getLast h0).symm⟩
    have ht := ha t (by simp)
    have hto := h.ok t (by simp)
    have hX : Plain X := h.sub (List.sublist_append_left _ _)
    have hg := (List.pairwise_append.1 h.gap).2.2
    rw [joinQ_snoc]
    split
    · rename_i hj
      refine ⟨hX.app (Plain.one (by show t.a ≤ max t.b s.b; omega)) (fun u hu v hv => by rw [List.mem_singleton.1 hv]; exact hg u hu t (by simp)), fun k => ?_, fun u hu => ?_⟩
      · rw [inS_app, inS_app, inS_one, inS_one]
        constructor
        · rintro (h1 | ⟨h1, h2⟩)
          · exact .inl (.inl h1)
          · have h2 : k ≤ max t.b s.b := h2
            have h1 : t.a ≤ k := h1
            by_cases hk : k ≤ t.b
            · exact .inl (.inr ⟨h1, hk⟩)
            · exact .inr ⟨by omega, by omega⟩
        · rintro ((h1 | ⟨h1, h2⟩) | ⟨h1, h2⟩)
          · exact .inl h1
          · exact .inr ⟨h1, by show k ≤ max t.b s.b; omega⟩
          · exact .inr ⟨by show t.a ≤ k; omega, by show k ≤ max t.b s.b; omega⟩
      · rcases List.mem_append.1 hu with hu | hu
        · exact ha u (List.mem_append_left _ hu)
        · rw [List.mem_singleton.1 hu]; exact ht
    · rename_i hj
      refine ⟨h.app (Plain.one hs) (fun u hu v hv => ?_), fun k => by rw [inS_app, inS_one], fun u hu => ?_⟩
      · rw [List.mem_singleton.1 hv]
        rcases List.mem_append.1 hu with hu | hu
        · have := hg u hu t (by simp); omega
        · rw [List.mem_singleton.1 hu]; omega
      · rcases List.mem_append.1 hu with hu | hu
        · exact ha u hu
        · rw [List.mem_singleton.1 hu]; exact Nat.le_refl _
theorem join_all : ∀ (M L : List Sp), Plain L → (∀ s ∈ M, s.a ≤ s.b) → M.Pairwise (fun s t => s.a ≤ t.a) → (∀ t ∈ L, ∀ s ∈ M, t.a ≤ s.a) → Plain (M.foldl joinQ L) ∧ ∀ k, inS (M.foldl joinQ L) k ↔ inS L k ∨ inS M k
  | [], L, h, _, _, _ => ⟨h, fun k => ⟨.inl, fun h => h.elim id fun h => absurd h (inS_nil k)⟩⟩
  | s :: r, L, h, h1, h2, h3 => by
    obtain ⟨p1, p2⟩ := List.pairwise_cons.1 h2
    obtain ⟨j1, j2, j3⟩ := joinQ_ok h (h1 s List.mem_cons_self) (fun t ht => h3 t ht s List.mem_cons_self)
    obtain ⟨k1, k2⟩ := join_all r (joinQ L s) j1 (fun t ht => h1 t (List.mem_cons_of_mem _ ht)) p2 (fun t ht u hu => Nat.le_trans (j3 t ht) (p1 u hu))
    refine ⟨k1, fun k => ?_⟩
    rw [List.foldl_cons, k2, j2, inS_cons]
    constructor
    · rintro ((h | h) | h)
      · exact .inl h
      · exact .inr (.inl h)
      · exact .inr (.inr h)
    · rintro (h | h | h)
      · exact .inl (.inl h)
      · exact .inl (.inr h)
      · exact .inr h
/-- The document's way: what touches is put together. -/
def touchQ (x y : Sp) : Bool := decide (y.a ≤ x.b + 1 ∧ x.a ≤ y.b + 1)
def mergeQ : Sp → List Sp → Sp × List Sp
  | s, [] => (s, [])
  | s, t :: r => if touchQ t s then mergeQ ⟨min t.a s.a, max t.b s.b⟩ r else ((mergeQ s r).1, t :: (mergeQ s r).2)
def insQ (s : Sp) (L : List Sp) : List Sp := L.takeWhile (fun t => decide (t.a < s.a)) ++ s :: L.dropWhile (fun t => decide (t.a < s.a))
def putQs (L : List Sp) (s : Sp) : List Sp := if s.b < s.a then L else insQ (mergeQ s L).1 (mergeQ s L).2
theorem merge_far : ∀ (L : List Sp) (s : Sp), (∀ t ∈ L, s.b + 1 < t.a) → mergeQ s L = (s, L)
  | [], _, _ => rfl
  | t :: r, s, h => by
    have ht := h t List.mem_cons_self
    rw [mergeQ, if_neg (by simp [touchQ]; omega), merge_far r s (fun u hu => h u (List.mem_cons_of_mem _ hu))]
theorem merge_ok : ∀ (L : List Sp) (s : Sp), Plain L → s.a ≤ s.b →
    (mergeQ s L).2.Sublist L ∧ (mergeQ s L).1.a ≤ s.a ∧ s.b ≤ (mergeQ s L).1.b ∧ ((mergeQ s L).1.a = s.a ∨ ∃ u ∈ L, (mergeQ s L).1.a = u.a) ∧
    (∀ t ∈ (mergeQ s L).2, t.b + 1 < (mergeQ s L).1.a ∨ (mergeQ s L).1.b + 1 < t.a) ∧ ∀ k, ((mergeQ s L).1.has k ∨ inS (mergeQ s L).2 k) ↔ (s.has k ∨ inS L k)
  | [], s, _, _ => ⟨List.Sublist.refl _, Nat.le_refl _, Nat.le_refl _, .inl rfl, (fun t ht => by cases ht), fun k => Iff.rfl⟩
  | t :: r, s, h, hs => by
    obtain ⟨t1, t2⟩ := h.head
    rw [mergeQ]
    split
    · rename_i hto
      simp only [touchQ, decide_eq_true_eq] at hto
      obtain ⟨m1, m2, m3, m4, m5, m6⟩ := merge_ok r ⟨min t.a s.a, max t.b s.b⟩ h.tail (by show min t.a s.a ≤ max t.b s.b; omega)
      simp only at m2 m3 m4
      obtain ⟨q, hq⟩ : ∃ q, mergeQ ⟨min t.a s.a, max t.b s.b⟩ r = q := ⟨_, rfl⟩
      rw [hq] at m1 m2 m3 m4 m5 m6 ⊢
      refine ⟨m1.trans (List.sublist_cons_self _ _), Nat.le_trans m2 (Nat.min_le_right _ _), Nat.le_trans (Nat.le_max_right _ _) m3, ?_, m5, fun k => ?_⟩
      · rcases m4 with m4 | ⟨u, hu, m4⟩
        · rcases Nat.le_total t.a s.a with hle | hle
          · exact .inr ⟨t, List.mem_cons_self, by omega⟩
          · exact .inl (by omega)
        · exact .inr ⟨u, List.mem_cons_of_mem _ hu, m4⟩
      · rw [m6 k, inS_cons]
        have hm : (⟨min t.a s.a, max t.b s.b⟩ : Sp).has k ↔ s.has k ∨ t.has k := by
          show (min t.a s.a ≤ k ∧ k ≤ max t.b s.b) ↔ ((s.a ≤ k ∧ k ≤ s.b) ∨ (t.a ≤ k ∧ k ≤ t.b))
          omega
        rw [hm, or_assoc]
    · rename_i hto
      simp only [touchQ, decide_eq_true_eq] at hto
      obtain ⟨m1, m2, m3, m4, m5, m6⟩ := merge_ok r s h.tail hs
      refine ⟨m1.cons_cons t, m2, m3, ?_, ?_, fun k => ?_⟩
      · rcases m4 with m4 | ⟨u, hu, m4⟩
        · exact .inl m4
        · exact .inr ⟨u, List.mem_cons_of_mem _ hu, m4⟩
      · intro u hu
        show u.b + 1 < (mergeQ s r).1.a ∨ (mergeQ s r).1.b + 1 < u.a
        rcases List.mem_cons.1 hu with rfl | hu
        · by_cases hb : u.b + 1 < s.a
          · rcases m4 with m4 | ⟨v, hv, m4⟩
            · exact .inl (by omega)
            · have := t2 v hv; exact .inl (by omega)
          · have hfar : mergeQ s r = (s, r) := merge_far r s (fun v hv => by have := t2 v hv; omega)
            rw [hfar]
            exact .inr (by show s.b + 1 < u.a; omega)
        · exact m5 u hu
      · show ((mergeQ s r).1.has k ∨ inS (t :: (mergeQ s r).2) k) ↔ _
        rw [inS_cons, inS_cons, or_left_comm, m6 k, or_left_comm]
theorem putQs_ok {L : List Sp} (h : Plain L) (s : Sp) : Plain (putQs L s) ∧ ∀ k, inS (putQs L s) k ↔ inS L k ∨ s.has k := by
  unfold putQs
  split
  · rename_i hs
    refine ⟨h, fun k => ⟨.inl, fun hk => hk.elim id fun hk => ?_⟩⟩
    obtain ⟨h1, h2⟩ := hk
    omega
  · rename_i hs
    obtain ⟨m1, m2, m3, m4, m5, m6⟩ := merge_ok L s h (by omega)
    obtain ⟨q, hq⟩ : ∃ q, mergeQ s L = q := ⟨_, rfl⟩
    rw [hq] at m1 m2 m3 m4 m5 m6 ⊢
    obtain ⟨x, M⟩ := q
    simp only at m1 m2 m3 m4 m5 m6 ⊢
    have hM := h.sub m1
    have hx : x.a ≤ x.b := by omega
    have hcut : M.takeWhile (fun t => decide (t.a < x.a)) ++ M.dropWhile (fun t => decide (t.a < x.a)) = M := List.takeWhile_append_dropWhile
    have htw : ∀ t ∈ M.takeWhile (fun t => decide (t.a < x.a)), t.b + 1 < x.a := fun t ht => by
      have h1 : t.a < x.a := by
        have : ∀ (l : List Sp), ∀ t ∈ l.takeWhile (fun t => decide (t.a < x.a)), t.a < x.a := by
          intro l
          induction l with
          | nil => intro t ht; cases ht
          | cons u r ih =>
            intro t ht
            rw [List.takeWhile_cons] at ht
            split at ht
            · rename_i hu
              rcases List.mem_cons.1 ht with rfl | ht
              · simpa using hu
              · exact ih t ht
            · cases ht
        exact this M t ht
      have h2 := m5 t (hcut ▸ List.mem_append_left _ ht)
      omega
    have hdw : ∀ t ∈ M.dropWhile (fun t => decide (t.a < x.a)), x.b + 1 < t.a := by
      have hge : ∀ (l : List Sp), Plain l → ∀ t ∈ l.dropWhile (fun t => decide (t.a < x.a)), x.a ≤ t.a := by
        intro l
        induction l with
        | nil => intro _ t ht; cases ht
        | cons u r ih =>
          intro hp t ht
          rw [List.dropWhile_cons] at ht
          split at ht
          · exact ih hp.tail t ht
          · rename_i hu
            simp only [decide_eq_true_eq] at hu
            rcases List.mem_cons.1 ht with rfl | ht
            · omega
            · have h1 := hp.head
              have := h1.2 t ht
              have := h1.1
              omega
      intro t ht
      have h1 := hge M hM t ht
      have hm : t ∈ M := hcut ▸ List.mem_append_right _ ht
      have h2 := m5 t hm
      have h3 := hM.ok t hm
      omega
    have hTW : Plain (M.takeWhile (fun t => decide (t.a < x.a))) := hM.sub (List.takeWhile_sublist _)
    have hDW : Plain (M.dropWhile (fun t => decide (t.a < x.a))) := hM.sub (List.dropWhile_sublist _)
    have hxd : Plain ([x] ++ M.dropWhile (fun t => decide (t.a < x.a))) := (Plain.one hx).app hDW fun u hu t ht => by rw [List.mem_singleton.1 hu]; exact hdw t ht
    refine ⟨?_, fun k => ?_⟩
    · refine hTW.app hxd fun u hu t ht => ?_
      rcases List.mem_cons.1 ht with rfl | ht
      · exact htw u hu
      · have := htw u hu; have := hdw t ht; omega
    · unfold insQ
      have := m6 k
      rw [inS_app, inS_cons]
      rw [← hcut, inS_app] at this
      constructor
      · rintro (h1 | h1 | h1)
        · exact (this.1 (.inr (.inl h1))).symm
        · exact (this.1 (.inl h1)).symm
        · exact (this.1 (.inr (.inr h1))).symm
      · intro h1
        rcases this.2 h1.symm with h1 | h1 | h1
        · exact .inr (.inl h1)
        · exact .inl h1
        · exact .inr (.inr h1)
def unQ (a b : List Sp) : List Sp := (a ++ b).foldl putQs []
theorem put_all : ∀ (M L : List Sp), Plain L → Plain (M.foldl putQs L) ∧ ∀ k, inS (M.foldl putQs L) k ↔ inS L k ∨ inS M k
  | [], L, h => ⟨h, fun k => ⟨.inl, fun h => h.elim id fun h => absurd h (inS_nil k)⟩⟩
  | s :: r, L, h => by
    obtain ⟨j1, j2⟩ := putQs_ok h s
    obtain ⟨k1, k2⟩ := put_all r (putQs L s) j1
    refine ⟨k1, fun k => ?_⟩
    rw [List.foldl_cons, k2, j2, inS_cons, or_assoc]
theorem un_plain (a b : List Sp) : Plain (unQ a b) := (put_all _ [] Plain.nil).1
theorem un_in (a b : List Sp) (k : Nat) : inS (unQ a b) k ↔ inS a k ∨ inS b k := by
  rw [unQ, (put_all _ [] Plain.nil).2, inS_app]
  exact ⟨fun h => h.elim (fun h => absurd h (inS_nil k)) id, .inr⟩
/-- What the program puts together is what the document does. -/
theorem un_eq {a b M : List Sp} (hp : M.Perm ((a ++ b).filter fun s => decide (s.a ≤ s.b))) (hs : M.Pairwise fun s t => s.a ≤ t.a) : M.foldl joinQ [] = unQ a b := by
  have hm : ∀ s, s ∈ M ↔ s ∈ a ++ b ∧ s.a ≤ s.b := fun s => by rw [hp.mem_iff, List.mem_filter, decide_eq_true_iff]
  obtain ⟨j1, j2⟩ := join_all M [] Plain.nil (fun s h => ((hm s).1 h).2) hs (fun t ht => by cases ht)
  refine plain_ext j1 (un_plain a b) fun k => ?_
  rw [j2, un_in]
  have e := inS_app (L := a) (M := b) (k := k)
  rw [← e]
  constructor
  · rintro (h | ⟨s, h, hk⟩)
    · exact absurd h (inS_nil k)
    · exact ⟨s, ((hm s).1 h).1, hk⟩
  · rintro ⟨s, h, hk⟩
    exact .inr ⟨s, (hm s).2 ⟨h, Nat.le_trans hk.1 hk.2⟩, hk⟩
theorem un_self {a : List Sp} (h : Plain a) : unQ a [] = a := plain_ext (un_plain _ _) h fun k => by
  rw [un_in]
  exact ⟨fun h => h.elim id fun h => absurd h (inS_nil k), .inl⟩
theorem plain_len_in {L : List Sp} (h : Plain L) : ∀ n, (∀ s ∈ L, s.b < n) → L.length * 2 ≤ n + 1 := by
  suffices H : ∀ (L : List Sp) (lo n : Nat), Plain L → (∀ s ∈ L, lo ≤ s.a) → (∀ s ∈ L, s.b < n) → 0 < L.length → lo + L.length * 2 ≤ n + 1 by
    intro n hn
    rcases Nat.eq_zero_or_pos L.length with h0 | h0
    · omega
    · have := H L 0 n h (fun _ _ => Nat.zero_le _) hn h0
      omega
  intro L
  induction L with
  | nil => intro lo n _ _ _ h0; simp at h0
  | cons s r ih =>
    intro lo n hp h1 h2 _
    have hs := hp.head
    have a1 := h1 s List.mem_cons_self
    have a2 := h2 s List.mem_cons_self
    rcases Nat.eq_zero_or_pos r.length with h0 | h0
    · rw [List.length_cons]; omega
    · have := ih (s.b + 2) n hp.tail (fun t ht => by have := hs.2 t ht; omega) (fun t ht => h2 t (List.mem_cons_of_mem _ ht)) h0
      rw [List.length_cons]
      omega
theorem putQs_len (L : List Sp) (s : Sp) : (putQs L s).length ≤ L.length + 1 := by
  have hm : ∀ (L : List Sp) (s : Sp), (mergeQ s L).2.length ≤ L.length := by
    intro L
    induction L with
    | nil => intro s; exact Nat.le_refl _
    | cons t r ih =>
      intro s
      rw [mergeQ]
      split
      · have := ih ⟨min t.a s.a, max t.b s.b⟩; rw [List.length_cons]; omega
      · have := ih s; rw [List.length_cons, List.length_cons]; omega
  unfold putQs insQ
  split
  · omega
  · have h1 := hm L s
    have h2 := congrArg List.length (List.takeWhile_append_dropWhile (p := fun t : Sp => decide (t.a < (mergeQ s L).1.a)) (l := (mergeQ s L).2))
    rw [List.length_append] at h2
    rw [List.length_append, List.length_cons]
    omega
theorem un_len (a b : List Sp) : (unQ a b).length ≤ a.length + b.length := by
  have : ∀ (M L : List Sp), (M.foldl putQs L).length ≤ L.length + M.length := by
    intro M
    induction M with
    | nil => intro L; exact Nat.le_refl _
    | cons s r ih => intro L; have := ih (putQs L s); have := putQs_len L s; rw [List.foldl_cons, List.length_cons]; omega
  have := this (a ++ b) []
  rw [List.length_append] at this
  simpa [unQ] using this
/-- No number is beyond what the lists have. -/
def BelowS (n : Nat) (L : List Sp) : Prop := ∀ s ∈ L, s.b < n
theorem below_in {n : Nat} {L : List Sp} (h : Plain L) : BelowS n L ↔ ∀ k, inS L k → k < n := by
  constructor
  · rintro hb k ⟨s, hs, hk⟩
    have := hb s hs; omega
  · intro hk s hs
    exact hk s.b ⟨s, hs, h.ok s hs, Nat.le_refl _⟩
theorem un_below {n : Nat} {a b : List Sp} (ha : BelowS n a) (hb : BelowS n b) : BelowS n (unQ a b) := (below_in (un_plain a b)).2 fun k hk => by
  rcases (un_in a b k).1 hk with ⟨s, hs, hk⟩ | ⟨s, hs, hk⟩
  · have := ha s hs; omega
  · have := hb s hs; omega
end Go.Proofs.Ytbldhokgbcljjaa
