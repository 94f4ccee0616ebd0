/- Changes of charts: what lies between two, plain. No conditions. -/
import Derived.Test.YtahmhcmfeloclaaCh17
namespace Go.Proofs.Ytahmhcmfeloclaa
open Go.RowKit
set_option linter.unusedVariables false
set_option linter.unusedSimpArgs false
/-- A tile that becomes another one. -/
structure Chg where
  id : Nat
  old : List UInt8
  new : List UInt8
abbrev Chg.cells (e : Chg) : List Value := [uq e.id, .string (str e.old), .string (str e.new)]
abbrev Chg.val (e : Chg) : Value := .agg e.cells.toArray
abbrev gcells (L : List Chg) : List Value := L.flatMap Chg.cells
theorem cg_len (e : Chg) : e.cells.length = 3 := rfl
theorem gcells_len (L : List Chg) : (gcells L).length = L.length * 3 := fm_len cg_len L
theorem gcells_all {L : List Chg} {i : Nat} {x : Chg} (h : L[i]? = some x) : rdV true 3 (gcells L) (i * 3) = some x.val := fm_rd cg_len h
theorem gcells_id {L : List Chg} {i : Nat} {x : Chg} (h : L[i]? = some x) : rdV false 1 (gcells L) (i * 3) = some (uq x.id) := by have := fm_rd1 (j := 0) cg_len h rfl; simpa using this
theorem gcells_old {L : List Chg} {i : Nat} {x : Chg} (h : L[i]? = some x) : rdV false 1 (gcells L) (i * 3 + 1) = some (.string (str x.old)) := fm_rd1 (j := 1) cg_len h rfl
theorem gcells_new {L : List Chg} {i : Nat} {x : Chg} (h : L[i]? = some x) : rdV false 1 (gcells L) (i * 3 + 2) = some (.string (str x.new)) := fm_rd1 (j := 2) cg_len h rfl
theorem gcells_one (L : List Chg) : (gcells L).all Value.oneCell' = true := List.all_eq_true.2 fun v hv => by
  obtain ⟨e, _, he⟩ := List.mem_flatMap.1 hv
  simp only [Chg.cells, List.mem_cons, List.not_mem_nil, or_false] at he
  rcases he with rfl | rfl | rfl <;> rfl
theorem gcells_take {L : List Chg} {k : Nat} {x : Chg} (h : L[k]? = some x) : gcells (L.take (k + 1)) = gcells (L.take k) ++ x.cells := fm_take h
def chAt (L : List Chg) (i : Nat) : Chg := (L[i]?).getD ⟨0, [], []⟩
theorem chAt_at {L : List Chg} {i : Nat} (h : i < L.length) : L[i]? = some (chAt L i) := by simp [chAt, List.getElem?_eq_getElem h]
/-- The tiles of two charts, side by side. -/
def bothQ : List It → List It → List Chg
  | [], [] => []
  | x :: xs, [] => ⟨x.id, x.tx, []⟩ :: bothQ xs []
  | [], y :: ys => ⟨y.id, [], y.tx⟩ :: bothQ [] ys
  | x :: xs, y :: ys => if x.id < y.id then ⟨x.id, x.tx, []⟩ :: bothQ xs (y :: ys) else if y.id < x.id then ⟨y.id, [], y.tx⟩ :: bothQ (x :: xs) ys else ⟨x.id, x.tx, y.tx⟩ :: bothQ xs ys
termination_by a b => a.length + b.length
def difQ (x : Chg) : Bool := decide (x.old ≠ x.new)
def betQ (a b : List It) : List Chg := (bothQ a b).filter difQ
def turnQ (l : List Chg) : List Chg := l.map fun x => ⟨x.id, x.new, x.old⟩
def RiseC (L : List Chg) : Prop := L.Pairwise fun a b => a.id < b.id
theorem rget_nil (k : Nat) : rGet k [] = none := rfl
theorem rget_lt {L : List It} {k : Nat} (h : ∀ e ∈ L, k < e.id) : rGet k L = none := rGet_none fun e he => Nat.ne_of_gt (h e he)
theorem rise_cons {x : It} {xs : List It} (h : Rise (x :: xs)) : (∀ e ∈ xs, x.id < e.id) ∧ Rise xs := List.pairwise_cons.1 h
theorem rget_cons (k : Nat) (x : It) (xs : List It) : rGet k (x :: xs) = if x.id = k then some x.tx else rGet k xs := rfl
/-- What is told of two charts, by each identifier. -/
theorem both_mem : ∀ (n : Nat) (a b : List It), a.length + b.length ≤ n → Rise a → Rise b → RiseC (bothQ a b) ∧ (∀ c ∈ bothQ a b, (∃ e ∈ a, e.id = c.id) ∨ (∃ e ∈ b, e.id = c.id)) ∧
    (∀ c : Chg, c ∈ bothQ a b ↔ ((rGet c.id a).isSome ∨ (rGet c.id b).isSome) ∧ (rGet c.id a).getD [] = c.old ∧ (rGet c.id b).getD [] = c.new)
  | _, [], [], _, _, _ => by
    unfold bothQ
    exact ⟨List.Pairwise.nil, by simp, fun c => by simp [rGet]⟩
  | 0, x :: xs, b, hn, _, _ => by simp at hn
  | 0, [], y :: ys, hn, _, _ => by simp at hn
  | n + 1, x :: xs, [], hn, ha, hb => by
    obtain ⟨h1, h2⟩ := rise_cons ha
    obtain ⟨i1, i2, i3⟩ := both_mem n xs [] (by simp at hn ⊢; omega) h2 hb
    unfold bothQ
    refine ⟨List.pairwise_cons.2 ⟨fun c hc => ?_, i1⟩, fun c hc => ?_, fun c => ?_⟩
    · rcases i2 c hc with ⟨e, he, h⟩ | ⟨e, he, _⟩
      · rw [← h]; exact h1 e he
      · cases he
    · rcases List.mem_cons.1 hc with rfl | hc
      · exact .inl ⟨x, List.mem_cons_self, rfl⟩
      · rcases i2 c hc with ⟨e, he, h⟩ | ⟨e, he, _⟩
        · exact .inl ⟨e, List.mem_cons_of_mem _ he, h⟩
        · cases he
    · rw [List.mem_cons, i3 c, rget_cons]
      by_cases h : x.id = c.id
      · rw [if_pos h, rget_lt (L := xs) (k := c.id) (fun e he => h ▸ h1 e he)]
        obtain ⟨i, o, w⟩ := c
        simp only at h
        subst h
        simp [rGet, eq_comm]
      · rw [if_neg h]
        constructor
        · rintro (rfl | h')
          · exact absurd rfl h
          · exact h'
        · exact .inr
  | n + 1, [], y :: ys, hn, ha, hb => by
    obtain ⟨h1, h2⟩ := rise_cons hb
    obtain ⟨i1, i2, i3⟩ := both_mem n [] ys (by simp at hn ⊢; omega) ha h2
    unfold bothQ
    refine ⟨List.pairwise_cons.2 ⟨fun c hc => ?_, i1⟩, fun c hc => ?_, fun c => ?_⟩
    · rcases i2 c hc with ⟨e, he, _⟩ | ⟨e, he, h⟩
      · cases he
      · rw [← h]; exact h1 e he
    · rcases List.mem_cons.1 hc with rfl | hc
      · exact .inr ⟨y, List.mem_cons_self, rfl⟩
      · rcases i2 c hc with ⟨e, he, _⟩ | ⟨e, he, h⟩
        · cases he
        · exact .inr ⟨e, List.mem_cons_of_mem _ he, h⟩
    · rw [List.mem_cons, i3 c, rget_cons]
      by_cases h : y.id = c.id
      · rw [if_pos h, rget_lt (L := ys) (k := c.id) (fun e he => h ▸ h1 e he)]
        obtain ⟨i, o, w⟩ := c
        simp only at h
        subst h
        simp [rGet, eq_comm]
      · rw [if_neg h]
        constructor
        · rintro (rfl | h')
          · exact absurd rfl h
          · exact h'
        · exact .inr
  | n + 1, x :: xs, y :: ys, hn, ha, hb => by
    obtain ⟨h1, h2⟩ := rise_cons ha
    obtain ⟨k1, k2⟩ := rise_cons hb
    unfold bothQ
    split
    · rename_i hlt
      obtain ⟨i1, i2, i3⟩ := both_mem n xs (y :: ys) (by simp at hn ⊢; omega) h2 hb
      have hy : ∀ e ∈ y :: ys, x.id < e.id := fun e he => by
        rcases List.mem_cons.1 he with rfl | he
        · exact hlt
        · have := k1 e he; omega
      refine ⟨List.pairwise_cons.2 ⟨fun c hc => ?_, i1⟩, fun c hc => ?_, fun c => ?_⟩
      · rcases i2 c hc with ⟨e, he, h⟩ | ⟨e, he, h⟩
        · rw [← h]; exact h1 e he
        · rw [← h]; exact hy e he
      · rcases List.mem_cons.1 hc with rfl | hc
        · exact .inl ⟨x, List.mem_cons_self, rfl⟩
        · rcases i2 c hc with ⟨e, he, h⟩ | h
          · exact .inl ⟨e, List.mem_cons_of_mem _ he, h⟩
          · exact .inr h
      · rw [List.mem_cons, i3 c, rget_cons c.id x xs]
        by_cases h : x.id = c.id
        · rw [if_pos h, rget_lt (L := xs) (k := c.id) (fun e he => h ▸ h1 e he), rget_lt (L := y :: ys) (k := c.id) (fun e he => h ▸ hy e he)]
          obtain ⟨i, o, w⟩ := c
          simp only at h
          subst h
          simp [eq_comm]
        · rw [if_neg h]
          constructor
          · rintro (rfl | h')
            · exact absurd rfl h
            · exact h'
          · exact .inr
    · split
      · rename_i hnl hlt
        obtain ⟨i1, i2, i3⟩ := both_mem n (x :: xs) ys (by simp at hn ⊢; omega) ha k2
        have hx : ∀ e ∈ x :: xs, y.id < e.id := fun e he => by
          rcases List.mem_cons.1 he with rfl | he
          · exact hlt
          · have := h1 e he; omega
        refine ⟨List.pairwise_cons.2 ⟨fun c hc => ?_, i1⟩, fun c hc => ?_, fun c => ?_⟩
        · rcases i2 c hc with ⟨e, he, h⟩ | ⟨e, he, h⟩
          · rw [← h]; exact hx e he
          · rw [← h]; exact k1 e he
        · rcases List.mem_cons.1 hc with rfl | hc
          · exact .inr ⟨y, List.mem_cons_self, rfl⟩
          · rcases i2 c hc with h | ⟨e, he, h⟩
            · exact .inl h
            · exact .inr ⟨e, List.mem_cons_of_mem _ he, h⟩
        · rw [List.mem_cons, i3 c, rget_cons c.id y ys]
          by_cases h : y.id = c.id
          · rw [if_pos h, rget_lt (L := ys) (k := c.id) (fun e he => h ▸ k1 e he), rget_lt (L := x :: xs) (k := c.id) (fun e he => h ▸ hx e he)]
            obtain ⟨i, o, w⟩ := c
            simp only at h
            subst h
            simp [eq_comm]
          · rw [if_neg h]
            constructor
            · rintro (rfl | h')
              · exact absurd rfl h
              · exact h'
            · exact .inr
      · rename_i hn1 hn2
        have hxy : x.id = y.id := by omega
        obtain ⟨i1, i2, i3⟩ := both_mem n xs ys (by simp at hn ⊢; omega) h2 k2
        refine ⟨List.pairwise_cons.2 ⟨fun c hc => ?_, i1⟩, fun c hc => ?_, fun c => ?_⟩
        · rcases i2 c hc with ⟨e, he, h⟩ | ⟨e, he, h⟩
          · rw [← h]; exact h1 e he
          · rw [← h]; show x.id < _; rw [hxy]; exact k1 e he
        · rcases List.mem_cons.1 hc with rfl | hc
          · exact .inl ⟨x, List.mem_cons_self, rfl⟩
          · rcases i2 c hc with ⟨e, he, h⟩ | ⟨e, he, h⟩
            · exact .inl ⟨e, List.mem_cons_of_mem _ he, h⟩
            · exact .inr ⟨e, List.mem_cons_of_mem _ he, h⟩
        · rw [List.mem_cons, i3 c, rget_cons c.id x xs, rget_cons c.id y ys]
          by_cases h : x.id = c.id
          · rw [if_pos h, if_pos (hxy ▸ h), rget_lt (L := xs) (k := c.id) (fun e he => h ▸ h1 e he), rget_lt (L := ys) (k := c.id) (fun e he => h ▸ (hxy ▸ k1 e he))]
            obtain ⟨i, o, w⟩ := c
            simp only at h
            subst h
            simp [eq_comm]
          · rw [if_neg h, if_neg (hxy ▸ h)]
            constructor
            · rintro (rfl | h')
              · exact absurd rfl h
              · exact h'
            · exact .inr
theorem rget_in {L : List It} {k : Nat} {t : List UInt8} (h : rGet k L = some t) : (⟨k, t⟩ : It) ∈ L := by
  induction L with
  | nil => cases h
  | cons e r ih =>
    rw [rget_cons] at h
    split at h
    · rename_i he
      injection h with h
      subst he h
      exact List.mem_cons_self
    · exact List.mem_cons_of_mem _ (ih h)
theorem get_ne {L : List It} (h : ChOk L) (k : Nat) : (rGet k L).isSome = true ↔ cGet k L ≠ [] := by
  rw [(get_eq h.rise k).2]
  cases hg : rGet k L with
  | none => simp
  | some t =>
    have := (h.tx _ (rget_in hg)).1
    simpa using this
/-- What lies between two charts. -/
theorem bet_mem {a b : List It} (ha : ChOk a) (hb : ChOk b) : RiseC (betQ a b) ∧ ∀ c : Chg, c ∈ betQ a b ↔ cGet c.id a = c.old ∧ cGet c.id b = c.new ∧ c.old ≠ c.new := by
  obtain ⟨h1, _, h3⟩ := both_mem _ a b (Nat.le_refl _) ha.rise hb.rise
  refine ⟨h1.sublist List.filter_sublist, fun c => ?_⟩
  unfold betQ
  rw [List.mem_filter, h3 c, get_ne ha, get_ne hb, ← (get_eq ha.rise c.id).2, ← (get_eq hb.rise c.id).2]
  unfold difQ
  simp only [decide_eq_true_eq]
  constructor
  · rintro ⟨⟨_, h4, h5⟩, h6⟩
    exact ⟨h4, h5, h6⟩
  · rintro ⟨h4, h5, h6⟩
    refine ⟨⟨?_, h4, h5⟩, h6⟩
    rw [h4, h5]
    by_cases h7 : c.old = []
    · exact .inr fun h8 => h6 (h7.trans h8.symm)
    · exact .inl h7
/-- Lists that rise and have the same are the same. -/
theorem risec_eq {L M : List Chg} (hL : RiseC L) (hM : RiseC M) (h : ∀ c, c ∈ L ↔ c ∈ M) : L = M := by
  induction L generalizing M with
  | nil =>
    cases M with
    | nil => rfl
    | cons m _ => exact absurd ((h m).2 List.mem_cons_self) (by simp)
  | cons x xs ih =>
    cases M with
    | nil => exact absurd ((h x).1 List.mem_cons_self) (by simp)
    | cons y ys =>
      obtain ⟨h1, h2⟩ := List.pairwise_cons.1 hL
      obtain ⟨k1, k2⟩ := List.pairwise_cons.1 hM
      have hxy : x = y := by
        rcases List.mem_cons.1 ((h x).1 List.mem_cons_self) with e | e
        · exact e
        · rcases List.mem_cons.1 ((h y).2 List.mem_cons_self) with e' | e'
          · exact e'.symm
          · have := h1 y e'; have := k1 x e; omega
      subst hxy
      rw [ih h2 k2 fun c => ?_]
      constructor
      · intro hc
        rcases List.mem_cons.1 ((h c).1 (List.mem_cons_of_mem _ hc)) with rfl | h'
        · exact absurd (h1 c hc) (Nat.lt_irrefl _)
        · exact h'
      · intro hc
        rcases List.mem_cons.1 ((h c).2 (List.mem_cons_of_mem _ hc)) with rfl | h'
        · exact absurd (k1 c hc) (Nat.lt_irrefl _)
        · exact h'
theorem turn_mem (l : List Chg) (c : Chg) : c ∈ turnQ l ↔ (⟨c.id, c.new, c.old⟩ : Chg) ∈ l := by
  unfold turnQ
  rw [List.mem_map]
  constructor
  · rintro ⟨x, hx, rfl⟩; exact hx
  · intro h; exact ⟨_, h, rfl⟩
theorem turn_rise {l : List Chg} (h : RiseC l) : RiseC (turnQ l) := List.pairwise_map.2 h
theorem turn_bet {a b : List It} (ha : ChOk a) (hb : ChOk b) : turnQ (betQ a b) = betQ b a := by
  refine risec_eq (turn_rise (bet_mem ha hb).1) (bet_mem hb ha).1 fun c => ?_
  rw [turn_mem, (bet_mem ha hb).2, (bet_mem hb ha).2]
  exact ⟨fun ⟨h1, h2, h3⟩ => ⟨h2, h1, fun e => h3 e.symm⟩, fun ⟨h1, h2, h3⟩ => ⟨h2, h1, fun e => h3 e.symm⟩⟩
/-- Charts with the same bytes everywhere are the same. -/
theorem ch_ext {a b : List It} (ha : ChOk a) (hb : ChOk b) (h : ∀ k, cGet k a = cGet k b) : a = b := by
  have key : ∀ {a b : List It}, ChOk a → ChOk b → (∀ k, cGet k a = cGet k b) → ∀ e ∈ a, e ∈ b := fun {a b} ha hb h e he => by
    have h1 : rGet e.id a = some e.tx := by
      obtain ⟨X, Y, hh, ⟨t, rfl⟩ | rfl⟩ := it_half ha.rise e.id
      · rw [hh.rget1]
        rcases List.mem_append.1 he with he | he
        · exact absurd rfl (hh.ne.1 e he)
        · rcases List.mem_cons.1 he with he | he
          · rw [he]
          · exact absurd rfl (hh.ne.2 e he)
      · exfalso
        rcases List.mem_append.1 he with he | he
        · exact hh.ne.1 e he rfl
        · exact hh.ne.2 e he rfl
    have h2 := h e.id
    rw [(get_eq ha.rise e.id).2, h1] at h2
    have h3 := (get_ne hb e.id).2 (by rw [← h2]; exact (ha.tx e he).1)
    cases hg : rGet e.id b with
    | none => rw [hg] at h3; cases h3
    | some t =>
      rw [(get_eq hb.rise e.id).2, hg] at h2
      have : e.tx = t := h2
      have h4 := rget_in hg
      rw [← this] at h4
      exact h4
  have h1 := key ha hb h
  have h2 := key hb ha fun k => (h k).symm
  have hn : ∀ {a : List It}, Rise a → a.Nodup := fun h => h.imp fun h e => by rw [e] at h; exact Nat.lt_irrefl _ h
  have hp : a.Perm b := (List.perm_ext_iff_of_nodup (hn ha.rise) (hn hb.rise)).2 fun e => ⟨h1 e, h2 e⟩
  exact hp.eq_of_pairwise (le := fun (a b : It) => a.id < b.id) (fun x y _ _ h1 h2 => absurd h1 (Nat.lt_asymm h2)) ha.rise hb.rise
theorem bet_nil {a b : List It} (ha : ChOk a) (hb : ChOk b) : betQ a b = [] ↔ a = b := by
  constructor
  · intro h
    refine ch_ext ha hb fun k => Classical.byContradiction fun hne => ?_
    have := ((bet_mem ha hb).2 ⟨k, cGet k a, cGet k b⟩).2 ⟨rfl, rfl, hne⟩
    rw [h] at this
    cases this
  · rintro rfl
    refine List.eq_nil_iff_forall_not_mem.2 fun c hc => ?_
    obtain ⟨h1, h2, h3⟩ := ((bet_mem ha hb).2 c).1 hc
    exact h3 (h1.symm.trans h2)
end Go.Proofs.Ytahmhcmfeloclaa
