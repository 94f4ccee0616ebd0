/- Changes of charts: what lies between two, plain. No conditions. Changes that are made, plain. No conditions. The document's Between, plain. No conditions. The walks of changes turned about, compared, and copied. Conditions: the lists are not too long. Both charts' tiles, side by side: the walk of what ranges over them, and of Between. Conditions: the lists are not too long. The walks of diff.Between, of one change, and of changes that are made. Conditions: the lists are not too long. -/
import Derived.Test.YtahmhcmfeloclaaGreatGch2
import Derived.Test.YtahmhcmfeloclaaGreatSxO
namespace Go.Proofs.YtahmhcmfeloclaaGreat
open Go.RowKit
set_option linter.unusedVariables false
set_option linter.unusedSimpArgs false
/-- A tile that becomes another one. -/
structure Chg where
  id : Nat
  old : List UInt8
  new : List UInt8
abbrev Chg.cells (e : Chg) : List Value := [uq e.id, .string (str e.old), .string (str e.new)]
abbrev Chg.val (e : Chg) : Value := .agg e.cells.toArray
abbrev gcells (L : List Chg) : List Value := L.flatMap Chg.cells
theorem cg_len (e : Chg) : e.cells.length = 3 := rfl
theorem gcells_len (L : List Chg) : (gcells L).length = L.length * 3 := fm_len cg_len L
theorem gcells_all {L : List Chg} {i : Nat} {x : Chg} (h : L[i]? = some x) : rdV true 3 (gcells L) (i * 3) = some x.val := fm_rd cg_len h
theorem gcells_take {L : List Chg} {k : Nat} {x : Chg} (h : L[k]? = some x) : gcells (L.take (k + 1)) = gcells (L.take k) ++ x.cells := fm_take h
def chAt (L : List Chg) (i : Nat) : Chg := (L[i]?).getD ⟨0, [], []⟩
theorem chAt_at {L : List Chg} {i : Nat} (h : i < L.length) : L[i]? = some (chAt L i) := by simp [chAt, List.getElem?_eq_getElem h]
/-- The tiles of two charts, side by side. -/
def bothQ : List It → List It → List Chg
  | [], [] => []
  | x :: xs, [] => ⟨x.id, x.tx, []⟩ :: bothQ xs []
  | [], y :: ys => ⟨y.id, [], y.tx⟩ :: bothQ [] ys
  | x :: xs, y :: ys => if x.id < y.id then ⟨x.id, x.tx, []⟩ :: bothQ xs (y :: ys) else if y.id < x.id then ⟨y.id, [], y.tx⟩ :: bothQ (x :: xs) ys else ⟨x.id, x.tx, y.tx⟩ :: bothQ xs ys
termination_by a b => a.length + b.length
def difQ (x : Chg) : Bool := decide (x.old ≠ x.new)
def betQ (a b : List It) : List Chg := (bothQ a b).filter difQ
def turnQ (l : List Chg) : List Chg := l.map fun x => ⟨x.id, x.new, x.old⟩
def RiseC (L : List Chg) : Prop := L.Pairwise fun a b => a.id < b.id
theorem rget_lt {L : List It} {k : Nat} (h : ∀ e ∈ L, k < e.id) : rGet k L = none := rGet_none fun e he => Nat.ne_of_gt (h e he)
theorem rise_cons {x : It} {xs : List It} (h : Rise (x :: xs)) : (∀ e ∈ xs, x.id < e.id) ∧ Rise xs := List.pairwise_cons.1 h
theorem rget_cons (k : Nat) (x : It) (xs : List It) : rGet k (x :: xs) = if x.id = k then some x.tx else rGet k xs := rfl
/-- What is told of two charts, by each identifier. -/
theorem both_mem : ∀ (n : Nat) (a b : List It), a.length + b.length ≤ n → Rise a → Rise b → RiseC (bothQ a b) ∧ (∀ c ∈ bothQ a b, (∃ e ∈ a, e.id = c.id) ∨ (∃ e ∈ b, e.id = c.id)) ∧
    (∀ c : Chg, c ∈ bothQ a b ↔ ((rGet c.id a).isSome ∨ (rGet c.id b).isSome) ∧ (rGet c.id a).getD [] = c.old ∧ (rGet c.id b).getD [] = c.new)
  | _, [], [], _, _, _ => by
    unfold bothQ
    exact ⟨List.Pairwise.nil, by simp, fun c => by simp [rGet]⟩
  | 0, x :: xs, b, hn, _, _ => by simp at hn
  | 0, [], y :: ys, hn, _, _ => by simp at hn
  | n + 1, x :: xs, [], hn, ha, hb => by
    obtain ⟨h1, h2⟩ := rise_cons ha
    obtain ⟨i1, i2, i3⟩ := both_mem n xs [] (by simp at hn ⊢; omega) h2 hb
    unfold bothQ
    refine ⟨List.pairwise_cons.2 ⟨fun c hc => ?_, i1⟩, fun c hc => ?_, fun c => ?_⟩
    · rcases i2 c hc with ⟨e, he, h⟩ | ⟨e, he, _⟩
      · rw [← h]; exact h1 e he
      · cases he
    · rcases List.mem_cons.1 hc with rfl | hc
      · exact .inl ⟨x, List.mem_cons_self, rfl⟩
      · rcases i2 c hc with ⟨e, he, h⟩ | ⟨e, he, _⟩
        · exact .inl ⟨e, List.mem_cons_of_mem _ he, h⟩
        · cases he
    · rw [List.mem_cons, i3 c, rget_cons]
      by_cases h : x.id = c.id
      · rw [if_pos h, rget_lt (L := xs) (k := c.id) (fun e he => h ▸ h1 e he)]
        obtain ⟨i, o, w⟩ := c
        simp only at h
        subst h
        simp [rGet, eq_comm]
      · rw [if_neg h]
        constructor
        · rintro (rfl | h')
          · exact absurd rfl h
          · exact h'
        · exact .inr
  | n + 1, [], y :: ys, hn, ha, hb => by
    obtain ⟨h1, h2⟩ := rise_cons hb
    obtain ⟨i1, i2, i3⟩ := both_mem n [] ys (by simp at hn ⊢; omega) ha h2
    unfold bothQ
    refine ⟨List.pairwise_cons.2 ⟨fun c hc => ?_, i1⟩, fun c hc => ?_, fun c => ?_⟩
    · rcases i2 c hc with ⟨e, he, _⟩ | ⟨e, he, h⟩
      · cases he
      · rw [← h]; exact h1 e he
    · rcases List.mem_cons.1 hc with rfl | hc
      · exact .inr ⟨y, List.mem_cons_self, rfl⟩
      · rcases i2 c hc with ⟨e, he, _⟩ | ⟨e, he, h⟩
        · cases he
        · exact .inr ⟨e, List.mem_cons_of_mem _ he, h⟩
    · rw [List.mem_cons, i3 c, rget_cons]
      by_cases h : y.id = c.id
      · rw [if_pos h, rget_lt (L := ys) (k := c.id) (fun e he => h ▸ h1 e he)]
        obtain ⟨i, o, w⟩ := c
        simp only at h
        subst h
        simp [rGet, eq_comm]
      · rw [if_neg h]
        constructor
        · rintro (rfl | h')
          · exact absurd rfl h
          · exact h'
        · exact .inr
  | n + 1, x :: xs, y :: ys, hn, ha, hb => by
    obtain ⟨h1, h2⟩ := rise_cons ha
    obtain ⟨k1, k2⟩ := rise_cons hb
    unfold bothQ
    split
    · rename_i hlt
      obtain ⟨i1, i2, i3⟩ := both_mem n xs (y :: ys) (by simp at hn ⊢; omega) h2 hb
      have hy : ∀ e ∈ y :: ys, x.id < e.id := fun e he => by
        rcases List.mem_cons.1 he with rfl | he
        · exact hlt
        · have := k1 e he; omega
      refine ⟨List.pairwise_cons.2 ⟨fun c hc => ?_, i1⟩, fun c hc => ?_, fun c => ?_⟩
      · rcases i2 c hc with ⟨e, he, h⟩ | ⟨e, he, h⟩
        · rw [← h]; exact h1 e he
        · rw [← h]; exact hy e he
      · rcases List.mem_cons.1 hc with rfl | hc
        · exact .inl ⟨x, List.mem_cons_self, rfl⟩
        · rcases i2 c hc with ⟨e, he, h⟩ | h
          · exact .inl ⟨e, List.mem_cons_of_mem _ he, h⟩
          · exact .inr h
      · rw [List.mem_cons, i3 c, rget_cons c.id x xs]
        by_cases h : x.id = c.id
        · rw [if_pos h, rget_lt (L := xs) (k := c.id) (fun e he => h ▸ h1 e he), rget_lt (L := y :: ys) (k := c.id) (fun e he => h ▸ hy e he)]
          obtain ⟨i, o, w⟩ := c
          simp only at h
          subst h
          simp [eq_comm]
        · rw [if_neg h]
          constructor
          · rintro (rfl | h')
            · exact absurd rfl h
            · exact h'
          · exact .inr
    · split
      · rename_i hnl hlt
        obtain ⟨i1, i2, i3⟩ := both_mem n (x :: xs) ys (by simp at hn ⊢; omega) ha k2
        have hx : ∀ e ∈ x :: xs, y.id < e.id := fun e he => by
          rcases List.mem_cons.1 he with rfl | he
          · exact hlt
          · have := h1 e he; omega
        refine ⟨List.pairwise_cons.2 ⟨fun c hc => ?_, i1⟩, fun c hc => ?_, fun c => ?_⟩
        · rcases i2 c hc with ⟨e, he, h⟩ | ⟨e, he, h⟩
          · rw [← h]; exact hx e he
          · rw [← h]; exact k1 e he
        · rcases List.mem_cons.1 hc with rfl | hc
          · exact .inr ⟨y, List.mem_cons_self, rfl⟩
          · rcases i2 c hc with h | ⟨e, he, h⟩
            · exact .inl h
            · exact .inr ⟨e, List.mem_cons_of_mem _ he, h⟩
        · rw [List.mem_cons, i3 c, rget_cons c.id y ys]
          by_cases h : y.id = c.id
          · rw [if_pos h, rget_lt (L := ys) (k := c.id) (fun e he => h ▸ k1 e he), rget_lt (L := x :: xs) (k := c.id) (fun e he => h ▸ hx e he)]
            obtain ⟨i, o, w⟩ := c
            simp only at h
            subst h
            simp [eq_comm]
          · rw [if_neg h]
            constructor
            · rintro (rfl | h')
              · exact absurd rfl h
              · exact h'
            · exact .inr
      · rename_i hn1 hn2
        have hxy : x.id = y.id := by omega
        obtain ⟨i1, i2, i3⟩ := both_mem n xs ys (by simp at hn ⊢; omega) h2 k2
        refine ⟨List.pairwise_cons.2 ⟨fun c hc => ?_, i1⟩, fun c hc => ?_, fun c => ?_⟩
        · rcases i2 c hc with ⟨e, he, h⟩ | ⟨e, he, h⟩
          · rw [← h]; exact h1 e he
          · rw [← h]; show x.id < _; rw [hxy]; exact k1 e he
        · rcases List.mem_cons.1 hc with rfl | hc
          · exact .inl ⟨x, List.mem_cons_self, rfl⟩
          · rcases i2 c hc with ⟨e, he, h⟩ | ⟨e, he, h⟩
            · exact .inl ⟨e, List.mem_cons_of_mem _ he, h⟩
            · exact .inr ⟨e, List.mem_cons_of_mem _ he, h⟩
        · rw [List.mem_cons, i3 c, rget_cons c.id x xs, rget_cons c.id y ys]
          by_cases h : x.id = c.id
          · rw [if_pos h, if_pos (hxy ▸ h), rget_lt (L := xs) (k := c.id) (fun e he => h ▸ h1 e he), rget_lt (L := ys) (k := c.id) (fun e he => h ▸ (hxy ▸ k1 e he))]
            obtain ⟨i, o, w⟩ := c
            simp only at h
            subst h
            simp [eq_comm]
          · rw [if_neg h, if_neg (hxy ▸ h)]
            constructor
            · rintro (rfl | h')
              · exact absurd rfl h
              · exact h'
            · exact .inr
theorem rget_in {L : List It} {k : Nat} {t : List UInt8} (h : rGet k L = some t) : (⟨k, t⟩ : It) ∈ L := by
  induction L with
  | nil => cases h
  | cons e r ih =>
    rw [rget_cons] at h
    split at h
    · rename_i he
      injection h with h
      subst he h
      exact List.mem_cons_self
    · exact List.mem_cons_of_mem _ (ih h)
theorem get_ne {L : List It} (h : ChOk L) (k : Nat) : (rGet k L).isSome = true ↔ cGet k L ≠ [] := by
  rw [(get_eq h.rise k).2]
  cases hg : rGet k L with
  | none => simp
  | some t =>
    have := (h.tx _ (rget_in hg)).1
    simpa using this
/-- What lies between two charts. -/
theorem bet_mem {a b : List It} (ha : ChOk a) (hb : ChOk b) : RiseC (betQ a b) ∧ ∀ c : Chg, c ∈ betQ a b ↔ cGet c.id a = c.old ∧ cGet c.id b = c.new ∧ c.old ≠ c.new := by
  obtain ⟨h1, _, h3⟩ := both_mem _ a b (Nat.le_refl _) ha.rise hb.rise
  refine ⟨h1.sublist List.filter_sublist, fun c => ?_⟩
  unfold betQ
  rw [List.mem_filter, h3 c, get_ne ha, get_ne hb, ← (get_eq ha.rise c.id).2, ← (get_eq hb.rise c.id).2]
  unfold difQ
  simp only [decide_eq_true_eq]
  constructor
  · rintro ⟨⟨_, h4, h5⟩, h6⟩
    exact ⟨h4, h5, h6⟩
  · rintro ⟨h4, h5, h6⟩
    refine ⟨⟨?_, h4, h5⟩, h6⟩
    rw [h4, h5]
    by_cases h7 : c.old = []
    · exact .inr fun h8 => h6 (h7.trans h8.symm)
    · exact .inl h7
/-- Lists that rise and have the same are the same. -/
theorem risec_eq {L M : List Chg} (hL : RiseC L) (hM : RiseC M) (h : ∀ c, c ∈ L ↔ c ∈ M) : L = M := by
  induction L generalizing M with
  | nil =>
    cases M with
    | nil => rfl
    | cons m _ => exact absurd ((h m).2 List.mem_cons_self) (by simp)
  | cons x xs ih =>
    cases M with
    | nil => exact absurd ((h x).1 List.mem_cons_self) (by simp)
    | cons y ys =>
      obtain ⟨h1, h2⟩ := List.pairwise_cons.1 hL
      obtain ⟨k1, k2⟩ := List.pairwise_cons.1 hM
      have hxy : x = y := by
        rcases List.mem_cons.1 ((h x).1 List.mem_cons_self) with e | e
        · exact e
        · rcases List.mem_cons.1 ((h y).2 List.mem_cons_self) with e' | e'
          · exact e'.symm
          · have := h1 y e'; have := k1 x e; omega
      subst hxy
      rw [ih h2 k2 fun c => ?_]
      constructor
      · intro hc
        rcases List.mem_cons.1 ((h c).1 (List.mem_cons_of_mem _ hc)) with rfl | h'
        · exact absurd (h1 c hc) (Nat.lt_irrefl _)
        · exact h'
      · intro hc
        rcases List.mem_cons.1 ((h c).2 (List.mem_cons_of_mem _ hc)) with rfl | h'
        · exact absurd (k1 c hc) (Nat.lt_irrefl _)
        · exact h'
theorem turn_mem (l : List Chg) (c : Chg) : c ∈ turnQ l ↔ (⟨c.id, c.new, c.old⟩ : Chg) ∈ l := by
  unfold turnQ
  rw [List.mem_map]
  constructor
  · rintro ⟨x, hx, rfl⟩; exact hx
  · intro h; exact ⟨_, h, rfl⟩
theorem turn_rise {l : List Chg} (h : RiseC l) : RiseC (turnQ l) := List.pairwise_map.2 h
theorem turn_bet {a b : List It} (ha : ChOk a) (hb : ChOk b) : turnQ (betQ a b) = betQ b a := by
  refine risec_eq (turn_rise (bet_mem ha hb).1) (bet_mem hb ha).1 fun c => ?_
  rw [turn_mem, (bet_mem ha hb).2, (bet_mem hb ha).2]
  exact ⟨fun ⟨h1, h2, h3⟩ => ⟨h2, h1, fun e => h3 e.symm⟩, fun ⟨h1, h2, h3⟩ => ⟨h2, h1, fun e => h3 e.symm⟩⟩
/-- Charts with the same bytes everywhere are the same. -/
theorem ch_ext {a b : List It} (ha : ChOk a) (hb : ChOk b) (h : ∀ k, cGet k a = cGet k b) : a = b := by
  have key : ∀ {a b : List It}, ChOk a → ChOk b → (∀ k, cGet k a = cGet k b) → ∀ e ∈ a, e ∈ b := fun {a b} ha hb h e he => by
    have h1 : rGet e.id a = some e.tx := by
      obtain ⟨X, Y, hh, ⟨t, rfl⟩ | rfl⟩ := it_half ha.rise e.id
      · rw [hh.rget1]
        rcases List.mem_append.1 he with he | he
        · exact absurd rfl (hh.ne.1 e he)
        · rcases List.mem_cons.1 he with he | he
          · rw [he]
          · exact absurd rfl (hh.ne.2 e he)
      · exfalso
        rcases List.mem_append.1 he with he | he
        · exact hh.ne.1 e he rfl
        · exact hh.ne.2 e he rfl
    have h2 := h e.id
    rw [(get_eq ha.rise e.id).2, h1] at h2
    have h3 := (get_ne hb e.id).2 (by rw [← h2]; exact (ha.tx e he).1)
    cases hg : rGet e.id b with
    | none => rw [hg] at h3; cases h3
    | some t =>
      rw [(get_eq hb.rise e.id).2, hg] at h2
      have : e.tx = t := h2
      have h4 := rget_in hg
      rw [← this] at h4
      exact h4
  have h1 := key ha hb h
  have h2 := key hb ha fun k => (h k).symm
  have hn : ∀ {a : List It}, Rise a → a.Nodup := fun h => h.imp fun h e => by rw [e] at h; exact Nat.lt_irrefl _ h
  have hp : a.Perm b := (List.perm_ext_iff_of_nodup (hn ha.rise) (hn hb.rise)).2 fun e => ⟨h1 e, h2 e⟩
  exact hp.eq_of_pairwise (le := fun (a b : It) => a.id < b.id) (fun x y _ _ h1 h2 => absurd h1 (Nat.lt_asymm h2)) ha.rise hb.rise
theorem bet_nil {a b : List It} (ha : ChOk a) (hb : ChOk b) : betQ a b = [] ↔ a = b := by
  constructor
  · intro h
    refine ch_ext ha hb fun k => Classical.byContradiction fun hne => ?_
    have := ((bet_mem ha hb).2 ⟨k, cGet k a, cGet k b⟩).2 ⟨rfl, rfl, hne⟩
    rw [h] at this
    cases this
  · rintro rfl
    refine List.eq_nil_iff_forall_not_mem.2 fun c hc => ?_
    obtain ⟨h1, h2, h3⟩ := ((bet_mem ha hb).2 c).1 hc
    exact h3 (h1.symm.trans h2)
end Go.Proofs.YtahmhcmfeloclaaGreat

namespace Go.Proofs.YtahmhcmfeloclaaGreat
open Go.RowKit
set_option linter.unusedVariables false
set_option linter.unusedSimpArgs false
def mkE (x : Chg) (O : List It) : Nat := if cGet x.id O = x.old then (if x.new = [] then 0 else putE x.id x.new O) else 9
def mkO (x : Chg) (O : List It) : List It := if cGet x.id O = x.old then (if x.new = [] then cDel x.id O else putQ x.id x.new O) else O
def appR : List It → List Nat → List Chg → Nat × List It
  | O, _, [] => (0, O)
  | O, seen, x :: r => if x.old = x.new then (2, O) else if x.id ∈ seen then (22, O) else if mkE x O = 0 then appR (mkO x O) (seen ++ [x.id]) r else (mkE x O, O)
def appE (O : List It) (l : List Chg) : Nat := (appR O [] l).1
def appO (O : List It) (l : List Chg) : List It := if appE O l = 0 then (appR O [] l).2 else O
theorem mk_ok {O : List It} (h : ChOk O) (x : Chg) : ChOk (mkO x O) := by
  unfold mkO
  split
  · split
    · exact h.del _
    · exact h.putQ _ _
  · exact h
theorem app_chok : ∀ (l : List Chg) (O : List It) (seen : List Nat), ChOk O → ChOk (appR O seen l).2
  | [], _, _, h => h
  | x :: r, O, seen, h => by
    rw [appR]
    split
    · exact h
    · split
      · exact h
      · split
        · exact app_chok r _ _ (mk_ok h x)
        · exact h
theorem rget_skip {X Y : List It} {j k : Nat} {s : List UInt8} (h : ¬ j = k) : rGet k (X ++ ⟨j, s⟩ :: Y) = rGet k (X ++ Y) := by
  induction X with
  | nil => rw [List.nil_append, List.nil_append, rget_cons, if_neg h]
  | cons e r ih => rw [List.cons_append, List.cons_append, rget_cons, rget_cons, ih]
theorem get_del {O : List It} (h : ChOk O) (j k : Nat) : cGet k (cDel j O) = if k = j then [] else cGet k O := by
  rw [(get_eq (h.del j).rise k).2, (get_eq h.rise k).2]
  obtain ⟨X, Y, hh, ⟨s, rfl⟩ | rfl⟩ := it_half h.rise j
  · rw [hh.del1]
    split
    · rename_i e; subst e; rw [hh.rget0]; rfl
    · rename_i e; rw [rget_skip (fun e' => e e'.symm)]
  · rw [hh.del0]
    split
    · rename_i e; subst e; rw [hh.rget0]; rfl
    · rfl
theorem get_put {O : List It} (h : ChOk O) {j : Nat} {s : List UInt8} (he : putE j s O = 0) (k : Nat) : cGet k (putQ j s O) = if k = j then s else cGet k O := by
  split
  · rename_i e; subst e; exact (put_get h.rise he).2
  · rename_i e
    rw [(get_eq (h.putQ j s).rise k).2, (get_eq h.rise k).2, putQ_new he]
    obtain ⟨X, Y, hh, ⟨t, rfl⟩ | rfl⟩ := it_half h.rise j
    · rw [hh.put1, rget_skip (fun e' => e e'.symm), rget_skip (fun e' => e e'.symm)]
    · rw [hh.put0, rget_skip (fun e' => e e'.symm)]
theorem mk_get {O : List It} (h : ChOk O) {x : Chg} (he : mkE x O = 0) : cGet x.id O = x.old ∧ ∀ k, cGet k (mkO x O) = if k = x.id then x.new else cGet k O := by
  unfold mkE at he
  split at he
  · rename_i h1
    refine ⟨h1, fun k => ?_⟩
    unfold mkO
    rw [if_pos h1]
    split at he
    · rename_i h2
      rw [if_pos h2, get_del h, h2]
    · rename_i h2
      rw [if_neg h2, get_put h he]
  · cases he
theorem mk_len {O : List It} (h : ChOk O) (x : Chg) : (mkO x O).length ≤ O.length + 1 := by
  unfold mkO
  split
  · split
    · have := del_len (L := O) x.id; omega
    · unfold putQ
      split
      · rw [put_len h.rise]; split <;> omega
      · omega
  · omega
/-- What it means that changes were made. -/
theorem app_done : ∀ (l : List Chg) (O : List It) (seen : List Nat), ChOk O → (appR O seen l).1 = 0 →
    (l.map Chg.id).Nodup ∧ (∀ x ∈ l, x.id ∉ seen) ∧ (∀ x ∈ l, x.old ≠ x.new ∧ cGet x.id O = x.old ∧ cGet x.id (appR O seen l).2 = x.new) ∧ ∀ k, (∀ x ∈ l, x.id ≠ k) → cGet k (appR O seen l).2 = cGet k O
  | [], O, _, _, _ => ⟨List.nodup_nil, by simp, by simp, fun _ _ => rfl⟩
  | x :: r, O, seen, h, h0 => by
    rw [appR] at h0 ⊢
    split at h0
    · cases h0
    · rename_i hne
      rw [if_neg hne]
      split at h0
      · cases h0
      · rename_i hns
        rw [if_neg hns]
        split at h0
        · rename_i hm
          rw [if_pos hm]
          obtain ⟨i1, i2, i3, i4⟩ := app_done r (mkO x O) (seen ++ [x.id]) (mk_ok h x) h0
          obtain ⟨g1, g2⟩ := mk_get h hm
          have hx : ∀ y ∈ r, y.id ≠ x.id := fun y hy e => i2 y hy (by rw [e]; simp)
          refine ⟨List.nodup_cons.2 ⟨fun hm => ?_, i1⟩, fun y hy => ?_, fun y hy => ?_, fun k hk => ?_⟩
          · obtain ⟨y, hy, e⟩ := List.mem_map.1 hm
            exact hx y hy e
          · rcases List.mem_cons.1 hy with rfl | hy
            · exact hns
            · exact fun hs => i2 y hy (List.mem_append_left _ hs)
          · rcases List.mem_cons.1 hy with rfl | hy
            · refine ⟨hne, g1, ?_⟩
              rw [i4 y.id hx, g2, if_pos rfl]
            · obtain ⟨j1, j2, j3⟩ := i3 y hy
              rw [g2, if_neg (hx y hy)] at j2
              exact ⟨j1, j2, j3⟩
          · rw [i4 k fun y hy => hk y (List.mem_cons_of_mem _ hy), g2, if_neg fun e => hk x List.mem_cons_self e.symm]
        · rename_i hm
          exact absurd h0 hm
/-- Changes that can be made. -/
theorem app_do : ∀ (l : List Chg) (O : List It) (seen : List Nat), ChOk O → (l.map Chg.id).Nodup → (∀ x ∈ l, x.id ∉ seen) → (∀ x ∈ l, x.old ≠ x.new ∧ cGet x.id O = x.old ∧ (x.new ≠ [] → x.id < 6004799503160661 ∧ x.new.length ≤ 65536)) → O.length + l.length ≤ 2048 → (appR O seen l).1 = 0
  | [], _, _, _, _, _, _, _ => rfl
  | x :: r, O, seen, h, hn, hs, hx, hl => by
    obtain ⟨n1, n2⟩ := List.nodup_cons.1 hn
    obtain ⟨x1, x2, x3⟩ := hx x List.mem_cons_self
    rw [List.length_cons] at hl
    have hm : mkE x O = 0 := by
      unfold mkE
      rw [if_pos x2]
      split
      · rfl
      · rename_i h1
        obtain ⟨x4, x5⟩ := x3 h1
        unfold putE wrongQ
        rw [if_neg (by omega), if_neg h1, if_neg (by omega), if_neg (by unfold fullQ; simp; intro _; omega)]
    obtain ⟨_, g2⟩ := mk_get h hm
    have hne : ∀ y ∈ r, y.id ≠ x.id := fun y hy e => n1 (List.mem_map.2 ⟨y, hy, e⟩)
    rw [appR, if_neg x1, if_neg (hs x List.mem_cons_self), if_pos hm]
    refine app_do r _ _ (mk_ok h x) n2 (fun y hy hm => ?_) (fun y hy => ?_) (by have := mk_len h x; omega)
    · rcases List.mem_append.1 hm with hm | hm
      · exact hs y (List.mem_cons_of_mem _ hy) hm
      · exact hne y hy (by simpa using hm)
    · obtain ⟨y1, y2, y3⟩ := hx y (List.mem_cons_of_mem _ hy)
      rw [g2, if_neg (hne y hy)]
      exact ⟨y1, y2, y3⟩
theorem get_fits {O : List It} (h : ChOk O) {k : Nat} (hk : cGet k O ≠ []) : k < 6004799503160661 ∧ (cGet k O).length ≤ 65536 := by
  have h1 := (get_ne h k).2 hk
  cases hg : rGet k O with
  | none => rw [hg] at h1; cases h1
  | some t =>
    have h2 := rget_in hg
    rw [(get_eq h.rise k).2, hg]
    exact ⟨h.lt _ h2, (h.tx _ h2).2⟩
theorem both_len : ∀ (n : Nat) (a b : List It), a.length + b.length ≤ n → (bothQ a b).length ≤ a.length + b.length
  | _, [], [], _ => by unfold bothQ; simp
  | 0, x :: xs, _, hn => by simp at hn
  | 0, [], y :: ys, hn => by simp at hn
  | n + 1, x :: xs, [], hn => by
    have := both_len n xs [] (by simp at hn ⊢; omega)
    unfold bothQ
    simp at this ⊢
    omega
  | n + 1, [], y :: ys, hn => by
    have := both_len n [] ys (by simp at hn ⊢; omega)
    unfold bothQ
    simp at this ⊢
    omega
  | n + 1, x :: xs, y :: ys, hn => by
    have h1 := both_len n xs (y :: ys) (by simp at hn ⊢; omega)
    have h2 := both_len n (x :: xs) ys (by simp at hn ⊢; omega)
    have h3 := both_len n xs ys (by simp at hn ⊢; omega)
    unfold bothQ
    split
    · simp at h1 ⊢; omega
    · split
      · simp at h2 ⊢; omega
      · simp at h3 ⊢; omega
theorem bet_len (a b : List It) : (betQ a b).length ≤ a.length + b.length := Nat.le_trans (List.length_filter_le _ _) (both_len _ a b (Nat.le_refl _))
theorem rise_ids {l : List Chg} (h : RiseC l) : (l.map Chg.id).Nodup := List.pairwise_map.2 (h.imp fun h => Nat.ne_of_lt h)
/-- What lies between two charts makes the one of the other. -/
theorem app_bet {a b : List It} (ha : ChOk a) (hb : ChOk b) (hl : a.length + (a.length + b.length) ≤ 2048) : appE a (betQ a b) = 0 ∧ appO a (betQ a b) = b := by
  obtain ⟨h1, h2⟩ := bet_mem ha hb
  have h0 : appE a (betQ a b) = 0 := app_do _ a [] ha (rise_ids h1) (fun _ _ h => by cases h) (fun x hx => by
    obtain ⟨x1, x2, x3⟩ := (h2 x).1 hx
    exact ⟨x3, x1, fun hn => by rw [← x2] at hn ⊢; exact get_fits hb hn⟩) (by have := bet_len a b; omega)
  refine ⟨h0, ?_⟩
  unfold appO
  rw [if_pos h0]
  obtain ⟨_, _, d3, d4⟩ := app_done _ a [] ha h0
  refine ch_ext (app_chok _ a [] ha) hb fun k => ?_
  by_cases hk : cGet k a = cGet k b
  · rw [d4 k fun x hx e => ?_, hk]
    obtain ⟨x1, x2, x3⟩ := (h2 x).1 hx
    rw [e] at x1 x2
    exact x3 (x1.symm.trans (hk.trans x2))
  · have := d3 _ ((h2 ⟨k, cGet k a, cGet k b⟩).2 ⟨rfl, rfl, hk⟩)
    exact this.2.2
end Go.Proofs.YtahmhcmfeloclaaGreat

namespace Go.Proofs.YtahmhcmfeloclaaGreat
open Go.RowKit
set_option linter.unusedVariables false
set_option linter.unusedSimpArgs false
def insQ (acc : List It) (x : It) : List It := if cHas x.id acc then acc else cPut x.id x.tx acc
def allQ (l : List It) : List It := l.foldl insQ []
theorem ins_ok {acc : List It} (h : Rise acc) (x : It) : Rise (insQ acc x) ∧ (∀ k, k ∈ idsI (insQ acc x) ↔ k = x.id ∨ k ∈ idsI acc) ∧ (insQ acc x).length ≤ acc.length + 1 := by
  unfold insQ
  split
  · rename_i hh
    refine ⟨h, fun k => ⟨.inr, fun hk => ?_⟩, by omega⟩
    rcases hk with rfl | hk
    · rw [chas_mem h] at hh; exact of_decide_eq_true hh
    · exact hk
  · rename_i hh
    refine ⟨put_rise h _ _, fun k => ?_, by rw [put_len h]; split <;> omega⟩
    obtain ⟨X, Y, hf, ⟨s, rfl⟩ | rfl⟩ := it_half h x.id
    · exact absurd hf.has1 hh
    · rw [hf.put0]
      simp [idsI]
      constructor
      · rintro (h | h | h)
        · exact .inr (.inl h)
        · exact .inl h
        · exact .inr (.inr h)
      · rintro (h | h | h)
        · exact .inr (.inl h)
        · exact .inl h
        · exact .inr (.inr h)
theorem all_ok : ∀ (l acc : List It), Rise acc → Rise (l.foldl insQ acc) ∧ (∀ k, k ∈ idsI (l.foldl insQ acc) ↔ k ∈ idsI l ∨ k ∈ idsI acc) ∧ (l.foldl insQ acc).length ≤ acc.length + l.length
  | [], acc, h => ⟨h, fun k => by simp [idsI], by simp⟩
  | x :: r, acc, h => by
    obtain ⟨h1, h2, h3⟩ := ins_ok h x
    obtain ⟨h4, h5, h6⟩ := all_ok r _ h1
    refine ⟨h4, fun k => ?_, by rw [List.length_cons]; show (List.foldl insQ (insQ acc x) r).length ≤ _; omega⟩
    show k ∈ idsI (List.foldl insQ (insQ acc x) r) ↔ _
    rw [h5, h2]
    simp only [idsI, List.map_cons, List.mem_cons]
    constructor
    · rintro (h | h | h)
      · exact .inl (.inr h)
      · exact .inl (.inl h)
      · exact .inr h
    · rintro ((h | h) | h)
      · exact .inr (.inl h)
      · exact .inl h
      · exact .inr (.inr h)
theorem allQ_snoc (l : List It) (x : It) : allQ (l ++ [x]) = insQ (allQ l) x := by simp [allQ]
theorem allQ_ok (l : List It) : Rise (allQ l) ∧ (∀ k, k ∈ idsI (allQ l) ↔ k ∈ idsI l) ∧ (allQ l).length ≤ l.length := by
  obtain ⟨h1, h2, h3⟩ := all_ok l [] List.Pairwise.nil
  exact ⟨h1, fun k => by rw [show allQ l = l.foldl insQ [] from rfl, h2]; simp [idsI], by simpa [allQ] using h3⟩
/-- What is told of an identifier. -/
def chgOf (a b : List It) (k : Nat) : Chg := ⟨k, cGet k a, cGet k b⟩
def rbetQ (a b : List It) (l : List It) : List Chg := (l.map fun e => chgOf a b e.id).filter difQ
theorem rbet_snoc (a b : List It) (l : List It) (x : It) : rbetQ a b (l ++ [x]) = rbetQ a b l ++ (if difQ (chgOf a b x.id) then [chgOf a b x.id] else []) := by
  unfold rbetQ
  rw [List.map_append, List.filter_append]
  congr 1
  simp [List.filter_cons]
theorem rbet_eq {a b : List It} (ha : ChOk a) (hb : ChOk b) : rbetQ a b (allQ (a ++ b)) = betQ a b := by
  obtain ⟨h1, h2, _⟩ := allQ_ok (a ++ b)
  obtain ⟨b1, b2⟩ := bet_mem ha hb
  refine risec_eq ((show RiseC ((allQ (a ++ b)).map fun e => chgOf a b e.id) by unfold RiseC; rw [List.pairwise_map]; exact h1).sublist List.filter_sublist) b1 fun c => ?_
  unfold rbetQ
  rw [List.mem_filter, b2 c, List.mem_map]
  unfold difQ
  simp only [decide_eq_true_eq]
  constructor
  · rintro ⟨⟨e, _, rfl⟩, h⟩
    exact ⟨rfl, rfl, h⟩
  · rintro ⟨h4, h5, h6⟩
    refine ⟨?_, h6⟩
    have hk : c.id ∈ idsI (allQ (a ++ b)) := by
      rw [h2]
      simp only [idsI, List.map_append, List.mem_append]
      by_cases h7 : cGet c.id a = []
      · right
        have h8 : cGet c.id b ≠ [] := fun h8 => h6 (h4.symm.trans (h7.trans (h8.symm.trans h5)))
        have := (get_ne hb c.id).2 h8
        rw [rget_mem] at this
        exact of_decide_eq_true this
      · left
        have := (get_ne ha c.id).2 h7
        rw [rget_mem] at this
        exact of_decide_eq_true this
    obtain ⟨e, he, e1⟩ := List.mem_map.1 hk
    refine ⟨e, he, ?_⟩
    obtain ⟨i, o, n⟩ := c
    simp only at *
    rw [e1]
    unfold chgOf
    rw [h4, h5]
end Go.Proofs.YtahmhcmfeloclaaGreat

namespace Go.Proofs.YtahmhcmfeloclaaGreat
open Go.RowKit
set_option linter.unusedVariables false
set_option linter.unusedSimpArgs false
theorem elemG : ElemOk Tryz.prog 23 45 3 40 := ElemOk.mk_ (z := .agg #[uq 0, .string ⟨#[]⟩, .string ⟨#[]⟩]) Tryz.underlying23 (by kernel_rfl) rfl (by omega)
theorem elemGR : ElemOk Tryz.prog 27 52 3 40 := ElemOk.mk_ (z := .agg #[uq 0, .string ⟨#[]⟩, .string ⟨#[]⟩]) Tryz.underlying27 (by kernel_rfl) rfl (by omega)
def chq (a b : Chg) : Bool := (a.id == b.id) && ((a.old == b.old) && (a.new == b.new))
theorem chq_iff {a b : Chg} : chq a b = true ↔ a = b := by
  obtain ⟨a1, a2, a3⟩ := a
  obtain ⟨b1, b2, b3⟩ := b
  simp [chq]
def sameG : List Chg → List Chg → Bool
  | [], [] => true
  | a :: r, b :: s => chq a b && sameG r s
  | _, _ => false
theorem sameG_iff : ∀ {L M : List Chg}, sameG L M = true ↔ L = M
  | [], [] => by simp [sameG]
  | a :: r, b :: s => by simp [sameG, chq_iff, sameG_iff (L := r) (M := s)]
  | [], b :: s => by simp [sameG]
  | a :: r, [] => by simp [sameG]
theorem sameG_len : ∀ {L M : List Chg}, sameG L M = true → L.length = M.length := fun h => by rw [sameG_iff.1 h]
theorem sameG_self (L : List Chg) : sameG L L = true := sameG_iff.2 rfl
theorem ch_eq (a b : Chg) : EqV Tryz.prog 10000 45 a.val b.val (chq a b) := by
  have h : EqV Tryz.prog 10000 45 a.val b.val _ := EqV.struct Tryz.underlying45 (by kernel_rfl) (.cons rfl tyA38 tyS38 rfl rfl (EqV.int Tryz.underlying38) (.cons rfl tyA9 tyS9 rfl rfl (EqV.string Tryz.underlying9) (.cons rfl tyA9 tyS9 rfl rfl (EqV.string Tryz.underlying9) .nil)))
  have e : chq a b = (((a.id : Int) == (b.id : Int)) && ((a.old == b.old) && ((a.new == b.new) && true))) := by
    rw [Bool.eq_iff_iff]
    simp [chq]
    intro _ _
    omega
  rw [e]
  exact h
theorem guard_ch_eq : Program.eqGuardType Tryz.prog Tryz.prog.depth 45 = false := by kernel_rfl
theorem ch_eqR (a b : Chg) : EqV Tryz.prog 10000 52 a.val b.val (chq a b) := by
  have h : EqV Tryz.prog 10000 52 a.val b.val _ := EqV.struct Tryz.underlying52 (by kernel_rfl) (.cons rfl tyA38 tyS38 rfl rfl (EqV.int Tryz.underlying38) (.cons rfl tyA9 tyS9 rfl rfl (EqV.string Tryz.underlying9) (.cons rfl tyA9 tyS9 rfl rfl (EqV.string Tryz.underlying9) .nil)))
  have e : chq a b = (((a.id : Int) == (b.id : Int)) && ((a.old == b.old) && ((a.new == b.new) && true))) := by
    rw [Bool.eq_iff_iff]
    simp [chq]
    intro _ _
    omega
  rw [e]
  exact h
theorem guard_ch_eqR : Program.eqGuardType Tryz.prog Tryz.prog.depth 52 = false := by kernel_rfl
theorem gback_fn (A : Option Addr) (c : Nat) (L : List Chg) (T : Heap) (hA : ArgOk A L.length) (hT : 0 < L.length → T = roE A (gcells L)) (hro : Ro T) (hL : L.length ≤ 100000) :
    Fn Tryz.prog 8 [.slice A L.length c] T fun v H' => RowOk v L.length ∧ H' = rowE v 52 3 (gcells L) := by
  refine Fn.enter (N := 19) Tryz.func8 rfl (by kernel_rfl) rfl (fun w0 => ?_)

  refine awp_seq_region (fun Z hZ => ?_)
  refine sx_assign rfl rfl ?_
  refine sx_nil (hZ _ _ ?_)
  refine awp_forget [(0, _)] (Kn.cons rfl (Kn.nil)) ?_
  refine awp_seq_region (fun Z hZ => ?_)
  refine sx_assign rfl rfl ?_
  refine sx_nil (hZ _ _ ?_)
  refine awp_forget [(0, _), (3, _)] (Kn.cons rfl (Kn.cons rfl (Kn.nil))) ?_
  refine awp_seq ?_
  refine awp_seq_region (fun Z hZ => ?_)
  refine sx_assign rfl rfl ?_
  refine sx_nil (hZ _ _ ?_)
  refine awp_forget [(0, _), (3, _), (4, _)] (Kn.cons rfl (Kn.cons rfl (Kn.cons rfl (Kn.nil)))) ?_
  refine awp_block ?_
  refine awp_loop (ι := Nat × Value) (fun i => [(0, .slice A L.length c), (3, i.2), (4, iq (i.1 : Nat))]) (fun i => T ++ rowE i.2 52 3 (gcells (L.take i.1)))
    (fun i => i.1 ≤ L.length ∧ RowOk i.2 i.1) (fun i => L.length - i.1) (0, .slice none 0 0) ⟨by simp, RowOk.nil⟩ (Kn.cons rfl (Kn.cons rfl (Kn.cons rfl Kn.nil))) (by simp [rowE]; exact HLe.refl _) ?_
  rintro ⟨i, v⟩ ⟨hi, hv⟩
  simp only at hi hv
  refine awp_seq ?_
  refine awp_seq_region (fun Z hZ => ?_)
  refine sx_move rfl rfl ?_
  refine sx_move rfl rfl ?_
  refine sx_len Tryz.underlying23 rfl rfl ?_
  refine sx_lss rfl rfl rfl ?_
  refine sx_nil (hZ _ _ ?_)
  refine awp_forget [(0, _), (3, _), (4, _), (8, _)] (Kn.cons rfl (Kn.cons rfl (Kn.cons rfl (Kn.cons rfl (Kn.nil))))) ?_
  refine awp_cond rfl (fun h => ?_) (fun h => ?_)
  · have hlt : i < L.length := by simpa using h
    have hx := chAt_at hlt
    obtain ⟨x, hxe⟩ : ∃ x, chAt L i = x := ⟨_, rfl⟩
    rw [hxe] at hx
    obtain ⟨g, o, rfl⟩ := hA (by omega)
    obtain rfl := hT (by omega)
    refine awp_heap (.ro g o (gcells L) :: rowE v 52 3 (gcells (L.take i))) (HLe.refl _) ?_
    refine awp_skip ?_
    with_reducible refine nx_normal ?_
    refine awp_seq (awp_block ?_)

    refine awp_region (fun Z hZ => ?_)
    refine sx_move rfl rfl ?_
    refine sx_move rfl rfl ?_
    refine sx_move rfl rfl ?_
    refine sx_indexAddr (o + i * 3) Tryz.underlying23 tyS45 rfl rfl (by omega) (by simp) rfl ?_
    refine sx_loadRo 0 rfl rfl (i * 3) rfl tyA45 tyS45 (gcells_all hx) rfl ?_
    refine sx_buildSlice Tryz.underlying27 tyS52 tyZ52 rfl rfl rfl rfl (by first | (simp only [List.take_succ_cons, List.take_zero, List.drop_succ_cons, List.drop_zero, List.cons_append, List.nil_append, List.append_nil, List.length_cons, List.length_nil, Nat.reduceAdd, Nat.zero_add, Nat.add_zero, Value.cells, wrV, zrep_one, List.replicate_succ, List.replicate_zero, Nat.reduceMul, Nat.zero_mul]; first | done | rfl) | rfl) rfl (fun g1 => ?_)
    refine sx_appendE [_, _] elemGR rfl hv (by rw [gcells_len, List.length_take]; omega) rfl (fun w hw => rd_own (i := 0) (xs := x.cells) rfl rfl hw) rfl (by show _ ≤ 9223372036854775807; omega) (by omega) (HLe.refl _) rfl (fun v2 hv2 => ?_)
    refine sx_assign rfl rfl ?_
    refine sx_nil (hZ _ _ ?_)
    refine nx_forget [(0, _), (3, _), (4, _)] (Kn.cons rfl (Kn.cons rfl (Kn.cons rfl (Kn.nil)))) ?_
    repeat (with_reducible refine nx_block_normal ?_)
    with_reducible refine nx_normal ?_
    refine awp_region (fun Z hZ => ?_)
    refine sx_move rfl rfl ?_
    refine sx_add rfl rfl ((i + 1 : Nat) : Int) (by rw [IntWalk.i64_in _ (by omega)]; omega) rfl ?_
    refine sx_assign rfl rfl ?_
    refine sx_nil (hZ _ _ ?_)
    refine nx_forget [(0, _), (3, _), (4, _)] (Kn.cons rfl (Kn.cons rfl (Kn.cons rfl (Kn.nil)))) ?_
    refine nx_round (i + 1, v2) ⟨by show i + 1 ≤ _; omega, hv2⟩ (by simp; omega) (Kn.cons rfl (Kn.cons rfl (Kn.cons rfl Kn.nil))) ?_
    simp only
    rw [gcells_take hx]
    exact HLe.drop 1 rfl
  · refine awp_exit ?_
    repeat (with_reducible refine nx_then_exit ?_)
    with_reducible refine nx_block_exit ?_
    with_reducible refine nx_normal ?_
    have hke : i = L.length := by simp at h; omega
    subst hke
    rw [List.take_length]
    refine awp_seq_region (fun Z hZ => ?_)
    refine sx_move rfl rfl ?_
    refine sx_assign rfl rfl ?_
    refine sx_nil (hZ _ _ ?_)
    refine awp_forget [(2, _)] (Kn.cons rfl (Kn.nil)) ?_
    refine awp_ret ?_
    exact nx_ret1h _ rfl rfl (HLe.sub (List.sublist_append_right _ _)) ⟨hv, rfl⟩
theorem turn_take {L : List Chg} {i : Nat} {x : Chg} (h : L[i]? = some x) : gcells (turnQ (L.take (i + 1))) = gcells (turnQ (L.take i)) ++ (⟨x.id, x.new, x.old⟩ : Chg).cells := by
  rw [List.take_add_one, h]
  simp [turnQ, gcells]
theorem turn_len (L : List Chg) : (turnQ L).length = L.length := by simp [turnQ]
theorem gturn_fn (A : Option Addr) (c : Nat) (L : List Chg) (T : Heap) (hA : ArgOk A L.length) (hT : 0 < L.length → T = roE A (gcells L)) (hro : Ro T) (hL : L.length ≤ 100000) :
    Fn Tryz.prog 12 [.slice A L.length c] T fun v H' => RowOk v L.length ∧ H' = rowE v 45 3 (gcells (turnQ L)) := by
  refine Fn.enter (N := 24) Tryz.func12 rfl (by kernel_rfl) rfl (fun w0 => ?_)

  refine awp_seq_region (fun Z hZ => ?_)
  refine sx_assign rfl rfl ?_
  refine sx_nil (hZ _ _ ?_)
  refine awp_forget [(0, _)] (Kn.cons rfl (Kn.nil)) ?_
  refine awp_seq_region (fun Z hZ => ?_)
  refine sx_assign rfl rfl ?_
  refine sx_nil (hZ _ _ ?_)
  refine awp_forget [(0, _), (3, _)] (Kn.cons rfl (Kn.cons rfl (Kn.nil))) ?_
  refine awp_seq ?_
  refine awp_seq_region (fun Z hZ => ?_)
  refine sx_move rfl rfl ?_
  refine sx_len Tryz.underlying23 rfl rfl ?_
  refine sx_move rfl rfl ?_
  refine sx_nil (hZ _ _ ?_)
  refine awp_forget [(3, _), (6, _), (7, _), (8, _)] (Kn.cons rfl (Kn.cons rfl (Kn.cons rfl (Kn.cons rfl (Kn.nil))))) ?_
  refine awp_block ?_
  refine awp_loop (ι := Nat × Value) (fun i => [(3, i.2), (6, .slice A L.length c), (7, iq (L.length : Nat)), (8, iq (i.1 : Nat))]) (fun i => T ++ rowE i.2 45 3 (gcells (turnQ (L.take i.1))))
    (fun i => i.1 ≤ L.length ∧ RowOk i.2 i.1) (fun i => L.length - i.1) (0, .slice none 0 0) ⟨by simp, RowOk.nil⟩ (Kn.cons rfl (Kn.cons rfl (Kn.cons rfl (Kn.cons rfl Kn.nil)))) (by simp [rowE, turnQ]; exact HLe.refl _) ?_
  rintro ⟨i, v⟩ ⟨hi, hv⟩
  simp only at hi hv
  refine awp_seq_region (fun Z hZ => ?_)
  refine sx_lss rfl rfl rfl ?_
  refine sx_nil (hZ _ _ ?_)
  refine awp_forget [(3, _), (6, _), (7, _), (8, _), (9, _)] (Kn.cons rfl (Kn.cons rfl (Kn.cons rfl (Kn.cons rfl (Kn.cons rfl (Kn.nil)))))) ?_
  refine awp_seq (awp_cond rfl (fun h => ?_) (fun h => ?_))
  · have hlt : i < L.length := by simpa using h
    have hx := chAt_at hlt
    obtain ⟨x, hxe⟩ : ∃ x, chAt L i = x := ⟨_, rfl⟩
    rw [hxe] at hx
    obtain ⟨g, o, rfl⟩ := hA (by omega)
    obtain rfl := hT (by omega)
    refine awp_heap (.ro g o (gcells L) :: rowE v 45 3 (gcells (turnQ (L.take i)))) (HLe.refl _) ?_
    refine awp_skip ?_
    with_reducible refine nx_normal ?_
    refine awp_seq (awp_block ?_)

    refine awp_seq_region (fun Z hZ => ?_)
    refine sx_indexAddr (o + i * 3) Tryz.underlying23 tyS45 rfl rfl (by omega) (by simp) rfl ?_
    refine sx_loadRo 0 rfl rfl (i * 3) rfl tyA45 tyS45 (gcells_all hx) rfl ?_
    refine sx_alloc tyZ45 rfl (fun g1 => ?_)
    refine sx_store 0 rfl rfl rfl tyS45 (by first | (simp only [Value.cells]; first | done | rfl) | rfl) rfl rfl (by first | (simp only [List.length_cons, List.length_nil, Nat.reduceAdd, Nat.zero_add, Nat.add_zero]; first | done | rfl) | rfl) (by first | (simp only [List.take_succ_cons, List.take_zero, List.drop_succ_cons, List.drop_zero, List.cons_append, List.nil_append, List.append_nil, List.length_cons, List.length_nil, Nat.reduceAdd, Nat.zero_add, Nat.add_zero, Value.cells, wrV]; first | done | rfl) | rfl) (by first | (simp only [List.set_cons_succ, List.set_cons_zero]; first | done | rfl) | rfl) ?_
    refine sx_nil (hZ _ _ ?_)
    refine awp_forget [(3, _), (5, _), (6, _), (7, _), (8, _)] (Kn.cons rfl (Kn.cons rfl (Kn.cons rfl (Kn.cons rfl (Kn.cons rfl (Kn.nil)))))) ?_

    refine awp_region (fun Z hZ => ?_)
    refine sx_move rfl rfl ?_
    refine sx_fieldAddr rfl tyF45_0 (by first | (simp only [Nat.reduceAdd, Nat.add_zero, Nat.zero_add]; first | done | rfl) | rfl) rfl ?_
    refine sx_load 0 rfl rfl tyA38 tyS38 rfl rfl ?_
    refine sx_fieldAddr rfl tyF45_2 (by first | (simp only [Nat.reduceAdd, Nat.add_zero, Nat.zero_add]; first | done | rfl) | rfl) rfl ?_
    refine sx_load 0 rfl rfl tyA9 tyS9 rfl rfl ?_
    refine sx_fieldAddr rfl tyF45_1 (by first | (simp only [Nat.reduceAdd, Nat.add_zero, Nat.zero_add]; first | done | rfl) | rfl) rfl ?_
    refine sx_load 0 rfl rfl tyA9 tyS9 rfl rfl ?_
    refine sx_build tyZ45 tyP45 rfl rfl (by first | (simp only [List.take_succ_cons, List.take_zero, List.drop_succ_cons, List.drop_zero, List.cons_append, List.nil_append, List.append_nil, List.length_cons, List.length_nil, Nat.reduceAdd, Nat.zero_add, Nat.add_zero, Value.cells, wrV, zrep_one, List.replicate_succ, List.replicate_zero, Nat.reduceMul, Nat.zero_mul]; first | done | rfl) | rfl) rfl ?_
    refine sx_buildSlice Tryz.underlying23 tyS45 tyZ45 rfl rfl rfl rfl (by first | (simp only [List.take_succ_cons, List.take_zero, List.drop_succ_cons, List.drop_zero, List.cons_append, List.nil_append, List.append_nil, List.length_cons, List.length_nil, Nat.reduceAdd, Nat.zero_add, Nat.add_zero, Value.cells, wrV, zrep_one, List.replicate_succ, List.replicate_zero, Nat.reduceMul, Nat.zero_mul]; first | done | rfl) | rfl) rfl (fun g2 => ?_)
    refine sx_appendE [_, _, _] elemG rfl hv (by rw [gcells_len, turn_len, List.length_take]; omega) rfl (fun w hw => rd_own (i := 0) (xs := (⟨x.id, x.new, x.old⟩ : Chg).cells) rfl rfl hw) rfl (by show _ ≤ 9223372036854775807; omega) (by omega) (HLe.refl _) rfl (fun v2 hv2 => ?_)
    refine sx_assign rfl rfl ?_
    refine sx_nil (hZ _ _ ?_)
    refine nx_forget [(3, _), (6, _), (7, _), (8, _)] (Kn.cons rfl (Kn.cons rfl (Kn.cons rfl (Kn.cons rfl (Kn.nil))))) ?_
    repeat (with_reducible refine nx_block_normal ?_)
    with_reducible refine nx_normal ?_
    refine awp_region (fun Z hZ => ?_)
    refine sx_add rfl rfl ((i + 1 : Nat) : Int) (by rw [IntWalk.i64_in _ (by omega)]; omega) rfl ?_
    refine sx_move rfl rfl ?_
    refine sx_nil (hZ _ _ ?_)
    refine nx_forget [(3, _), (6, _), (7, _), (8, _)] (Kn.cons rfl (Kn.cons rfl (Kn.cons rfl (Kn.cons rfl (Kn.nil))))) ?_
    refine nx_round (i + 1, v2) ⟨by show i + 1 ≤ _; omega, hv2⟩ (by simp; omega) (Kn.cons rfl (Kn.cons rfl (Kn.cons rfl (Kn.cons rfl Kn.nil)))) ?_
    simp only
    rw [turn_take hx]
    exact HLe.drop 2 rfl
  · refine awp_exit ?_
    repeat (with_reducible refine nx_then_exit ?_)
    with_reducible refine nx_block_exit ?_
    with_reducible refine nx_normal ?_
    have hke : i = L.length := by simp at h; omega
    subst hke
    rw [List.take_length]
    refine awp_seq_region (fun Z hZ => ?_)
    refine sx_move rfl rfl ?_
    refine sx_assign rfl rfl ?_
    refine sx_nil (hZ _ _ ?_)
    refine awp_forget [(2, _)] (Kn.cons rfl (Kn.nil)) ?_
    refine awp_ret ?_
    exact nx_ret1h _ rfl rfl (HLe.sub (List.sublist_append_right _ _)) ⟨hv, rfl⟩
theorem rgsame_fn (A : Option Addr) (c : Nat) (L : List Chg) (T : Heap) (hA : ArgOk A L.length) (hT : 0 < L.length → T = roE A (gcells L)) (hL : L.length ≤ maxLen)
    (B : Option Addr) (d : Nat) (M : List Chg) (U : Heap) (hB : ArgOk B M.length) (hU : 0 < M.length → U = roE B (gcells M)) (hM : M.length ≤ maxLen) :
    Fn Tryz.prog 7 [.slice A L.length c, .slice B M.length d] (T ++ U) fun v _ => v = .bool (sameG L M) := by
  have hL' : L.length ≤ 9223372036854775807 := hL
  have hM' : M.length ≤ 9223372036854775807 := hM
  refine Fn.enter (N := 26) Tryz.func7 rfl (by kernel_rfl) rfl (fun w0 => ?_)

  refine awp_seq_region (fun Z hZ => ?_)
  refine sx_assign rfl rfl ?_
  refine sx_nil (hZ _ _ ?_)
  refine awp_forget [(0, _), (1, _)] (Kn.cons rfl (Kn.cons rfl (Kn.nil))) ?_
  refine awp_seq ?_
  refine awp_seq_region (fun Z hZ => ?_)
  refine sx_move rfl rfl ?_
  refine sx_len Tryz.underlying27 rfl rfl ?_
  refine sx_move rfl rfl ?_
  refine sx_len Tryz.underlying27 rfl rfl ?_
  refine sx_neq rfl rfl rfl ?_
  refine sx_nil (hZ _ _ ?_)
  refine awp_forget [(0, _), (1, _), (10, _)] (Kn.cons rfl (Kn.cons rfl (Kn.cons rfl (Kn.nil)))) ?_
  refine awp_cond rfl (fun ha => ?_) (fun ha => ?_)
  · have hne : L.length ≠ M.length := by simp at ha; omega
    rw [show sameG L M = false by cases hs : sameG L M with | false => rfl | true => exact absurd (sameG_len hs) hne]
    refine awp_seq_region (fun Z hZ => ?_)
    refine sx_assign rfl rfl ?_
    refine sx_nil (hZ _ _ ?_)
    refine awp_forget [(4, _)] (Kn.cons rfl (Kn.nil)) ?_
    refine awp_ret ?_
    repeat (with_reducible refine nx_then_ret ?_)
    exact nx_ret1 rfl rfl rfl
  have hlm : L.length = M.length := by simp at ha; omega
  refine awp_skip ?_
  with_reducible refine nx_normal ?_
  refine awp_seq ?_
  refine awp_seq_region (fun Z hZ => ?_)
  refine sx_assign rfl rfl ?_
  refine sx_nil (hZ _ _ ?_)
  refine awp_forget [(0, _), (1, _), (5, _)] (Kn.cons rfl (Kn.cons rfl (Kn.cons rfl (Kn.nil)))) ?_
  refine awp_block ?_
  refine awp_loop (ι := Nat) (fun k => [(0, .slice A L.length c), (1, .slice B M.length d), (5, iq (k : Nat))]) (fun _ => T ++ U)
    (fun k => k ≤ L.length ∧ sameG (L.drop k) (M.drop k) = sameG L M) (fun k => L.length - k) 0 ⟨by simp, rfl⟩ (Kn.cons rfl (Kn.cons rfl (Kn.cons rfl Kn.nil))) (HLe.refl _) ?_
  rintro k ⟨hk, hq⟩
  refine awp_seq ?_
  refine awp_seq_region (fun Z hZ => ?_)
  refine sx_move rfl rfl ?_
  refine sx_move rfl rfl ?_
  refine sx_len Tryz.underlying27 rfl rfl ?_
  refine sx_lss rfl rfl rfl ?_
  refine sx_nil (hZ _ _ ?_)
  refine awp_forget [(0, _), (1, _), (5, _), (14, _)] (Kn.cons rfl (Kn.cons rfl (Kn.cons rfl (Kn.cons rfl (Kn.nil))))) ?_
  refine awp_cond rfl (fun h => ?_) (fun h => ?_)
  · have hlt : k < L.length := by simpa using h
    obtain ⟨x, hx⟩ : ∃ x, L[k]? = some x := ⟨_, List.getElem?_eq_getElem hlt⟩
    obtain ⟨y, hy⟩ : ∃ y, M[k]? = some y := ⟨_, List.getElem?_eq_getElem (by omega)⟩
    have hxe : L[k] = x := Option.some.inj ((List.getElem?_eq_getElem hlt).symm.trans hx)
    have hye : M[k]'(by omega) = y := Option.some.inj ((List.getElem?_eq_getElem (by omega)).symm.trans hy)
    rw [List.drop_eq_getElem_cons hlt, List.drop_eq_getElem_cons (show k < M.length by omega), hxe, hye, sameG] at hq
    obtain ⟨g, o, rfl⟩ := hA (by omega)
    obtain ⟨g', o', rfl⟩ := hB (by omega)
    obtain rfl := hT (by omega)
    obtain rfl := hU (by omega)
    refine awp_skip ?_
    with_reducible refine nx_normal ?_
    refine awp_seq (awp_block ?_)

    refine awq_seq_region mixed (by kernel_rfl) (fun Z hZ => ?_)
    refine sq_move rfl rfl ?_
    refine sq_move rfl rfl ?_
    refine sq_indexAddr (o + k * 3) Tryz.underlying27 tyS52 rfl rfl (by omega) (by simp) rfl ?_
    refine sq_loadRo 0 rfl rfl (k * 3) rfl tyA52 tyS52 (gcells_all hx) rfl ?_
    refine sq_move rfl rfl ?_
    refine sq_move rfl rfl ?_
    refine sq_indexAddr (o' + k * 3) Tryz.underlying27 tyS52 rfl rfl (by omega) (by simp) rfl ?_
    refine sq_loadRo 1 rfl rfl (k * 3) rfl tyA52 tyS52 (gcells_all hy) rfl ?_
    refine sq_aneq (ch_eqR x y) guard_ch_eqR rfl rfl rfl ?_
    refine sq_nil (hZ _ _ ?_)
    refine awp_forget [(0, _), (1, _), (5, _), (25, _)] (Kn.cons rfl (Kn.cons rfl (Kn.cons rfl (Kn.cons rfl (Kn.nil))))) ?_
    refine awp_cond rfl (fun hb => ?_) (fun hb => ?_)
    · have hb' : chq x y = false := by simpa using hb
      rw [hb'] at hq
      rw [← hq]
      refine awp_seq_region (fun Z hZ => ?_)
      refine sx_assign rfl rfl ?_
      refine sx_nil (hZ _ _ ?_)
      refine awp_forget [(4, _)] (Kn.cons rfl (Kn.nil)) ?_
      refine awp_ret ?_
      repeat (with_reducible (first | refine nx_then_ret ?_ | refine nx_block_ret ?_))
      exact nx_ret1 rfl rfl rfl
    have hb' : chq x y = true := by simpa using hb
    rw [hb', Bool.true_and] at hq
    refine awp_skip ?_
    repeat (with_reducible refine nx_block_normal ?_)
    with_reducible refine nx_normal ?_
    refine awp_region (fun Z hZ => ?_)
    refine sx_move rfl rfl ?_
    refine sx_add rfl rfl ((k + 1 : Nat) : Int) (by rw [IntWalk.i64_in _ (by omega)]; omega) rfl ?_
    refine sx_assign rfl rfl ?_
    refine sx_nil (hZ _ _ ?_)
    refine nx_forget [(0, _), (1, _), (5, _)] (Kn.cons rfl (Kn.cons rfl (Kn.cons rfl (Kn.nil)))) ?_
    exact nx_round (k + 1) ⟨by omega, hq⟩ (by omega) (Kn.cons rfl (Kn.cons rfl (Kn.cons rfl Kn.nil))) (HLe.refl _)
  · refine awp_exit ?_
    repeat (with_reducible refine nx_then_exit ?_)
    with_reducible refine nx_block_exit ?_
    with_reducible refine nx_normal ?_
    have hke : k = L.length := by simp at h; omega
    subst hke
    rw [List.drop_length, List.drop_of_length_le (by omega), sameG] at hq
    rw [← hq]
    refine awp_seq_region (fun Z hZ => ?_)
    refine sx_assign rfl rfl ?_
    refine sx_nil (hZ _ _ ?_)
    refine awp_forget [(4, _)] (Kn.cons rfl (Kn.nil)) ?_
    refine awp_ret ?_
    exact nx_ret1 rfl rfl rfl
/-- What an argument's changes are. -/
def GsTx (L : List Chg) : Prop := ∀ e ∈ L, e.id < 18446744073709551616 ∧ e.old.length ≤ maxLen ∧ e.new.length ≤ maxLen
end Go.Proofs.YtahmhcmfeloclaaGreat

namespace Go.Proofs.YtahmhcmfeloclaaGreat
open Go.RowKit
set_option linter.unusedVariables false
set_option linter.unusedSimpArgs false
theorem gboth_fn (A : Option Addr) (n c : Nat) (B : Option Addr) (m d : Nat) : Fn Tryz.prog 21 [chV A n c, chV B m d] [] fun v H' => ∃ ga gb, v = .func (.func 32) #[] #[ptr ga 0, ptr gb 0] ∧ H' = [.own gb 35 [.slice B m d], .own ga 35 [.slice A n c]] := by
  refine Fn.enter (N := 6) Tryz.func21 rfl (by kernel_rfl) rfl (fun w0 => ?_)

  refine awp_seq_region (fun Z hZ => ?_)
  refine sx_box rfl rfl rfl (fun g1 => ?_)
  refine sx_box rfl rfl rfl (fun g2 => ?_)
  refine sx_assign rfl rfl ?_
  refine sx_nil (hZ _ _ ?_)
  refine awp_forget [(2, _), (3, _)] (Kn.cons rfl (Kn.cons rfl (Kn.nil))) ?_
  refine awp_seq_region (fun Z hZ => ?_)
  refine sx_makeFunc rfl rfl ?_
  refine sx_assign rfl rfl ?_
  refine sx_nil (hZ _ _ ?_)
  refine awp_forget [(4, _)] (Kn.cons rfl (Kn.nil)) ?_
  refine awp_ret ?_
  exact nx_ret1h _ rfl rfl (HLe.refl _) ⟨g1, g2, rfl, rfl⟩
/-- A row that is left when so many are taken. -/
def Suf (A : Option Addr) (i n size : Nat) (X : Option Addr) : Prop := i < n → ∃ g o, A = some ⟨g, o, none⟩ ∧ X = some ⟨g, o + i * size, none⟩
theorem Suf.next {g o i n size : Nat} {X' : Option Addr} (h : TailA (some ⟨g, o + i * size, none⟩) 1 size X' (n - i - 1)) : Suf (some ⟨g, o, none⟩) (i + 1) n size X' := fun hi => by
  obtain ⟨o', h1, h2⟩ := h.2 g (o + i * size) rfl
  have := h2 (by omega)
  subst this
  exact ⟨g, o, rfl, by rw [h1, Nat.add_mul, Nat.add_assoc]⟩
theorem both_x (x : It) (xs : List It) : bothQ (x :: xs) [] = ⟨x.id, x.tx, []⟩ :: bothQ xs [] := by rw [bothQ]
theorem both_y (y : It) (ys : List It) : bothQ [] (y :: ys) = ⟨y.id, [], y.tx⟩ :: bothQ [] ys := by rw [bothQ]
theorem both_lt {x y : It} {xs ys : List It} (h : x.id < y.id) : bothQ (x :: xs) (y :: ys) = ⟨x.id, x.tx, []⟩ :: bothQ xs (y :: ys) := by rw [bothQ, if_pos h]
theorem both_gt {x y : It} {xs ys : List It} (h : y.id < x.id) : bothQ (x :: xs) (y :: ys) = ⟨y.id, [], y.tx⟩ :: bothQ (x :: xs) ys := by rw [bothQ, if_neg (by omega), if_pos h]
theorem both_eq {x y : It} {xs ys : List It} (h : x.id = y.id) : bothQ (x :: xs) (y :: ys) = ⟨x.id, x.tx, y.tx⟩ :: bothQ xs ys := by rw [bothQ, if_neg (by omega), if_neg (by omega)]
theorem drop_itAt {L : List It} {i : Nat} (h : i < L.length) : L.drop i = itAt L i :: L.drop (i + 1) := by
  rw [List.drop_eq_getElem_cons h]
  congr 1
  simp [itAt, List.getElem?_eq_getElem h]
theorem both_it (ga gb : Nat) (A : Option Addr) (c : Nat) (L : List It) (B : Option Addr) (d : Nat) (M : List It) (hA : SlIn A L.length c) (hB : SlIn B M.length d) (hL : L.length ≤ 100000) (hM : M.length ≤ 100000) :
    Iter Tryz.prog 32 [ptr ga 0, ptr gb 0] (.ro ga 0 [.slice A L.length c] :: .ro gb 0 [.slice B M.length d] :: (roE A (icells L) ++ roE B (icells M))) ((bothQ L M).map fun e => [e.val]) := by
  intro l J Jr S hJ hS hJr hY T0 hT0
  have hlen : ((bothQ L M).map fun e => [e.val]).length = (bothQ L M).length := by simp
  rw [hlen]
  refine Fn.enter (N := 95) Tryz.func32 rfl (by kernel_rfl) rfl (fun w0 => ?_)

  refine awp_heap (.ro ga 0 [.slice A L.length c] :: .ro gb 0 [.slice B M.length d] :: ((roE A (icells L) ++ roE B (icells M)) ++ (T0 ++ Jr))) (HLe.refl _) ?_
  refine aww_seq_region _ [(0, true), (1, false), (2, true), (3, false), (4, true), (5, true)] mixed (by kernel_rfl) (HLe.pick [0, 1] (by simp) (by simp only [pick, List.filterMap_cons, List.filterMap_nil, List.getElem?_cons_succ, List.getElem?_cons_zero]; rfl)) (fun Z hZ => ?_)
  refine tw_p rfl ?_
  refine sv_loadRo 0 rfl rfl 0 rfl tyA35 tyS35 rfl rfl ?_
  refine sv_nil ?_
  refine tw_g rfl ?_
  refine sx_itemsE L hA (.cons _ (.cons _ ((List.sublist_append_left _ _).trans (List.sublist_append_left _ _)))) hL rfl rfl (fun A5 c5 hA5 => ?_)
  refine sx_nil ⟨HLe.pick [0, 1] (by simp) rfl, ?_⟩
  refine tw_p rfl ?_
  refine sv_loadRo 1 rfl rfl 0 rfl tyA35 tyS35 rfl rfl ?_
  refine sv_nil ?_
  refine tw_g rfl ?_
  refine sx_itemsE M hB (.cons _ (.cons _ (((List.sublist_append_right _ _).trans (List.sublist_append_left _ _)).trans (List.sublist_append_left _ _)))) hM rfl rfl (fun B5 d5 hB5 => ?_)
  refine sx_nil ⟨HLe.pick [0, 1] (by simp) rfl, ?_⟩
  refine tw_p rfl ?_
  refine sv_assign rfl rfl ?_
  refine sv_nil ?_
  refine tw_p rfl ?_
  refine sv_assign rfl rfl ?_
  refine sv_nil ?_
  refine tw_nil (hZ _ _ ?_)
  refine awp_forget [(0, _), (4, _), (5, _)] (Kn.cons rfl (Kn.cons rfl (Kn.cons rfl (Kn.nil)))) ?_
  refine awp_heap ((roE A5 (icells L) ++ roE B5 (icells M)) ++ (T0 ++ Jr)) (fun _ _ _ hw => (hw.sub (.cons _ (.cons _ (List.Sublist.append (List.Sublist.append (List.sublist_append_right _ _) (List.Sublist.refl _)) (List.Sublist.refl _))))).perm (by rw [List.append_assoc]; exact List.perm_append_comm)) ?_

  refine awp_block ?_
  refine awp_loop (ι := (Nat × Option Addr × Nat) × (Nat × Option Addr × Nat) × Nat × Heap) (fun s => [(0, .func (.yield l) #[] #[]), (4, .slice s.1.2.1 (L.length - s.1.1) s.1.2.2), (5, .slice s.2.1.2.1 (M.length - s.2.1.1) s.2.1.2.2)]) (fun s => (roE A5 (icells L) ++ roE B5 (icells M)) ++ (s.2.2.2 ++ Jr))
    (fun s => s.1.1 ≤ L.length ∧ s.2.1.1 ≤ M.length ∧ SlIn s.1.2.1 (L.length - s.1.1) s.1.2.2 ∧ SlIn s.2.1.2.1 (M.length - s.2.1.1) s.2.1.2.2 ∧ Suf A5 s.1.1 L.length 2 s.1.2.1 ∧ Suf B5 s.2.1.1 M.length 2 s.2.1.2.1 ∧ (bothQ L M).drop s.2.2.1 = bothQ (L.drop s.1.1) (M.drop s.2.1.1) ∧ s.2.2.1 ≤ (bothQ L M).length ∧ J s.2.2.1 s.2.2.2)
    (fun s => (L.length - s.1.1) + (M.length - s.2.1.1)) ((0, A5, c5), (0, B5, d5), 0, T0) ⟨by simp, by simp, hA5, hB5, fun h => by obtain ⟨g, o, e⟩ := hA5.arg h; exact ⟨g, o, e, by rw [e]; simp⟩, fun h => by obtain ⟨g, o, e⟩ := hB5.arg h; exact ⟨g, o, e, by rw [e]; simp⟩, rfl, Nat.zero_le _, hT0⟩ (Kn.cons rfl (Kn.cons rfl (Kn.cons rfl Kn.nil))) (HLe.refl _) ?_
  rintro ⟨⟨i, X, cx⟩, ⟨j, Y, cy⟩, k, T3⟩ ⟨hi, hj, hX, hY2, hSX, hSY, hq, hk, hT3⟩
  simp only at hi hj hX hY2 hSX hSY hq hk hT3
  refine awp_seq ?_
  refine awp_seq_region (fun Z hZ => ?_)
  refine sx_move rfl rfl ?_
  refine sx_len Tryz.underlying33 rfl rfl ?_
  refine sx_move rfl rfl ?_
  refine sx_len Tryz.underlying33 rfl rfl ?_
  refine sx_add rfl rfl (((L.length - i : Nat) : Int) + ((M.length - j : Nat) : Int)) (by rw [IntWalk.i64_in _ (by omega)]) rfl ?_
  refine sx_gtr rfl rfl rfl ?_
  refine sx_nil (hZ _ _ ?_)
  refine awp_forget [(0, _), (4, _), (5, _), (16, _)] (Kn.cons rfl (Kn.cons rfl (Kn.cons rfl (Kn.cons rfl (Kn.nil))))) ?_
  refine awp_cond rfl (fun hh => ?_) (fun hh => ?_)
  · have hpos : 0 < (L.length - i) + (M.length - j) := by simp at hh; omega
    refine awp_skip ?_
    with_reducible refine nx_normal ?_
    refine awp_block ?_
    refine awp_seq_region (fun Z hZ => ?_)
    refine sx_alloc tyZ45 rfl (fun g1 => ?_)
    refine sx_nil (hZ _ _ ?_)
    refine awp_forget [(0, _), (4, _), (5, _), (6, _)] (Kn.cons rfl (Kn.cons rfl (Kn.cons rfl (Kn.cons rfl (Kn.nil))))) ?_
    refine awp_cut (ι := Chg × (Nat × Option Addr × Nat) × (Nat × Option Addr × Nat)) (fun s => [(0, .func (.yield l) #[] #[]), (4, .slice s.2.1.2.1 (L.length - s.2.1.1) s.2.1.2.2), (5, .slice s.2.2.2.1 (M.length - s.2.2.1) s.2.2.2.2), (6, ptr g1 0)]) (fun s => .own g1 45 s.1.cells :: ((roE A5 (icells L) ++ roE B5 (icells M)) ++ (T3 ++ Jr)))
      (fun s => s.2.1.1 ≤ L.length ∧ s.2.2.1 ≤ M.length ∧ SlIn s.2.1.2.1 (L.length - s.2.1.1) s.2.1.2.2 ∧ SlIn s.2.2.2.1 (M.length - s.2.2.1) s.2.2.2.2 ∧ Suf A5 s.2.1.1 L.length 2 s.2.1.2.1 ∧ Suf B5 s.2.2.1 M.length 2 s.2.2.2.1 ∧ i + j < s.2.1.1 + s.2.2.1 ∧ (bothQ L M).drop k = s.1 :: bothQ (L.drop s.2.1.1) (M.drop s.2.2.1)) ?_ ?_
    · refine awp_block ?_
      by_cases hx : i < L.length
      · have hxa := itAt_at hx
        have hdx := drop_itAt hx
        obtain ⟨x, hxe⟩ : ∃ x, itAt L i = x := ⟨_, rfl⟩
        rw [hxe] at hxa hdx
        obtain ⟨gx, ox, rfl, rfl⟩ := hSX hx
        by_cases hy : j < M.length
        · have hya := itAt_at hy
          have hdy := drop_itAt hy
          obtain ⟨y, hye⟩ : ∃ y, itAt M j = y := ⟨_, rfl⟩
          rw [hye] at hya hdy
          obtain ⟨gy, oy, rfl, rfl⟩ := hSY hy
          refine awp_heap (.own g1 45 [uq 0, .string (str []), .string (str [])] :: .ro gx ox (icells L) :: .ro gy oy (icells M) :: (T3 ++ Jr)) (HLe.refl _) ?_

          by_cases hlt : x.id < y.id
          · have hb := both_lt (x := x) (y := y) (xs := L.drop (i + 1)) (ys := M.drop (j + 1)) hlt
            rw [← hdx, ← hdy] at hb
            refine awq_seq_meet [(0, .func (.yield l) #[] #[]), (4, .slice (some ⟨gx, ox + i * 2, none⟩) (L.length - i) cx), (5, .slice (some ⟨gy, oy + j * 2, none⟩) (M.length - j) cy), (6, ptr g1 0), (34, .bool true)] (.own g1 45 [uq 0, .string (str []), .string (str [])] :: .ro gx ox (icells L) :: .ro gy oy (icells M) :: (T3 ++ Jr)) mixed (by kernel_rfl) (fun Z hZ => ?_) ?_
            · refine sq_move rfl rfl ?_
              refine sq_len Tryz.underlying33 rfl rfl ?_
              refine sq_eql rfl rfl rfl ?_
              refine sq_move rfl rfl ?_
              refine sq_force 38 rfl false (by first | rfl | (simp; done) | (simp; omega)) ?_
              refine sq_on rfl rfl rfl ?_
              refine sq_move rfl rfl ?_
              refine sq_on rfl rfl rfl ?_
              refine sq_len Tryz.underlying33 rfl rfl ?_
              refine sq_on rfl rfl rfl ?_
              refine sq_gtr rfl rfl rfl ?_
              refine sq_on rfl rfl rfl ?_
              refine sq_move rfl rfl ?_
              refine sq_force 42 rfl true (by first | rfl | (simp; done) | (simp; omega)) ?_
              refine sq_on rfl rfl rfl ?_
              refine sq_move rfl rfl ?_
              refine sq_on rfl rfl rfl ?_
              refine sq_indexAddr (ox + i * 2) Tryz.underlying33 tyS40 rfl rfl (by first | omega | (simp; omega)) (by simp) rfl ?_
              refine sq_on rfl rfl rfl ?_
              refine sq_fieldAddr rfl tyF40_0 (by first | (simp only [Nat.reduceAdd, Nat.add_zero, Nat.zero_add]; first | done | rfl) | rfl) rfl ?_
              refine sq_on rfl rfl rfl ?_
              refine sq_loadRo 1 rfl rfl (i * 2) rfl tyA38 tyS38 (icells_id hxa) rfl ?_
              refine sq_on rfl rfl rfl ?_
              refine sq_move rfl rfl ?_
              refine sq_on rfl rfl rfl ?_
              refine sq_indexAddr (oy + j * 2) Tryz.underlying33 tyS40 rfl rfl (by first | omega | (simp; omega)) (by simp) rfl ?_
              refine sq_on rfl rfl rfl ?_
              refine sq_fieldAddr rfl tyF40_0 (by first | (simp only [Nat.reduceAdd, Nat.add_zero, Nat.zero_add]; first | done | rfl) | rfl) rfl ?_
              refine sq_on rfl rfl rfl ?_
              refine sq_loadRo 2 rfl rfl (j * 2) rfl tyA38 tyS38 (icells_id hya) rfl ?_
              refine sq_on rfl rfl rfl ?_
              refine sq_lss rfl rfl rfl ?_
              refine sq_on rfl rfl rfl ?_
              refine sq_pick rfl rfl rfl ?_
              refine sq_pick rfl rfl rfl ?_
              refine sq_assign rfl rfl ?_
              refine sq_nil (hZ _ _ ?_ ?_)
              · exact Kn.cons rfl (Kn.cons rfl (Kn.cons rfl (Kn.cons rfl (Kn.cons (congrArg some (congrArg Value.bool (by first | rfl | (simp; omega)))) Kn.nil))))
              · exact HLe.refl _
            refine awp_cond rfl (fun h1 => ?_) (fun h1 => ?_)
            · refine aww_region _ [(0, true), (1, true), (2, true), (3, true), (4, true), (5, true), (6, true), (7, true), (8, true), (9, true), (10, true), (11, false), (12, true)] mixed (by kernel_rfl) (HLe.pick [1] (by simp) (by simp only [pick, List.filterMap_cons, List.filterMap_nil, List.getElem?_cons_succ, List.getElem?_cons_zero]; rfl)) (fun Z hZ => ?_)
              refine tw_p rfl ?_
              refine sv_move rfl rfl ?_
              refine sv_nil ?_
              refine tw_p rfl ?_
              refine sv_indexAddr (ox + i * 2) Tryz.underlying33 tyS40 rfl rfl (by first | omega | (simp; omega)) (by simp) rfl ?_
              refine sv_nil ?_
              refine tw_p rfl ?_
              refine sv_fieldAddr rfl tyF40_0 (by first | (simp only [Nat.reduceAdd, Nat.add_zero, Nat.zero_add]; first | done | rfl) | rfl) rfl ?_
              refine sv_nil ?_
              refine tw_p rfl ?_
              refine sv_loadRo 0 rfl rfl (i * 2) rfl tyA38 tyS38 (icells_id hxa) rfl ?_
              refine sv_nil ?_
              refine tw_p rfl ?_
              refine sv_move rfl rfl ?_
              refine sv_nil ?_
              refine tw_p rfl ?_
              refine sv_indexAddr (ox + i * 2) Tryz.underlying33 tyS40 rfl rfl (by first | omega | (simp; omega)) (by simp) rfl ?_
              refine sv_nil ?_
              refine tw_p rfl ?_
              refine sv_fieldAddr rfl tyF40_1 (by first | (simp only [Nat.reduceAdd, Nat.add_zero, Nat.zero_add]; first | done | rfl) | rfl) rfl ?_
              refine sv_nil ?_
              refine tw_p rfl ?_
              refine sv_loadRo 0 rfl rfl (i * 2 + 1) rfl tyA9 tyS9 (icells_tx hxa) rfl ?_
              refine sv_nil ?_
              refine tw_p rfl ?_
              refine sv_build tyZ45 tyP45 rfl rfl (by first | (simp only [List.take_succ_cons, List.take_zero, List.drop_succ_cons, List.drop_zero, List.cons_append, List.nil_append, List.append_nil, List.length_cons, List.length_nil, Nat.reduceAdd, Nat.zero_add, Nat.add_zero, Value.cells, wrV, zrep_one, List.replicate_succ, List.replicate_zero, Nat.reduceMul, Nat.zero_mul]; first | done | rfl) | rfl) rfl ?_
              refine sv_nil ?_
              refine tw_p rfl ?_
              refine sv_move rfl rfl ?_
              refine sv_nil ?_
              refine tw_p rfl ?_
              refine sv_part (i := 1) (j := L.length - i) Tryz.underlying33 tyS40 hX rfl rfl rfl (by omega) hX.cap rfl (fun X2 hX2 htX2 => ?_)
              refine sv_nil ?_
              refine tw_g rfl ?_
              refine sx_store 0 rfl rfl rfl tyS45 (by first | (simp only [Value.cells]; first | done | rfl) | rfl) rfl rfl (by first | (simp only [List.length_cons, List.length_nil, Nat.reduceAdd, Nat.zero_add, Nat.add_zero]; first | done | rfl) | rfl) (by first | (simp only [List.take_succ_cons, List.take_zero, List.drop_succ_cons, List.drop_zero, List.cons_append, List.nil_append, List.append_nil, List.length_cons, List.length_nil, Nat.reduceAdd, Nat.zero_add, Nat.add_zero, Value.cells, wrV]; first | done | rfl) | rfl) (by first | (simp only [List.set_cons_succ, List.set_cons_zero]; first | done | rfl) | rfl) ?_
              refine sx_nil ⟨HLe.pick [1] (by simp) rfl, ?_⟩
              refine tw_p rfl ?_
              refine sv_assign rfl rfl ?_
              refine sv_nil ?_
              refine tw_nil (hZ _ _ ?_)
              refine nx_forget [(0, _), (4, _), (5, _), (6, _)] (Kn.cons rfl (Kn.cons rfl (Kn.cons rfl (Kn.cons rfl (Kn.nil))))) ?_
              repeat (with_reducible refine nx_block_normal ?_)
              exact nx_cut (⟨x.id, x.tx, []⟩, (i + 1, X2, cx - 1), (j, some ⟨gy, oy + j * 2, none⟩, cy)) ⟨hx, hj, by rw [show L.length - (i + 1) = L.length - i - 1 by omega]; exact hX2, hY2, Suf.next htX2, hSY, by first | (simp; done) | (simp; omega), hq.trans hb⟩ (Kn.cons rfl (Kn.cons rfl (Kn.cons rfl (Kn.cons rfl Kn.nil)))) (HLe.refl _)
            · cases h1
          refine awq_seq_meet [(0, .func (.yield l) #[] #[]), (4, .slice (some ⟨gx, ox + i * 2, none⟩) (L.length - i) cx), (5, .slice (some ⟨gy, oy + j * 2, none⟩) (M.length - j) cy), (6, ptr g1 0), (34, .bool false)] (.own g1 45 [uq 0, .string (str []), .string (str [])] :: .ro gx ox (icells L) :: .ro gy oy (icells M) :: (T3 ++ Jr)) mixed (by kernel_rfl) (fun Z hZ => ?_) ?_
          · refine sq_move rfl rfl ?_
            refine sq_len Tryz.underlying33 rfl rfl ?_
            refine sq_eql rfl rfl rfl ?_
            refine sq_move rfl rfl ?_
            refine sq_force 38 rfl false (by first | rfl | (simp; done) | (simp; omega)) ?_
            refine sq_on rfl rfl rfl ?_
            refine sq_move rfl rfl ?_
            refine sq_on rfl rfl rfl ?_
            refine sq_len Tryz.underlying33 rfl rfl ?_
            refine sq_on rfl rfl rfl ?_
            refine sq_gtr rfl rfl rfl ?_
            refine sq_on rfl rfl rfl ?_
            refine sq_move rfl rfl ?_
            refine sq_force 42 rfl true (by first | rfl | (simp; done) | (simp; omega)) ?_
            refine sq_on rfl rfl rfl ?_
            refine sq_move rfl rfl ?_
            refine sq_on rfl rfl rfl ?_
            refine sq_indexAddr (ox + i * 2) Tryz.underlying33 tyS40 rfl rfl (by first | omega | (simp; omega)) (by simp) rfl ?_
            refine sq_on rfl rfl rfl ?_
            refine sq_fieldAddr rfl tyF40_0 (by first | (simp only [Nat.reduceAdd, Nat.add_zero, Nat.zero_add]; first | done | rfl) | rfl) rfl ?_
            refine sq_on rfl rfl rfl ?_
            refine sq_loadRo 1 rfl rfl (i * 2) rfl tyA38 tyS38 (icells_id hxa) rfl ?_
            refine sq_on rfl rfl rfl ?_
            refine sq_move rfl rfl ?_
            refine sq_on rfl rfl rfl ?_
            refine sq_indexAddr (oy + j * 2) Tryz.underlying33 tyS40 rfl rfl (by first | omega | (simp; omega)) (by simp) rfl ?_
            refine sq_on rfl rfl rfl ?_
            refine sq_fieldAddr rfl tyF40_0 (by first | (simp only [Nat.reduceAdd, Nat.add_zero, Nat.zero_add]; first | done | rfl) | rfl) rfl ?_
            refine sq_on rfl rfl rfl ?_
            refine sq_loadRo 2 rfl rfl (j * 2) rfl tyA38 tyS38 (icells_id hya) rfl ?_
            refine sq_on rfl rfl rfl ?_
            refine sq_lss rfl rfl rfl ?_
            refine sq_on rfl rfl rfl ?_
            refine sq_pick rfl rfl rfl ?_
            refine sq_pick rfl rfl rfl ?_
            refine sq_assign rfl rfl ?_
            refine sq_nil (hZ _ _ ?_ ?_)
            · exact Kn.cons rfl (Kn.cons rfl (Kn.cons rfl (Kn.cons rfl (Kn.cons (congrArg some (congrArg Value.bool (by first | rfl | (simp; omega)))) Kn.nil))))
            · exact HLe.refl _
          refine awp_cond rfl (fun h1 => ?_) (fun h1 => ?_)
          · cases h1
          by_cases hgt : y.id < x.id
          · have hb := both_gt (x := x) (y := y) (xs := L.drop (i + 1)) (ys := M.drop (j + 1)) hgt
            rw [← hdx, ← hdy] at hb
            refine awq_seq_meet [(0, .func (.yield l) #[] #[]), (4, .slice (some ⟨gx, ox + i * 2, none⟩) (L.length - i) cx), (5, .slice (some ⟨gy, oy + j * 2, none⟩) (M.length - j) cy), (6, ptr g1 0), (65, .bool true)] (.own g1 45 [uq 0, .string (str []), .string (str [])] :: .ro gx ox (icells L) :: .ro gy oy (icells M) :: (T3 ++ Jr)) mixed (by kernel_rfl) (fun Z hZ => ?_) ?_
            · refine sq_move rfl rfl ?_
              refine sq_len Tryz.underlying33 rfl rfl ?_
              refine sq_eql rfl rfl rfl ?_
              refine sq_move rfl rfl ?_
              refine sq_force 69 rfl false (by first | rfl | (simp; done) | (simp; omega)) ?_
              refine sq_on rfl rfl rfl ?_
              refine sq_move rfl rfl ?_
              refine sq_on rfl rfl rfl ?_
              refine sq_indexAddr (oy + j * 2) Tryz.underlying33 tyS40 rfl rfl (by first | omega | (simp; omega)) (by simp) rfl ?_
              refine sq_on rfl rfl rfl ?_
              refine sq_fieldAddr rfl tyF40_0 (by first | (simp only [Nat.reduceAdd, Nat.add_zero, Nat.zero_add]; first | done | rfl) | rfl) rfl ?_
              refine sq_on rfl rfl rfl ?_
              refine sq_loadRo 2 rfl rfl (j * 2) rfl tyA38 tyS38 (icells_id hya) rfl ?_
              refine sq_on rfl rfl rfl ?_
              refine sq_move rfl rfl ?_
              refine sq_on rfl rfl rfl ?_
              refine sq_indexAddr (ox + i * 2) Tryz.underlying33 tyS40 rfl rfl (by first | omega | (simp; omega)) (by simp) rfl ?_
              refine sq_on rfl rfl rfl ?_
              refine sq_fieldAddr rfl tyF40_0 (by first | (simp only [Nat.reduceAdd, Nat.add_zero, Nat.zero_add]; first | done | rfl) | rfl) rfl ?_
              refine sq_on rfl rfl rfl ?_
              refine sq_loadRo 1 rfl rfl (i * 2) rfl tyA38 tyS38 (icells_id hxa) rfl ?_
              refine sq_on rfl rfl rfl ?_
              refine sq_lss rfl rfl rfl ?_
              refine sq_pick rfl rfl rfl ?_
              refine sq_assign rfl rfl ?_
              refine sq_nil (hZ _ _ ?_ ?_)
              · exact Kn.cons rfl (Kn.cons rfl (Kn.cons rfl (Kn.cons rfl (Kn.cons (congrArg some (congrArg Value.bool (by first | rfl | (simp; omega)))) Kn.nil))))
              · exact HLe.refl _
            refine awp_cond rfl (fun h2 => ?_) (fun h2 => ?_)
            · refine aww_region _ [(0, true), (1, true), (2, true), (3, true), (4, true), (5, true), (6, true), (7, true), (8, true), (9, true), (10, true), (11, false), (12, true)] mixed (by kernel_rfl) (HLe.pick [2] (by simp) (by simp only [pick, List.filterMap_cons, List.filterMap_nil, List.getElem?_cons_succ, List.getElem?_cons_zero]; rfl)) (fun Z hZ => ?_)
              refine tw_p rfl ?_
              refine sv_move rfl rfl ?_
              refine sv_nil ?_
              refine tw_p rfl ?_
              refine sv_indexAddr (oy + j * 2) Tryz.underlying33 tyS40 rfl rfl (by first | omega | (simp; omega)) (by simp) rfl ?_
              refine sv_nil ?_
              refine tw_p rfl ?_
              refine sv_fieldAddr rfl tyF40_0 (by first | (simp only [Nat.reduceAdd, Nat.add_zero, Nat.zero_add]; first | done | rfl) | rfl) rfl ?_
              refine sv_nil ?_
              refine tw_p rfl ?_
              refine sv_loadRo 0 rfl rfl (j * 2) rfl tyA38 tyS38 (icells_id hya) rfl ?_
              refine sv_nil ?_
              refine tw_p rfl ?_
              refine sv_move rfl rfl ?_
              refine sv_nil ?_
              refine tw_p rfl ?_
              refine sv_indexAddr (oy + j * 2) Tryz.underlying33 tyS40 rfl rfl (by first | omega | (simp; omega)) (by simp) rfl ?_
              refine sv_nil ?_
              refine tw_p rfl ?_
              refine sv_fieldAddr rfl tyF40_1 (by first | (simp only [Nat.reduceAdd, Nat.add_zero, Nat.zero_add]; first | done | rfl) | rfl) rfl ?_
              refine sv_nil ?_
              refine tw_p rfl ?_
              refine sv_loadRo 0 rfl rfl (j * 2 + 1) rfl tyA9 tyS9 (icells_tx hya) rfl ?_
              refine sv_nil ?_
              refine tw_p rfl ?_
              refine sv_build tyZ45 tyP45 rfl rfl (by first | (simp only [List.take_succ_cons, List.take_zero, List.drop_succ_cons, List.drop_zero, List.cons_append, List.nil_append, List.append_nil, List.length_cons, List.length_nil, Nat.reduceAdd, Nat.zero_add, Nat.add_zero, Value.cells, wrV, zrep_one, List.replicate_succ, List.replicate_zero, Nat.reduceMul, Nat.zero_mul]; first | done | rfl) | rfl) rfl ?_
              refine sv_nil ?_
              refine tw_p rfl ?_
              refine sv_move rfl rfl ?_
              refine sv_nil ?_
              refine tw_p rfl ?_
              refine sv_part (i := 1) (j := M.length - j) Tryz.underlying33 tyS40 hY2 rfl rfl rfl (by omega) hY2.cap rfl (fun Y2 hY3 htY2 => ?_)
              refine sv_nil ?_
              refine tw_g rfl ?_
              refine sx_store 0 rfl rfl rfl tyS45 (by first | (simp only [Value.cells]; first | done | rfl) | rfl) rfl rfl (by first | (simp only [List.length_cons, List.length_nil, Nat.reduceAdd, Nat.zero_add, Nat.add_zero]; first | done | rfl) | rfl) (by first | (simp only [List.take_succ_cons, List.take_zero, List.drop_succ_cons, List.drop_zero, List.cons_append, List.nil_append, List.append_nil, List.length_cons, List.length_nil, Nat.reduceAdd, Nat.zero_add, Nat.add_zero, Value.cells, wrV]; first | done | rfl) | rfl) (by first | (simp only [List.set_cons_succ, List.set_cons_zero]; first | done | rfl) | rfl) ?_
              refine sx_nil ⟨HLe.pick [2] (by simp) rfl, ?_⟩
              refine tw_p rfl ?_
              refine sv_assign rfl rfl ?_
              refine sv_nil ?_
              refine tw_nil (hZ _ _ ?_)
              refine nx_forget [(0, _), (4, _), (5, _), (6, _)] (Kn.cons rfl (Kn.cons rfl (Kn.cons rfl (Kn.cons rfl (Kn.nil))))) ?_
              repeat (with_reducible refine nx_block_normal ?_)
              exact nx_cut (⟨y.id, [], y.tx⟩, (i, some ⟨gx, ox + i * 2, none⟩, cx), (j + 1, Y2, cy - 1)) ⟨hi, hy, hX, by rw [show M.length - (j + 1) = M.length - j - 1 by omega]; exact hY3, hSX, Suf.next htY2, by first | (simp; done) | (simp; omega), hq.trans hb⟩ (Kn.cons rfl (Kn.cons rfl (Kn.cons rfl (Kn.cons rfl Kn.nil)))) (HLe.refl _)
            · cases h2
          have hxy : x.id = y.id := by omega
          have hb := both_eq (x := x) (y := y) (xs := L.drop (i + 1)) (ys := M.drop (j + 1)) hxy
          rw [← hdx, ← hdy] at hb
          refine awq_seq_meet [(0, .func (.yield l) #[] #[]), (4, .slice (some ⟨gx, ox + i * 2, none⟩) (L.length - i) cx), (5, .slice (some ⟨gy, oy + j * 2, none⟩) (M.length - j) cy), (6, ptr g1 0), (65, .bool false)] (.own g1 45 [uq 0, .string (str []), .string (str [])] :: .ro gx ox (icells L) :: .ro gy oy (icells M) :: (T3 ++ Jr)) mixed (by kernel_rfl) (fun Z hZ => ?_) ?_
          · refine sq_move rfl rfl ?_
            refine sq_len Tryz.underlying33 rfl rfl ?_
            refine sq_eql rfl rfl rfl ?_
            refine sq_move rfl rfl ?_
            refine sq_force 69 rfl false (by first | rfl | (simp; done) | (simp; omega)) ?_
            refine sq_on rfl rfl rfl ?_
            refine sq_move rfl rfl ?_
            refine sq_on rfl rfl rfl ?_
            refine sq_indexAddr (oy + j * 2) Tryz.underlying33 tyS40 rfl rfl (by first | omega | (simp; omega)) (by simp) rfl ?_
            refine sq_on rfl rfl rfl ?_
            refine sq_fieldAddr rfl tyF40_0 (by first | (simp only [Nat.reduceAdd, Nat.add_zero, Nat.zero_add]; first | done | rfl) | rfl) rfl ?_
            refine sq_on rfl rfl rfl ?_
            refine sq_loadRo 2 rfl rfl (j * 2) rfl tyA38 tyS38 (icells_id hya) rfl ?_
            refine sq_on rfl rfl rfl ?_
            refine sq_move rfl rfl ?_
            refine sq_on rfl rfl rfl ?_
            refine sq_indexAddr (ox + i * 2) Tryz.underlying33 tyS40 rfl rfl (by first | omega | (simp; omega)) (by simp) rfl ?_
            refine sq_on rfl rfl rfl ?_
            refine sq_fieldAddr rfl tyF40_0 (by first | (simp only [Nat.reduceAdd, Nat.add_zero, Nat.zero_add]; first | done | rfl) | rfl) rfl ?_
            refine sq_on rfl rfl rfl ?_
            refine sq_loadRo 1 rfl rfl (i * 2) rfl tyA38 tyS38 (icells_id hxa) rfl ?_
            refine sq_on rfl rfl rfl ?_
            refine sq_lss rfl rfl rfl ?_
            refine sq_pick rfl rfl rfl ?_
            refine sq_assign rfl rfl ?_
            refine sq_nil (hZ _ _ ?_ ?_)
            · exact Kn.cons rfl (Kn.cons rfl (Kn.cons rfl (Kn.cons rfl (Kn.cons (congrArg some (congrArg Value.bool (by first | rfl | (simp; omega)))) Kn.nil))))
            · exact HLe.refl _
          refine awp_cond rfl (fun h2 => ?_) (fun h2 => ?_)
          · cases h2
          refine aww_region _ [(0, true), (1, true), (2, true), (3, true), (4, true), (5, true), (6, true), (7, true), (8, true), (9, true), (10, true), (11, true), (12, true), (13, true), (14, true), (15, true), (16, true), (17, false), (18, true), (19, true)] mixed (by kernel_rfl) (HLe.pick [1, 2] (by simp) (by simp only [pick, List.filterMap_cons, List.filterMap_nil, List.getElem?_cons_succ, List.getElem?_cons_zero]; rfl)) (fun Z hZ => ?_)
          refine tw_p rfl ?_
          refine sv_move rfl rfl ?_
          refine sv_nil ?_
          refine tw_p rfl ?_
          refine sv_indexAddr (ox + i * 2) Tryz.underlying33 tyS40 rfl rfl (by first | omega | (simp; omega)) (by simp) rfl ?_
          refine sv_nil ?_
          refine tw_p rfl ?_
          refine sv_fieldAddr rfl tyF40_0 (by first | (simp only [Nat.reduceAdd, Nat.add_zero, Nat.zero_add]; first | done | rfl) | rfl) rfl ?_
          refine sv_nil ?_
          refine tw_p rfl ?_
          refine sv_loadRo 0 rfl rfl (i * 2) rfl tyA38 tyS38 (icells_id hxa) rfl ?_
          refine sv_nil ?_
          refine tw_p rfl ?_
          refine sv_move rfl rfl ?_
          refine sv_nil ?_
          refine tw_p rfl ?_
          refine sv_indexAddr (ox + i * 2) Tryz.underlying33 tyS40 rfl rfl (by first | omega | (simp; omega)) (by simp) rfl ?_
          refine sv_nil ?_
          refine tw_p rfl ?_
          refine sv_fieldAddr rfl tyF40_1 (by first | (simp only [Nat.reduceAdd, Nat.add_zero, Nat.zero_add]; first | done | rfl) | rfl) rfl ?_
          refine sv_nil ?_
          refine tw_p rfl ?_
          refine sv_loadRo 0 rfl rfl (i * 2 + 1) rfl tyA9 tyS9 (icells_tx hxa) rfl ?_
          refine sv_nil ?_
          refine tw_p rfl ?_
          refine sv_move rfl rfl ?_
          refine sv_nil ?_
          refine tw_p rfl ?_
          refine sv_indexAddr (oy + j * 2) Tryz.underlying33 tyS40 rfl rfl (by first | omega | (simp; omega)) (by simp) rfl ?_
          refine sv_nil ?_
          refine tw_p rfl ?_
          refine sv_fieldAddr rfl tyF40_1 (by first | (simp only [Nat.reduceAdd, Nat.add_zero, Nat.zero_add]; first | done | rfl) | rfl) rfl ?_
          refine sv_nil ?_
          refine tw_p rfl ?_
          refine sv_loadRo 1 rfl rfl (j * 2 + 1) rfl tyA9 tyS9 (icells_tx hya) rfl ?_
          refine sv_nil ?_
          refine tw_p rfl ?_
          refine sv_build tyZ45 tyP45 rfl rfl (by first | (simp only [List.take_succ_cons, List.take_zero, List.drop_succ_cons, List.drop_zero, List.cons_append, List.nil_append, List.append_nil, List.length_cons, List.length_nil, Nat.reduceAdd, Nat.zero_add, Nat.add_zero, Value.cells, wrV, zrep_one, List.replicate_succ, List.replicate_zero, Nat.reduceMul, Nat.zero_mul]; first | done | rfl) | rfl) rfl ?_
          refine sv_nil ?_
          refine tw_p rfl ?_
          refine sv_move rfl rfl ?_
          refine sv_nil ?_
          refine tw_p rfl ?_
          refine sv_part (i := 1) (j := L.length - i) Tryz.underlying33 tyS40 hX rfl rfl rfl (by omega) hX.cap rfl (fun X2 hX2 htX2 => ?_)
          refine sv_nil ?_
          refine tw_p rfl ?_
          refine sv_move rfl rfl ?_
          refine sv_nil ?_
          refine tw_p rfl ?_
          refine sv_part (i := 1) (j := M.length - j) Tryz.underlying33 tyS40 hY2 rfl rfl rfl (by omega) hY2.cap rfl (fun Y2 hY3 htY2 => ?_)
          refine sv_nil ?_
          refine tw_g rfl ?_
          refine sx_store 0 rfl rfl rfl tyS45 (by first | (simp only [Value.cells]; first | done | rfl) | rfl) rfl rfl (by first | (simp only [List.length_cons, List.length_nil, Nat.reduceAdd, Nat.zero_add, Nat.add_zero]; first | done | rfl) | rfl) (by first | (simp only [List.take_succ_cons, List.take_zero, List.drop_succ_cons, List.drop_zero, List.cons_append, List.nil_append, List.append_nil, List.length_cons, List.length_nil, Nat.reduceAdd, Nat.zero_add, Nat.add_zero, Value.cells, wrV]; first | done | rfl) | rfl) (by first | (simp only [List.set_cons_succ, List.set_cons_zero]; first | done | rfl) | rfl) ?_
          refine sx_nil ⟨HLe.pick [1, 2] (by simp) rfl, ?_⟩
          refine tw_p rfl ?_
          refine sv_assign rfl rfl ?_
          refine sv_nil ?_
          refine tw_p rfl ?_
          refine sv_assign rfl rfl ?_
          refine sv_nil ?_
          refine tw_nil (hZ _ _ ?_)
          refine nx_forget [(0, _), (4, _), (5, _), (6, _)] (Kn.cons rfl (Kn.cons rfl (Kn.cons rfl (Kn.cons rfl (Kn.nil))))) ?_
          repeat (with_reducible refine nx_block_normal ?_)
          exact nx_cut (⟨x.id, x.tx, y.tx⟩, (i + 1, X2, cx - 1), (j + 1, Y2, cy - 1)) ⟨hx, hy, by rw [show L.length - (i + 1) = L.length - i - 1 by omega]; exact hX2, by rw [show M.length - (j + 1) = M.length - j - 1 by omega]; exact hY3, Suf.next htX2, Suf.next htY2, by first | (simp; done) | (simp; omega), hq.trans hb⟩ (Kn.cons rfl (Kn.cons rfl (Kn.cons rfl (Kn.cons rfl Kn.nil)))) (HLe.refl _)
        · have hj0 : M.length - j = 0 := by omega
          have hdy : M.drop j = [] := List.drop_eq_nil_of_le (by omega)
          have hb := both_x x (L.drop (i + 1))
          rw [← hdx, ← hdy] at hb
          refine awp_heap (.own g1 45 [uq 0, .string (str []), .string (str [])] :: .ro gx ox (icells L) :: (roE B5 (icells M) ++ (T3 ++ Jr))) (by rw [List.append_assoc]; exact HLe.refl _) ?_

          refine awq_seq_meet [(0, .func (.yield l) #[] #[]), (4, .slice (some ⟨gx, ox + i * 2, none⟩) (L.length - i) cx), (5, .slice Y (M.length - j) cy), (6, ptr g1 0), (34, .bool true)] (.own g1 45 [uq 0, .string (str []), .string (str [])] :: .ro gx ox (icells L) :: (roE B5 (icells M) ++ (T3 ++ Jr))) mixed (by kernel_rfl) (fun Z hZ => ?_) ?_
          · refine sq_move rfl rfl ?_
            refine sq_len Tryz.underlying33 rfl rfl ?_
            refine sq_eql rfl rfl rfl ?_
            refine sq_move rfl rfl ?_
            refine sq_force 38 rfl true (by simp; omega) ?_
            refine sq_off rfl rfl rfl rfl rfl ?_
            refine sq_off rfl rfl rfl rfl rfl ?_
            refine sq_off rfl rfl rfl rfl rfl ?_
            refine sq_off rfl rfl rfl rfl rfl ?_
            refine sq_offU rfl rfl rfl rfl ?_
            refine sq_offU rfl rfl rfl rfl ?_
            refine sq_offU rfl rfl rfl rfl ?_
            refine sq_offU rfl rfl rfl rfl ?_
            refine sq_offU rfl rfl rfl rfl ?_
            refine sq_offU rfl rfl rfl rfl ?_
            refine sq_offU rfl rfl rfl rfl ?_
            refine sq_offU rfl rfl rfl rfl ?_
            refine sq_offU rfl rfl rfl rfl ?_
            refine sq_off rfl rfl rfl rfl rfl ?_
            refine sq_pick rfl rfl rfl ?_
            refine sq_assign rfl rfl ?_
            refine sq_nil (hZ _ _ ?_ ?_)
            · exact Kn.cons rfl (Kn.cons rfl (Kn.cons rfl (Kn.cons rfl (Kn.cons (congrArg some (congrArg Value.bool (by first | rfl | (simp; omega)))) Kn.nil))))
            · exact HLe.refl _
          refine awp_cond rfl (fun h1 => ?_) (fun h1 => ?_)
          · refine aww_region _ [(0, true), (1, true), (2, true), (3, true), (4, true), (5, true), (6, true), (7, true), (8, true), (9, true), (10, true), (11, false), (12, true)] mixed (by kernel_rfl) (HLe.pick [1] (by simp) (by simp only [pick, List.filterMap_cons, List.filterMap_nil, List.getElem?_cons_succ, List.getElem?_cons_zero]; rfl)) (fun Z hZ => ?_)
            refine tw_p rfl ?_
            refine sv_move rfl rfl ?_
            refine sv_nil ?_
            refine tw_p rfl ?_
            refine sv_indexAddr (ox + i * 2) Tryz.underlying33 tyS40 rfl rfl (by first | omega | (simp; omega)) (by simp) rfl ?_
            refine sv_nil ?_
            refine tw_p rfl ?_
            refine sv_fieldAddr rfl tyF40_0 (by first | (simp only [Nat.reduceAdd, Nat.add_zero, Nat.zero_add]; first | done | rfl) | rfl) rfl ?_
            refine sv_nil ?_
            refine tw_p rfl ?_
            refine sv_loadRo 0 rfl rfl (i * 2) rfl tyA38 tyS38 (icells_id hxa) rfl ?_
            refine sv_nil ?_
            refine tw_p rfl ?_
            refine sv_move rfl rfl ?_
            refine sv_nil ?_
            refine tw_p rfl ?_
            refine sv_indexAddr (ox + i * 2) Tryz.underlying33 tyS40 rfl rfl (by first | omega | (simp; omega)) (by simp) rfl ?_
            refine sv_nil ?_
            refine tw_p rfl ?_
            refine sv_fieldAddr rfl tyF40_1 (by first | (simp only [Nat.reduceAdd, Nat.add_zero, Nat.zero_add]; first | done | rfl) | rfl) rfl ?_
            refine sv_nil ?_
            refine tw_p rfl ?_
            refine sv_loadRo 0 rfl rfl (i * 2 + 1) rfl tyA9 tyS9 (icells_tx hxa) rfl ?_
            refine sv_nil ?_
            refine tw_p rfl ?_
            refine sv_build tyZ45 tyP45 rfl rfl (by first | (simp only [List.take_succ_cons, List.take_zero, List.drop_succ_cons, List.drop_zero, List.cons_append, List.nil_append, List.append_nil, List.length_cons, List.length_nil, Nat.reduceAdd, Nat.zero_add, Nat.add_zero, Value.cells, wrV, zrep_one, List.replicate_succ, List.replicate_zero, Nat.reduceMul, Nat.zero_mul]; first | done | rfl) | rfl) rfl ?_
            refine sv_nil ?_
            refine tw_p rfl ?_
            refine sv_move rfl rfl ?_
            refine sv_nil ?_
            refine tw_p rfl ?_
            refine sv_part (i := 1) (j := L.length - i) Tryz.underlying33 tyS40 hX rfl rfl rfl (by omega) hX.cap rfl (fun X2 hX2 htX2 => ?_)
            refine sv_nil ?_
            refine tw_g rfl ?_
            refine sx_store 0 rfl rfl rfl tyS45 (by first | (simp only [Value.cells]; first | done | rfl) | rfl) rfl rfl (by first | (simp only [List.length_cons, List.length_nil, Nat.reduceAdd, Nat.zero_add, Nat.add_zero]; first | done | rfl) | rfl) (by first | (simp only [List.take_succ_cons, List.take_zero, List.drop_succ_cons, List.drop_zero, List.cons_append, List.nil_append, List.append_nil, List.length_cons, List.length_nil, Nat.reduceAdd, Nat.zero_add, Nat.add_zero, Value.cells, wrV]; first | done | rfl) | rfl) (by first | (simp only [List.set_cons_succ, List.set_cons_zero]; first | done | rfl) | rfl) ?_
            refine sx_nil ⟨HLe.pick [1] (by simp) rfl, ?_⟩
            refine tw_p rfl ?_
            refine sv_assign rfl rfl ?_
            refine sv_nil ?_
            refine tw_nil (hZ _ _ ?_)
            refine nx_forget [(0, _), (4, _), (5, _), (6, _)] (Kn.cons rfl (Kn.cons rfl (Kn.cons rfl (Kn.cons rfl (Kn.nil))))) ?_
            repeat (with_reducible refine nx_block_normal ?_)
            exact nx_cut (⟨x.id, x.tx, []⟩, (i + 1, X2, cx - 1), (j, Y, cy)) ⟨hx, hj, by rw [show L.length - (i + 1) = L.length - i - 1 by omega]; exact hX2, hY2, Suf.next htX2, hSY, by first | (simp; done) | (simp; omega), hq.trans hb⟩ (Kn.cons rfl (Kn.cons rfl (Kn.cons rfl (Kn.cons rfl Kn.nil)))) (by rw [List.append_assoc]; exact HLe.refl _)
          · cases h1
      · have hy : j < M.length := by omega
        have hya := itAt_at hy
        have hdy := drop_itAt hy
        obtain ⟨y, hye⟩ : ∃ y, itAt M j = y := ⟨_, rfl⟩
        rw [hye] at hya hdy
        obtain ⟨gy, oy, rfl, rfl⟩ := hSY hy
        have hi0 : L.length - i = 0 := by omega
        have hdx : L.drop i = [] := List.drop_eq_nil_of_le (by omega)
        have hb := both_y y (M.drop (j + 1))
        rw [← hdy, ← hdx] at hb
        refine awp_heap (.own g1 45 [uq 0, .string (str []), .string (str [])] :: .ro gy oy (icells M) :: (roE A5 (icells L) ++ (T3 ++ Jr))) (by rw [List.append_assoc]; exact fun _ _ _ hw => hw.perm (List.Perm.cons _ (List.perm_append_comm_assoc (roE A5 (icells L)) [.ro gy oy (icells M)] (T3 ++ Jr)))) ?_

        refine awq_seq_meet [(0, .func (.yield l) #[] #[]), (4, .slice X (L.length - i) cx), (5, .slice (some ⟨gy, oy + j * 2, none⟩) (M.length - j) cy), (6, ptr g1 0), (34, .bool false)] (.own g1 45 [uq 0, .string (str []), .string (str [])] :: .ro gy oy (icells M) :: (roE A5 (icells L) ++ (T3 ++ Jr))) mixed (by kernel_rfl) (fun Z hZ => ?_) ?_
        · refine sq_move rfl rfl ?_
          refine sq_len Tryz.underlying33 rfl rfl ?_
          refine sq_eql rfl rfl rfl ?_
          refine sq_move rfl rfl ?_
          refine sq_force 38 rfl false (by first | rfl | (simp; done) | (simp; omega)) ?_
          refine sq_on rfl rfl rfl ?_
          refine sq_move rfl rfl ?_
          refine sq_on rfl rfl rfl ?_
          refine sq_len Tryz.underlying33 rfl rfl ?_
          refine sq_on rfl rfl rfl ?_
          refine sq_gtr rfl rfl rfl ?_
          refine sq_on rfl rfl rfl ?_
          refine sq_move rfl rfl ?_
          refine sq_force 42 rfl false (by simp; omega) ?_
          refine sq_off rfl rfl rfl rfl rfl ?_
          refine sq_off rfl rfl rfl rfl rfl ?_
          refine sq_off rfl rfl rfl rfl rfl ?_
          refine sq_off rfl rfl rfl rfl rfl ?_
          refine sq_off rfl rfl rfl rfl rfl ?_
          refine sq_off rfl rfl rfl rfl rfl ?_
          refine sq_off rfl rfl rfl rfl rfl ?_
          refine sq_off rfl rfl rfl rfl rfl ?_
          refine sq_off rfl rfl rfl rfl rfl ?_
          refine sq_on rfl rfl rfl ?_
          refine sq_pick rfl rfl rfl ?_
          refine sq_pick rfl rfl rfl ?_
          refine sq_assign rfl rfl ?_
          refine sq_nil (hZ _ _ ?_ ?_)
          · exact Kn.cons rfl (Kn.cons rfl (Kn.cons rfl (Kn.cons rfl (Kn.cons (congrArg some (congrArg Value.bool (by first | rfl | (simp; omega)))) Kn.nil))))
          · exact HLe.refl _
        refine awp_cond rfl (fun h1 => ?_) (fun h1 => ?_)
        · cases h1
        refine awq_seq_meet [(0, .func (.yield l) #[] #[]), (4, .slice X (L.length - i) cx), (5, .slice (some ⟨gy, oy + j * 2, none⟩) (M.length - j) cy), (6, ptr g1 0), (65, .bool true)] (.own g1 45 [uq 0, .string (str []), .string (str [])] :: .ro gy oy (icells M) :: (roE A5 (icells L) ++ (T3 ++ Jr))) mixed (by kernel_rfl) (fun Z hZ => ?_) ?_
        · refine sq_move rfl rfl ?_
          refine sq_len Tryz.underlying33 rfl rfl ?_
          refine sq_eql rfl rfl rfl ?_
          refine sq_move rfl rfl ?_
          refine sq_force 69 rfl true (by simp; omega) ?_
          refine sq_off rfl rfl rfl rfl rfl ?_
          refine sq_off rfl rfl rfl rfl rfl ?_
          refine sq_off rfl rfl rfl rfl rfl ?_
          refine sq_off rfl rfl rfl rfl rfl ?_
          refine sq_off rfl rfl rfl rfl rfl ?_
          refine sq_off rfl rfl rfl rfl rfl ?_
          refine sq_off rfl rfl rfl rfl rfl ?_
          refine sq_off rfl rfl rfl rfl rfl ?_
          refine sq_off rfl rfl rfl rfl rfl ?_
          refine sq_pick rfl rfl rfl ?_
          refine sq_assign rfl rfl ?_
          refine sq_nil (hZ _ _ ?_ ?_)
          · exact Kn.cons rfl (Kn.cons rfl (Kn.cons rfl (Kn.cons rfl (Kn.cons (congrArg some (congrArg Value.bool (by first | rfl | (simp; omega)))) Kn.nil))))
          · exact HLe.refl _
        refine awp_cond rfl (fun h2 => ?_) (fun h2 => ?_)
        · refine aww_region _ [(0, true), (1, true), (2, true), (3, true), (4, true), (5, true), (6, true), (7, true), (8, true), (9, true), (10, true), (11, false), (12, true)] mixed (by kernel_rfl) (HLe.pick [1] (by simp) (by simp only [pick, List.filterMap_cons, List.filterMap_nil, List.getElem?_cons_succ, List.getElem?_cons_zero]; rfl)) (fun Z hZ => ?_)
          refine tw_p rfl ?_
          refine sv_move rfl rfl ?_
          refine sv_nil ?_
          refine tw_p rfl ?_
          refine sv_indexAddr (oy + j * 2) Tryz.underlying33 tyS40 rfl rfl (by first | omega | (simp; omega)) (by simp) rfl ?_
          refine sv_nil ?_
          refine tw_p rfl ?_
          refine sv_fieldAddr rfl tyF40_0 (by first | (simp only [Nat.reduceAdd, Nat.add_zero, Nat.zero_add]; first | done | rfl) | rfl) rfl ?_
          refine sv_nil ?_
          refine tw_p rfl ?_
          refine sv_loadRo 0 rfl rfl (j * 2) rfl tyA38 tyS38 (icells_id hya) rfl ?_
          refine sv_nil ?_
          refine tw_p rfl ?_
          refine sv_move rfl rfl ?_
          refine sv_nil ?_
          refine tw_p rfl ?_
          refine sv_indexAddr (oy + j * 2) Tryz.underlying33 tyS40 rfl rfl (by first | omega | (simp; omega)) (by simp) rfl ?_
          refine sv_nil ?_
          refine tw_p rfl ?_
          refine sv_fieldAddr rfl tyF40_1 (by first | (simp only [Nat.reduceAdd, Nat.add_zero, Nat.zero_add]; first | done | rfl) | rfl) rfl ?_
          refine sv_nil ?_
          refine tw_p rfl ?_
          refine sv_loadRo 0 rfl rfl (j * 2 + 1) rfl tyA9 tyS9 (icells_tx hya) rfl ?_
          refine sv_nil ?_
          refine tw_p rfl ?_
          refine sv_build tyZ45 tyP45 rfl rfl (by first | (simp only [List.take_succ_cons, List.take_zero, List.drop_succ_cons, List.drop_zero, List.cons_append, List.nil_append, List.append_nil, List.length_cons, List.length_nil, Nat.reduceAdd, Nat.zero_add, Nat.add_zero, Value.cells, wrV, zrep_one, List.replicate_succ, List.replicate_zero, Nat.reduceMul, Nat.zero_mul]; first | done | rfl) | rfl) rfl ?_
          refine sv_nil ?_
          refine tw_p rfl ?_
          refine sv_move rfl rfl ?_
          refine sv_nil ?_
          refine tw_p rfl ?_
          refine sv_part (i := 1) (j := M.length - j) Tryz.underlying33 tyS40 hY2 rfl rfl rfl (by omega) hY2.cap rfl (fun Y2 hY3 htY2 => ?_)
          refine sv_nil ?_
          refine tw_g rfl ?_
          refine sx_store 0 rfl rfl rfl tyS45 (by first | (simp only [Value.cells]; first | done | rfl) | rfl) rfl rfl (by first | (simp only [List.length_cons, List.length_nil, Nat.reduceAdd, Nat.zero_add, Nat.add_zero]; first | done | rfl) | rfl) (by first | (simp only [List.take_succ_cons, List.take_zero, List.drop_succ_cons, List.drop_zero, List.cons_append, List.nil_append, List.append_nil, List.length_cons, List.length_nil, Nat.reduceAdd, Nat.zero_add, Nat.add_zero, Value.cells, wrV]; first | done | rfl) | rfl) (by first | (simp only [List.set_cons_succ, List.set_cons_zero]; first | done | rfl) | rfl) ?_
          refine sx_nil ⟨HLe.pick [1] (by simp) rfl, ?_⟩
          refine tw_p rfl ?_
          refine sv_assign rfl rfl ?_
          refine sv_nil ?_
          refine tw_nil (hZ _ _ ?_)
          refine nx_forget [(0, _), (4, _), (5, _), (6, _)] (Kn.cons rfl (Kn.cons rfl (Kn.cons rfl (Kn.cons rfl (Kn.nil))))) ?_
          repeat (with_reducible refine nx_block_normal ?_)
          exact nx_cut (⟨y.id, [], y.tx⟩, (i, X, cx), (j + 1, Y2, cy - 1)) ⟨hi, hy, hX, by rw [show M.length - (j + 1) = M.length - j - 1 by omega]; exact hY3, hSX, Suf.next htY2, by first | (simp; done) | (simp; omega), hq.trans hb⟩ (Kn.cons rfl (Kn.cons rfl (Kn.cons rfl (Kn.cons rfl Kn.nil)))) (by rw [List.append_assoc]; exact fun _ _ _ hw => hw.perm (List.Perm.cons _ (List.perm_append_comm_assoc [.ro gy oy (icells M)] (roE A5 (icells L)) (T3 ++ Jr))))
        · cases h2
    rintro ⟨ch, ⟨i2, X2, cx2⟩, ⟨j2, Y2, cy2⟩⟩ ⟨p1, p2, p3, p4, p5, p6, p7, p8⟩
    simp only at p1 p2 p3 p4 p5 p6 p7 p8
    have hka : (bothQ L M)[k]? = some ch := by
      have := congrArg (fun l => l[0]?) p8
      simpa using this
    have hkl : k < (bothQ L M).length := (List.getElem?_eq_some_iff.1 hka).1
    have hq2 : (bothQ L M).drop (k + 1) = bothQ (L.drop i2) (M.drop j2) := by
      have := congrArg List.tail p8
      simpa using this

    refine awy_seq_region (fun Z hZ => ?_)
    refine sy_x rfl ?_
    refine sx_move rfl rfl ?_
    refine sx_nil ?_
    refine sy_x rfl ?_
    first | refine sx_loadA 0 rfl rfl tyA45 tyS45 (by first | (simp only [List.length_cons, List.length_nil, Nat.reduceAdd, Nat.zero_add, Nat.add_zero]; first | done | rfl) | rfl) (by first | (simp only [List.take_succ_cons, List.take_zero, List.drop_succ_cons, List.drop_zero, List.cons_append, List.nil_append, List.append_nil, List.length_cons, List.length_nil, Nat.reduceAdd, Nat.zero_add, Nat.add_zero, Value.cells, wrV]; first | done | rfl) | rfl) rfl ?_
    refine sx_nil ?_
    refine sy_yield (.own g1 45 ch.cells :: (roE A5 (icells L) ++ roE B5 (icells M))) T3 Jr Jr (hY k _ T3 (by simp [hka]) hT3) rfl rfl rfl (List.Sublist.refl _) hJr rfl ?_
    rintro v T4 ⟨b, rfl, hb1, hb2⟩
    refine sy_x rfl ?_
    refine sx_not rfl rfl ?_
    refine sx_nil ?_
    refine sy_nil (hZ _ _ ?_)
    refine awp_forget [(0, _), (4, _), (5, _), (94, _)] (Kn.cons rfl (Kn.cons rfl (Kn.cons rfl (Kn.cons rfl (Kn.nil))))) ?_
    refine awp_cond rfl (fun h3 => ?_) (fun h3 => ?_)
    · have hb : b = false := by simpa using h3
      refine awp_ret ?_
      repeat (with_reducible (first | refine nx_then_ret ?_ | refine nx_block_ret ?_))
      exact nx_ret0h T4 rfl (wrs_fltc (A := .own g1 45 ch.cells :: (roE A5 (icells L) ++ roE B5 (icells M))) (hS T4 (hb2 hb))) (.inr (hb2 hb))
    have hb : b = true := by simpa using h3
    have hT4 := hb1 hb
    rw [(hJ _ T4 hT4).filter]
    refine awp_skip ?_
    repeat (with_reducible refine nx_block_normal ?_)
    exact nx_round ((i2, X2, cx2), (j2, Y2, cy2), k + 1, T4) ⟨p1, p2, p3, p4, p5, p6, hq2, hkl, hT4⟩ (by simp; omega) (Kn.cons rfl (Kn.cons rfl (Kn.cons rfl Kn.nil))) (HLe.drop 1 rfl)
  · have h0 : L.length - i = 0 ∧ M.length - j = 0 := by simp at hh; omega
    have hdx : L.drop i = [] := List.drop_eq_nil_of_le (by omega)
    have hdy : M.drop j = [] := List.drop_eq_nil_of_le (by omega)
    rw [hdx, hdy, bothQ] at hq
    have hke : k = (bothQ L M).length := by
      have := congrArg List.length hq
      simp at this
      omega
    subst hke
    refine awp_exit ?_
    repeat (with_reducible refine nx_then_exit ?_)
    with_reducible refine nx_block_exit ?_
    exact nx_end0h T3 rfl (HLe.sub ((List.sublist_append_left T3 Jr).trans (List.sublist_append_right _ _))) (.inl hT3)
end Go.Proofs.YtahmhcmfeloclaaGreat

namespace Go.Proofs.YtahmhcmfeloclaaGreat
open Go.RowKit
set_option linter.unusedVariables false
set_option linter.unusedSimpArgs false
theorem flt_take {L : List Chg} {k : Nat} {x : Chg} (h : L[k]? = some x) : (L.take (k + 1)).filter difQ = (L.take k).filter difQ ++ (if difQ x then [x] else []) := by
  rw [List.take_add_one, h, List.filter_append]
  congr 1
  simp [List.filter_cons]
theorem gbet_fn (A : Option Addr) (c : Nat) (L : List It) (B : Option Addr) (d : Nat) (M : List It) (hA : SlIn A L.length c) (hB : SlIn B M.length d) (hL : L.length ≤ 100000) (hM : M.length ≤ 100000) :
    Fn Tryz.prog 10 [chV A L.length c, chV B M.length d] (roE A (icells L) ++ roE B (icells M)) fun v H' => RowOk v (betQ L M).length ∧ H' = rowE v 45 3 (gcells (betQ L M)) := by
  have hbl := both_len _ L M (Nat.le_refl _)
  obtain ⟨T, hT⟩ : ∃ T, T = roE A (icells L) ++ roE B (icells M) := ⟨_, rfl⟩
  have hit := fun ga gb => both_it ga gb A c L B d M hA hB hL hM
  have hTro : Ro T := by rw [hT]; exact (Ro.roE _ _).append (Ro.roE _ _)
  rw [← hT] at hit ⊢
  refine Fn.enterM (n := 21) Tryz.func10 rfl (by kernel_rfl) rfl (fun w0 => ?_)

  refine awp_seq_region (fun Z hZ => ?_)
  refine sx_box rfl rfl rfl (fun g1 => ?_)
  refine sx_box rfl rfl rfl (fun g2 => ?_)
  refine sx_assign rfl rfl ?_
  refine sx_nil (hZ _ _ ?_)
  refine awp_forget [(2, _), (3, _)] (Kn.cons rfl (Kn.cons rfl (Kn.nil))) ?_

  refine awp_seq_region (fun Z hZ => ?_)
  refine sx_alloc tyZ23 rfl (fun g3 => ?_)
  refine sx_nil (hZ _ _ ?_)
  refine awp_forget [(2, _), (3, _), (5, _)] (Kn.cons rfl (Kn.cons rfl (Kn.cons rfl (Kn.nil)))) ?_

  refine awp_seq ?_
  refine awp_seq_region (fun Z hZ => ?_)
  refine sx_loadA 2 rfl rfl tyA35 tyS35 (by first | (simp only [List.length_cons, List.length_nil, Nat.reduceAdd, Nat.zero_add, Nat.add_zero]; first | done | rfl) | rfl) (by first | (simp only [List.take_succ_cons, List.take_zero, List.drop_succ_cons, List.drop_zero, List.cons_append, List.nil_append, List.append_nil, List.length_cons, List.length_nil, Nat.reduceAdd, Nat.zero_add, Nat.add_zero, Value.cells, wrV]; first | done | rfl) | rfl) rfl ?_
  refine sx_loadA 1 rfl rfl tyA35 tyS35 (by first | (simp only [List.length_cons, List.length_nil, Nat.reduceAdd, Nat.zero_add, Nat.add_zero]; first | done | rfl) | rfl) (by first | (simp only [List.take_succ_cons, List.take_zero, List.drop_succ_cons, List.drop_zero, List.cons_append, List.nil_append, List.append_nil, List.length_cons, List.length_nil, Nat.reduceAdd, Nat.zero_add, Nat.add_zero, Value.cells, wrV]; first | done | rfl) | rfl) rfl ?_
  refine sx_callO [] _ (gboth_fn A L.length c B M.length d) rfl (HLe.refl _) rfl ?_
  rintro v H' ⟨ga, gb, rfl, rfl⟩
  refine sx_nil (hZ _ _ ?_)
  refine awp_forget [(5, _), (9, _)] (Kn.cons rfl (Kn.cons rfl (Kn.nil))) ?_
  refine awp_heap ([.own g3 23 [.slice none 0 0]] ++ ((.ro ga 0 [.slice A L.length c] :: .ro gb 0 [.slice B M.length d] :: T) ++ [])) (by
    rw [List.append_nil]
    refine (HLe.toRo (t := 35) [_] _).trans ?_
    refine (HLe.toRo (t := 35) [_, _] _).trans ?_
    exact fun _ _ _ hw => (hw.sub (.cons_cons _ (.cons_cons _ (.cons_cons _ (.cons _ (.cons _ (List.Sublist.refl T))))))).perm ((List.Perm.swap _ _ _).trans (((List.Perm.swap _ _ _).cons _).trans (List.Perm.swap _ _ _)))) ?_
  refine awp_block ?_
  refine awp_range (fun k H => ∃ v, RowOk v (((bothQ L M).take k).filter difQ).length ∧ H = .own g3 23 [v] :: rowE v 45 3 (gcells (((bothQ L M).take k).filter difQ))) [] (fun _ _ => False) [.own g3 23 [.slice none 0 0]] (hit ga gb) rfl (fun k H ⟨v, _, h⟩ => by subst h; exact .cons rfl (rowE_wrs _ _ _ _)) (fun _ _ h => h.elim) Ro.nil (fun x hx => by rcases List.mem_cons.1 hx with rfl | hx; rfl; rcases List.mem_cons.1 hx with rfl | hx; rfl; exact hTro x hx) (fun k vs h => by rw [List.getElem?_map] at h; cases hk : (bothQ L M)[k]? with | none => rw [hk] at h; cases h | some x => rw [hk] at h; obtain rfl := Option.some.inj h; rfl) rfl ⟨_, RowOk.nil, rfl⟩ (HLe.refl _) rfl ?_ ?_ (fun _ _ _ h => h.elim)
  · rintro k vs H hk ⟨v, hv, rfl⟩ l w1
    rw [List.getElem?_map] at hk
    cases hkx : (bothQ L M)[k]? with
    | none => rw [hkx] at hk; cases hk
    | some x =>
      rw [hkx] at hk
      obtain rfl := Option.some.inj hk
      have hlt : k < (bothQ L M).length := (List.getElem?_eq_some_iff.1 hkx).1
      have htk := flt_take hkx
      have hfl : (((bothQ L M).take k).filter difQ).length ≤ 200000 := Nat.le_trans (List.length_filter_le _ _) (by rw [List.length_take]; omega)
      obtain ⟨F, hF⟩ : ∃ F, ((bothQ L M).take k).filter difQ = F := ⟨_, rfl⟩
      rw [hF] at hv htk hfl ⊢

      refine awp_region (fun Z hZ => ?_)
      refine sx_alloc tyZ45 rfl (fun g4 => ?_)
      refine sx_store 0 rfl rfl rfl tyS45 (by first | (simp only [Value.cells]; first | done | rfl) | rfl) rfl rfl (by first | (simp only [List.length_cons, List.length_nil, Nat.reduceAdd, Nat.zero_add, Nat.add_zero]; first | done | rfl) | rfl) (by first | (simp only [List.take_succ_cons, List.take_zero, List.drop_succ_cons, List.drop_zero, List.cons_append, List.nil_append, List.append_nil, List.length_cons, List.length_nil, Nat.reduceAdd, Nat.zero_add, Nat.add_zero, Value.cells, wrV]; first | done | rfl) | rfl) (by first | (simp only [List.set_cons_succ, List.set_cons_zero]; first | done | rfl) | rfl) ?_
      refine sx_nil (hZ _ _ ?_)
      refine nx_forget [(5, _), (6, _)] (Kn.cons rfl (Kn.cons rfl (Kn.nil))) ?_
      refine nx_assign [_] (.cons rfl .nil) (HLe.refl _) fun w2 => ?_
      refine awp_block ?_
      refine awp_heap (.own g4 45 x.cells :: .own g3 23 [v] :: rowE v 45 3 (gcells F)) (by rw [List.append_nil]; exact HLe.refl _) ?_

      refine awp_seq_region (fun Z hZ => ?_)
      refine sx_fieldAddr rfl tyF45_1 (by first | (simp only [Nat.reduceAdd, Nat.add_zero, Nat.zero_add]; first | done | rfl) | rfl) rfl ?_
      refine sx_load 0 rfl rfl tyA9 tyS9 rfl rfl ?_
      refine sx_fieldAddr rfl tyF45_2 (by first | (simp only [Nat.reduceAdd, Nat.add_zero, Nat.zero_add]; first | done | rfl) | rfl) rfl ?_
      refine sx_load 0 rfl rfl tyA9 tyS9 rfl rfl ?_
      refine sx_sneq rfl rfl rfl ?_
      refine sx_nil (hZ _ _ ?_)
      refine awp_forget [(5, _), (6, _), (15, _)] (Kn.cons rfl (Kn.cons rfl (Kn.cons rfl (Kn.nil)))) ?_
      refine awp_cond rfl (fun h => ?_) (fun h => ?_)
      · have hd : difQ x = true := by unfold difQ; simpa using h
        rw [hd, if_pos rfl] at htk
        refine awp_region (fun Z hZ => ?_)
        refine sx_load 1 rfl rfl tyA23 tyS23 rfl rfl ?_
        refine sx_loadA 0 rfl rfl tyA45 tyS45 (by first | (simp only [List.length_cons, List.length_nil, Nat.reduceAdd, Nat.zero_add, Nat.add_zero]; first | done | rfl) | rfl) (by first | (simp only [List.take_succ_cons, List.take_zero, List.drop_succ_cons, List.drop_zero, List.cons_append, List.nil_append, List.append_nil, List.length_cons, List.length_nil, Nat.reduceAdd, Nat.zero_add, Nat.add_zero, Value.cells, wrV]; first | done | rfl) | rfl) rfl ?_
        refine sx_buildSlice Tryz.underlying23 tyS45 tyZ45 rfl rfl rfl rfl (by first | (simp only [List.take_succ_cons, List.take_zero, List.drop_succ_cons, List.drop_zero, List.cons_append, List.nil_append, List.append_nil, List.length_cons, List.length_nil, Nat.reduceAdd, Nat.zero_add, Nat.add_zero, Value.cells, wrV, zrep_one, List.replicate_succ, List.replicate_zero, Nat.reduceMul, Nat.zero_mul]; first | done | rfl) | rfl) rfl (fun g5 => ?_)
        refine sx_appendE [_, _, _] elemG rfl hv (by rw [gcells_len]) rfl (fun w hw => rd_own (i := 0) (xs := x.cells) rfl rfl hw) rfl (by show _ ≤ 9223372036854775807; omega) (by omega) (HLe.refl _) rfl (fun v2 hv2 => ?_)
        obtain ⟨g6, c6, rfl⟩ := hv2.some (by omega)
        refine sx_store1 2 rfl rfl rfl tyS23 rfl (by first | (simp only [List.length_cons, List.length_nil, Nat.reduceAdd, Nat.zero_add, Nat.add_zero]; first | done | rfl) | rfl) (by first | (simp only [List.set_cons_succ, List.set_cons_zero, Nat.reduceAdd, Nat.add_zero, Nat.zero_add]; first | done | rfl) | rfl) (by first | (simp only [List.set_cons_succ, List.set_cons_zero]; first | done | rfl) | rfl) ?_
        refine sx_nil (hZ _ _ ?_)
        refine nx_forget [] (Kn.nil) ?_
        repeat (with_reducible refine nx_block_normal ?_)
        refine nx_next _ ⟨.slice (some ⟨g6, 0, none⟩) (F.length + 1) c6, ?_, rfl⟩ ?_
        · rw [htk, List.length_append]; exact RowOk.mk _ _ _
        · rw [htk, show gcells (F ++ [x]) = gcells F ++ x.cells by simp [gcells]]
          exact HLe.drop 2 rfl
      · have hd : difQ x = false := by
          cases hdx : difQ x with
          | false => rfl
          | true => unfold difQ at hdx; simp at hdx h; exact absurd h hdx
        rw [hd, if_neg (by simp), List.append_nil] at htk
        refine awp_skip ?_
        repeat (with_reducible refine nx_block_normal ?_)
        exact nx_next _ ⟨v, by rw [htk]; exact hv, rfl⟩ (by rw [htk]; exact HLe.drop 1 rfl)
  · rintro D H ⟨v, hv, rfl⟩
    rw [List.length_map, List.take_length] at hv ⊢
    refine nx_block_normal ?_
    with_reducible refine nx_normalM ?_

    refine awp_seq_region (fun Z hZ => ?_)
    refine sx_load 1 rfl rfl tyA23 tyS23 rfl rfl ?_
    refine sx_assign rfl rfl ?_
    refine sx_nil (hZ _ _ ?_)
    refine awp_forget [(4, _)] (Kn.cons rfl (Kn.nil)) ?_
    refine awp_ret ?_
    exact nx_unmark [0] ⟨rfl, trivial⟩ (nx_ret1h (rowE v 45 3 (gcells (betQ L M))) rfl rfl (HLe.sub (.cons _ (List.sublist_append_left _ _))) ⟨hv, rfl⟩)
def mkP (x : Chg) (O : List It) : Prop := mkE x O = 0 ∧ (x.new = [] → cHas x.id O = true)
theorem mk_same {x : Chg} {O : List It} (h : ¬ mkP x O) : mkO x O = O := by
  unfold mkP mkE at h
  unfold mkO
  split
  · rename_i h1
    rw [if_pos h1] at h
    split
    · rename_i h2
      rw [if_pos h2] at h
      exact del_same fun hh => h ⟨rfl, fun _ => hh⟩
    · rename_i h2
      rw [if_neg h2] at h
      exact putQ_old fun hh => h ⟨hh, fun h3 => absurd h3 h2⟩
  · rfl
theorem gmake_fn (A : Option Addr) (c : Nat) (O : List It) (x : Chg) (hA : SlIn A O.length c) (hok : ChOk O) :
    Fn Tryz.prog 22 [x.val, chV A O.length c] (roE A (icells O)) fun v H' => ∃ u, v = .tuple #[.agg #[u], iq (mkE x O)] ∧ ((mkP x O ∧ RowOk u (mkO x O).length ∧ H' = rowE u 40 2 (icells (mkO x O))) ∨ (¬ mkP x O ∧ u = .slice A O.length c ∧ H' = [])) := by
  have hll := hok.len
  have hput := put_fn2 A c O (roE A (icells O)) hA (fun _ => rfl) (Ro.roE _ _) (by omega) hok.rise x.id x.new
  have hdel := del_fn2 A c O (roE A (icells O)) hA (fun _ => rfl) (Ro.roE _ _) (by omega) hok.rise x.id
  refine Fn.enter (N := 37) Tryz.func22 rfl (by kernel_rfl) rfl (fun w0 => ?_)

  refine awp_seq_region (fun Z hZ => ?_)
  refine sx_box rfl rfl rfl (fun g1 => ?_)
  refine sx_box rfl rfl rfl (fun g2 => ?_)
  refine sx_alloc tyZ35 rfl (fun g3 => ?_)
  refine sx_assign rfl rfl ?_
  refine sx_nil (hZ _ _ ?_)
  refine awp_forget [(2, _), (3, _), (4, _)] (Kn.cons rfl (Kn.cons rfl (Kn.cons rfl (Kn.nil)))) ?_

  refine awp_seq_region (fun Z hZ => ?_)
  refine sx_loadA 1 rfl rfl tyA35 tyS35 (by first | (simp only [List.length_cons, List.length_nil, Nat.reduceAdd, Nat.zero_add, Nat.add_zero]; first | done | rfl) | rfl) (by first | (simp only [List.take_succ_cons, List.take_zero, List.drop_succ_cons, List.drop_zero, List.cons_append, List.nil_append, List.append_nil, List.length_cons, List.length_nil, Nat.reduceAdd, Nat.zero_add, Nat.add_zero, Value.cells, wrV]; first | done | rfl) | rfl) rfl ?_
  refine sx_fieldAddr rfl tyF45_0 (by first | (simp only [Nat.reduceAdd, Nat.add_zero, Nat.zero_add]; first | done | rfl) | rfl) rfl ?_
  refine sx_load 2 rfl rfl tyA38 tyS38 rfl rfl ?_
  refine sx_cget O x.id hA (by repeat (first | exact List.Sublist.refl _ | exact List.nil_sublist _ | exact List.sublist_append_right _ _ | refine List.Sublist.trans ?_ (List.sublist_append_left _ _) | exact List.Sublist.cons_cons _ (List.nil_sublist _) | refine List.Sublist.cons _ ?_)) hok rfl rfl ?_
  refine sx_move rfl rfl ?_
  refine sx_extract rfl rfl rfl ?_
  refine sx_extract rfl rfl rfl ?_
  refine sx_assign rfl rfl ?_
  refine sx_assign rfl rfl ?_
  refine sx_nil (hZ _ _ ?_)
  refine awp_forget [(2, _), (3, _), (4, _), (6, _)] (Kn.cons rfl (Kn.cons rfl (Kn.cons rfl (Kn.cons rfl (Kn.nil))))) ?_
  refine awp_seq (awp_block ?_)
  refine awp_seq_region (fun Z hZ => ?_)
  refine sx_move rfl rfl ?_
  refine sx_fieldAddr rfl tyF45_1 (by first | (simp only [Nat.reduceAdd, Nat.add_zero, Nat.zero_add]; first | done | rfl) | rfl) rfl ?_
  refine sx_load 2 rfl rfl tyA9 tyS9 rfl rfl ?_
  refine sx_sneq rfl rfl rfl ?_
  refine sx_assign rfl rfl ?_
  refine sx_nil (hZ _ _ ?_)
  refine awp_forget [(2, _), (3, _), (4, _), (15, _)] (Kn.cons rfl (Kn.cons rfl (Kn.cons rfl (Kn.cons rfl (Kn.nil))))) ?_
  refine awp_cond rfl (fun h => ?_) (fun h => ?_)
  · have h' : ¬ cGet x.id O = x.old := by simpa using h
    have e9 : mkE x O = 9 := by unfold mkE; rw [if_neg h']
    rw [e9]
    refine awp_seq_region (fun Z hZ => ?_)
    refine sx_loadA 1 rfl rfl tyA35 tyS35 (by first | (simp only [List.length_cons, List.length_nil, Nat.reduceAdd, Nat.zero_add, Nat.add_zero]; first | done | rfl) | rfl) (by first | (simp only [List.take_succ_cons, List.take_zero, List.drop_succ_cons, List.drop_zero, List.cons_append, List.nil_append, List.append_nil, List.length_cons, List.length_nil, Nat.reduceAdd, Nat.zero_add, Nat.add_zero, Value.cells, wrV]; first | done | rfl) | rfl) rfl ?_
    refine sx_store 0 rfl rfl rfl tyS35 (by first | (simp only [Value.cells]; first | done | rfl) | rfl) rfl rfl (by first | (simp only [List.length_cons, List.length_nil, Nat.reduceAdd, Nat.zero_add, Nat.add_zero]; first | done | rfl) | rfl) (by first | (simp only [List.take_succ_cons, List.take_zero, List.drop_succ_cons, List.drop_zero, List.cons_append, List.nil_append, List.append_nil, List.length_cons, List.length_nil, Nat.reduceAdd, Nat.zero_add, Nat.add_zero, Value.cells, wrV]; first | done | rfl) | rfl) (by first | (simp only [List.set_cons_succ, List.set_cons_zero]; first | done | rfl) | rfl) ?_
    refine sx_assign rfl rfl ?_
    refine sx_nil (hZ _ _ ?_)
    refine awp_forget [(4, _), (5, _)] (Kn.cons rfl (Kn.cons rfl (Kn.nil))) ?_
    refine awp_ret ?_
    repeat (with_reducible (first | refine nx_then_ret ?_ | refine nx_block_ret ?_))
    exact nx_ret2h [] rfl (ResOk.cell 0 rfl rfl tyA35 tyS35 rfl) rfl (HLe.sub (List.nil_sublist _)) ⟨_, rfl, .inr ⟨fun hp => absurd (hp.1.symm.trans e9) (by decide), rfl, rfl⟩⟩
  have h' : cGet x.id O = x.old := by simpa using h
  refine awp_seq_region (fun Z hZ => ?_)
  refine sx_fieldAddr rfl tyF45_2 (by first | (simp only [Nat.reduceAdd, Nat.add_zero, Nat.zero_add]; first | done | rfl) | rfl) rfl ?_
  refine sx_load 2 rfl rfl tyA9 tyS9 rfl rfl ?_
  refine sx_seql rfl rfl rfl ?_
  refine sx_assign rfl rfl ?_
  refine sx_nil (hZ _ _ ?_)
  refine awp_forget [(2, _), (3, _), (4, _), (21, _)] (Kn.cons rfl (Kn.cons rfl (Kn.cons rfl (Kn.cons rfl (Kn.nil))))) ?_
  refine awp_cond rfl (fun h2 => ?_) (fun h2 => ?_)
  · have hn : x.new = [] := by simpa using h2
    have e0 : mkE x O = 0 := by unfold mkE; rw [if_pos h', if_pos hn]
    have eO : mkO x O = cDel x.id O := by unfold mkO; rw [if_pos h', if_pos hn]
    rw [e0]
    by_cases hh : cHas x.id O = true
    · refine awp_seq_region (fun Z hZ => ?_)
      refine sx_loadA 1 rfl rfl tyA35 tyS35 (by first | (simp only [List.length_cons, List.length_nil, Nat.reduceAdd, Nat.zero_add, Nat.add_zero]; first | done | rfl) | rfl) (by first | (simp only [List.take_succ_cons, List.take_zero, List.drop_succ_cons, List.drop_zero, List.cons_append, List.nil_append, List.append_nil, List.length_cons, List.length_nil, Nat.reduceAdd, Nat.zero_add, Nat.add_zero, Value.cells, wrV]; first | done | rfl) | rfl) rfl ?_
      refine sx_fieldAddr rfl tyF45_0 (by first | (simp only [Nat.reduceAdd, Nat.add_zero, Nat.zero_add]; first | done | rfl) | rfl) rfl ?_
      refine sx_load 2 rfl rfl tyA38 tyS38 rfl rfl ?_
      refine sx_callVU (roE A (icells O)) hdel rfl (HLe.sub (by repeat (first | exact List.Sublist.refl _ | exact List.nil_sublist _ | exact List.sublist_append_right _ _ | refine List.Sublist.trans ?_ (List.sublist_append_left _ _) | exact List.Sublist.cons_cons _ (List.nil_sublist _) | refine List.Sublist.cons _ ?_))) (Ro.roE _ _) rfl ?_
      rintro v H' ⟨u, rfl, ⟨hp, hu, rfl⟩ | ⟨hp, rfl, rfl⟩⟩
      rotate_left
      exact absurd hh hp
      rw [rowE_flt]
      refine sx_heap _ (HLe.swap _ _) ?_
      obtain ⟨A2, c2, rfl, _⟩ := hu.form
      refine sx_store 0 rfl rfl rfl tyS35 (by first | (simp only [Value.cells]; first | done | rfl) | rfl) rfl rfl (by first | (simp only [List.length_cons, List.length_nil, Nat.reduceAdd, Nat.zero_add, Nat.add_zero]; first | done | rfl) | rfl) (by first | (simp only [List.take_succ_cons, List.take_zero, List.drop_succ_cons, List.drop_zero, List.cons_append, List.nil_append, List.append_nil, List.length_cons, List.length_nil, Nat.reduceAdd, Nat.zero_add, Nat.add_zero, Value.cells, wrV]; first | done | rfl) | rfl) (by first | (simp only [List.set_cons_succ, List.set_cons_zero]; first | done | rfl) | rfl) ?_
      refine sx_assign rfl rfl ?_
      refine sx_nil (hZ _ _ ?_)
      refine awp_forget [(4, _), (5, _)] (Kn.cons rfl (Kn.cons rfl (Kn.nil))) ?_
      refine awp_ret ?_
      repeat (with_reducible (first | refine nx_then_ret ?_ | refine nx_block_ret ?_))
      exact nx_ret2h (rowE _ 40 2 (icells (cDel x.id O))) rfl (ResOk.cell 0 rfl rfl tyA35 tyS35 rfl) rfl (HLe.sub (List.sublist_append_right (_ :: _ :: _ :: _) _)) ⟨_, rfl, .inl ⟨⟨e0, fun _ => hh⟩, by rw [eO]; exact hu, by rw [eO]⟩⟩
    · refine awp_seq_region (fun Z hZ => ?_)
      refine sx_loadA 1 rfl rfl tyA35 tyS35 (by first | (simp only [List.length_cons, List.length_nil, Nat.reduceAdd, Nat.zero_add, Nat.add_zero]; first | done | rfl) | rfl) (by first | (simp only [List.take_succ_cons, List.take_zero, List.drop_succ_cons, List.drop_zero, List.cons_append, List.nil_append, List.append_nil, List.length_cons, List.length_nil, Nat.reduceAdd, Nat.zero_add, Nat.add_zero, Value.cells, wrV]; first | done | rfl) | rfl) rfl ?_
      refine sx_fieldAddr rfl tyF45_0 (by first | (simp only [Nat.reduceAdd, Nat.add_zero, Nat.zero_add]; first | done | rfl) | rfl) rfl ?_
      refine sx_load 2 rfl rfl tyA38 tyS38 rfl rfl ?_
      refine sx_callVU (roE A (icells O)) hdel rfl (HLe.sub (by repeat (first | exact List.Sublist.refl _ | exact List.nil_sublist _ | exact List.sublist_append_right _ _ | refine List.Sublist.trans ?_ (List.sublist_append_left _ _) | exact List.Sublist.cons_cons _ (List.nil_sublist _) | refine List.Sublist.cons _ ?_))) (Ro.roE _ _) rfl ?_
      rintro v H' ⟨u, rfl, ⟨hp, hu, rfl⟩ | ⟨hp, rfl, rfl⟩⟩
      exact absurd hp hh
      refine sx_heap _ (HLe.refl _) ?_
      refine sx_store 0 rfl rfl rfl tyS35 (by first | (simp only [Value.cells]; first | done | rfl) | rfl) rfl rfl (by first | (simp only [List.length_cons, List.length_nil, Nat.reduceAdd, Nat.zero_add, Nat.add_zero]; first | done | rfl) | rfl) (by first | (simp only [List.take_succ_cons, List.take_zero, List.drop_succ_cons, List.drop_zero, List.cons_append, List.nil_append, List.append_nil, List.length_cons, List.length_nil, Nat.reduceAdd, Nat.zero_add, Nat.add_zero, Value.cells, wrV]; first | done | rfl) | rfl) (by first | (simp only [List.set_cons_succ, List.set_cons_zero]; first | done | rfl) | rfl) ?_
      refine sx_assign rfl rfl ?_
      refine sx_nil (hZ _ _ ?_)
      refine awp_forget [(4, _), (5, _)] (Kn.cons rfl (Kn.cons rfl (Kn.nil))) ?_
      refine awp_ret ?_
      repeat (with_reducible (first | refine nx_then_ret ?_ | refine nx_block_ret ?_))
      exact nx_ret2h [] rfl (ResOk.cell 0 rfl rfl tyA35 tyS35 rfl) rfl (HLe.sub (List.nil_sublist _)) ⟨_, rfl, .inr ⟨fun hp => hh (hp.2 hn), rfl, rfl⟩⟩
  have hn : ¬ x.new = [] := by simpa using h2
  have e0 : mkE x O = putE x.id x.new O := by unfold mkE; rw [if_pos h', if_neg hn]
  have eO : mkO x O = putQ x.id x.new O := by unfold mkO; rw [if_pos h', if_neg hn]
  refine awp_skip ?_
  repeat (with_reducible refine nx_block_normal ?_)
  with_reducible refine nx_normal ?_
  rw [e0]
  obtain ⟨e, he⟩ : ∃ e, putE x.id x.new O = e := ⟨_, rfl⟩
  by_cases hz : putE x.id x.new O = 0
  · rw [he] at hput ⊢
    have hze : e = 0 := he.symm.trans hz
    refine awp_seq_region (fun Z hZ => ?_)
    refine sx_loadA 1 rfl rfl tyA35 tyS35 (by first | (simp only [List.length_cons, List.length_nil, Nat.reduceAdd, Nat.zero_add, Nat.add_zero]; first | done | rfl) | rfl) (by first | (simp only [List.take_succ_cons, List.take_zero, List.drop_succ_cons, List.drop_zero, List.cons_append, List.nil_append, List.append_nil, List.length_cons, List.length_nil, Nat.reduceAdd, Nat.zero_add, Nat.add_zero, Value.cells, wrV]; first | done | rfl) | rfl) rfl ?_
    refine sx_fieldAddr rfl tyF45_0 (by first | (simp only [Nat.reduceAdd, Nat.add_zero, Nat.zero_add]; first | done | rfl) | rfl) rfl ?_
    refine sx_load 2 rfl rfl tyA38 tyS38 rfl rfl ?_
    refine sx_fieldAddr rfl tyF45_2 (by first | (simp only [Nat.reduceAdd, Nat.add_zero, Nat.zero_add]; first | done | rfl) | rfl) rfl ?_
    refine sx_load 2 rfl rfl tyA9 tyS9 rfl rfl ?_
    refine sx_callVU (roE A (icells O)) hput rfl (HLe.sub (by repeat (first | exact List.Sublist.refl _ | exact List.nil_sublist _ | exact List.sublist_append_right _ _ | refine List.Sublist.trans ?_ (List.sublist_append_left _ _) | exact List.Sublist.cons_cons _ (List.nil_sublist _) | refine List.Sublist.cons _ ?_))) (Ro.roE _ _) rfl ?_
    rintro v H' ⟨u, rfl, ⟨hp, hu, rfl⟩ | ⟨hp, rfl, rfl⟩⟩
    rotate_left
    exact absurd hze hp
    rw [rowE_flt]
    refine sx_heap _ (HLe.swap _ _) ?_
    obtain ⟨A2, c2, rfl, _⟩ := hu.form
    refine sx_extract rfl rfl rfl ?_
    refine sx_extract rfl rfl rfl ?_
    refine sx_store 0 rfl rfl rfl tyS35 (by first | (simp only [Value.cells]; first | done | rfl) | rfl) rfl rfl (by first | (simp only [List.length_cons, List.length_nil, Nat.reduceAdd, Nat.zero_add, Nat.add_zero]; first | done | rfl) | rfl) (by first | (simp only [List.take_succ_cons, List.take_zero, List.drop_succ_cons, List.drop_zero, List.cons_append, List.nil_append, List.append_nil, List.length_cons, List.length_nil, Nat.reduceAdd, Nat.zero_add, Nat.add_zero, Value.cells, wrV]; first | done | rfl) | rfl) (by first | (simp only [List.set_cons_succ, List.set_cons_zero]; first | done | rfl) | rfl) ?_
    refine sx_assign rfl rfl ?_
    refine sx_nil (hZ _ _ ?_)
    refine awp_forget [(4, _), (5, _)] (Kn.cons rfl (Kn.cons rfl (Kn.nil))) ?_
    refine awp_ret ?_
    exact nx_ret2h (rowE _ 40 2 (icells (cPut x.id x.new O))) rfl (ResOk.cell 0 rfl rfl tyA35 tyS35 rfl) rfl (HLe.sub (List.sublist_append_right (_ :: _ :: _ :: _) _)) ⟨_, rfl, .inl ⟨⟨e0.trans hz, fun h3 => absurd h3 hn⟩, by rw [eO, putQ_new hz]; exact hu, by rw [eO, putQ_new hz]⟩⟩
  · rw [he] at hput ⊢
    have hze : ¬ e = 0 := fun h => hz (he.trans h)
    refine awp_seq_region (fun Z hZ => ?_)
    refine sx_loadA 1 rfl rfl tyA35 tyS35 (by first | (simp only [List.length_cons, List.length_nil, Nat.reduceAdd, Nat.zero_add, Nat.add_zero]; first | done | rfl) | rfl) (by first | (simp only [List.take_succ_cons, List.take_zero, List.drop_succ_cons, List.drop_zero, List.cons_append, List.nil_append, List.append_nil, List.length_cons, List.length_nil, Nat.reduceAdd, Nat.zero_add, Nat.add_zero, Value.cells, wrV]; first | done | rfl) | rfl) rfl ?_
    refine sx_fieldAddr rfl tyF45_0 (by first | (simp only [Nat.reduceAdd, Nat.add_zero, Nat.zero_add]; first | done | rfl) | rfl) rfl ?_
    refine sx_load 2 rfl rfl tyA38 tyS38 rfl rfl ?_
    refine sx_fieldAddr rfl tyF45_2 (by first | (simp only [Nat.reduceAdd, Nat.add_zero, Nat.zero_add]; first | done | rfl) | rfl) rfl ?_
    refine sx_load 2 rfl rfl tyA9 tyS9 rfl rfl ?_
    refine sx_callVU (roE A (icells O)) hput rfl (HLe.sub (by repeat (first | exact List.Sublist.refl _ | exact List.nil_sublist _ | exact List.sublist_append_right _ _ | refine List.Sublist.trans ?_ (List.sublist_append_left _ _) | exact List.Sublist.cons_cons _ (List.nil_sublist _) | refine List.Sublist.cons _ ?_))) (Ro.roE _ _) rfl ?_
    rintro v H' ⟨u, rfl, ⟨hp, hu, rfl⟩ | ⟨hp, rfl, rfl⟩⟩
    exact absurd hp hze
    refine sx_heap _ (HLe.refl _) ?_
    refine sx_extract rfl rfl rfl ?_
    refine sx_extract rfl rfl rfl ?_
    refine sx_store 0 rfl rfl rfl tyS35 (by first | (simp only [Value.cells]; first | done | rfl) | rfl) rfl rfl (by first | (simp only [List.length_cons, List.length_nil, Nat.reduceAdd, Nat.zero_add, Nat.add_zero]; first | done | rfl) | rfl) (by first | (simp only [List.take_succ_cons, List.take_zero, List.drop_succ_cons, List.drop_zero, List.cons_append, List.nil_append, List.append_nil, List.length_cons, List.length_nil, Nat.reduceAdd, Nat.zero_add, Nat.add_zero, Value.cells, wrV]; first | done | rfl) | rfl) (by first | (simp only [List.set_cons_succ, List.set_cons_zero]; first | done | rfl) | rfl) ?_
    refine sx_assign rfl rfl ?_
    refine sx_nil (hZ _ _ ?_)
    refine awp_forget [(4, _), (5, _)] (Kn.cons rfl (Kn.cons rfl (Kn.nil))) ?_
    refine awp_ret ?_
    exact nx_ret2h [] rfl (ResOk.cell 0 rfl rfl tyA35 tyS35 rfl) rfl (HLe.sub (List.nil_sublist _)) ⟨_, rfl, .inr ⟨fun hp => hz (e0 ▸ hp.1), rfl, rfl⟩⟩
end Go.Proofs.YtahmhcmfeloclaaGreat
