/- Walks and plain laws for this claim (texts Gdf1, joined). Each theorem states its own conditions. -/
import Derived.Test.YtkojkeabelckjaaGreatDoorJ11
import Derived.Test.YtkojkeabelckjaaGreatDoorJ12

set_option linter.all false
namespace Go.Proofs.YtkojkeabelckjaaGreatDoor
open Go.RowKit
structure Chg where
 id : Nat
 old : List UInt8
 new : List UInt8
abbrev Chg.cells (e : Chg) : List Value := [uq e.id, .string (str e.old), .string (str e.new)]
abbrev Chg.val (e : Chg) : Value := .agg e.cells.toArray
abbrev gcells (L : List Chg) : List Value := L.flatMap Chg.cells
theorem cg_len (e : Chg) : e.cells.length = 3 := rfl
theorem gcells_len (L : List Chg) : (gcells L).length = L.length * 3 := fm_len cg_len L
theorem gcells_all {L : List Chg} {i : Nat} {x : Chg} (h : L[i]? = some x) : rdV true 3 (gcells L) (i * 3) = some x.val := fm_rd cg_len h
def chAt (L : List Chg) (i : Nat) : Chg := (L[i]?).getD ⟨0, [], []⟩
theorem chAt_at {L : List Chg} {i : Nat} (h : i < L.length) : L[i]? = some (chAt L i) := by simp [chAt, List.getElem?_eq_getElem h]
def jG1 : List It → List It → List Chg
 | [], [] => []
 | x :: xs, [] => ⟨x.id, x.tx, []⟩ :: jG1 xs []
 | [], y :: ys => ⟨y.id, [], y.tx⟩ :: jG1 [] ys
 | x :: xs, y :: ys => if x.id < y.id then ⟨x.id, x.tx, []⟩ :: jG1 xs (y :: ys) else if y.id < x.id then ⟨y.id, [], y.tx⟩ :: jG1 (x :: xs) ys else ⟨x.id, x.tx, y.tx⟩ :: jG1 xs ys
termination_by a b => a.length + b.length
def difQ (x : Chg) : Bool := decide (x.old ≠ x.new)
def betQ (a b : List It) : List Chg := (jG1 a b).filter difQ
def RiseC (L : List Chg) : Prop := L.Pairwise fun a b => a.id < b.id
theorem rget_lt {L : List It} {k : Nat} (h : ∀ e ∈ L, k < e.id) : rGet k L = none := rGet_none fun e he => Nat.ne_of_gt (h e he)
theorem rise_cons {x : It} {xs : List It} (h : Rise (x :: xs)) : (∀ e ∈ xs, x.id < e.id) ∧ Rise xs := List.pairwise_cons.1 h
theorem rget_cons (k : Nat) (x : It) (xs : List It) : rGet k (x :: xs) = if x.id = k then some x.tx else rGet k xs := rfl
theorem both_mem : ∀ (n : Nat) (a b : List It), a.length + b.length ≤ n → Rise a → Rise b → RiseC (jG1 a b) ∧ (∀ c ∈ jG1 a b, (∃ e ∈ a, e.id = c.id) ∨ (∃ e ∈ b, e.id = c.id)) ∧
  (∀ c : Chg, c ∈ jG1 a b ↔ ((rGet c.id a).isSome ∨ (rGet c.id b).isSome) ∧ (rGet c.id a).getD [] = c.old ∧ (rGet c.id b).getD [] = c.new)
 | _, [], [], _, _, _ => by
  unfold jG1
  exact ⟨List.Pairwise.nil, by simp, fun c => by simp [rGet]⟩
 | 0, x :: xs, b, hn, _, _ => by simp at hn
 | 0, [], y :: ys, hn, _, _ => by simp at hn
 | n + 1, x :: xs, [], hn, ha, hb => by
  obtain ⟨h1, h2⟩ := rise_cons ha
  obtain ⟨i1, i2, i3⟩ := both_mem n xs [] (by simp at hn ⊢; omega) h2 hb
  unfold jG1
  refine ⟨List.pairwise_cons.2 ⟨fun c hc => ?_, i1⟩, fun c hc => ?_, fun c => ?_⟩
  ·rcases i2 c hc with ⟨e, he, h⟩ | ⟨e, he, _⟩
   ·rw [← h]; exact h1 e he
   ·cases he
  ·rcases List.mem_cons.1 hc with rfl | hc
   ·exact .inl ⟨x, List.mem_cons_self, rfl⟩
   ·rcases i2 c hc with ⟨e, he, h⟩ | ⟨e, he, _⟩
    ·exact .inl ⟨e, List.mem_cons_of_mem _ he, h⟩
    ·cases he
  ·rw [List.mem_cons, i3 c, rget_cons]
   by_cases h : x.id = c.id
   ·rw [if_pos h, rget_lt (L := xs) (k := c.id) (fun e he => h ▸ h1 e he)]
    obtain ⟨i, o, w⟩ := c
    simp only at h
    subst h
    simp [rGet, eq_comm]
   ·rw [if_neg h]
    constructor
    ·rintro (rfl | h')
     ·exact absurd rfl h
     ·exact h'
    ·exact .inr
 | n + 1, [], y :: ys, hn, ha, hb => by
  obtain ⟨h1, h2⟩ := rise_cons hb
  obtain ⟨i1, i2, i3⟩ := both_mem n [] ys (by simp at hn ⊢; omega) ha h2
  unfold jG1
  refine ⟨List.pairwise_cons.2 ⟨fun c hc => ?_, i1⟩, fun c hc => ?_, fun c => ?_⟩
  ·rcases i2 c hc with ⟨e, he, _⟩ | ⟨e, he, h⟩
   ·cases he
   ·rw [← h]; exact h1 e he
  ·rcases List.mem_cons.1 hc with rfl | hc
   ·exact .inr ⟨y, List.mem_cons_self, rfl⟩
   ·rcases i2 c hc with ⟨e, he, _⟩ | ⟨e, he, h⟩
    ·cases he
    ·exact .inr ⟨e, List.mem_cons_of_mem _ he, h⟩
  ·rw [List.mem_cons, i3 c, rget_cons]
   by_cases h : y.id = c.id
   ·rw [if_pos h, rget_lt (L := ys) (k := c.id) (fun e he => h ▸ h1 e he)]
    obtain ⟨i, o, w⟩ := c
    simp only at h
    subst h
    simp [rGet, eq_comm]
   ·rw [if_neg h]
    constructor
    ·rintro (rfl | h')
     ·exact absurd rfl h
     ·exact h'
    ·exact .inr
 | n + 1, x :: xs, y :: ys, hn, ha, hb => by
  obtain ⟨h1, h2⟩ := rise_cons ha
  obtain ⟨k1, k2⟩ := rise_cons hb
  unfold jG1
  split
  ·rename_i hlt
   obtain ⟨i1, i2, i3⟩ := both_mem n xs (y :: ys) (by simp at hn ⊢; omega) h2 hb
   have hy : ∀ e ∈ y :: ys, x.id < e.id := fun e he => by
    rcases List.mem_cons.1 he with rfl | he
    ·exact hlt
    ·have := k1 e he; omega
   refine ⟨List.pairwise_cons.2 ⟨fun c hc => ?_, i1⟩, fun c hc => ?_, fun c => ?_⟩
   ·rcases i2 c hc with ⟨e, he, h⟩ | ⟨e, he, h⟩
    ·rw [← h]; exact h1 e he
    ·rw [← h]; exact hy e he
   ·rcases List.mem_cons.1 hc with rfl | hc
    ·exact .inl ⟨x, List.mem_cons_self, rfl⟩
    ·rcases i2 c hc with ⟨e, he, h⟩ | h
     ·exact .inl ⟨e, List.mem_cons_of_mem _ he, h⟩
     ·exact .inr h
   ·rw [List.mem_cons, i3 c, rget_cons c.id x xs]
    by_cases h : x.id = c.id
    ·rw [if_pos h, rget_lt (L := xs) (k := c.id) (fun e he => h ▸ h1 e he), rget_lt (L := y :: ys) (k := c.id) (fun e he => h ▸ hy e he)]
     obtain ⟨i, o, w⟩ := c
     simp only at h
     subst h
     simp [eq_comm]
    ·rw [if_neg h]
     constructor
     ·rintro (rfl | h')
      ·exact absurd rfl h
      ·exact h'
     ·exact .inr
  ·split
   ·rename_i hnl hlt
    obtain ⟨i1, i2, i3⟩ := both_mem n (x :: xs) ys (by simp at hn ⊢; omega) ha k2
    have hx : ∀ e ∈ x :: xs, y.id < e.id := fun e he => by
     rcases List.mem_cons.1 he with rfl | he
     ·exact hlt
     ·have := h1 e he; omega
    refine ⟨List.pairwise_cons.2 ⟨fun c hc => ?_, i1⟩, fun c hc => ?_, fun c => ?_⟩
    ·rcases i2 c hc with ⟨e, he, h⟩ | ⟨e, he, h⟩
     ·rw [← h]; exact hx e he
     ·rw [← h]; exact k1 e he
    ·rcases List.mem_cons.1 hc with rfl | hc
     ·exact .inr ⟨y, List.mem_cons_self, rfl⟩
     ·rcases i2 c hc with h | ⟨e, he, h⟩
      ·exact .inl h
      ·exact .inr ⟨e, List.mem_cons_of_mem _ he, h⟩
    ·rw [List.mem_cons, i3 c, rget_cons c.id y ys]
     by_cases h : y.id = c.id
     ·rw [if_pos h, rget_lt (L := ys) (k := c.id) (fun e he => h ▸ k1 e he), rget_lt (L := x :: xs) (k := c.id) (fun e he => h ▸ hx e he)]
      obtain ⟨i, o, w⟩ := c
      simp only at h
      subst h
      simp [eq_comm]
     ·rw [if_neg h]
      constructor
      ·rintro (rfl | h')
       ·exact absurd rfl h
       ·exact h'
      ·exact .inr
   ·rename_i hn1 hn2
    have hxy : x.id = y.id := by omega
    obtain ⟨i1, i2, i3⟩ := both_mem n xs ys (by simp at hn ⊢; omega) h2 k2
    refine ⟨List.pairwise_cons.2 ⟨fun c hc => ?_, i1⟩, fun c hc => ?_, fun c => ?_⟩
    ·rcases i2 c hc with ⟨e, he, h⟩ | ⟨e, he, h⟩
     ·rw [← h]; exact h1 e he
     ·rw [← h]; show x.id < _; rw [hxy]; exact k1 e he
    ·rcases List.mem_cons.1 hc with rfl | hc
     ·exact .inl ⟨x, List.mem_cons_self, rfl⟩
     ·rcases i2 c hc with ⟨e, he, h⟩ | ⟨e, he, h⟩
      ·exact .inl ⟨e, List.mem_cons_of_mem _ he, h⟩
      ·exact .inr ⟨e, List.mem_cons_of_mem _ he, h⟩
    ·rw [List.mem_cons, i3 c, rget_cons c.id x xs, rget_cons c.id y ys]
     by_cases h : x.id = c.id
     ·rw [if_pos h, if_pos (hxy ▸ h), rget_lt (L := xs) (k := c.id) (fun e he => h ▸ h1 e he), rget_lt (L := ys) (k := c.id) (fun e he => h ▸ (hxy ▸ k1 e he))]
      obtain ⟨i, o, w⟩ := c
      simp only at h
      subst h
      simp [eq_comm]
     ·rw [if_neg h, if_neg (hxy ▸ h)]
      constructor
      ·rintro (rfl | h')
       ·exact absurd rfl h
       ·exact h'
      ·exact .inr
theorem rget_in {L : List It} {k : Nat} {t : List UInt8} (h : rGet k L = some t) : (⟨k, t⟩ : It) ∈ L := by
 induction L with
 | nil => cases h
 | cons e r ih =>
  rw [rget_cons] at h
  split at h
  ·rename_i he
   injection h with h
   subst he h
   exact List.mem_cons_self
  ·exact List.mem_cons_of_mem _ (ih h)
theorem get_ne {L : List It} (h : ChOk L) (k : Nat) : (rGet k L).isSome = true ↔ cGet k L ≠ [] := by
 rw [(get_eq h.rise k).2]
 cases hg : rGet k L with
 | none => simp
 | some t =>
  have := (h.tx _ (rget_in hg)).1
  simpa using this
theorem bet_mem {a b : List It} (ha : ChOk a) (hb : ChOk b) : RiseC (betQ a b) ∧ ∀ c : Chg, c ∈ betQ a b ↔ cGet c.id a = c.old ∧ cGet c.id b = c.new ∧ c.old ≠ c.new := by
 obtain ⟨h1, _, h3⟩ := both_mem _ a b (Nat.le_refl _) ha.rise hb.rise
 refine ⟨h1.sublist List.filter_sublist, fun c => ?_⟩
 unfold betQ
 rw [List.mem_filter, h3 c, get_ne ha, get_ne hb, ← (get_eq ha.rise c.id).2, ← (get_eq hb.rise c.id).2]
 unfold difQ
 simp only [decide_eq_true_eq]
 constructor
 ·rintro ⟨⟨_, h4, h5⟩, h6⟩
  exact ⟨h4, h5, h6⟩
 ·rintro ⟨h4, h5, h6⟩
  refine ⟨⟨?_, h4, h5⟩, h6⟩
  rw [h4, h5]
  by_cases h7 : c.old = []
  ·exact .inr fun h8 => h6 (h7.trans h8.symm)
  ·exact .inl h7
theorem ch_ext {a b : List It} (ha : ChOk a) (hb : ChOk b) (h : ∀ k, cGet k a = cGet k b) : a = b := by
 have key : ∀ {a b : List It}, ChOk a → ChOk b → (∀ k, cGet k a = cGet k b) → ∀ e ∈ a, e ∈ b := fun {a b} ha hb h e he => by
  have h1 : rGet e.id a = some e.tx := by
   obtain ⟨X, Y, hh, ⟨t, rfl⟩ | rfl⟩ := it_half ha.rise e.id
   ·rw [hh.rget1]
    rcases List.mem_append.1 he with he | he
    ·exact absurd rfl (hh.ne.1 e he)
    ·rcases List.mem_cons.1 he with he | he
     ·rw [he]
     ·exact absurd rfl (hh.ne.2 e he)
   ·exfalso
    rcases List.mem_append.1 he with he | he
    ·exact hh.ne.1 e he rfl
    ·exact hh.ne.2 e he rfl
  have h2 := h e.id
  rw [(get_eq ha.rise e.id).2, h1] at h2
  have h3 := (get_ne hb e.id).2 (by rw [← h2]; exact (ha.tx e he).1)
  cases hg : rGet e.id b with
  | none => rw [hg] at h3; cases h3
  | some t =>
   rw [(get_eq hb.rise e.id).2, hg] at h2
   have : e.tx = t := h2
   have h4 := rget_in hg
   rw [← this] at h4
   exact h4
 have h1 := key ha hb h
 have h2 := key hb ha fun k => (h k).symm
 have hn : ∀ {a : List It}, Rise a → a.Nodup := fun h => h.imp fun h e => by rw [e] at h; exact Nat.lt_irrefl _ h
 have hp : a.Perm b := (List.perm_ext_iff_of_nodup (hn ha.rise) (hn hb.rise)).2 fun e => ⟨h1 e, h2 e⟩
 exact hp.eq_of_pairwise (le := fun (a b : It) => a.id < b.id) (fun x y _ _ h1 h2 => absurd h1 (Nat.lt_asymm h2)) ha.rise hb.rise
theorem bet_nil {a b : List It} (ha : ChOk a) (hb : ChOk b) : betQ a b = [] ↔ a = b := by
 constructor
 ·intro h
  refine ch_ext ha hb fun k => Classical.byContradiction fun hne => ?_
  have := ((bet_mem ha hb).2 ⟨k, cGet k a, cGet k b⟩).2 ⟨rfl, rfl, hne⟩
  rw [h] at this
  cases this
 ·rintro rfl
  refine List.eq_nil_iff_forall_not_mem.2 fun c hc => ?_
  obtain ⟨h1, h2, h3⟩ := ((bet_mem ha hb).2 c).1 hc
  exact h3 (h1.symm.trans h2)
end Go.Proofs.YtkojkeabelckjaaGreatDoor
namespace Go.Proofs.YtkojkeabelckjaaGreatDoor
open Go.RowKit
def mkE (x : Chg) (O : List It) : Nat := if cGet x.id O = x.old then (if x.new = [] then 0 else putE x.id x.new O) else 9
def mkO (x : Chg) (O : List It) : List It := if cGet x.id O = x.old then (if x.new = [] then cDel x.id O else putQ x.id x.new O) else O
def appR : List It → List Nat → List Chg → Nat × List It
 | O, _, [] => (0, O)
 | O, seen, x :: r => if x.old = x.new then (2, O) else if x.id ∈ seen then (22, O) else if mkE x O = 0 then appR (mkO x O) (seen ++ [x.id]) r else (mkE x O, O)
def appE (O : List It) (l : List Chg) : Nat := (appR O [] l).1
def appO (O : List It) (l : List Chg) : List It := if appE O l = 0 then (appR O [] l).2 else O
theorem mk_ok {O : List It} (h : ChOk O) (x : Chg) : ChOk (mkO x O) := by
 unfold mkO
 split
 ·split
  ·exact h.del _
  ·exact h.putQ _ _
 ·exact h
theorem app_chok : ∀ (l : List Chg) (O : List It) (seen : List Nat), ChOk O → ChOk (appR O seen l).2
 | [], _, _, h => h
 | x :: r, O, seen, h => by
  rw [appR]
  split
  ·exact h
  ·split
   ·exact h
   ·split
    ·exact app_chok r _ _ (mk_ok h x)
    ·exact h
theorem rget_skip {X Y : List It} {j k : Nat} {s : List UInt8} (h : ¬ j = k) : rGet k (X ++ ⟨j, s⟩ :: Y) = rGet k (X ++ Y) := by
 induction X with
 | nil => rw [List.nil_append, List.nil_append, rget_cons, if_neg h]
 | cons e r ih => rw [List.cons_append, List.cons_append, rget_cons, rget_cons, ih]
theorem get_del {O : List It} (h : ChOk O) (j k : Nat) : cGet k (cDel j O) = if k = j then [] else cGet k O := by
 rw [(get_eq (h.del j).rise k).2, (get_eq h.rise k).2]
 obtain ⟨X, Y, hh, ⟨s, rfl⟩ | rfl⟩ := it_half h.rise j
 ·rw [hh.del1]
  split
  ·rename_i e; subst e; rw [hh.rget0]; rfl
  ·rename_i e; rw [rget_skip (fun e' => e e'.symm)]
 ·rw [hh.del0]
  split
  ·rename_i e; subst e; rw [hh.rget0]; rfl
  ·rfl
theorem get_put {O : List It} (h : ChOk O) {j : Nat} {s : List UInt8} (he : putE j s O = 0) (k : Nat) : cGet k (putQ j s O) = if k = j then s else cGet k O := by
 split
 ·rename_i e; subst e; exact (put_get h.rise he).2
 ·rename_i e
  rw [(get_eq (h.putQ j s).rise k).2, (get_eq h.rise k).2, putQ_new he]
  obtain ⟨X, Y, hh, ⟨t, rfl⟩ | rfl⟩ := it_half h.rise j
  ·rw [hh.put1, rget_skip (fun e' => e e'.symm), rget_skip (fun e' => e e'.symm)]
  ·rw [hh.put0, rget_skip (fun e' => e e'.symm)]
theorem mk_get {O : List It} (h : ChOk O) {x : Chg} (he : mkE x O = 0) : cGet x.id O = x.old ∧ ∀ k, cGet k (mkO x O) = if k = x.id then x.new else cGet k O := by
 unfold mkE at he
 split at he
 ·rename_i h1
  refine ⟨h1, fun k => ?_⟩
  unfold mkO
  rw [if_pos h1]
  split at he
  ·rename_i h2
   rw [if_pos h2, get_del h, h2]
  ·rename_i h2
   rw [if_neg h2, get_put h he]
 ·cases he
theorem mk_len {O : List It} (h : ChOk O) (x : Chg) : (mkO x O).length ≤ O.length + 1 := by
 unfold mkO
 split
 ·split
  ·have := del_len (L := O) x.id; omega
  ·unfold putQ
   split
   ·rw [put_len h.rise]; split <;> omega
   ·omega
 ·omega
theorem app_done : ∀ (l : List Chg) (O : List It) (seen : List Nat), ChOk O → (appR O seen l).1 = 0 →
  (l.map Chg.id).Nodup ∧ (∀ x ∈ l, x.id ∉ seen) ∧ (∀ x ∈ l, x.old ≠ x.new ∧ cGet x.id O = x.old ∧ cGet x.id (appR O seen l).2 = x.new) ∧ ∀ k, (∀ x ∈ l, x.id ≠ k) → cGet k (appR O seen l).2 = cGet k O
 | [], O, _, _, _ => ⟨List.nodup_nil, by simp, by simp, fun _ _ => rfl⟩
 | x :: r, O, seen, h, h0 => by
  rw [appR] at h0 ⊢
  split at h0
  ·cases h0
  ·rename_i hne
   rw [if_neg hne]
   split at h0
   ·cases h0
   ·rename_i hns
    rw [if_neg hns]
    split at h0
    ·rename_i hm
     rw [if_pos hm]
     obtain ⟨i1, i2, i3, i4⟩ := app_done r (mkO x O) (seen ++ [x.id]) (mk_ok h x) h0
     obtain ⟨g1, g2⟩ := mk_get h hm
     have hx : ∀ y ∈ r, y.id ≠ x.id := fun y hy e => i2 y hy (by rw [e]; simp)
     refine ⟨List.nodup_cons.2 ⟨fun hm => ?_, i1⟩, fun y hy => ?_, fun y hy => ?_, fun k hk => ?_⟩
     ·obtain ⟨y, hy, e⟩ := List.mem_map.1 hm
      exact hx y hy e
     ·rcases List.mem_cons.1 hy with rfl | hy
      ·exact hns
      ·exact fun hs => i2 y hy (List.mem_append_left _ hs)
     ·rcases List.mem_cons.1 hy with rfl | hy
      ·refine ⟨hne, g1, ?_⟩
       rw [i4 y.id hx, g2, if_pos rfl]
      ·obtain ⟨j1, j2, j3⟩ := i3 y hy
       rw [g2, if_neg (hx y hy)] at j2
       exact ⟨j1, j2, j3⟩
     ·rw [i4 k fun y hy => hk y (List.mem_cons_of_mem _ hy), g2, if_neg fun e => hk x List.mem_cons_self e.symm]
    ·rename_i hm
     exact absurd h0 hm
theorem app_do : ∀ (l : List Chg) (O : List It) (seen : List Nat), ChOk O → (l.map Chg.id).Nodup → (∀ x ∈ l, x.id ∉ seen) → (∀ x ∈ l, x.old ≠ x.new ∧ cGet x.id O = x.old ∧ (x.new ≠ [] → x.id < 6004799503160661 ∧ x.new.length ≤ 65536)) → O.length + l.length ≤ 2048 → (appR O seen l).1 = 0
 | [], _, _, _, _, _, _, _ => rfl
 | x :: r, O, seen, h, hn, hs, hx, hl => by
  obtain ⟨n1, n2⟩ := List.nodup_cons.1 hn
  obtain ⟨x1, x2, x3⟩ := hx x List.mem_cons_self
  rw [List.length_cons] at hl
  have hm : mkE x O = 0 := by
   unfold mkE
   rw [if_pos x2]
   split
   ·rfl
   ·rename_i h1
    obtain ⟨x4, x5⟩ := x3 h1
    unfold putE jC7
    rw [if_neg (by omega), if_neg h1, if_neg (by omega), if_neg (by unfold fullQ; simp; intro _; omega)]
  obtain ⟨_, g2⟩ := mk_get h hm
  have hne : ∀ y ∈ r, y.id ≠ x.id := fun y hy e => n1 (List.mem_map.2 ⟨y, hy, e⟩)
  rw [appR, if_neg x1, if_neg (hs x List.mem_cons_self), if_pos hm]
  refine app_do r _ _ (mk_ok h x) n2 (fun y hy hm => ?_) (fun y hy => ?_) (by have := mk_len h x; omega)
  ·rcases List.mem_append.1 hm with hm | hm
   ·exact hs y (List.mem_cons_of_mem _ hy) hm
   ·exact hne y hy (by simpa using hm)
  ·obtain ⟨y1, y2, y3⟩ := hx y (List.mem_cons_of_mem _ hy)
   rw [g2, if_neg (hne y hy)]
   exact ⟨y1, y2, y3⟩
theorem get_fits {O : List It} (h : ChOk O) {k : Nat} (hk : cGet k O ≠ []) : k < 6004799503160661 ∧ (cGet k O).length ≤ 65536 := by
 have h1 := (get_ne h k).2 hk
 cases hg : rGet k O with
 | none => rw [hg] at h1; cases h1
 | some t =>
  have h2 := rget_in hg
  rw [(get_eq h.rise k).2, hg]
  exact ⟨h.lt _ h2, (h.tx _ h2).2⟩
theorem both_len : ∀ (n : Nat) (a b : List It), a.length + b.length ≤ n → (jG1 a b).length ≤ a.length + b.length
 | _, [], [], _ => by unfold jG1; simp
 | 0, x :: xs, _, hn => by simp at hn
 | 0, [], y :: ys, hn => by simp at hn
 | n + 1, x :: xs, [], hn => by
  have := both_len n xs [] (by simp at hn ⊢; omega)
  unfold jG1
  simp at this ⊢
  omega
 | n + 1, [], y :: ys, hn => by
  have := both_len n [] ys (by simp at hn ⊢; omega)
  unfold jG1
  simp at this ⊢
  omega
 | n + 1, x :: xs, y :: ys, hn => by
  have h1 := both_len n xs (y :: ys) (by simp at hn ⊢; omega)
  have h2 := both_len n (x :: xs) ys (by simp at hn ⊢; omega)
  have h3 := both_len n xs ys (by simp at hn ⊢; omega)
  unfold jG1
  split
  ·simp at h1 ⊢; omega
  ·split
   ·simp at h2 ⊢; omega
   ·simp at h3 ⊢; omega
theorem bet_len (a b : List It) : (betQ a b).length ≤ a.length + b.length := Nat.le_trans (List.length_filter_le _ _) (both_len _ a b (Nat.le_refl _))
theorem rise_ids {l : List Chg} (h : RiseC l) : (l.map Chg.id).Nodup := List.pairwise_map.2 (h.imp fun h => Nat.ne_of_lt h)
theorem app_bet {a b : List It} (ha : ChOk a) (hb : ChOk b) (hl : a.length + (a.length + b.length) ≤ 2048) : appE a (betQ a b) = 0 ∧ appO a (betQ a b) = b := by
 obtain ⟨h1, h2⟩ := bet_mem ha hb
 have h0 : appE a (betQ a b) = 0 := app_do _ a [] ha (rise_ids h1) (fun _ _ h => by cases h) (fun x hx => by
  obtain ⟨x1, x2, x3⟩ := (h2 x).1 hx
  exact ⟨x3, x1, fun hn => by rw [← x2] at hn ⊢; exact get_fits hb hn⟩) (by have := bet_len a b; omega)
 refine ⟨h0, ?_⟩
 unfold appO
 rw [if_pos h0]
 obtain ⟨_, _, d3, d4⟩ := app_done _ a [] ha h0
 refine ch_ext (app_chok _ a [] ha) hb fun k => ?_
 by_cases hk : cGet k a = cGet k b
 ·rw [d4 k fun x hx e => ?_, hk]
  obtain ⟨x1, x2, x3⟩ := (h2 x).1 hx
  rw [e] at x1 x2
  exact x3 (x1.symm.trans (hk.trans x2))
 ·have := d3 _ ((h2 ⟨k, cGet k a, cGet k b⟩).2 ⟨rfl, rfl, hk⟩)
  exact this.2.2
end Go.Proofs.YtkojkeabelckjaaGreatDoor
namespace Go.Proofs.YtkojkeabelckjaaGreatDoor
open Go.RowKit
end Go.Proofs.YtkojkeabelckjaaGreatDoor
namespace Go.Proofs.YtkojkeabelckjaaGreatDoor
open Go.RowKit
theorem elemG : ElemOk Tryz.prog 35 87 3 40 := ElemOk.mk_ (z := .agg #[uq 0, .string ⟨#[]⟩, .string ⟨#[]⟩]) Tryz.underlying35 (by kernel_rfl) rfl (by omega)
end Go.Proofs.YtkojkeabelckjaaGreatDoor
namespace Go.Proofs.YtkojkeabelckjaaGreatDoor
open Go.RowKit
theorem gboth_fn (A : Option Addr) (n c : Nat) (B : Option Addr) (m d : Nat) : Fn Tryz.prog 66 [chV A n c, chV B m d] [] fun v H' => ∃ ga gb, v = .func (.func 109) #[] #[ptr ga 0, ptr gb 0] ∧ H' = [.own gb 27 [.slice B m d], .own ga 27 [.slice A n c]] := by
 refine Fn.enter (N := 6) Tryz.func66 rfl (by kernel_rfl) rfl (fun w0 => ?_)
 refine aR (fun Z hZ => ?_)
 refine jC3 rfl rfl rfl (fun g1 => ?_)
 refine jC3 rfl rfl rfl (fun g2 => ?_)
 refine sA rfl rfl <| sN (hZ _ _ ?_)
 refine aF [(2, _), (3, _)] (kR rfl) ?_
 refine aR (fun Z hZ => ?_)
 refine sx_makeFunc rfl rfl ?_
 refine sA rfl rfl <| sN (hZ _ _ ?_)
 refine aF [(4, _)] (Kn.cons rfl (Kn.nil)) ?_
 refine aE ?_
 exact jD4 _ rfl rfl (HLe.refl _) ⟨g1, g2, rfl, rfl⟩
def Suf (A : Option Addr) (i n size : Nat) (X : Option Addr) : Prop := i < n → ∃ g o, A = some ⟨g, o, none⟩ ∧ X = some ⟨g, o + i * size, none⟩
theorem Suf.next {g o i n size : Nat} {X' : Option Addr} (h : TailA (some ⟨g, o + i * size, none⟩) 1 size X' (n - i - 1)) : Suf (some ⟨g, o, none⟩) (i + 1) n size X' := fun hi => by
 obtain ⟨o', h1, h2⟩ := h.2 g (o + i * size) rfl
 have := h2 (by omega)
 subst this
 exact ⟨g, o, rfl, by rw [h1, Nat.add_mul, Nat.add_assoc]⟩
theorem both_x (x : It) (xs : List It) : jG1 (x :: xs) [] = ⟨x.id, x.tx, []⟩ :: jG1 xs [] := by rw [jG1]
theorem both_y (y : It) (ys : List It) : jG1 [] (y :: ys) = ⟨y.id, [], y.tx⟩ :: jG1 [] ys := by rw [jG1]
theorem both_lt {x y : It} {xs ys : List It} (h : x.id < y.id) : jG1 (x :: xs) (y :: ys) = ⟨x.id, x.tx, []⟩ :: jG1 xs (y :: ys) := by rw [jG1, if_pos h]
theorem both_gt {x y : It} {xs ys : List It} (h : y.id < x.id) : jG1 (x :: xs) (y :: ys) = ⟨y.id, [], y.tx⟩ :: jG1 (x :: xs) ys := by rw [jG1, if_neg (by omega), if_pos h]
theorem both_eq {x y : It} {xs ys : List It} (h : x.id = y.id) : jG1 (x :: xs) (y :: ys) = ⟨x.id, x.tx, y.tx⟩ :: jG1 xs ys := by rw [jG1, if_neg (by omega), if_neg (by omega)]
theorem drop_itAt {L : List It} {i : Nat} (h : i < L.length) : L.drop i = itAt L i :: L.drop (i + 1) := by
 rw [List.drop_eq_getElem_cons h]
 congr 1
 simp [itAt, List.getElem?_eq_getElem h]
theorem both_it (ga gb : Nat) (A : Option Addr) (c : Nat) (L : List It) (B : Option Addr) (d : Nat) (M : List It) (hA : SlIn A L.length c) (hB : SlIn B M.length d) (hL : L.length ≤ 100000) (hM : M.length ≤ 100000) :
  Iter Tryz.prog 109 [ptr ga 0, ptr gb 0] (.ro ga 0 [.slice A L.length c] :: .ro gb 0 [.slice B M.length d] :: (roE A (jA0 L) ++ roE B (jA0 M))) ((jG1 L M).map fun e => [e.val]) := by
 intro l J Jr S hJ hS hJr hY T0 hT0
 have hlen : ((jG1 L M).map fun e => [e.val]).length = (jG1 L M).length := by simp
 rw [hlen]
 refine Fn.enter (N := 95) Tryz.func109 rfl (by kernel_rfl) rfl (fun w0 => ?_)
 refine jA8 (.ro ga 0 [.slice A L.length c] :: .ro gb 0 [.slice B M.length d] :: ((roE A (jA0 L) ++ roE B (jA0 M)) ++ (T0 ++ Jr))) (HLe.refl _) ?_
 refine jD0 _ [(0, true), (1, false), (2, true), (3, false), (4, true), (5, true)] mixed (by kernel_rfl) (HLe.pick [0, 1] (by simp) (by simp only [pick, List.filterMap_cons, qS]; rfl)) (fun Z hZ => ?_)
 refine tw_p rfl ?_
 refine jF7 0 rfl rfl 0 rfl tyA27 tyS27 rfl rfl ?_
 refine vN ?_
 refine tw_g rfl ?_
 refine sx_itemsE L hA (.cons _ (.cons _ ((List.sublist_append_left _ _).trans (List.sublist_append_left _ _)))) hL rfl rfl (fun A5 c5 hA5 => ?_)
 refine sN ⟨HLe.pick [0, 1] (by simp) rfl, ?_⟩
 refine tw_p rfl ?_
 refine jF7 1 rfl rfl 0 rfl tyA27 tyS27 rfl rfl ?_
 refine vN ?_
 refine tw_g rfl ?_
 refine sx_itemsE M hB (.cons _ (.cons _ (((List.sublist_append_right _ _).trans (List.sublist_append_left _ _)).trans (List.sublist_append_left _ _)))) hM rfl rfl (fun B5 d5 hB5 => ?_)
 refine sN ⟨HLe.pick [0, 1] (by simp) rfl, ?_⟩
 refine tw_p rfl ?_
 refine jD7 rfl rfl ?_
 refine vN ?_
 refine tw_p rfl ?_
 refine jD7 rfl rfl ?_
 refine vN ?_
 refine jH2 (hZ _ _ ?_)
 refine aF [(0, _), (4, _), (5, _)] (kR rfl) ?_
 refine jA8 ((roE A5 (jA0 L) ++ roE B5 (jA0 M)) ++ (T0 ++ Jr)) (fun _ _ _ hw => (hw.sub (.cons _ (.cons _ (List.Sublist.append (List.Sublist.append (List.sublist_append_right _ _) (List.Sublist.refl _)) (List.Sublist.refl _))))).perm (by rw [List.append_assoc]; exact List.perm_append_comm)) ?_
 refine aB ?_
 refine jB6 (ι := (Nat × Option Addr × Nat) × (Nat × Option Addr × Nat) × Nat × Heap) (fun s => [(0, .func (.yield l) #[] #[]), (4, .slice s.1.2.1 (L.length - s.1.1) s.1.2.2), (5, .slice s.2.1.2.1 (M.length - s.2.1.1) s.2.1.2.2)]) (fun s => (roE A5 (jA0 L) ++ roE B5 (jA0 M)) ++ (s.2.2.2 ++ Jr))
  (fun s => s.1.1 ≤ L.length ∧ s.2.1.1 ≤ M.length ∧ SlIn s.1.2.1 (L.length - s.1.1) s.1.2.2 ∧ SlIn s.2.1.2.1 (M.length - s.2.1.1) s.2.1.2.2 ∧ Suf A5 s.1.1 L.length 2 s.1.2.1 ∧ Suf B5 s.2.1.1 M.length 2 s.2.1.2.1 ∧ (jG1 L M).drop s.2.2.1 = jG1 (L.drop s.1.1) (M.drop s.2.1.1) ∧ s.2.2.1 ≤ (jG1 L M).length ∧ J s.2.2.1 s.2.2.2)
  (fun s => (L.length - s.1.1) + (M.length - s.2.1.1)) ((0, A5, c5), (0, B5, d5), 0, T0) ⟨by simp, by simp, hA5, hB5, fun h => by obtain ⟨g, o, e⟩ := hA5.arg h; exact ⟨g, o, e, by rw [e]; simp⟩, fun h => by obtain ⟨g, o, e⟩ := hB5.arg h; exact ⟨g, o, e, by rw [e]; simp⟩, rfl, Nat.zero_le _, hT0⟩ (kR rfl) (HLe.refl _) ?_
 rintro ⟨⟨i, X, cx⟩, ⟨j, Y, cy⟩, k, T3⟩ ⟨hi, hj, hX, hY2, hSX, hSY, hq, hk, hT3⟩
 simp only at hi hj hX hY2 hSX hSY hq hk hT3
 refine aS ?_
 refine aR fun Z hZ => sM rfl rfl ?_
 refine jD9 Tryz.underlying25 rfl rfl ?_
 refine sM rfl rfl ?_
 refine jD9 Tryz.underlying25 rfl rfl ?_
 refine jB8 rfl rfl (((L.length - i : Nat) : Int) + ((M.length - j : Nat) : Int)) (by rw [IntWalk.i64_in _ (by omega)]) rfl ?_
 refine jF3 rfl rfl rfl ?_
 refine sN (hZ _ _ ?_)
 refine aF [(0, _), (4, _), (5, _), (16, _)] (kR rfl) ?_
 refine aC rfl (fun hh => ?_) (fun hh => ?_)
 ·have hpos : 0 < (L.length - i) + (M.length - j) := by simp at hh; omega
  refine aK ?_
  with_reducible refine nN ?_
  refine aB ?_
  refine aR (fun Z hZ => ?_)
  refine sAl tyZ87 rfl (fun g1 => ?_)
  refine sN (hZ _ _ ?_)
  refine aF [(0, _), (4, _), (5, _), (6, _)] (kR rfl) ?_
  refine awp_cut (ι := Chg × (Nat × Option Addr × Nat) × (Nat × Option Addr × Nat)) (fun s => [(0, .func (.yield l) #[] #[]), (4, .slice s.2.1.2.1 (L.length - s.2.1.1) s.2.1.2.2), (5, .slice s.2.2.2.1 (M.length - s.2.2.1) s.2.2.2.2), (6, ptr g1 0)]) (fun s => .own g1 87 s.1.cells :: ((roE A5 (jA0 L) ++ roE B5 (jA0 M)) ++ (T3 ++ Jr)))
   (fun s => s.2.1.1 ≤ L.length ∧ s.2.2.1 ≤ M.length ∧ SlIn s.2.1.2.1 (L.length - s.2.1.1) s.2.1.2.2 ∧ SlIn s.2.2.2.1 (M.length - s.2.2.1) s.2.2.2.2 ∧ Suf A5 s.2.1.1 L.length 2 s.2.1.2.1 ∧ Suf B5 s.2.2.1 M.length 2 s.2.2.2.1 ∧ i + j < s.2.1.1 + s.2.2.1 ∧ (jG1 L M).drop k = s.1 :: jG1 (L.drop s.2.1.1) (M.drop s.2.2.1)) ?_ ?_
  ·refine aB ?_
   by_cases hx : i < L.length
   ·have hxa := itAt_at hx
    have hdx := drop_itAt hx
    obtain ⟨x, hxe⟩ : ∃ x, itAt L i = x := ⟨_, rfl⟩
    rw [hxe] at hxa hdx
    obtain ⟨gx, ox, rfl, rfl⟩ := hSX hx
    by_cases hy : j < M.length
    ·have hya := itAt_at hy
     have hdy := drop_itAt hy
     obtain ⟨y, hye⟩ : ∃ y, itAt M j = y := ⟨_, rfl⟩
     rw [hye] at hya hdy
     obtain ⟨gy, oy, rfl, rfl⟩ := hSY hy
     refine jA8 (.own g1 87 [uq 0, .string (str []), .string (str [])] :: .ro gx ox (jA0 L) :: .ro gy oy (jA0 M) :: (T3 ++ Jr)) (HLe.refl _) ?_
     by_cases hlt : x.id < y.id
     ·have hb := both_lt (x := x) (y := y) (xs := L.drop (i + 1)) (ys := M.drop (j + 1)) hlt
      rw [← hdx, ← hdy] at hb
      refine jC6 [(0, .func (.yield l) #[] #[]), (4, .slice (some ⟨gx, ox + i * 2, none⟩) (L.length - i) cx), (5, .slice (some ⟨gy, oy + j * 2, none⟩) (M.length - j) cy), (6, ptr g1 0), (34, .bool true)] (.own g1 87 [uq 0, .string (str []), .string (str [])] :: .ro gx ox (jA0 L) :: .ro gy oy (jA0 M) :: (T3 ++ Jr)) mixed (by kernel_rfl) (fun Z hZ => ?_) ?_
      ·refine qM rfl rfl ?_
       refine sq_len Tryz.underlying25 rfl rfl ?_
       refine sq_eql rfl rfl rfl ?_
       refine qM rfl rfl ?_
       refine jG4 38 rfl false (by first | rfl | (simp; done) | (simp; omega)) ?_
       refine jA4 rfl rfl rfl ?_
       refine qM rfl rfl ?_
       refine jA4 rfl rfl rfl ?_
       refine sq_len Tryz.underlying25 rfl rfl ?_
       refine jA4 rfl rfl rfl ?_
       refine sq_gtr rfl rfl rfl ?_
       refine jA4 rfl rfl rfl ?_
       refine qM rfl rfl ?_
       refine jG4 42 rfl true (by first | rfl | (simp; done) | (simp; omega)) ?_
       refine jA4 rfl rfl rfl ?_
       refine qM rfl rfl ?_
       refine jA4 rfl rfl rfl ?_
       refine jE8 (ox + i * 2) Tryz.underlying25 tyS62 rfl rfl (by first | omega | (simp; omega)) (by simp) rfl ?_
       refine jA4 rfl rfl rfl ?_
       refine qFA rfl tyF62_0 (by simp only [Nat.add_zero]; rfl) rfl ?_
       refine jA4 rfl rfl rfl ?_
       refine jG8 1 rfl rfl (i * 2) rfl tyA45 tyS45 (jF1 hxa) rfl ?_
       refine jA4 rfl rfl rfl ?_
       refine qM rfl rfl ?_
       refine jA4 rfl rfl rfl ?_
       refine jE8 (oy + j * 2) Tryz.underlying25 tyS62 rfl rfl (by first | omega | (simp; omega)) (by simp) rfl ?_
       refine jA4 rfl rfl rfl ?_
       refine qFA rfl tyF62_0 (by simp only [Nat.add_zero]; rfl) rfl ?_
       refine jA4 rfl rfl rfl ?_
       refine jG8 2 rfl rfl (j * 2) rfl tyA45 tyS45 (jF1 hya) rfl ?_
       refine jA4 rfl rfl rfl ?_
       refine sq_lss rfl rfl rfl ?_
       refine jA4 rfl rfl rfl ?_
       refine jC5 rfl rfl rfl ?_
       refine jC5 rfl rfl rfl ?_
       refine jB3 rfl rfl ?_
       refine jE0 (hZ _ _ ?_ ?_)
       ·exact Kn.cons rfl (Kn.cons rfl (Kn.cons rfl (Kn.cons rfl (Kn.cons (congrArg some (congrArg Value.bool (by first | rfl | (simp; omega)))) Kn.nil))))
       ·exact HLe.refl _
      refine aC rfl (fun h1 => ?_) (fun h1 => ?_)
      ·refine aww_region _ [(0, true), (1, true), (2, true), (3, true), (4, true), (5, true), (6, true), (7, true), (8, true), (9, true), (10, true), (11, false), (12, true)] mixed (by kernel_rfl) (HLe.pick [1] (by simp) (by simp only [pick, List.filterMap_cons, qS]; rfl)) (fun Z hZ => ?_)
       refine tw_p rfl ?_
       refine jA3 rfl rfl ?_
       refine vN ?_
       refine tw_p rfl ?_
       refine jC9 (ox + i * 2) Tryz.underlying25 tyS62 rfl rfl (by first | omega | (simp; omega)) (by simp) rfl ?_
       refine vN ?_
       refine tw_p rfl ?_
       refine jA2 rfl tyF62_0 (by simp only [Nat.add_zero]; rfl) rfl ?_
       refine vN ?_
       refine tw_p rfl ?_
       refine jF7 0 rfl rfl (i * 2) rfl tyA45 tyS45 (jF1 hxa) rfl ?_
       refine vN ?_
       refine tw_p rfl ?_
       refine jA3 rfl rfl ?_
       refine vN ?_
       refine tw_p rfl ?_
       refine jC9 (ox + i * 2) Tryz.underlying25 tyS62 rfl rfl (by first | omega | (simp; omega)) (by simp) rfl ?_
       refine vN ?_
       refine tw_p rfl ?_
       refine jA2 rfl tyF62_1 rfl rfl ?_
       refine vN ?_
       refine tw_p rfl ?_
       refine jF7 0 rfl rfl (i * 2 + 1) rfl tyA9 tyS9 (icells_tx hxa) rfl ?_
       refine vN ?_
       refine tw_p rfl ?_
       refine sv_build tyZ87 tyP87 rfl rfl (by simp only [qS, Nat.reduceAdd, Value.cells, wrV]; rfl) rfl ?_
       refine vN ?_
       refine tw_p rfl ?_
       refine jA3 rfl rfl ?_
       refine vN ?_
       refine tw_p rfl ?_
       refine sv_part (i := 1) (j := L.length - i) Tryz.underlying25 tyS62 hX rfl rfl rfl (by omega) hX.cap rfl (fun X2 hX2 htX2 => ?_)
       refine vN ?_
       refine tw_g rfl ?_
       refine sS 0 rfl rfl rfl tyS87 (by simp only [Value.cells]; rfl) rfl rfl rfl (by simp only [qS, Nat.reduceAdd, wrV]; rfl) (by simp only [List.set_cons_zero]; rfl) ?_
       refine sN ⟨HLe.pick [1] (by simp) rfl, ?_⟩
       refine tw_p rfl ?_
       refine jD7 rfl rfl ?_
       refine vN ?_
       refine jH2 (hZ _ _ ?_)
       refine nF [(0, _), (4, _), (5, _), (6, _)] (kR rfl) ?_
       repeat (with_reducible refine nBN ?_)
       exact jG2 (⟨x.id, x.tx, []⟩, (i + 1, X2, cx - 1), (j, some ⟨gy, oy + j * 2, none⟩, cy)) ⟨hx, hj, by rw [show L.length - (i + 1) = L.length - i - 1 by omega]; exact hX2, hY2, Suf.next htX2, hSY, by first | (simp; done) | (simp; omega), hq.trans hb⟩ (kR rfl) (HLe.refl _)
      ·cases h1
     refine jC6 [(0, .func (.yield l) #[] #[]), (4, .slice (some ⟨gx, ox + i * 2, none⟩) (L.length - i) cx), (5, .slice (some ⟨gy, oy + j * 2, none⟩) (M.length - j) cy), (6, ptr g1 0), (34, .bool false)] (.own g1 87 [uq 0, .string (str []), .string (str [])] :: .ro gx ox (jA0 L) :: .ro gy oy (jA0 M) :: (T3 ++ Jr)) mixed (by kernel_rfl) (fun Z hZ => ?_) ?_
     ·refine qM rfl rfl ?_
      refine sq_len Tryz.underlying25 rfl rfl ?_
      refine sq_eql rfl rfl rfl ?_
      refine qM rfl rfl ?_
      refine jG4 38 rfl false (by first | rfl | (simp; done) | (simp; omega)) ?_
      refine jA4 rfl rfl rfl ?_
      refine qM rfl rfl ?_
      refine jA4 rfl rfl rfl ?_
      refine sq_len Tryz.underlying25 rfl rfl ?_
      refine jA4 rfl rfl rfl ?_
      refine sq_gtr rfl rfl rfl ?_
      refine jA4 rfl rfl rfl ?_
      refine qM rfl rfl ?_
      refine jG4 42 rfl true (by first | rfl | (simp; done) | (simp; omega)) ?_
      refine jA4 rfl rfl rfl ?_
      refine qM rfl rfl ?_
      refine jA4 rfl rfl rfl ?_
      refine jE8 (ox + i * 2) Tryz.underlying25 tyS62 rfl rfl (by first | omega | (simp; omega)) (by simp) rfl ?_
      refine jA4 rfl rfl rfl ?_
      refine qFA rfl tyF62_0 (by simp only [Nat.add_zero]; rfl) rfl ?_
      refine jA4 rfl rfl rfl ?_
      refine jG8 1 rfl rfl (i * 2) rfl tyA45 tyS45 (jF1 hxa) rfl ?_
      refine jA4 rfl rfl rfl ?_
      refine qM rfl rfl ?_
      refine jA4 rfl rfl rfl ?_
      refine jE8 (oy + j * 2) Tryz.underlying25 tyS62 rfl rfl (by first | omega | (simp; omega)) (by simp) rfl ?_
      refine jA4 rfl rfl rfl ?_
      refine qFA rfl tyF62_0 (by simp only [Nat.add_zero]; rfl) rfl ?_
      refine jA4 rfl rfl rfl ?_
      refine jG8 2 rfl rfl (j * 2) rfl tyA45 tyS45 (jF1 hya) rfl ?_
      refine jA4 rfl rfl rfl ?_
      refine sq_lss rfl rfl rfl ?_
      refine jA4 rfl rfl rfl ?_
      refine jC5 rfl rfl rfl ?_
      refine jC5 rfl rfl rfl ?_
      refine jB3 rfl rfl ?_
      refine jE0 (hZ _ _ ?_ ?_)
      ·exact Kn.cons rfl (Kn.cons rfl (Kn.cons rfl (Kn.cons rfl (Kn.cons (congrArg some (congrArg Value.bool (by first | rfl | (simp; omega)))) Kn.nil))))
      ·exact HLe.refl _
     refine aC rfl (fun h1 => ?_) (fun h1 => ?_)
     ·cases h1
     by_cases hgt : y.id < x.id
     ·have hb := both_gt (x := x) (y := y) (xs := L.drop (i + 1)) (ys := M.drop (j + 1)) hgt
      rw [← hdx, ← hdy] at hb
      refine jC6 [(0, .func (.yield l) #[] #[]), (4, .slice (some ⟨gx, ox + i * 2, none⟩) (L.length - i) cx), (5, .slice (some ⟨gy, oy + j * 2, none⟩) (M.length - j) cy), (6, ptr g1 0), (65, .bool true)] (.own g1 87 [uq 0, .string (str []), .string (str [])] :: .ro gx ox (jA0 L) :: .ro gy oy (jA0 M) :: (T3 ++ Jr)) mixed (by kernel_rfl) (fun Z hZ => ?_) ?_
      ·refine qM rfl rfl ?_
       refine sq_len Tryz.underlying25 rfl rfl ?_
       refine sq_eql rfl rfl rfl ?_
       refine qM rfl rfl ?_
       refine jG4 69 rfl false (by first | rfl | (simp; done) | (simp; omega)) ?_
       refine jA4 rfl rfl rfl ?_
       refine qM rfl rfl ?_
       refine jA4 rfl rfl rfl ?_
       refine jE8 (oy + j * 2) Tryz.underlying25 tyS62 rfl rfl (by first | omega | (simp; omega)) (by simp) rfl ?_
       refine jA4 rfl rfl rfl ?_
       refine qFA rfl tyF62_0 (by simp only [Nat.add_zero]; rfl) rfl ?_
       refine jA4 rfl rfl rfl ?_
       refine jG8 2 rfl rfl (j * 2) rfl tyA45 tyS45 (jF1 hya) rfl ?_
       refine jA4 rfl rfl rfl ?_
       refine qM rfl rfl ?_
       refine jA4 rfl rfl rfl ?_
       refine jE8 (ox + i * 2) Tryz.underlying25 tyS62 rfl rfl (by first | omega | (simp; omega)) (by simp) rfl ?_
       refine jA4 rfl rfl rfl ?_
       refine qFA rfl tyF62_0 (by simp only [Nat.add_zero]; rfl) rfl ?_
       refine jA4 rfl rfl rfl ?_
       refine jG8 1 rfl rfl (i * 2) rfl tyA45 tyS45 (jF1 hxa) rfl ?_
       refine jA4 rfl rfl rfl ?_
       refine sq_lss rfl rfl rfl ?_
       refine jC5 rfl rfl rfl ?_
       refine jB3 rfl rfl ?_
       refine jE0 (hZ _ _ ?_ ?_)
       ·exact Kn.cons rfl (Kn.cons rfl (Kn.cons rfl (Kn.cons rfl (Kn.cons (congrArg some (congrArg Value.bool (by first | rfl | (simp; omega)))) Kn.nil))))
       ·exact HLe.refl _
      refine aC rfl (fun h2 => ?_) (fun h2 => ?_)
      ·refine aww_region _ [(0, true), (1, true), (2, true), (3, true), (4, true), (5, true), (6, true), (7, true), (8, true), (9, true), (10, true), (11, false), (12, true)] mixed (by kernel_rfl) (HLe.pick [2] (by simp) (by simp only [pick, List.filterMap_cons, qS]; rfl)) (fun Z hZ => ?_)
       refine tw_p rfl ?_
       refine jA3 rfl rfl ?_
       refine vN ?_
       refine tw_p rfl ?_
       refine jC9 (oy + j * 2) Tryz.underlying25 tyS62 rfl rfl (by first | omega | (simp; omega)) (by simp) rfl ?_
       refine vN ?_
       refine tw_p rfl ?_
       refine jA2 rfl tyF62_0 (by simp only [Nat.add_zero]; rfl) rfl ?_
       refine vN ?_
       refine tw_p rfl ?_
       refine jF7 0 rfl rfl (j * 2) rfl tyA45 tyS45 (jF1 hya) rfl ?_
       refine vN ?_
       refine tw_p rfl ?_
       refine jA3 rfl rfl ?_
       refine vN ?_
       refine tw_p rfl ?_
       refine jC9 (oy + j * 2) Tryz.underlying25 tyS62 rfl rfl (by first | omega | (simp; omega)) (by simp) rfl ?_
       refine vN ?_
       refine tw_p rfl ?_
       refine jA2 rfl tyF62_1 rfl rfl ?_
       refine vN ?_
       refine tw_p rfl ?_
       refine jF7 0 rfl rfl (j * 2 + 1) rfl tyA9 tyS9 (icells_tx hya) rfl ?_
       refine vN ?_
       refine tw_p rfl ?_
       refine sv_build tyZ87 tyP87 rfl rfl (by simp only [qS, Nat.reduceAdd, Value.cells, wrV]; rfl) rfl ?_
       refine vN ?_
       refine tw_p rfl ?_
       refine jA3 rfl rfl ?_
       refine vN ?_
       refine tw_p rfl ?_
       refine sv_part (i := 1) (j := M.length - j) Tryz.underlying25 tyS62 hY2 rfl rfl rfl (by omega) hY2.cap rfl (fun Y2 hY3 htY2 => ?_)
       refine vN ?_
       refine tw_g rfl ?_
       refine sS 0 rfl rfl rfl tyS87 (by simp only [Value.cells]; rfl) rfl rfl rfl (by simp only [qS, Nat.reduceAdd, wrV]; rfl) (by simp only [List.set_cons_zero]; rfl) ?_
       refine sN ⟨HLe.pick [2] (by simp) rfl, ?_⟩
       refine tw_p rfl ?_
       refine jD7 rfl rfl ?_
       refine vN ?_
       refine jH2 (hZ _ _ ?_)
       refine nF [(0, _), (4, _), (5, _), (6, _)] (kR rfl) ?_
       repeat (with_reducible refine nBN ?_)
       exact jG2 (⟨y.id, [], y.tx⟩, (i, some ⟨gx, ox + i * 2, none⟩, cx), (j + 1, Y2, cy - 1)) ⟨hi, hy, hX, by rw [show M.length - (j + 1) = M.length - j - 1 by omega]; exact hY3, hSX, Suf.next htY2, by first | (simp; done) | (simp; omega), hq.trans hb⟩ (kR rfl) (HLe.refl _)
      ·cases h2
     have hxy : x.id = y.id := by omega
     have hb := both_eq (x := x) (y := y) (xs := L.drop (i + 1)) (ys := M.drop (j + 1)) hxy
     rw [← hdx, ← hdy] at hb
     refine jC6 [(0, .func (.yield l) #[] #[]), (4, .slice (some ⟨gx, ox + i * 2, none⟩) (L.length - i) cx), (5, .slice (some ⟨gy, oy + j * 2, none⟩) (M.length - j) cy), (6, ptr g1 0), (65, .bool false)] (.own g1 87 [uq 0, .string (str []), .string (str [])] :: .ro gx ox (jA0 L) :: .ro gy oy (jA0 M) :: (T3 ++ Jr)) mixed (by kernel_rfl) (fun Z hZ => ?_) ?_
     ·refine qM rfl rfl ?_
      refine sq_len Tryz.underlying25 rfl rfl ?_
      refine sq_eql rfl rfl rfl ?_
      refine qM rfl rfl ?_
      refine jG4 69 rfl false (by first | rfl | (simp; done) | (simp; omega)) ?_
      refine jA4 rfl rfl rfl ?_
      refine qM rfl rfl ?_
      refine jA4 rfl rfl rfl ?_
      refine jE8 (oy + j * 2) Tryz.underlying25 tyS62 rfl rfl (by first | omega | (simp; omega)) (by simp) rfl ?_
      refine jA4 rfl rfl rfl ?_
      refine qFA rfl tyF62_0 (by simp only [Nat.add_zero]; rfl) rfl ?_
      refine jA4 rfl rfl rfl ?_
      refine jG8 2 rfl rfl (j * 2) rfl tyA45 tyS45 (jF1 hya) rfl ?_
      refine jA4 rfl rfl rfl ?_
      refine qM rfl rfl ?_
      refine jA4 rfl rfl rfl ?_
      refine jE8 (ox + i * 2) Tryz.underlying25 tyS62 rfl rfl (by first | omega | (simp; omega)) (by simp) rfl ?_
      refine jA4 rfl rfl rfl ?_
      refine qFA rfl tyF62_0 (by simp only [Nat.add_zero]; rfl) rfl ?_
      refine jA4 rfl rfl rfl ?_
      refine jG8 1 rfl rfl (i * 2) rfl tyA45 tyS45 (jF1 hxa) rfl ?_
      refine jA4 rfl rfl rfl ?_
      refine sq_lss rfl rfl rfl ?_
      refine jC5 rfl rfl rfl ?_
      refine jB3 rfl rfl ?_
      refine jE0 (hZ _ _ ?_ ?_)
      ·exact Kn.cons rfl (Kn.cons rfl (Kn.cons rfl (Kn.cons rfl (Kn.cons (congrArg some (congrArg Value.bool (by first | rfl | (simp; omega)))) Kn.nil))))
      ·exact HLe.refl _
     refine aC rfl (fun h2 => ?_) (fun h2 => ?_)
     ·cases h2
     refine aww_region _ [(0, true), (1, true), (2, true), (3, true), (4, true), (5, true), (6, true), (7, true), (8, true), (9, true), (10, true), (11, true), (12, true), (13, true), (14, true), (15, true), (16, true), (17, false), (18, true), (19, true)] mixed (by kernel_rfl) (HLe.pick [1, 2] (by simp) (by simp only [pick, List.filterMap_cons, qS]; rfl)) (fun Z hZ => ?_)
     refine tw_p rfl ?_
     refine jA3 rfl rfl ?_
     refine vN ?_
     refine tw_p rfl ?_
     refine jC9 (ox + i * 2) Tryz.underlying25 tyS62 rfl rfl (by first | omega | (simp; omega)) (by simp) rfl ?_
     refine vN ?_
     refine tw_p rfl ?_
     refine jA2 rfl tyF62_0 (by simp only [Nat.add_zero]; rfl) rfl ?_
     refine vN ?_
     refine tw_p rfl ?_
     refine jF7 0 rfl rfl (i * 2) rfl tyA45 tyS45 (jF1 hxa) rfl ?_
     refine vN ?_
     refine tw_p rfl ?_
     refine jA3 rfl rfl ?_
     refine vN ?_
     refine tw_p rfl ?_
     refine jC9 (ox + i * 2) Tryz.underlying25 tyS62 rfl rfl (by first | omega | (simp; omega)) (by simp) rfl ?_
     refine vN ?_
     refine tw_p rfl ?_
     refine jA2 rfl tyF62_1 rfl rfl ?_
     refine vN ?_
     refine tw_p rfl ?_
     refine jF7 0 rfl rfl (i * 2 + 1) rfl tyA9 tyS9 (icells_tx hxa) rfl ?_
     refine vN ?_
     refine tw_p rfl ?_
     refine jA3 rfl rfl ?_
     refine vN ?_
     refine tw_p rfl ?_
     refine jC9 (oy + j * 2) Tryz.underlying25 tyS62 rfl rfl (by first | omega | (simp; omega)) (by simp) rfl ?_
     refine vN ?_
     refine tw_p rfl ?_
     refine jA2 rfl tyF62_1 rfl rfl ?_
     refine vN ?_
     refine tw_p rfl ?_
     refine jF7 1 rfl rfl (j * 2 + 1) rfl tyA9 tyS9 (icells_tx hya) rfl ?_
     refine vN ?_
     refine tw_p rfl ?_
     refine sv_build tyZ87 tyP87 rfl rfl (by simp only [qS, Nat.reduceAdd, Value.cells, wrV]; rfl) rfl ?_
     refine vN ?_
     refine tw_p rfl ?_
     refine jA3 rfl rfl ?_
     refine vN ?_
     refine tw_p rfl ?_
     refine sv_part (i := 1) (j := L.length - i) Tryz.underlying25 tyS62 hX rfl rfl rfl (by omega) hX.cap rfl (fun X2 hX2 htX2 => ?_)
     refine vN ?_
     refine tw_p rfl ?_
     refine jA3 rfl rfl ?_
     refine vN ?_
     refine tw_p rfl ?_
     refine sv_part (i := 1) (j := M.length - j) Tryz.underlying25 tyS62 hY2 rfl rfl rfl (by omega) hY2.cap rfl (fun Y2 hY3 htY2 => ?_)
     refine vN ?_
     refine tw_g rfl ?_
     refine sS 0 rfl rfl rfl tyS87 (by simp only [Value.cells]; rfl) rfl rfl (by simp only [qS, Nat.reduceAdd]; rfl) (by simp only [qS, Nat.reduceAdd, wrV]; rfl) (by simp only [List.set_cons_zero]; rfl) ?_
     refine sN ⟨HLe.pick [1, 2] (by simp) rfl, ?_⟩
     refine tw_p rfl ?_
     refine jD7 rfl rfl ?_
     refine vN ?_
     refine tw_p rfl ?_
     refine jD7 rfl rfl ?_
     refine vN ?_
     refine jH2 (hZ _ _ ?_)
     refine nF [(0, _), (4, _), (5, _), (6, _)] (kR rfl) ?_
     repeat (with_reducible refine nBN ?_)
     exact jG2 (⟨x.id, x.tx, y.tx⟩, (i + 1, X2, cx - 1), (j + 1, Y2, cy - 1)) ⟨hx, hy, by rw [show L.length - (i + 1) = L.length - i - 1 by omega]; exact hX2, by rw [show M.length - (j + 1) = M.length - j - 1 by omega]; exact hY3, Suf.next htX2, Suf.next htY2, by first | (simp; done) | (simp; omega), hq.trans hb⟩ (kR rfl) (HLe.refl _)
    ·have hj0 : M.length - j = 0 := by omega
     have hdy : M.drop j = [] := List.drop_eq_nil_of_le (by omega)
     have hb := both_x x (L.drop (i + 1))
     rw [← hdx, ← hdy] at hb
     refine jA8 (.own g1 87 [uq 0, .string (str []), .string (str [])] :: .ro gx ox (jA0 L) :: (roE B5 (jA0 M) ++ (T3 ++ Jr))) (by rw [List.append_assoc]; exact HLe.refl _) ?_
     refine jC6 [(0, .func (.yield l) #[] #[]), (4, .slice (some ⟨gx, ox + i * 2, none⟩) (L.length - i) cx), (5, .slice Y (M.length - j) cy), (6, ptr g1 0), (34, .bool true)] (.own g1 87 [uq 0, .string (str []), .string (str [])] :: .ro gx ox (jA0 L) :: (roE B5 (jA0 M) ++ (T3 ++ Jr))) mixed (by kernel_rfl) (fun Z hZ => ?_) ?_
     ·refine qM rfl rfl ?_
      refine sq_len Tryz.underlying25 rfl rfl ?_
      refine sq_eql rfl rfl rfl ?_
      refine qM rfl rfl ?_
      refine jG4 38 rfl true (by simp; omega) ?_
      refine qO rfl rfl rfl rfl rfl ?_
      refine qO rfl rfl rfl rfl rfl ?_
      refine qO rfl rfl rfl rfl rfl ?_
      refine qO rfl rfl rfl rfl rfl ?_
      refine sq_offU rfl rfl rfl rfl ?_
      refine sq_offU rfl rfl rfl rfl ?_
      refine sq_offU rfl rfl rfl rfl ?_
      refine sq_offU rfl rfl rfl rfl ?_
      refine sq_offU rfl rfl rfl rfl ?_
      refine sq_offU rfl rfl rfl rfl ?_
      refine sq_offU rfl rfl rfl rfl ?_
      refine sq_offU rfl rfl rfl rfl ?_
      refine sq_offU rfl rfl rfl rfl ?_
      refine qO rfl rfl rfl rfl rfl ?_
      refine jC5 rfl rfl rfl ?_
      refine jB3 rfl rfl ?_
      refine jE0 (hZ _ _ ?_ ?_)
      ·exact Kn.cons rfl (Kn.cons rfl (Kn.cons rfl (Kn.cons rfl (Kn.cons (congrArg some (congrArg Value.bool (by first | rfl | (simp; omega)))) Kn.nil))))
      ·exact HLe.refl _
     refine aC rfl (fun h1 => ?_) (fun h1 => ?_)
     ·refine aww_region _ [(0, true), (1, true), (2, true), (3, true), (4, true), (5, true), (6, true), (7, true), (8, true), (9, true), (10, true), (11, false), (12, true)] mixed (by kernel_rfl) (HLe.pick [1] (by simp) (by simp only [pick, List.filterMap_cons, qS]; rfl)) (fun Z hZ => ?_)
      refine tw_p rfl ?_
      refine jA3 rfl rfl ?_
      refine vN ?_
      refine tw_p rfl ?_
      refine jC9 (ox + i * 2) Tryz.underlying25 tyS62 rfl rfl (by first | omega | (simp; omega)) (by simp) rfl ?_
      refine vN ?_
      refine tw_p rfl ?_
      refine jA2 rfl tyF62_0 (by simp only [Nat.add_zero]; rfl) rfl ?_
      refine vN ?_
      refine tw_p rfl ?_
      refine jF7 0 rfl rfl (i * 2) rfl tyA45 tyS45 (jF1 hxa) rfl ?_
      refine vN ?_
      refine tw_p rfl ?_
      refine jA3 rfl rfl ?_
      refine vN ?_
      refine tw_p rfl ?_
      refine jC9 (ox + i * 2) Tryz.underlying25 tyS62 rfl rfl (by first | omega | (simp; omega)) (by simp) rfl ?_
      refine vN ?_
      refine tw_p rfl ?_
      refine jA2 rfl tyF62_1 rfl rfl ?_
      refine vN ?_
      refine tw_p rfl ?_
      refine jF7 0 rfl rfl (i * 2 + 1) rfl tyA9 tyS9 (icells_tx hxa) rfl ?_
      refine vN ?_
      refine tw_p rfl ?_
      refine sv_build tyZ87 tyP87 rfl rfl (by simp only [qS, Nat.reduceAdd, Value.cells, wrV]; rfl) rfl ?_
      refine vN ?_
      refine tw_p rfl ?_
      refine jA3 rfl rfl ?_
      refine vN ?_
      refine tw_p rfl ?_
      refine sv_part (i := 1) (j := L.length - i) Tryz.underlying25 tyS62 hX rfl rfl rfl (by omega) hX.cap rfl (fun X2 hX2 htX2 => ?_)
      refine vN ?_
      refine tw_g rfl ?_
      refine sS 0 rfl rfl rfl tyS87 (by simp only [Value.cells]; rfl) rfl rfl (by simp only [qS, Nat.reduceAdd]; rfl) (by simp only [qS, Nat.reduceAdd, wrV]; rfl) (by simp only [List.set_cons_zero]; rfl) ?_
      refine sN ⟨HLe.pick [1] (by simp) rfl, ?_⟩
      refine tw_p rfl ?_
      refine jD7 rfl rfl ?_
      refine vN ?_
      refine jH2 (hZ _ _ ?_)
      refine nF [(0, _), (4, _), (5, _), (6, _)] (kR rfl) ?_
      repeat (with_reducible refine nBN ?_)
      exact jG2 (⟨x.id, x.tx, []⟩, (i + 1, X2, cx - 1), (j, Y, cy)) ⟨hx, hj, by rw [show L.length - (i + 1) = L.length - i - 1 by omega]; exact hX2, hY2, Suf.next htX2, hSY, by first | (simp; done) | (simp; omega), hq.trans hb⟩ (kR rfl) (by rw [List.append_assoc]; exact HLe.refl _)
     ·cases h1
   ·have hy : j < M.length := by omega
    have hya := itAt_at hy
    have hdy := drop_itAt hy
    obtain ⟨y, hye⟩ : ∃ y, itAt M j = y := ⟨_, rfl⟩
    rw [hye] at hya hdy
    obtain ⟨gy, oy, rfl, rfl⟩ := hSY hy
    have hi0 : L.length - i = 0 := by omega
    have hdx : L.drop i = [] := List.drop_eq_nil_of_le (by omega)
    have hb := both_y y (M.drop (j + 1))
    rw [← hdy, ← hdx] at hb
    refine jA8 (.own g1 87 [uq 0, .string (str []), .string (str [])] :: .ro gy oy (jA0 M) :: (roE A5 (jA0 L) ++ (T3 ++ Jr))) (by rw [List.append_assoc]; exact fun _ _ _ hw => hw.perm (List.Perm.cons _ (List.perm_append_comm_assoc (roE A5 (jA0 L)) [.ro gy oy (jA0 M)] (T3 ++ Jr)))) ?_
    refine jC6 [(0, .func (.yield l) #[] #[]), (4, .slice X (L.length - i) cx), (5, .slice (some ⟨gy, oy + j * 2, none⟩) (M.length - j) cy), (6, ptr g1 0), (34, .bool false)] (.own g1 87 [uq 0, .string (str []), .string (str [])] :: .ro gy oy (jA0 M) :: (roE A5 (jA0 L) ++ (T3 ++ Jr))) mixed (by kernel_rfl) (fun Z hZ => ?_) ?_
    ·refine qM rfl rfl ?_
     refine sq_len Tryz.underlying25 rfl rfl ?_
     refine sq_eql rfl rfl rfl ?_
     refine qM rfl rfl ?_
     refine jG4 38 rfl false (by first | rfl | (simp; done) | (simp; omega)) ?_
     refine jA4 rfl rfl rfl ?_
     refine qM rfl rfl ?_
     refine jA4 rfl rfl rfl ?_
     refine sq_len Tryz.underlying25 rfl rfl ?_
     refine jA4 rfl rfl rfl ?_
     refine sq_gtr rfl rfl rfl ?_
     refine jA4 rfl rfl rfl ?_
     refine qM rfl rfl ?_
     refine jG4 42 rfl false (by simp; omega) ?_
     refine qO rfl rfl rfl rfl rfl ?_
     refine qO rfl rfl rfl rfl rfl ?_
     refine qO rfl rfl rfl rfl rfl ?_
     refine qO rfl rfl rfl rfl rfl ?_
     refine qO rfl rfl rfl rfl rfl ?_
     refine qO rfl rfl rfl rfl rfl ?_
     refine qO rfl rfl rfl rfl rfl ?_
     refine qO rfl rfl rfl rfl rfl ?_
     refine qO rfl rfl rfl rfl rfl ?_
     refine jA4 rfl rfl rfl ?_
     refine jC5 rfl rfl rfl ?_
     refine jC5 rfl rfl rfl ?_
     refine jB3 rfl rfl ?_
     refine jE0 (hZ _ _ ?_ ?_)
     ·exact Kn.cons rfl (Kn.cons rfl (Kn.cons rfl (Kn.cons rfl (Kn.cons (congrArg some (congrArg Value.bool (by first | rfl | (simp; omega)))) Kn.nil))))
     ·exact HLe.refl _
    refine aC rfl (fun h1 => ?_) (fun h1 => ?_)
    ·cases h1
    refine jC6 [(0, .func (.yield l) #[] #[]), (4, .slice X (L.length - i) cx), (5, .slice (some ⟨gy, oy + j * 2, none⟩) (M.length - j) cy), (6, ptr g1 0), (65, .bool true)] (.own g1 87 [uq 0, .string (str []), .string (str [])] :: .ro gy oy (jA0 M) :: (roE A5 (jA0 L) ++ (T3 ++ Jr))) mixed (by kernel_rfl) (fun Z hZ => ?_) ?_
    ·refine qM rfl rfl ?_
     refine sq_len Tryz.underlying25 rfl rfl ?_
     refine sq_eql rfl rfl rfl ?_
     refine qM rfl rfl ?_
     refine jG4 69 rfl true (by simp; omega) ?_
     refine qO rfl rfl rfl rfl rfl ?_
     refine qO rfl rfl rfl rfl rfl ?_
     refine qO rfl rfl rfl rfl rfl ?_
     refine qO rfl rfl rfl rfl rfl ?_
     refine qO rfl rfl rfl rfl rfl ?_
     refine qO rfl rfl rfl rfl rfl ?_
     refine qO rfl rfl rfl rfl rfl ?_
     refine qO rfl rfl rfl rfl rfl ?_
     refine qO rfl rfl rfl rfl rfl ?_
     refine jC5 rfl rfl rfl ?_
     refine jB3 rfl rfl ?_
     refine jE0 (hZ _ _ ?_ ?_)
     ·exact Kn.cons rfl (Kn.cons rfl (Kn.cons rfl (Kn.cons rfl (Kn.cons (congrArg some (congrArg Value.bool (by first | rfl | (simp; omega)))) Kn.nil))))
     ·exact HLe.refl _
    refine aC rfl (fun h2 => ?_) (fun h2 => ?_)
    ·refine aww_region _ [(0, true), (1, true), (2, true), (3, true), (4, true), (5, true), (6, true), (7, true), (8, true), (9, true), (10, true), (11, false), (12, true)] mixed (by kernel_rfl) (HLe.pick [1] (by simp) (by simp only [pick, List.filterMap_cons, qS]; rfl)) (fun Z hZ => ?_)
     refine tw_p rfl ?_
     refine jA3 rfl rfl ?_
     refine vN ?_
     refine tw_p rfl ?_
     refine jC9 (oy + j * 2) Tryz.underlying25 tyS62 rfl rfl (by first | omega | (simp; omega)) (by simp) rfl ?_
     refine vN ?_
     refine tw_p rfl ?_
     refine jA2 rfl tyF62_0 (by simp only [Nat.add_zero]; rfl) rfl ?_
     refine vN ?_
     refine tw_p rfl ?_
     refine jF7 0 rfl rfl (j * 2) rfl tyA45 tyS45 (jF1 hya) rfl ?_
     refine vN ?_
     refine tw_p rfl ?_
     refine jA3 rfl rfl ?_
     refine vN ?_
     refine tw_p rfl ?_
     refine jC9 (oy + j * 2) Tryz.underlying25 tyS62 rfl rfl (by first | omega | (simp; omega)) (by simp) rfl ?_
     refine vN ?_
     refine tw_p rfl ?_
     refine jA2 rfl tyF62_1 rfl rfl ?_
     refine vN ?_
     refine tw_p rfl ?_
     refine jF7 0 rfl rfl (j * 2 + 1) rfl tyA9 tyS9 (icells_tx hya) rfl ?_
     refine vN ?_
     refine tw_p rfl ?_
     refine sv_build tyZ87 tyP87 rfl rfl (by simp only [qS, Nat.reduceAdd, Value.cells, wrV]; rfl) rfl ?_
     refine vN ?_
     refine tw_p rfl ?_
     refine jA3 rfl rfl ?_
     refine vN ?_
     refine tw_p rfl ?_
     refine sv_part (i := 1) (j := M.length - j) Tryz.underlying25 tyS62 hY2 rfl rfl rfl (by omega) hY2.cap rfl (fun Y2 hY3 htY2 => ?_)
     refine vN ?_
     refine tw_g rfl ?_
     refine sS 0 rfl rfl rfl tyS87 (by simp only [Value.cells]; rfl) rfl rfl (by simp only [qS, Nat.reduceAdd]; rfl) (by simp only [qS, Nat.reduceAdd, wrV]; rfl) (by simp only [List.set_cons_zero]; rfl) ?_
     refine sN ⟨HLe.pick [1] (by simp) rfl, ?_⟩
     refine tw_p rfl ?_
     refine jD7 rfl rfl ?_
     refine vN ?_
     refine jH2 (hZ _ _ ?_)
     refine nF [(0, _), (4, _), (5, _), (6, _)] (kR rfl) ?_
     repeat (with_reducible refine nBN ?_)
     exact jG2 (⟨y.id, [], y.tx⟩, (i, X, cx), (j + 1, Y2, cy - 1)) ⟨hi, hy, hX, by rw [show M.length - (j + 1) = M.length - j - 1 by omega]; exact hY3, hSX, Suf.next htY2, by first | (simp; done) | (simp; omega), hq.trans hb⟩ (kR rfl) (by rw [List.append_assoc]; exact fun _ _ _ hw => hw.perm (List.Perm.cons _ (List.perm_append_comm_assoc [.ro gy oy (jA0 M)] (roE A5 (jA0 L)) (T3 ++ Jr))))
    ·cases h2
  rintro ⟨ch, ⟨i2, X2, cx2⟩, ⟨j2, Y2, cy2⟩⟩ ⟨p1, p2, p3, p4, p5, p6, p7, p8⟩
  simp only at p1 p2 p3 p4 p5 p6 p7 p8
  have hka : (jG1 L M)[k]? = some ch := by
   have := congrArg (fun l => l[0]?) p8
   simpa using this
  have hkl : k < (jG1 L M).length := (List.getElem?_eq_some_iff.1 hka).1
  have hq2 : (jG1 L M).drop (k + 1) = jG1 (L.drop i2) (M.drop j2) := by
   have := congrArg List.tail p8
   simpa using this
  refine awy_seq_region (fun Z hZ => ?_)
  refine sy_x rfl ?_
  refine sM rfl rfl ?_
  refine sN ?_
  refine sy_x rfl ?_
  first | refine sLA 0 rfl rfl tyA87 tyS87 (by simp only [qS, Nat.reduceAdd]; rfl) (by simp only [qS]; rfl) rfl ?_
  refine sN ?_
  refine sy_yield (.own g1 87 ch.cells :: (roE A5 (jA0 L) ++ roE B5 (jA0 M))) T3 Jr Jr (hY k _ T3 (by simp [hka]) hT3) rfl rfl rfl (List.Sublist.refl _) hJr rfl ?_
  rintro v T4 ⟨b, rfl, hb1, hb2⟩
  refine sy_x rfl ?_
  refine sx_not rfl rfl ?_
  refine sN ?_
  refine sy_nil (hZ _ _ ?_)
  refine aF [(0, _), (4, _), (5, _), (94, _)] (kR rfl) ?_
  refine aC rfl (fun h3 => ?_) (fun h3 => ?_)
  ·have hb : b = false := by simpa using h3
   refine aE ?_
   repeat (with_reducible (first | refine nTR ?_ | refine nBR ?_))
   exact nx_ret0h T4 rfl (wrs_fltc (A := .own g1 87 ch.cells :: (roE A5 (jA0 L) ++ roE B5 (jA0 M))) (hS T4 (hb2 hb))) (.inr (hb2 hb))
  have hb : b = true := by simpa using h3
  have hT4 := hb1 hb
  rw [(hJ _ T4 hT4).filter]
  refine aK ?_
  repeat (with_reducible refine nBN ?_)
  exact jB5 ((i2, X2, cx2), (j2, Y2, cy2), k + 1, T4) ⟨p1, p2, p3, p4, p5, p6, hq2, hkl, hT4⟩ (by simp; omega) (kR rfl) (HLe.drop 1 rfl)
 ·have h0 : L.length - i = 0 ∧ M.length - j = 0 := by simp at hh; omega
  have hdx : L.drop i = [] := List.drop_eq_nil_of_le (by omega)
  have hdy : M.drop j = [] := List.drop_eq_nil_of_le (by omega)
  rw [hdx, hdy, jG1] at hq
  have hke : k = (jG1 L M).length := by
   have := congrArg List.length hq
   simp at this
   omega
  subst hke
  refine jB1 ?_
  repeat (with_reducible refine nTE ?_)
  with_reducible refine nBE ?_
  exact nx_end0h T3 rfl (HLe.sub ((List.sublist_append_left T3 Jr).trans (List.sublist_append_right _ _))) (.inl hT3)
end Go.Proofs.YtkojkeabelckjaaGreatDoor
namespace Go.Proofs.YtkojkeabelckjaaGreatDoor
open Go.RowKit
theorem flt_take {L : List Chg} {k : Nat} {x : Chg} (h : L[k]? = some x) : (L.take (k + 1)).filter difQ = (L.take k).filter difQ ++ (if difQ x then [x] else []) := by
 rw [List.take_add_one, h, List.filter_append]
 congr 1
 simp [List.filter_cons]
theorem gbet_fn (A : Option Addr) (c : Nat) (L : List It) (B : Option Addr) (d : Nat) (M : List It) (hA : SlIn A L.length c) (hB : SlIn B M.length d) (hL : L.length ≤ 100000) (hM : M.length ≤ 100000) :
  Fn Tryz.prog 27 [chV A L.length c, chV B M.length d] (roE A (jA0 L) ++ roE B (jA0 M)) fun v H' => RowOk v (betQ L M).length ∧ H' = rowE v 87 3 (gcells (betQ L M)) := by
 have hbl := both_len _ L M (Nat.le_refl _)
 obtain ⟨T, hT⟩ : ∃ T, T = roE A (jA0 L) ++ roE B (jA0 M) := ⟨_, rfl⟩
 have hit := fun ga gb => both_it ga gb A c L B d M hA hB hL hM
 have hTro : Ro T := by rw [hT]; exact (Ro.roE _ _).append (Ro.roE _ _)
 rw [← hT] at hit ⊢
 refine Fn.enterM (n := 21) Tryz.func27 rfl (by kernel_rfl) rfl (fun w0 => ?_)
 refine aR (fun Z hZ => ?_)
 refine jC3 rfl rfl rfl (fun g1 => ?_)
 refine jC3 rfl rfl rfl (fun g2 => ?_)
 refine sA rfl rfl <| sN (hZ _ _ ?_)
 refine aF [(2, _), (3, _)] (kR rfl) ?_
 refine aR (fun Z hZ => ?_)
 refine sAl tyZ35 rfl (fun g3 => ?_)
 refine sN (hZ _ _ ?_)
 refine aF [(2, _), (3, _), (5, _)] (kR rfl) ?_
 refine aS ?_
 refine aR (fun Z hZ => ?_)
 refine sLA 2 rfl rfl tyA27 tyS27 rfl (by simp only [qS, Value.cells]; rfl) rfl ?_
 refine sLA 1 rfl rfl tyA27 tyS27 rfl (by simp only [qS, Value.cells]; rfl) rfl ?_
 refine jD3 [] _ (gboth_fn A L.length c B M.length d) rfl (HLe.refl _) rfl ?_
 rintro v H' ⟨ga, gb, rfl, rfl⟩
 refine sN (hZ _ _ ?_)
 refine aF [(5, _), (9, _)] (kR rfl) ?_
 refine jA8 ([.own g3 35 [.slice none 0 0]] ++ ((.ro ga 0 [.slice A L.length c] :: .ro gb 0 [.slice B M.length d] :: T) ++ [])) (by
  rw [List.append_nil]
  refine (HLe.toRo (t := 27) [_] _).trans ?_
  refine (HLe.toRo (t := 27) [_, _] _).trans ?_
  exact fun _ _ _ hw => (hw.sub (.cons_cons _ (.cons_cons _ (.cons_cons _ (.cons _ (.cons _ (List.Sublist.refl T))))))).perm ((List.Perm.swap _ _ _).trans (((List.Perm.swap _ _ _).cons _).trans (List.Perm.swap _ _ _)))) ?_
 refine aB ?_
 refine awp_range (fun k H => ∃ v, RowOk v (((jG1 L M).take k).filter difQ).length ∧ H = .own g3 35 [v] :: rowE v 87 3 (gcells (((jG1 L M).take k).filter difQ))) [] (fun _ _ => False) [.own g3 35 [.slice none 0 0]] (hit ga gb) rfl (fun k H ⟨v, _, h⟩ => by subst h; exact .cons rfl (rowE_wrs _ _ _ _)) (fun _ _ h => h.elim) Ro.nil (fun x hx => by rcases List.mem_cons.1 hx with rfl | hx; rfl; rcases List.mem_cons.1 hx with rfl | hx; rfl; exact hTro x hx) (fun k vs h => by rw [List.getElem?_map] at h; cases hk : (jG1 L M)[k]? with | none => rw [hk] at h; cases h | some x => rw [hk] at h; obtain rfl := Option.some.inj h; rfl) rfl ⟨_, RowOk.nil, rfl⟩ (HLe.refl _) rfl ?_ ?_ (fun _ _ _ h => h.elim)
 ·rintro k vs H hk ⟨v, hv, rfl⟩ l w1
  rw [List.getElem?_map] at hk
  cases hkx : (jG1 L M)[k]? with
  | none => rw [hkx] at hk; cases hk
  | some x =>
   rw [hkx] at hk
   obtain rfl := Option.some.inj hk
   have hlt : k < (jG1 L M).length := (List.getElem?_eq_some_iff.1 hkx).1
   have htk := flt_take hkx
   have hfl : (((jG1 L M).take k).filter difQ).length ≤ 200000 := Nat.le_trans (List.length_filter_le _ _) (by rw [List.length_take]; omega)
   obtain ⟨F, hF⟩ : ∃ F, ((jG1 L M).take k).filter difQ = F := ⟨_, rfl⟩
   rw [hF] at hv htk hfl ⊢
   refine aG (fun Z hZ => ?_)
   refine sAl tyZ87 rfl (fun g4 => ?_)
   refine sS 0 rfl rfl rfl tyS87 (by simp only [Value.cells]; rfl) rfl rfl rfl (by simp only [qS, Nat.reduceAdd, wrV]; rfl) (by simp only [List.set_cons_zero]; rfl) ?_
   refine sN (hZ _ _ ?_)
   refine nF [(5, _), (6, _)] (kR rfl) ?_
   refine nx_assign [_] (.cons rfl .nil) (HLe.refl _) fun w2 => ?_
   refine aB ?_
   refine jA8 (.own g4 87 x.cells :: .own g3 35 [v] :: rowE v 87 3 (gcells F)) (by rw [List.append_nil]; exact HLe.refl _) ?_
   refine aR (fun Z hZ => ?_)
   refine sFA rfl tyF87_1 (by simp only [Nat.zero_add]; rfl) rfl ?_
   refine sL 0 rfl rfl tyA9 tyS9 rfl rfl ?_
   refine sFA rfl tyF87_2 (by simp only [Nat.zero_add]; rfl) rfl ?_
   refine sL 0 rfl rfl tyA9 tyS9 rfl rfl ?_
   refine sx_sneq rfl rfl rfl ?_
   refine sN (hZ _ _ ?_)
   refine aF [(5, _), (6, _), (15, _)] (kR rfl) ?_
   refine aC rfl (fun h => ?_) (fun h => ?_)
   ·have hd : difQ x = true := by unfold difQ; simpa using h
    rw [hd, if_pos rfl] at htk
    refine aG (fun Z hZ => ?_)
    refine sL 1 rfl rfl tyA35 tyS35 rfl rfl ?_
    refine sLA 0 rfl rfl tyA87 tyS87 rfl (by simp only [qS]; rfl) rfl ?_
    refine sBS Tryz.underlying35 tyS87 tyZ87 rfl rfl rfl rfl (by simp only [qS, Nat.reduceAdd, Value.cells, wrV, Nat.reduceMul, Nat.zero_mul]; rfl) rfl (fun g5 => ?_)
    refine jD2 [_, _, _] elemG rfl hv (by rw [gcells_len]) rfl (fun w hw => rd_own (i := 0) (xs := x.cells) rfl rfl hw) rfl (by show _ ≤ 9223372036854775807; omega) (by omega) (HLe.refl _) rfl (fun v2 hv2 => ?_)
    obtain ⟨g6, c6, rfl⟩ := hv2.some (by omega)
    refine sS1 2 rfl rfl rfl tyS35 rfl rfl (by simp only [List.set_cons_zero]; rfl) rfl ?_
    refine sN (hZ _ _ ?_)
    refine nF [] (Kn.nil) ?_
    repeat (with_reducible refine nBN ?_)
    refine nx_next _ ⟨.slice (some ⟨g6, 0, none⟩) (F.length + 1) c6, ?_, rfl⟩ ?_
    ·rw [htk, List.length_append]; exact RowOk.mk _ _ _
    ·rw [htk, show gcells (F ++ [x]) = gcells F ++ x.cells by simp [gcells]]
     exact HLe.drop 2 rfl
   ·have hd : difQ x = false := by
     cases hdx : difQ x with
     | false => rfl
     | true => unfold difQ at hdx; simp at hdx h; exact absurd h hdx
    rw [hd, if_neg (by simp), List.append_nil] at htk
    refine aK ?_
    repeat (with_reducible refine nBN ?_)
    exact nx_next _ ⟨v, by rw [htk]; exact hv, rfl⟩ (by rw [htk]; exact HLe.drop 1 rfl)
 ·rintro D H ⟨v, hv, rfl⟩
  rw [List.length_map, List.take_length] at hv ⊢
  refine nBN ?_
  with_reducible refine nx_normalM ?_
  refine aR (fun Z hZ => ?_)
  refine sL 1 rfl rfl tyA35 tyS35 rfl rfl ?_
  refine sA rfl rfl <| sN (hZ _ _ ?_)
  refine aF [(4, _)] (Kn.cons rfl (Kn.nil)) ?_
  refine aE ?_
  exact nx_unmark [0] ⟨rfl, trivial⟩ (jD4 (rowE v 87 3 (gcells (betQ L M))) rfl rfl (HLe.sub (.cons _ (List.sublist_append_left _ _))) ⟨hv, rfl⟩)
def mkP (x : Chg) (O : List It) : Prop := mkE x O = 0 ∧ (x.new = [] → cHas x.id O = true)
theorem mk_same {x : Chg} {O : List It} (h : ¬ mkP x O) : mkO x O = O := by
 unfold mkP mkE at h
 unfold mkO
 split
 ·rename_i h1
  rw [if_pos h1] at h
  split
  ·rename_i h2
   rw [if_pos h2] at h
   exact del_same fun hh => h ⟨rfl, fun _ => hh⟩
  ·rename_i h2
   rw [if_neg h2] at h
   exact putQ_old fun hh => h ⟨hh, fun h3 => absurd h3 h2⟩
 ·rfl
theorem gmake_fn (A : Option Addr) (c : Nat) (O : List It) (x : Chg) (hA : SlIn A O.length c) (hok : ChOk O) :
  Fn Tryz.prog 30 [x.val, chV A O.length c] (roE A (jA0 O)) fun v H' => ∃ u, v = .tuple #[.agg #[u], iq (mkE x O)] ∧ ((mkP x O ∧ RowOk u (mkO x O).length ∧ H' = rowE u 62 2 (jA0 (mkO x O))) ∨ (¬ mkP x O ∧ u = .slice A O.length c ∧ H' = [])) := by
 have hll := hok.len
 have hput := put_fn2 A c O (roE A (jA0 O)) hA (fun _ => rfl) (Ro.roE _ _) (by omega) hok.rise x.id x.new
 have hdel := del_fn2 A c O (roE A (jA0 O)) hA (fun _ => rfl) (Ro.roE _ _) (by omega) hok.rise x.id
 refine Fn.enter (N := 37) Tryz.func30 rfl (by kernel_rfl) rfl (fun w0 => ?_)
 refine aR (fun Z hZ => ?_)
 refine jC3 rfl rfl rfl (fun g1 => ?_)
 refine jC3 rfl rfl rfl (fun g2 => ?_)
 refine sAl tyZ27 rfl (fun g3 => ?_)
 refine sA rfl rfl <| sN (hZ _ _ ?_)
 refine aF [(2, _), (3, _), (4, _)] (kR rfl) ?_
 refine aR (fun Z hZ => ?_)
 refine sLA 1 rfl rfl tyA27 tyS27 rfl (by simp only [qS, Value.cells]; rfl) rfl ?_
 refine sFA rfl tyF87_0 (by simp only [Nat.add_zero]; rfl) rfl ?_
 refine sL 2 rfl rfl tyA45 tyS45 rfl rfl ?_
 refine sx_cget O x.id hA (by repeat (first | exact List.Sublist.refl _ | exact List.nil_sublist _ | exact List.sublist_append_right _ _ | refine List.Sublist.trans ?_ (List.sublist_append_left _ _) | exact List.Sublist.cons_cons _ (List.nil_sublist _) | refine List.Sublist.cons _ ?_)) hok rfl rfl ?_
 refine sM rfl rfl <| sX rfl rfl rfl <| sX rfl rfl rfl <| sA rfl rfl <| sA rfl rfl <| sN (hZ _ _ ?_)
 refine aF [(2, _), (3, _), (4, _), (6, _)] (kR rfl) ?_
 refine aS (aB ?_)
 refine aR fun Z hZ => sM rfl rfl ?_
 refine sFA rfl tyF87_1 (by simp only [Nat.zero_add]; rfl) rfl ?_
 refine sL 2 rfl rfl tyA9 tyS9 rfl rfl ?_
 refine sx_sneq rfl rfl rfl ?_
 refine sA rfl rfl <| sN (hZ _ _ ?_)
 refine aF [(2, _), (3, _), (4, _), (15, _)] (kR rfl) ?_
 refine aC rfl (fun h => ?_) (fun h => ?_)
 ·have h' : ¬ cGet x.id O = x.old := by simpa using h
  have e9 : mkE x O = 9 := by unfold mkE; rw [if_neg h']
  rw [e9]
  refine aR (fun Z hZ => ?_)
  refine sLA 1 rfl rfl tyA27 tyS27 rfl (by simp only [qS, Value.cells]; rfl) rfl ?_
  refine sS 0 rfl rfl rfl tyS27 (by simp only [Value.cells]; rfl) rfl rfl rfl (by simp only [qS, wrV]; rfl) (by simp only [List.set_cons_zero]; rfl) ?_
  refine sA rfl rfl <| sN (hZ _ _ ?_)
  refine aF [(4, _), (5, _)] (kR rfl) ?_
  refine aE ?_
  repeat (with_reducible (first | refine nTR ?_ | refine nBR ?_))
  exact jB4 [] rfl (ResOk.cell 0 rfl rfl tyA27 tyS27 rfl) rfl (HLe.sub (List.nil_sublist _)) ⟨_, rfl, .inr ⟨fun hp => absurd (hp.1.symm.trans e9) (by decide), rfl, rfl⟩⟩
 have h' : cGet x.id O = x.old := by simpa using h
 refine aR (fun Z hZ => ?_)
 refine sFA rfl tyF87_2 (by simp only [Nat.zero_add]; rfl) rfl ?_
 refine sL 2 rfl rfl tyA9 tyS9 rfl rfl ?_
 refine sx_seql rfl rfl rfl ?_
 refine sA rfl rfl <| sN (hZ _ _ ?_)
 refine aF [(2, _), (3, _), (4, _), (21, _)] (kR rfl) ?_
 refine aC rfl (fun h2 => ?_) (fun h2 => ?_)
 ·have hn : x.new = [] := by simpa using h2
  have e0 : mkE x O = 0 := by unfold mkE; rw [if_pos h', if_pos hn]
  have eO : mkO x O = cDel x.id O := by unfold mkO; rw [if_pos h', if_pos hn]
  rw [e0]
  by_cases hh : cHas x.id O = true
  ·refine aR (fun Z hZ => ?_)
   refine sLA 1 rfl rfl tyA27 tyS27 rfl (by simp only [qS, Value.cells]; rfl) rfl ?_
   refine sFA rfl tyF87_0 (by simp only [Nat.add_zero]; rfl) rfl ?_
   refine sL 2 rfl rfl tyA45 tyS45 rfl rfl ?_
   refine sx_callVU (roE A (jA0 O)) hdel rfl (HLe.sub (by repeat (first | exact List.Sublist.refl _ | exact List.nil_sublist _ | exact List.sublist_append_right _ _ | refine List.Sublist.trans ?_ (List.sublist_append_left _ _) | exact List.Sublist.cons_cons _ (List.nil_sublist _) | refine List.Sublist.cons _ ?_))) (Ro.roE _ _) rfl ?_
   rintro v H' ⟨u, rfl, ⟨hp, hu, rfl⟩ | ⟨hp, rfl, rfl⟩⟩
   rotate_left
   exact absurd hh hp
   rw [jE4]
   refine jC1 _ (HLe.swap _ _) ?_
   obtain ⟨A2, c2, rfl, _⟩ := hu.form
   refine sS 0 rfl rfl rfl tyS27 (by simp only [Value.cells]; rfl) rfl rfl rfl (by simp only [qS, wrV]; rfl) rfl ?_
   refine sA rfl rfl <| sN (hZ _ _ ?_)
   refine aF [(4, _), (5, _)] (kR rfl) ?_
   refine aE ?_
   repeat (with_reducible (first | refine nTR ?_ | refine nBR ?_))
   exact jB4 (rowE _ 62 2 (jA0 (cDel x.id O))) rfl (ResOk.cell 0 rfl rfl tyA27 tyS27 rfl) rfl (HLe.sub (List.sublist_append_right (_ :: _ :: _ :: _) _)) ⟨_, rfl, .inl ⟨⟨e0, fun _ => hh⟩, by rw [eO]; exact hu, by rw [eO]⟩⟩
  ·refine aR (fun Z hZ => ?_)
   refine sLA 1 rfl rfl tyA27 tyS27 rfl (by simp only [qS, Value.cells]; rfl) rfl ?_
   refine sFA rfl tyF87_0 (by simp only [Nat.add_zero]; rfl) rfl ?_
   refine sL 2 rfl rfl tyA45 tyS45 rfl rfl ?_
   refine sx_callVU (roE A (jA0 O)) hdel rfl (HLe.sub (by repeat (first | exact List.Sublist.refl _ | exact List.nil_sublist _ | exact List.sublist_append_right _ _ | refine List.Sublist.trans ?_ (List.sublist_append_left _ _) | exact List.Sublist.cons_cons _ (List.nil_sublist _) | refine List.Sublist.cons _ ?_))) (Ro.roE _ _) rfl ?_
   rintro v H' ⟨u, rfl, ⟨hp, hu, rfl⟩ | ⟨hp, rfl, rfl⟩⟩
   exact absurd hp hh
   refine jC1 _ (HLe.refl _) ?_
   refine sS 0 rfl rfl rfl tyS27 (by simp only [Value.cells]; rfl) rfl rfl rfl (by simp only [qS, wrV]; rfl) rfl ?_
   refine sA rfl rfl <| sN (hZ _ _ ?_)
   refine aF [(4, _), (5, _)] (kR rfl) ?_
   refine aE ?_
   repeat (with_reducible (first | refine nTR ?_ | refine nBR ?_))
   exact jB4 [] rfl (ResOk.cell 0 rfl rfl tyA27 tyS27 rfl) rfl (HLe.sub (List.nil_sublist _)) ⟨_, rfl, .inr ⟨fun hp => hh (hp.2 hn), rfl, rfl⟩⟩
 have hn : ¬ x.new = [] := by simpa using h2
 have e0 : mkE x O = putE x.id x.new O := by unfold mkE; rw [if_pos h', if_neg hn]
 have eO : mkO x O = putQ x.id x.new O := by unfold mkO; rw [if_pos h', if_neg hn]
 refine aK ?_
 repeat (with_reducible refine nBN ?_)
 with_reducible refine nN ?_
 rw [e0]
 obtain ⟨e, he⟩ : ∃ e, putE x.id x.new O = e := ⟨_, rfl⟩
 by_cases hz : putE x.id x.new O = 0
 ·rw [he] at hput ⊢
  have hze : e = 0 := he.symm.trans hz
  refine aR (fun Z hZ => ?_)
  refine sLA 1 rfl rfl tyA27 tyS27 rfl (by simp only [qS, Value.cells]; rfl) rfl ?_
  refine sFA rfl tyF87_0 (by simp only [Nat.add_zero]; rfl) rfl ?_
  refine sL 2 rfl rfl tyA45 tyS45 rfl rfl ?_
  refine sFA rfl tyF87_2 (by simp only [Nat.zero_add]; rfl) rfl ?_
  refine sL 2 rfl rfl tyA9 tyS9 rfl rfl ?_
  refine sx_callVU (roE A (jA0 O)) hput rfl (HLe.sub (by repeat (first | exact List.Sublist.refl _ | exact List.nil_sublist _ | exact List.sublist_append_right _ _ | refine List.Sublist.trans ?_ (List.sublist_append_left _ _) | exact List.Sublist.cons_cons _ (List.nil_sublist _) | refine List.Sublist.cons _ ?_))) (Ro.roE _ _) rfl ?_
  rintro v H' ⟨u, rfl, ⟨hp, hu, rfl⟩ | ⟨hp, rfl, rfl⟩⟩
  rotate_left
  exact absurd hze hp
  rw [jE4]
  refine jC1 _ (HLe.swap _ _) ?_
  obtain ⟨A2, c2, rfl, _⟩ := hu.form
  refine sX rfl rfl rfl <| sX rfl rfl rfl ?_
  refine sS 0 rfl rfl rfl tyS27 (by simp only [Value.cells]; rfl) rfl rfl rfl (by simp only [qS, wrV]; rfl) rfl ?_
  refine sA rfl rfl <| sN (hZ _ _ ?_)
  refine aF [(4, _), (5, _)] (kR rfl) ?_
  refine aE ?_
  exact jB4 (rowE _ 62 2 (jA0 (cPut x.id x.new O))) rfl (ResOk.cell 0 rfl rfl tyA27 tyS27 rfl) rfl (HLe.sub (List.sublist_append_right (_ :: _ :: _ :: _) _)) ⟨_, rfl, .inl ⟨⟨e0.trans hz, fun h3 => absurd h3 hn⟩, by rw [eO, putQ_new hz]; exact hu, by rw [eO, putQ_new hz]⟩⟩
 ·rw [he] at hput ⊢
  have hze : ¬ e = 0 := fun h => hz (he.trans h)
  refine aR (fun Z hZ => ?_)
  refine sLA 1 rfl rfl tyA27 tyS27 rfl (by simp only [qS, Value.cells]; rfl) rfl ?_
  refine sFA rfl tyF87_0 (by simp only [Nat.add_zero]; rfl) rfl ?_
  refine sL 2 rfl rfl tyA45 tyS45 rfl rfl ?_
  refine sFA rfl tyF87_2 (by simp only [Nat.zero_add]; rfl) rfl ?_
  refine sL 2 rfl rfl tyA9 tyS9 rfl rfl ?_
  refine sx_callVU (roE A (jA0 O)) hput rfl (HLe.sub (by repeat (first | exact List.Sublist.refl _ | exact List.nil_sublist _ | exact List.sublist_append_right _ _ | refine List.Sublist.trans ?_ (List.sublist_append_left _ _) | exact List.Sublist.cons_cons _ (List.nil_sublist _) | refine List.Sublist.cons _ ?_))) (Ro.roE _ _) rfl ?_
  rintro v H' ⟨u, rfl, ⟨hp, hu, rfl⟩ | ⟨hp, rfl, rfl⟩⟩
  exact absurd hp hze
  refine jC1 _ (HLe.refl _) ?_
  refine sX rfl rfl rfl <| sX rfl rfl rfl ?_
  refine sS 0 rfl rfl rfl tyS27 (by simp only [Value.cells]; rfl) rfl rfl rfl (by simp only [qS, wrV]; rfl) rfl ?_
  refine sA rfl rfl <| sN (hZ _ _ ?_)
  refine aF [(4, _), (5, _)] (kR rfl) ?_
  refine aE ?_
  exact jB4 [] rfl (ResOk.cell 0 rfl rfl tyA27 tyS27 rfl) rfl (HLe.sub (List.nil_sublist _)) ⟨_, rfl, .inr ⟨fun hp => hz (e0 ▸ hp.1), rfl, rfl⟩⟩
end Go.Proofs.YtkojkeabelckjaaGreatDoor
