/- Changes that are made, plain. No conditions. -/
import Derived.Test.YtahmhcmfeloclaaDf1
namespace Go.Proofs.Ytahmhcmfeloclaa
open Go.RowKit
set_option linter.unusedVariables false
set_option linter.unusedSimpArgs false
def mkE (x : Chg) (O : List It) : Nat := if cGet x.id O = x.old then (if x.new = [] then 0 else putE x.id x.new O) else 9
def mkO (x : Chg) (O : List It) : List It := if cGet x.id O = x.old then (if x.new = [] then cDel x.id O else putQ x.id x.new O) else O
def appR : List It → List Nat → List Chg → Nat × List It
  | O, _, [] => (0, O)
  | O, seen, x :: r => if x.old = x.new then (2, O) else if x.id ∈ seen then (22, O) else if mkE x O = 0 then appR (mkO x O) (seen ++ [x.id]) r else (mkE x O, O)
def appE (O : List It) (l : List Chg) : Nat := (appR O [] l).1
def appO (O : List It) (l : List Chg) : List It := if appE O l = 0 then (appR O [] l).2 else O
theorem mk_ok {O : List It} (h : ChOk O) (x : Chg) : ChOk (mkO x O) := by
  unfold mkO
  split
  · split
    · exact h.del _
    · exact h.putQ _ _
  · exact h
theorem app_chok : ∀ (l : List Chg) (O : List It) (seen : List Nat), ChOk O → ChOk (appR O seen l).2
  | [], _, _, h => h
  | x :: r, O, seen, h => by
    rw [appR]
    split
    · exact h
    · split
      · exact h
      · split
        · exact app_chok r _ _ (mk_ok h x)
        · exact h
theorem appO_ok {O : List It} (h : ChOk O) (l : List Chg) : ChOk (appO O l) := by
  unfold appO
  split
  · exact app_chok l O [] h
  · exact h
theorem rget_skip {X Y : List It} {j k : Nat} {s : List UInt8} (h : ¬ j = k) : rGet k (X ++ ⟨j, s⟩ :: Y) = rGet k (X ++ Y) := by
  induction X with
  | nil => rw [List.nil_append, List.nil_append, rget_cons, if_neg h]
  | cons e r ih => rw [List.cons_append, List.cons_append, rget_cons, rget_cons, ih]
theorem get_del {O : List It} (h : ChOk O) (j k : Nat) : cGet k (cDel j O) = if k = j then [] else cGet k O := by
  rw [(get_eq (h.del j).rise k).2, (get_eq h.rise k).2]
  obtain ⟨X, Y, hh, ⟨s, rfl⟩ | rfl⟩ := it_half h.rise j
  · rw [hh.del1]
    split
    · rename_i e; subst e; rw [hh.rget0]; rfl
    · rename_i e; rw [rget_skip (fun e' => e e'.symm)]
  · rw [hh.del0]
    split
    · rename_i e; subst e; rw [hh.rget0]; rfl
    · rfl
theorem get_put {O : List It} (h : ChOk O) {j : Nat} {s : List UInt8} (he : putE j s O = 0) (k : Nat) : cGet k (putQ j s O) = if k = j then s else cGet k O := by
  split
  · rename_i e; subst e; exact (put_get h.rise he).2
  · rename_i e
    rw [(get_eq (h.putQ j s).rise k).2, (get_eq h.rise k).2, putQ_new he]
    obtain ⟨X, Y, hh, ⟨t, rfl⟩ | rfl⟩ := it_half h.rise j
    · rw [hh.put1, rget_skip (fun e' => e e'.symm), rget_skip (fun e' => e e'.symm)]
    · rw [hh.put0, rget_skip (fun e' => e e'.symm)]
theorem mk_get {O : List It} (h : ChOk O) {x : Chg} (he : mkE x O = 0) : cGet x.id O = x.old ∧ ∀ k, cGet k (mkO x O) = if k = x.id then x.new else cGet k O := by
  unfold mkE at he
  split at he
  · rename_i h1
    refine ⟨h1, fun k => ?_⟩
    unfold mkO
    rw [if_pos h1]
    split at he
    · rename_i h2
      rw [if_pos h2, get_del h, h2]
    · rename_i h2
      rw [if_neg h2, get_put h he]
  · cases he
theorem mk_len {O : List It} (h : ChOk O) (x : Chg) : (mkO x O).length ≤ O.length + 1 := by
  unfold mkO
  split
  · split
    · have := del_len (L := O) x.id; omega
    · unfold putQ
      split
      · rw [put_len h.rise]; split <;> omega
      · omega
  · omega
theorem app_len : ∀ (l : List Chg) (O : List It) (seen : List Nat), ChOk O → (appR O seen l).2.length ≤ O.length + l.length
  | [], O, _, _ => Nat.le_refl _
  | x :: r, O, seen, h => by
    rw [appR, List.length_cons]
    split
    · show O.length ≤ _; omega
    · split
      · show O.length ≤ _; omega
      · split
        · have h1 := app_len r (mkO x O) (seen ++ [x.id]) (mk_ok h x)
          have h2 := mk_len h x
          omega
        · show O.length ≤ _; omega
/-- What it means that changes were made. -/
theorem app_done : ∀ (l : List Chg) (O : List It) (seen : List Nat), ChOk O → (appR O seen l).1 = 0 →
    (l.map Chg.id).Nodup ∧ (∀ x ∈ l, x.id ∉ seen) ∧ (∀ x ∈ l, x.old ≠ x.new ∧ cGet x.id O = x.old ∧ cGet x.id (appR O seen l).2 = x.new) ∧ ∀ k, (∀ x ∈ l, x.id ≠ k) → cGet k (appR O seen l).2 = cGet k O
  | [], O, _, _, _ => ⟨List.nodup_nil, by simp, by simp, fun _ _ => rfl⟩
  | x :: r, O, seen, h, h0 => by
    rw [appR] at h0 ⊢
    split at h0
    · cases h0
    · rename_i hne
      rw [if_neg hne]
      split at h0
      · cases h0
      · rename_i hns
        rw [if_neg hns]
        split at h0
        · rename_i hm
          rw [if_pos hm]
          obtain ⟨i1, i2, i3, i4⟩ := app_done r (mkO x O) (seen ++ [x.id]) (mk_ok h x) h0
          obtain ⟨g1, g2⟩ := mk_get h hm
          have hx : ∀ y ∈ r, y.id ≠ x.id := fun y hy e => i2 y hy (by rw [e]; simp)
          refine ⟨List.nodup_cons.2 ⟨fun hm => ?_, i1⟩, fun y hy => ?_, fun y hy => ?_, fun k hk => ?_⟩
          · obtain ⟨y, hy, e⟩ := List.mem_map.1 hm
            exact hx y hy e
          · rcases List.mem_cons.1 hy with rfl | hy
            · exact hns
            · exact fun hs => i2 y hy (List.mem_append_left _ hs)
          · rcases List.mem_cons.1 hy with rfl | hy
            · refine ⟨hne, g1, ?_⟩
              rw [i4 y.id hx, g2, if_pos rfl]
            · obtain ⟨j1, j2, j3⟩ := i3 y hy
              rw [g2, if_neg (hx y hy)] at j2
              exact ⟨j1, j2, j3⟩
          · rw [i4 k fun y hy => hk y (List.mem_cons_of_mem _ hy), g2, if_neg fun e => hk x List.mem_cons_self e.symm]
        · rename_i hm
          exact absurd h0 hm
/-- Changes that can be made. -/
theorem app_do : ∀ (l : List Chg) (O : List It) (seen : List Nat), ChOk O → (l.map Chg.id).Nodup → (∀ x ∈ l, x.id ∉ seen) → (∀ x ∈ l, x.old ≠ x.new ∧ cGet x.id O = x.old ∧ (x.new ≠ [] → x.id < 6004799503160661 ∧ x.new.length ≤ 65536)) → O.length + l.length ≤ 2048 → (appR O seen l).1 = 0
  | [], _, _, _, _, _, _, _ => rfl
  | x :: r, O, seen, h, hn, hs, hx, hl => by
    obtain ⟨n1, n2⟩ := List.nodup_cons.1 hn
    obtain ⟨x1, x2, x3⟩ := hx x List.mem_cons_self
    rw [List.length_cons] at hl
    have hm : mkE x O = 0 := by
      unfold mkE
      rw [if_pos x2]
      split
      · rfl
      · rename_i h1
        obtain ⟨x4, x5⟩ := x3 h1
        unfold putE wrongQ
        rw [if_neg (by omega), if_neg h1, if_neg (by omega), if_neg (by unfold fullQ; simp; intro _; omega)]
    obtain ⟨_, g2⟩ := mk_get h hm
    have hne : ∀ y ∈ r, y.id ≠ x.id := fun y hy e => n1 (List.mem_map.2 ⟨y, hy, e⟩)
    rw [appR, if_neg x1, if_neg (hs x List.mem_cons_self), if_pos hm]
    refine app_do r _ _ (mk_ok h x) n2 (fun y hy hm => ?_) (fun y hy => ?_) (by have := mk_len h x; omega)
    · rcases List.mem_append.1 hm with hm | hm
      · exact hs y (List.mem_cons_of_mem _ hy) hm
      · exact hne y hy (by simpa using hm)
    · obtain ⟨y1, y2, y3⟩ := hx y (List.mem_cons_of_mem _ hy)
      rw [g2, if_neg (hne y hy)]
      exact ⟨y1, y2, y3⟩
theorem get_fits {O : List It} (h : ChOk O) {k : Nat} (hk : cGet k O ≠ []) : k < 6004799503160661 ∧ (cGet k O).length ≤ 65536 := by
  have h1 := (get_ne h k).2 hk
  cases hg : rGet k O with
  | none => rw [hg] at h1; cases h1
  | some t =>
    have h2 := rget_in hg
    rw [(get_eq h.rise k).2, hg]
    exact ⟨h.lt _ h2, (h.tx _ h2).2⟩
theorem both_len : ∀ (n : Nat) (a b : List It), a.length + b.length ≤ n → (bothQ a b).length ≤ a.length + b.length
  | _, [], [], _ => by unfold bothQ; simp
  | 0, x :: xs, _, hn => by simp at hn
  | 0, [], y :: ys, hn => by simp at hn
  | n + 1, x :: xs, [], hn => by
    have := both_len n xs [] (by simp at hn ⊢; omega)
    unfold bothQ
    simp at this ⊢
    omega
  | n + 1, [], y :: ys, hn => by
    have := both_len n [] ys (by simp at hn ⊢; omega)
    unfold bothQ
    simp at this ⊢
    omega
  | n + 1, x :: xs, y :: ys, hn => by
    have h1 := both_len n xs (y :: ys) (by simp at hn ⊢; omega)
    have h2 := both_len n (x :: xs) ys (by simp at hn ⊢; omega)
    have h3 := both_len n xs ys (by simp at hn ⊢; omega)
    unfold bothQ
    split
    · simp at h1 ⊢; omega
    · split
      · simp at h2 ⊢; omega
      · simp at h3 ⊢; omega
theorem bet_len (a b : List It) : (betQ a b).length ≤ a.length + b.length := Nat.le_trans (List.length_filter_le _ _) (both_len _ a b (Nat.le_refl _))
theorem rise_ids {l : List Chg} (h : RiseC l) : (l.map Chg.id).Nodup := List.pairwise_map.2 (h.imp fun h => Nat.ne_of_lt h)
/-- What lies between two charts makes the one of the other. -/
theorem app_bet {a b : List It} (ha : ChOk a) (hb : ChOk b) (hl : a.length + (a.length + b.length) ≤ 2048) : appE a (betQ a b) = 0 ∧ appO a (betQ a b) = b := by
  obtain ⟨h1, h2⟩ := bet_mem ha hb
  have h0 : appE a (betQ a b) = 0 := app_do _ a [] ha (rise_ids h1) (fun _ _ h => by cases h) (fun x hx => by
    obtain ⟨x1, x2, x3⟩ := (h2 x).1 hx
    exact ⟨x3, x1, fun hn => by rw [← x2] at hn ⊢; exact get_fits hb hn⟩) (by have := bet_len a b; omega)
  refine ⟨h0, ?_⟩
  unfold appO
  rw [if_pos h0]
  obtain ⟨_, _, d3, d4⟩ := app_done _ a [] ha h0
  refine ch_ext (app_chok _ a [] ha) hb fun k => ?_
  by_cases hk : cGet k a = cGet k b
  · rw [d4 k fun x hx e => ?_, hk]
    obtain ⟨x1, x2, x3⟩ := (h2 x).1 hx
    rw [e] at x1 x2
    exact x3 (x1.symm.trans (hk.trans x2))
  · have := d3 _ ((h2 ⟨k, cGet k a, cGet k b⟩).2 ⟨rfl, rfl, hk⟩)
    exact this.2.2
theorem nodup_of {l : List Chg} (h : (l.map Chg.id).Nodup) : l.Nodup := (List.pairwise_map.1 h).imp fun h e => h (congrArg Chg.id e)
/-- Changes that were made lie between what was and what is. -/
theorem app_mem {O : List It} (h : ChOk O) {l : List Chg} (h0 : appE O l = 0) : (∀ c, c ∈ betQ O (appO O l) ↔ c ∈ l) ∧ (betQ O (appO O l)).length = l.length := by
  obtain ⟨d1, _, d3, d4⟩ := app_done l O [] h h0
  have hO : appO O l = (appR O [] l).2 := by unfold appO; rw [if_pos h0]
  have hok := appO_ok h l
  obtain ⟨b1, b2⟩ := bet_mem h hok
  have hm : ∀ c, c ∈ betQ O (appO O l) ↔ c ∈ l := fun c => by
    rw [b2 c, hO]
    constructor
    · rintro ⟨h1, h2, h3⟩
      by_cases hc : ∃ x ∈ l, x.id = c.id
      · obtain ⟨x, hx, e⟩ := hc
        obtain ⟨x1, x2, x3⟩ := d3 x hx
        rw [e] at x2 x3
        obtain ⟨i, o, n⟩ := c
        obtain ⟨i', o', n'⟩ := x
        simp only at *
        subst e
        rw [← h1, ← h2, x2, x3]
        exact hx
      · have := d4 c.id fun x hx e => hc ⟨x, hx, e⟩
        exact absurd (h1.symm.trans (this.symm.trans h2)) h3
    · intro hc
      obtain ⟨x1, x2, x3⟩ := d3 c hc
      exact ⟨x2, x3, x1⟩
  refine ⟨hm, ?_⟩
  have hn1 : (betQ O (appO O l)).Nodup := nodup_of (rise_ids b1)
  have hn2 : l.Nodup := nodup_of d1
  exact ((List.perm_ext_iff_of_nodup hn1 hn2).2 hm).length_eq
/-- Turned about they lead back. -/
theorem app_back {O : List It} (h : ChOk O) {l : List Chg} (h0 : appE O l = 0) (hl : O.length + l.length + l.length ≤ 2048) : appE (appO O l) (turnQ l) = 0 ∧ appO (appO O l) (turnQ l) = O := by
  obtain ⟨d1, _, d3, d4⟩ := app_done l O [] h h0
  have hO : appO O l = (appR O [] l).2 := by unfold appO; rw [if_pos h0]
  have hok := appO_ok h l
  have hlen := app_len l O [] h
  rw [← hO] at hlen d3 d4
  have hids : (turnQ l).map Chg.id = l.map Chg.id := by unfold turnQ; rw [List.map_map]; rfl
  have h1 : appE (appO O l) (turnQ l) = 0 := app_do _ _ [] hok (by rw [hids]; exact d1) (fun _ _ h => by cases h) (fun x hx => by
    obtain ⟨x1, x2, x3⟩ := d3 _ ((turn_mem l x).1 hx)
    exact ⟨fun e => x1 e.symm, x3, fun hn => by
      have x2 : cGet x.id O = x.new := x2
      rw [← x2] at hn ⊢
      exact get_fits h hn⟩) (by unfold turnQ; rw [List.length_map]; omega)
  refine ⟨h1, ?_⟩
  obtain ⟨_, _, e3, e4⟩ := app_done _ _ [] hok h1
  have hO2 : appO (appO O l) (turnQ l) = (appR (appO O l) [] (turnQ l)).2 := by unfold appO at h1 ⊢; rw [if_pos h1]
  rw [hO2]
  refine ch_ext (app_chok _ _ [] hok) h fun k => ?_
  by_cases hk : ∃ x ∈ l, x.id = k
  · obtain ⟨x, hx, rfl⟩ := hk
    obtain ⟨_, x2, _⟩ := d3 x hx
    have := e3 ⟨x.id, x.new, x.old⟩ ((turn_mem l _).2 hx)
    rw [x2]
    exact this.2.2
  · rw [e4 k fun x hx e => hk ⟨_, (turn_mem l x).1 hx, e⟩, d4 k fun x hx e => hk ⟨x, hx, e⟩]
/-- Once made they can't be made again. -/
theorem app_again {O : List It} (h : ChOk O) {l : List Chg} (h0 : appE O l = 0) : appO (appO O l) l = appO O l ∧ (appE (appO O l) l = 0 ↔ l = []) := by
  obtain ⟨d1, _, d3, d4⟩ := app_done l O [] h h0
  have hO : appO O l = (appR O [] l).2 := by unfold appO; rw [if_pos h0]
  rw [← hO] at d3
  match l, d3 with
  | [], _ => exact ⟨by simp [appO, appE, appR], by simp [appE, appR]⟩
  | x :: r, d3 =>
    obtain ⟨x1, _, x3⟩ := d3 x List.mem_cons_self
    have h9 : appE (appO O (x :: r)) (x :: r) = 9 := by
      have hm : mkE x (appO O (x :: r)) = 9 := by unfold mkE; rw [if_neg (by rw [x3]; exact fun e => x1 e.symm)]
      unfold appE
      rw [appR, if_neg x1, if_neg (by simp), hm]
      rfl
    exact ⟨by rw [show appO (appO O (x :: r)) (x :: r) = if appE (appO O (x :: r)) (x :: r) = 0 then (appR (appO O (x :: r)) [] (x :: r)).2 else appO O (x :: r) from rfl, h9]; rfl, by rw [h9]; simp⟩
end Go.Proofs.Ytahmhcmfeloclaa
