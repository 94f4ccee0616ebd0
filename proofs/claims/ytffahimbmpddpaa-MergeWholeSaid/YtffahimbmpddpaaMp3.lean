/- The entries of a chart tell it: plain laws. -/
import Derived.Test.YtffahimbmpddpaaMp2
namespace Go.Proofs.Ytffahimbmpddpaa.V
open Go.RowKit
set_option linter.unusedVariables false
set_option linter.unusedSimpArgs false
theorem len_le_sub {α : Type} [DecidableEq α] : ∀ (L M : List α), L.Nodup → (∀ x ∈ L, x ∈ M) → L.length ≤ M.length
  | [], _, _, _ => Nat.zero_le _
  | a :: r, M, hn, h => by
    have ha := h a List.mem_cons_self
    have hr := List.nodup_cons.1 hn
    have := len_le_sub r (M.erase a) hr.2 (fun x hx => (List.mem_erase_of_ne (fun (e : x = a) => hr.1 (by rw [← e]; exact hx))).2 (h x (List.mem_cons_of_mem _ hx)))
    rw [List.length_erase_of_mem ha] at this
    have hp := List.length_pos_of_mem ha
    rw [List.length_cons]
    omega
theorem sep_tail {a : En} {r : List En} (h : ∀ i x y, (a :: r)[i]? = some x → (a :: r)[i + 1]? = some y → lastE x < y.id ∧ oneQ x y = false) : ∀ i x y, r[i]? = some x → r[i + 1]? = some y → lastE x < y.id ∧ oneQ x y = false :=
  fun i x y h1 h2 => h (i + 1) x y (by rwa [List.getElem?_cons_succ]) (by rwa [List.getElem?_cons_succ])
theorem rowQ_gr : ∀ (G : List En) (free : Nat), (∀ e ∈ G, 0 < e.run ∧ chkE e = 0 ∧ e.ok) → (∀ i x y, G[i]? = some x → G[i + 1]? = some y → lastE x < y.id ∧ oneQ x y = false) → (∀ x, G[0]? = some x → free ≤ x.id) → rowQ free G = 0
  | [], _, _, _, _ => rfl
  | a :: r, free, h1, h2, h3 => by
    have ha := h3 a rfl
    rw [rowQ, if_pos (h1 a List.mem_cons_self).2.1, if_neg (by omega)]
    exact rowQ_gr r _ (fun e he => h1 e (List.mem_cons_of_mem _ he)) (sep_tail h2) (fun x hx => (h2 0 a x rfl (by rwa [List.getElem?_cons_succ])).1)
theorem leastR_gr : ∀ (G : List En) (p : Option En), (∀ e ∈ G, 0 < e.run ∧ chkE e = 0 ∧ e.ok) → (∀ i x y, G[i]? = some x → G[i + 1]? = some y → lastE x < y.id ∧ oneQ x y = false) → (∀ x y, p = some x → G[0]? = some y → oneQ x y = false) → leastR p G = true
  | [], _, _, _, _ => rfl
  | a :: r, p, h1, h2, h3 => by
    have ha := (h1 a List.mem_cons_self).1
    have hb : leastB p a = false := by
      unfold leastB
      cases p with
      | none => simp; omega
      | some x => simp [h3 x a rfl rfl]; omega
    rw [leastR, hb]
    simp only [Bool.false_eq_true, if_false]
    refine leastR_gr r _ (fun e he => h1 e (List.mem_cons_of_mem _ he)) (sep_tail h2) (fun x y hx hy => ?_)
    injection hx with hx
    subst hx
    exact (h2 0 a y rfl (by rwa [List.getElem?_cons_succ])).2
theorem cnt_gr : ∀ (G : List En) (n : Nat), (∀ e ∈ G, chkE e = 0) → G.foldl (fun n e => n + cnt1 e) n = n + (G.flatMap expE).length
  | [], _, _ => rfl
  | a :: r, n, h => by
    rw [List.foldl_cons, cnt_gr r _ (fun e he => h e (List.mem_cons_of_mem _ he)), List.flatMap_cons, List.length_append, expE_len]
    unfold cnt1
    rw [if_pos (h a List.mem_cons_self)]
    omega
theorem end_le : ∀ (G : List En) (n B : Nat), n ≤ B → (∀ e ∈ G, e.next ≤ B) → G.foldl (fun n e => if chkE e = 0 then max n e.next else n) n ≤ B
  | [], _, _, h, _ => h
  | a :: r, n, B, h, h2 => by
    rw [List.foldl_cons]
    refine end_le r _ B ?_ (fun e he => h2 e (List.mem_cons_of_mem _ he))
    have := h2 a List.mem_cons_self
    split <;> omega
theorem end_ge : ∀ (G : List En) (n : Nat), n ≤ G.foldl (fun n e => if chkE e = 0 then max n e.next else n) n ∧ ∀ e ∈ G, chkE e = 0 → e.next ≤ G.foldl (fun n e => if chkE e = 0 then max n e.next else n) n
  | [], _ => ⟨Nat.le_refl _, fun e he => by cases he⟩
  | a :: r, n => by
    rw [List.foldl_cons]
    obtain ⟨h1, h2⟩ := end_ge r (if chkE a = 0 then max n a.next else n)
    refine ⟨Nat.le_trans (by split <;> omega) h1, fun e he hc => ?_⟩
    rcases List.mem_cons.1 he with rfl | he
    · rw [if_pos hc] at h1 ⊢
      omega
    · exact h2 e he hc
theorem akeys_put (M : CtM) (k k' : Nat × Nat) (v : Nat) : k' ∈ akeys (aput M k v) ↔ k' = k ∨ k' ∈ akeys M := by
  have h1 := aget_none (M := aput M k v) (k := k')
  have h2 := aget_none (M := M) (k := k')
  rw [aget_put] at h1
  by_cases h : k = k'
  · rw [if_pos h] at h1
    have : k' ∈ akeys (aput M k v) := Classical.byContradiction fun hn => by have := h1.2 hn; cases this
    exact ⟨fun _ => .inl h.symm, fun _ => this⟩
  · rw [if_neg h, h2] at h1
    constructor
    · intro hm
      exact .inr (Classical.byContradiction fun hn => h1.1 hn hm)
    · rintro (e | hm)
      · exact absurd e.symm h
      · exact Classical.byContradiction fun hn => h1.2 hn hm
theorem cst_keys : ∀ (L : List En) (M : CtM), (akeys M).Nodup → (akeys (L.foldl cst1 M)).Nodup ∧ ∀ k, k ∈ akeys (L.foldl cst1 M) ↔ k ∈ akeys M ∨ ∃ e ∈ L, (chkE e = 0 ∧ 0 < e.run) ∧ (e.off, e.len) = k
  | [], M, h => ⟨h, fun k => by simp⟩
  | a :: r, M, h => by
    rw [List.foldl_cons]
    unfold cst1
    split
    · rename_i hc
      obtain ⟨h1, h2⟩ := cst_keys r (seeC M (a.off, a.len)) (nodup_put h _ _)
      refine ⟨h1, fun k => ?_⟩
      have := h2 k
      unfold cst1 at this
      rw [this]
      unfold seeC
      rw [akeys_put]
      constructor
      · rintro ((e | h) | ⟨e, he, h⟩)
        · exact .inr ⟨a, List.mem_cons_self, hc, e.symm⟩
        · exact .inl h
        · exact .inr ⟨e, List.mem_cons_of_mem _ he, h⟩
      · rintro (h | ⟨e, he, h⟩)
        · exact .inl (.inr h)
        · rcases List.mem_cons.1 he with rfl | he
          · exact .inl (.inl h.2.symm)
          · exact .inr ⟨e, he, h⟩
    · rename_i hc
      obtain ⟨h1, h2⟩ := cst_keys r M h
      refine ⟨h1, fun k => ?_⟩
      have := h2 k
      unfold cst1 at this
      rw [this]
      constructor
      · rintro (h | ⟨e, he, h⟩)
        · exact .inl h
        · exact .inr ⟨e, List.mem_cons_of_mem _ he, h⟩
      · rintro (h | ⟨e, he, h⟩)
        · exact .inl h
        · rcases List.mem_cons.1 he with rfl | he
          · exact absurd h.1 hc
          · exact .inr ⟨e, he, h⟩
theorem cst_len (L : List En) : (akeys (cstM L)).length = (cstM L).length := by simp [akeys]
theorem its_exp (e : En) (D : List UInt8) : itsOf e D = (expE e).map fun u => ⟨u.id, txOf u D⟩ := by
  unfold itsOf expE
  rw [List.map_map]
  rfl
theorem its_all (D : List UInt8) : ∀ L : List En, L.flatMap (fun e => itsOf e D) = (L.flatMap expE).map fun u => ⟨u.id, txOf u D⟩
  | [] => rfl
  | a :: r => by rw [List.flatMap_cons, List.flatMap_cons, List.map_append, its_all D r, its_exp]
theorem mbR_gr (D : List UInt8) : ∀ (L : List En) (many : Nat) (out : List It), (∀ e ∈ L, 0 < e.run ∧ e.off + e.len ≤ D.length ∧ e.len ≤ 65536) → many + (L.flatMap expE).length ≤ 2048 → mbR D many out L = (0, out ++ L.flatMap fun e => itsOf e D)
  | [], _, out, _, _ => by rw [mbR]; simp
  | a :: r, many, out, h, hm => by
    obtain ⟨h1, h2, h3⟩ := h a List.mem_cons_self
    rw [List.flatMap_cons, List.length_append, expE_len] at hm
    have hw : mwrQ a (many + a.run) D = 0 := by
      unfold mwrQ
      rw [if_neg (by omega), if_neg (by omega), if_neg (by omega), if_neg (by omega)]
    rw [mbR, if_pos hw, mbR_gr D r _ _ (fun e he => h e (List.mem_cons_of_mem _ he)) (by omega), List.flatMap_cons, List.append_assoc]
end Go.Proofs.Ytffahimbmpddpaa.V
