/- Walks and plain laws for this claim (texts Gdr3, joined). Each theorem states its own conditions. -/
import Derived.Test.YtkojkeabelckjaaGreatDoorJ18
import Derived.Test.YtkojkeabelckjaaGreatDoorJ07

set_option linter.all false
namespace Go.Proofs.YtkojkeabelckjaaGreatDoor.V
open Go.RowKit
end Go.Proofs.YtkojkeabelckjaaGreatDoor.V
namespace Go.Proofs.YtkojkeabelckjaaGreatDoor.V
open Go.RowKit
end Go.Proofs.YtkojkeabelckjaaGreatDoor.V
namespace Go.Proofs.YtkojkeabelckjaaGreatDoor.V
open Go.RowKit
set_option maxRecDepth 100000
end Go.Proofs.YtkojkeabelckjaaGreatDoor.V
namespace Go.Proofs.YtkojkeabelckjaaGreatDoor.V
open Go.RowKit
theorem decG_ok {s : List UInt8} : ∀ (k j : Nat) (M : List En) (p : Nat), M.length ≤ 4096 → jF2 M → p ≤ s.length →
  (decG s k j M p).1.length ≤ 4096 ∧ jF2 (decG s k j M p).1 ∧ (decG s k j M p).2.1 ≤ s.length ∧ ((decG s k j M p).2.2 ≠ 0 → (decG s k j M p).1 = [])
 | 0, j, M, p, hM, hE, hp => by
  rw [decG_0]
  have he : jF2 [] := fun e h => by cases h
  split
  ·exact ⟨Nat.zero_le _, he, hp, fun _ => rfl⟩
  split
  ·exact ⟨Nat.zero_le _, he, Nat.le_refl _, fun _ => rfl⟩
  ·exact ⟨hM, hE, Nat.le_refl _, fun h => absurd rfl h⟩
 | k + 1, j, M, p, hM, hE, hp => by
  have he : jF2 [] := fun e h => by cases h
  obtain ⟨f1, f2, _⟩ := getQ_facts s p hp
  rw [decG]
  split
  ·exact ⟨Nat.zero_le _, he, hp, fun _ => rfl⟩
  split
  ·exact ⟨Nat.zero_le _, he, hp, fun _ => rfl⟩
  ·exact decG_ok k (j + 1) _ _ (by simpa using hM) (ens_set hE (putQ_ok (atE_ok hE _) f1)) f2
theorem decQ_ok (s : List UInt8) : (decQ s).1.length ≤ 4096 ∧ jF2 (decQ s).1 ∧ (decQ s).2.1 ≤ s.length ∧ ((decQ s).2.2 ≠ 0 → (decQ s).1 = []) := by
 have he : jF2 [] := fun e h => by cases h
 unfold decQ
 split
 ·exact ⟨Nat.zero_le _, he, Nat.zero_le _, fun _ => rfl⟩
 split
 ·exact ⟨Nat.zero_le _, he, Nat.zero_le _, fun _ => rfl⟩
 split
 ·exact ⟨Nat.zero_le _, he, Nat.zero_le _, fun _ => rfl⟩
 ·exact decG_ok _ _ _ _ (by simp; omega) (ens_zero _) (getQ_facts s 0 (by omega)).2.1
theorem u8_of {x : Nat} (h : x < 256) : (UInt8.ofNat x).toNat = x := by simp; omega
theorem valL_vb (x : Nat) : valL (vb x) = x := by
 induction x using Nat.strongRecOn with
 | _ x ih =>
  rcases Nat.lt_or_ge x 128 with h | h
  ·rw [vb_lt h]
   simp only [valL, u8_of (show x < 256 by omega)]
   omega
  ·rw [vb_ge h]
   simp only [valL, u8_of (show x % 128 + 128 < 256 by omega), ih (x / 128) (by omega)]
   omega
theorem cnt_vb (x : Nat) : ∀ (k : Nat) (r : List UInt8), (vb x).length ≤ k → cnt k (vb x ++ r) = (vb x).length - 1 := by
 induction x using Nat.strongRecOn with
 | _ x ih =>
  intro k r hk
  have := vb_pos x
  obtain ⟨k, rfl⟩ : ∃ m, k = m + 1 := ⟨k - 1, by omega⟩
  rcases Nat.lt_or_ge x 128 with h | h
  ·rw [vb_lt h, List.singleton_append, cnt, if_neg (by rw [u8_of (by omega)]; omega)]
   rfl
  ·have hp := vb_pos (x / 128)
   rw [vb_ge h, List.length_cons] at hk
   rw [vb_ge h, List.cons_append, cnt, if_pos (by rw [u8_of (by omega)]; omega), ih (x / 128) (by omega) k r (by omega), List.length_cons]
   omega
theorem last_vb (x : Nat) : ∀ r : List UInt8, dat (vb x ++ r) ((vb x).length - 1) = x / 128 ^ ((vb x).length - 1) ∧ ((vb x).length = 1 ∨ 128 ^ ((vb x).length - 1) ≤ x) := by
 induction x using Nat.strongRecOn with
 | _ x ih =>
  intro r
  rcases Nat.lt_or_ge x 128 with h | h
  ·rw [vb_lt h]
   refine ⟨?_, .inl rfl⟩
   show (UInt8.ofNat x).toNat = x / 128 ^ 0
   rw [u8_of (by omega)]
   simp
  ·have hp := vb_pos (x / 128)
   obtain ⟨h1, h2⟩ := ih (x / 128) (by omega) r
   rw [vb_ge h, List.length_cons, List.cons_append, Nat.add_sub_cancel]
   obtain ⟨m, hm⟩ : ∃ m, (vb (x / 128)).length = m + 1 := ⟨_, (Nat.sub_add_cancel hp).symm⟩
   rw [hm, Nat.add_sub_cancel] at h1 h2
   rw [hm, dat_cons, h1, Nat.pow_succ, Nat.mul_comm (128 ^ m), ← Nat.div_div_eq_div_mul]
   refine ⟨rfl, .inr ?_⟩
   rcases h2 with h2 | h2
   ·obtain rfl : m = 0 := by omega
    simpa using h
   ·calc 128 * 128 ^ m ≤ 128 * (x / 128) := Nat.mul_le_mul_left _ h2
     _ ≤ x := Nat.mul_div_le _ _
theorem wrong_vb {x : Nat} (hx : x < 18446744073709551616) (r : List UInt8) : jC7 (vb x ++ r) = (0, (vb x).length) := by
 have h10 := vb_len10 hx
 have hp := vb_pos x
 have hc := cnt_vb x 10 r h10
 obtain ⟨hl, ho⟩ := last_vb x r
 have h1 : cnt 10 (vb x ++ r) ≠ 10 := by omega
 have h2 : cnt 10 (vb x ++ r) ≠ (vb x ++ r).length := by rw [hc, List.length_append]; omega
 have h3 : ¬ (cnt 10 (vb x ++ r) = 9 ∧ 1 < dat (vb x ++ r) 9) := by
  rintro ⟨h3, h4⟩
  rw [hc] at h3
  rw [h3] at hl
  rw [hl] at h4
  have : x / 128 ^ 9 < 2 := Nat.div_lt_of_lt_mul (by omega)
  omega
 have h4 : ¬ (0 < cnt 10 (vb x ++ r) ∧ dat (vb x ++ r) (cnt 10 (vb x ++ r)) = 0) := by
  rintro ⟨h4, h5⟩
  rw [hc] at h4 h5
  rw [hl] at h5
  rcases ho with ho | ho
  ·omega
  ·have := Nat.div_pos ho (Nat.pow_pos (by omega))
   omega
 unfold jC7
 rw [if_neg h1, if_neg h2, if_neg h3, if_neg h4, hc, Nat.sub_add_cancel hp]
theorem get_vb {s r : List UInt8} {p x : Nat} (hx : x < 18446744073709551616) (h : s.drop p = vb x ++ r) : getQ s p = (x, p + (vb x).length, 0) := by
 unfold getQ
 rw [h, wrong_vb hx r, if_pos rfl, List.take_left, valL_vb]
end Go.Proofs.YtkojkeabelckjaaGreatDoor.V
namespace Go.Proofs.YtkojkeabelckjaaGreatDoor.V
open Go.RowKit
def fld (c : Nat) (e : En) : Nat := if c = 0 then e.id else if c = 1 then e.run else if c = 2 then e.len else e.off
def valE (c : Nat) (a : En) (x : Nat) : Nat := if c = 0 then (a.id + x) % 18446744073709551616 else if c = 1 then x % 4294967296 else if c = 2 then x % 4294967296 else if x = 0 then a.next else x - 1
def likeE (c : Nat) (a b : En) : Prop := (c = 0 → a.id = b.id) ∧ (c = 3 → a.next = b.next)
theorem fld_put {c : Nat} (hc : c < 4) (a e : En) (x : Nat) : fld c (putQ c a e x) = valE c a x := by
 match c, hc with
 | 0, _ => rfl
 | 1, _ => rfl
 | 2, _ => rfl
 | 3, _ => rfl
theorem fld_put_ne {c d : Nat} (hc : c < 4) (hd : d < 4) (h : d ≠ c) (a e : En) (x : Nat) : fld d (putQ c a e x) = fld d e := by
 match c, hc, d, hd with
 | 0, _, 0, _ => omega
 | 0, _, 1, _ => rfl
 | 0, _, 2, _ => rfl
 | 0, _, 3, _ => rfl
 | 1, _, 0, _ => rfl
 | 1, _, 1, _ => omega
 | 1, _, 2, _ => rfl
 | 1, _, 3, _ => rfl
 | 2, _, 0, _ => rfl
 | 2, _, 1, _ => rfl
 | 2, _, 2, _ => omega
 | 2, _, 3, _ => rfl
 | 3, _, 0, _ => rfl
 | 3, _, 1, _ => rfl
 | 3, _, 2, _ => rfl
 | 3, _, 3, _ => omega
theorem errQ_0 (i : Nat) (a : En) (x : Nat) : errQ 0 i a x = if (a.id + x) % 18446744073709551616 < x then 11 else 0 := by unfold errQ; rw [if_pos rfl]
theorem errQ_12 {c : Nat} (h : c = 1 ∨ c = 2) (i : Nat) (a : En) (x : Nat) : errQ c i a x = if 4294967296 ≤ x then 11 else 0 := by unfold errQ; rw [if_neg (by omega), if_pos h]
theorem errQ_3 (i : Nat) (a : En) (x : Nat) : errQ 3 i a x = if i = 0 ∧ x = 0 ∨ 0 < i ∧ 0 < x ∧ x - 1 = a.next then 4 else 0 := by unfold errQ; rw [if_neg (by decide), if_neg (by decide)]
theorem errQ_like {c i x : Nat} {a b : En} (hc : c < 4) (h : likeE c a b) : errQ c i a x = errQ c i b x := by
 obtain ⟨h0, h3⟩ := h
 match c, hc with
 | 0, _ => rw [errQ_0, errQ_0, h0 rfl]
 | 1, _ => rw [errQ_12 (.inl rfl), errQ_12 (.inl rfl)]
 | 2, _ => rw [errQ_12 (.inr rfl), errQ_12 (.inr rfl)]
 | 3, _ => rw [errQ_3, errQ_3, h3 rfl]
theorem valE_like {c x : Nat} {a b : En} (hc : c < 4) (h : likeE c a b) : valE c a x = valE c b x := by
 obtain ⟨h0, h3⟩ := h
 match c, hc with
 | 0, _ => show (a.id + x) % _ = (b.id + x) % _; rw [h0 rfl]
 | 1, _ => rfl
 | 2, _ => rfl
 | 3, _ => show (if x = 0 then a.next else x - 1) = (if x = 0 then b.next else x - 1); rw [h3 rfl]
theorem val_num {c i : Nat} {a e : En} (hc : c < 4) (ha : a.ok) (he : e.ok) (hid : a.id ≤ e.id) (ho : e.off ≤ 1099511627776) : errQ c i a (numQ c i a e) = 0 ∧ valE c a (numQ c i a e) = fld c e := by
 obtain ⟨a1, a2, a3, a4⟩ := ha
 obtain ⟨e1, e2, e3, e4⟩ := he
 match c, hc with
 | 0, _ =>
  have h1 : (e.id + 18446744073709551616 - a.id) % 18446744073709551616 = e.id - a.id := by omega
  rw [numQ_0, errQ_0, h1]
  refine ⟨by rw [if_neg (by omega)], ?_⟩
  show (a.id + (e.id - a.id)) % 18446744073709551616 = e.id
  omega
 | 1, _ =>
  rw [numQ_1, errQ_12 (.inl rfl)]
  exact ⟨by rw [if_neg (by omega)], by show e.run % 4294967296 = e.run; omega⟩
 | 2, _ =>
  rw [numQ_2, errQ_12 (.inr rfl)]
  exact ⟨by rw [if_neg (by omega)], by show e.len % 4294967296 = e.len; omega⟩
 | 3, _ =>
  rw [numQ_3, errQ_3]
  by_cases h : 0 < i ∧ e.off = a.next
  ·rw [if_pos h]
   refine ⟨by rw [if_neg (by omega)], ?_⟩
   exact h.2.symm
  ·rw [if_neg h, show (e.off + 1) % 18446744073709551616 = e.off + 1 by omega]
   refine ⟨by rw [if_neg (by omega)], ?_⟩
   show (if e.off + 1 = 0 then a.next else e.off + 1 - 1) = e.off
   rw [if_neg (by omega)]
   omega
def Agr (j : Nat) (M L : List En) : Prop := M.length = L.length ∧ ∀ c i, c < 4 → i < L.length → c * L.length + i < j → fld c (atE M i) = fld c (atE L i)
theorem Agr.like {c i : Nat} {M L : List En} (hc : c < 4) (hi : i < L.length) (h : Agr (c * L.length + i) M L) : likeE c (prevE M i) (prevE L i) := by
 rcases Nat.eq_zero_or_pos i with h0 | h0
 ·subst h0
  exact ⟨fun _ => rfl, fun _ => rfl⟩
 ·have hp : ∀ N : List En, prevE N i = atE N (i - 1) := fun N => by simp [prevE, atE, Nat.ne_of_gt h0]
  rw [hp, hp]
  refine ⟨fun hc0 => ?_, fun hc3 => ?_⟩
  ·subst hc0
   exact h.2 0 (i - 1) (by omega) (by omega) (by omega)
  ·subst hc3
   have h1 : (atE M (i - 1)).off = (atE L (i - 1)).off := h.2 3 (i - 1) (by omega) (by omega) (by omega)
   have h2 : (atE M (i - 1)).len = (atE L (i - 1)).len := h.2 2 (i - 1) (by omega) (by omega) (by omega)
   simp only [En.next, h1, h2]
theorem atE_set (M : List En) {i : Nat} (y : En) (hi : i < M.length) : atE (M.set i y) i = y := by simp [atE, hi]
theorem atE_set_ne (M : List En) {i k : Nat} (y : En) (h : i ≠ k) : atE (M.set i y) k = atE M k := by simp [atE, h]
theorem Agr.step {c i x : Nat} {M L : List En} (hc : c < 4) (hi : i < L.length) (h : Agr (c * L.length + i) M L) (hv : valE c (prevE M i) x = fld c (atE L i)) : Agr (c * L.length + i + 1) (M.set i (putQ c (prevE M i) (atE M i) x)) L := by
 refine ⟨by rw [List.length_set]; exact h.1, fun d k hd hk hlt => ?_⟩
 by_cases hik : i = k
 ·subst hik
  rw [atE_set _ _ (by rw [h.1]; exact hi)]
  by_cases hdc : d = c
  ·subst hdc
   rw [fld_put hc]
   exact hv
  ·rw [fld_put_ne hc hd hdc]
   refine h.2 d i hd hk ?_
   have : d * L.length ≠ c * L.length := fun he => hdc (Nat.eq_of_mul_eq_mul_right (by omega) he)
   omega
 ·rw [atE_set_ne _ _ hik]
  refine h.2 d k hd hk ?_
  have hne : d * L.length + k ≠ c * L.length + i := fun he => by
   have h1 := congrArg (· % L.length) he
   simp only [Nat.mul_comm _ L.length, Nat.mul_add_mod, Nat.mod_eq_of_lt hk, Nat.mod_eq_of_lt hi] at h1
   omega
  omega
theorem en_ext {a b : En} (h0 : a.id = b.id) (h1 : a.off = b.off) (h2 : a.len = b.len) (h3 : a.run = b.run) : a = b := by
 obtain ⟨a0, a1, a2, a3⟩ := a
 obtain ⟨b0, b1, b2, b3⟩ := b
 simp only at h0 h1 h2 h3
 subst h0 h1 h2 h3
 rfl
theorem Agr.all {M L : List En} (h : Agr (4 * L.length) M L) : M = L := by
 refine List.ext_getElem h.1 fun i h1 h2 => ?_
 have hat : ∀ (N : List En) (hi : i < N.length), N[i] = atE N i := fun N hi => by simp [atE, hi]
 rw [hat M h1, hat L h2]
 have hf : ∀ c, c < 4 → fld c (atE M i) = fld c (atE L i) := fun c hc => h.2 c i hc h2 (by
  have : c * L.length ≤ 3 * L.length := Nat.mul_le_mul_right _ (by omega)
  omega)
 have f0 : (atE M i).id = (atE L i).id := hf 0 (by omega)
 have f1 : (atE M i).run = (atE L i).run := hf 1 (by omega)
 have f2 : (atE M i).len = (atE L i).len := hf 2 (by omega)
 have f3 : (atE M i).off = (atE L i).off := hf 3 (by omega)
 exact en_ext f0 f3 f2 f1
theorem Agr.zero (L : List En) : Agr 0 (List.replicate L.length zeroEn) L := ⟨by simp, fun _ _ _ _ h => by omega⟩
end Go.Proofs.YtkojkeabelckjaaGreatDoor.V
namespace Go.Proofs.YtkojkeabelckjaaGreatDoor.V
open Go.RowKit
theorem rowQ_at : ∀ (L : List En) (free : Nat), rowQ free L = 0 → jF2 L → ∀ i, i < L.length → chkE (atE L i) = 0 ∧ (i = 0 → free ≤ (atE L i).id) ∧ (0 < i → (atE L (i - 1)).id ≤ (atE L i).id)
 | [], _, _, _, i, hi => by simp at hi
 | e :: r, free, h, hE, i, hi => by
  rw [rowQ] at h
  split at h
  ·rename_i hc
   split at h
   ·cases h
   rename_i hf
   have he : e.ok := hE e List.mem_cons_self
   have hr : jF2 r := fun x hx => hE x (List.mem_cons_of_mem _ hx)
   cases i with
   | zero => exact ⟨hc, fun _ => by show free ≤ e.id; omega, fun h => by omega⟩
   | succ i =>
    have hi' : i < r.length := by simpa using hi
    obtain ⟨h1, h2, h3⟩ := rowQ_at r _ h hr i hi'
    have e1 : ∀ k, atE (e :: r) (k + 1) = atE r k := fun k => by simp [atE]
    refine ⟨by rw [e1]; exact h1, fun h => by omega, fun _ => ?_⟩
    rw [e1, Nat.add_sub_cancel]
    cases i with
    | zero =>
     have h4 := h2 rfl
     have hl : e.id ≤ lastE e := by
      have := he.wide
      unfold lastE
      rw [if_pos hc]
      omega
     show e.id ≤ _
     omega
    | succ i => rw [e1]; exact h3 (by omega)
  ·rename_i hc
   exact absurd h hc
theorem rowC_at {L : List En} (h : rowC L = 0) (hE : jF2 L) : L.length ≤ 4096 ∧ ∀ i, i < L.length → (prevE L i).id ≤ (atE L i).id ∧ (atE L i).off ≤ 1099511627776 := by
 unfold rowC at h
 split at h
 ·cases h
 rename_i hl
 refine ⟨by omega, fun i hi => ?_⟩
 obtain ⟨h1, h2, h3⟩ := rowQ_at L 0 h hE i hi
 refine ⟨?_, (chk_ok (atE_ok hE i) h1).2.2.1⟩
 rcases Nat.eq_zero_or_pos i with h0 | h0
 ·subst h0; exact Nat.zero_le _
 ·have := h3 h0
  rwa [show prevE L i = atE L (i - 1) by simp [prevE, atE, Nat.ne_of_gt h0]]
theorem numsQ_from {c i : Nat} {L : List En} (hc : c < 4) (hi : i < L.length) : (jE2 L).drop (1 + (c * L.length + i)) = numQ c i (prevE L i) (atE L i) :: (jE2 L).drop (1 + (c * L.length + i + 1)) := by
 have h := numsQ_at (L := L) hc hi
 rw [Nat.add_assoc] at h
 obtain ⟨h1, h2⟩ := List.getElem?_eq_some_iff.1 h
 rw [List.drop_eq_getElem_cons h1, h2, Nat.add_assoc 1]
theorem allB_cons (x : Nat) (l : List Nat) : allB (x :: l) = vb x ++ allB l := by simp [allB]
theorem split_j {j n : Nat} (h : j < 4 * n) : ∃ c i, c < 4 ∧ i < n ∧ j = c * n + i := by
 have hn : 0 < n := by omega
 exact ⟨j / n, j % n, (Nat.div_lt_iff_lt_mul hn).2 h, Nat.mod_lt _ hn, by have := Nat.div_add_mod j n; rw [Nat.mul_comm] at this; exact this.symm⟩
theorem dec_fwd {s rest : List UInt8} {L : List En} (hr : rowC L = 0) (hE : jF2 L) : ∀ (k j : Nat) (M : List En) (p : Nat), k + j = 4 * L.length → Agr j M L → s.drop p = allB ((jE2 L).drop (1 + j)) ++ rest → p ≤ s.length →
  decG s k j M p = if 0 < rest.length then ([], s.length - rest.length, 4) else (L, s.length, 0)
 | 0, j, M, p, hk, hA, hs, hp => by
  obtain rfl : j = 4 * L.length := by omega
  have hM := hA.all
  subst hM
  have hz : (jE2 M).drop (1 + 4 * M.length) = [] := List.drop_of_length_le (by rw [numsQ_len]; omega)
  rw [hz] at hs
  have hl := congrArg List.length hs
  simp only [allB, List.flatMap_nil, List.nil_append, List.length_drop] at hl
  rw [decG_0]
  by_cases h0 : 0 < rest.length
  ·rw [if_pos (by omega), if_pos h0, show p = s.length - rest.length by omega]
  ·rw [if_neg (by omega), if_neg (by simpa using hr), if_neg h0]
 | k + 1, j, M, p, hk, hA, hs, hp => by
  obtain ⟨c, i, hc, hi, rfl⟩ := split_j (j := j) (n := L.length) (by omega)
  obtain ⟨hid, ho⟩ := (rowC_at hr hE).2 i hi
  obtain ⟨h1, h2⟩ := val_num (i := i) hc (prevE_ok hE i) (atE_ok hE i) hid ho
  have hlt := numQ_lt (c := c) (i := i) (a := prevE L i) (atE_ok hE i)
  have hlike := hA.like hc hi
  rw [numsQ_from hc hi, allB_cons, List.append_assoc] at hs
  generalize numQ c i (prevE L i) (atE L i) = x at h1 h2 hlt hs
  have hg := get_vb hlt hs
  have hlen := congrArg List.length hs
  rw [List.length_drop, List.length_append] at hlen
  rw [decG_s hA.1 rfl hi hg, errQ_like hc hlike, h1, if_neg (by simp)]
  refine dec_fwd hr hE k _ _ _ (by omega) (hA.step hc hi (by rw [valE_like hc hlike]; exact h2)) ?_ (by omega)
  rw [← List.drop_drop, hs, List.drop_left]
theorem decQ_enc {L : List En} (hE : jF2 L) (hr : rowC L = 0) (rest : List UInt8) (hs : sumB (jE2 L) + rest.length ≤ 65536) :
  decQ (allB (jE2 L) ++ rest) = if 0 < rest.length then ([], sumB (jE2 L), 4) else (L, sumB (jE2 L), 0) := by
 obtain ⟨hl, _⟩ := rowC_at hr hE
 have hlen : (allB (jE2 L) ++ rest).length = sumB (jE2 L) + rest.length := by simp [sumB]
 have h0 : (allB (jE2 L) ++ rest).drop 0 = vb L.length ++ (allB ((jE2 L).drop 1) ++ rest) := by
  rw [List.drop_zero, ← List.append_assoc, ← allB_cons]
  rfl
 have hg := get_vb (p := 0) (x := L.length) (by omega) h0
 rw [Nat.zero_add] at hg
 unfold decQ
 rw [if_neg (by omega), hg, if_neg (by simp), if_neg (by simp; omega)]
 rw [dec_fwd (rest := rest) hr hE _ _ _ _ (by simp) (Agr.zero L) (by rw [List.drop_zero] at h0; rw [h0, List.drop_left]) (by rw [hlen]; simp only [sumB, jE2, allB_cons, List.length_append]; omega)]
 rw [hlen]
 by_cases h : 0 < rest.length
 ·rw [if_pos h, if_pos h, Nat.add_sub_cancel]
 ·rw [if_neg h, if_neg h, show rest.length = 0 by omega, Nat.add_zero]
theorem encQ_ok {L : List En} (h : (encQ L).2 = 0) : rowC L = 0 ∧ sumB (jE2 L) ≤ 65536 ∧ encQ L = (allB (jE2 L), 0) := by
 unfold encQ at h ⊢
 by_cases h0 : rowC L = 0
 ·rw [if_pos h0] at h ⊢
  by_cases h1 : 65536 < sumB (jE2 L)
  ·rw [if_pos h1] at h
   cases h
  ·rw [if_neg h1]
   exact ⟨h0, by omega, rfl⟩
 ·rw [if_neg h0] at h
  exact absurd h h0
theorem sumB_300 {L : List En} (hE : jF2 L) (h : L.length ≤ 300) : sumB (jE2 L) ≤ 12010 := by
 have h1 := allB_len (numsQ_lt hE (by omega))
 rw [numsQ_len] at h1
 unfold sumB
 omega
end Go.Proofs.YtkojkeabelckjaaGreatDoor.V
