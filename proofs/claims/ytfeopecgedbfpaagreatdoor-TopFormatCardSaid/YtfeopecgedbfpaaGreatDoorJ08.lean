/- Walks and plain laws for this claim (texts Gdr3, Glf1, SxDf, Gli1, Gli2, joined). Each theorem states its own conditions. -/
import Derived.Test.YtfeopecgedbfpaaGreatDoorJ07
import Derived.Test.YtfeopecgedbfpaaGreatDoorRows
import Derived.Lib.SlBytesConst
set_option linter.all false
namespace Go.Proofs.YtfeopecgedbfpaaGreatDoor
namespace V
open Go.RowKit
end V
namespace V
open Go.RowKit
end V
namespace V
open Go.RowKit
set_option maxRecDepth 100000
end V
namespace V
open Go.RowKit
theorem wO8 {s : List UInt8} : ∀ (k j : Nat) (M : List En) (p : Nat), M.length ≤ 4096 → jF4 M → p ≤ s.length →
  (decG s k j M p).1.length ≤ 4096 ∧ jF4 (decG s k j M p).1 ∧ (decG s k j M p).2.1 ≤ s.length ∧ ((decG s k j M p).2.2 ≠ 0 → (decG s k j M p).1 = [])
 | 0, j, M, p, hM, hE, hp => by
  rw [wO9]
  have he : jF4 [] := fun e h => by cases h
  split
  ·exact ⟨xD _, he, hp, fun _ => rfl⟩
  split
  ·exact ⟨xD _, he, xB _, fun _ => rfl⟩
  ·exact ⟨hM, hE, xB _, fun h => absurd rfl h⟩
 | k + 1, j, M, p, hM, hE, hp => by
  have he : jF4 [] := fun e h => by cases h
  obtain ⟨f1, f2, _⟩ := jX9 s p hp
  rw [decG]
  split
  ·exact ⟨xD _, he, hp, fun _ => rfl⟩
  split
  ·exact ⟨xD _, he, hp, fun _ => rfl⟩
  ·exact wO8 k (j + 1) _ _ (by simpa using hM) (wO0 hE (wG8 (jW5 hE _) f1)) f2
theorem kG8 (s : List UInt8) : (decQ s).1.length ≤ 4096 ∧ jF4 (decQ s).1 ∧ (decQ s).2.1 ≤ s.length ∧ ((decQ s).2.2 ≠ 0 → (decQ s).1 = []) := by
 have he : jF4 [] := fun e h => by cases h
 unfold decQ
 split
 ·exact ⟨xD _, he, xD _, fun _ => rfl⟩
 split
 ·exact ⟨xD _, he, xD _, fun _ => rfl⟩
 split
 ·exact ⟨xD _, he, xD _, fun _ => rfl⟩
 ·exact wO8 _ _ _ _ (by simp; omega) (vT6 _) (jX9 s 0 (by omega)).2.1
theorem wB1 {x : Nat} (h : x < 256) : (UInt8.ofNat x).toNat = x := by simp; omega
theorem yK9 (x : Nat) : valL (vb x) = x := by
 induction x using Nat.strongRecOn with
 | _ x ih =>
  rcases xP x 128 with h | h
  ·rw [kU0 h]
   simp only [valL, wB1 (show x < 256 by omega)]
   omega
  ·rw [vI0 h]
   simp only [valL, wB1 (show x % 128 + 128 < 256 by omega), ih (x / 128) (by omega)]
   omega
theorem zF4 (x : Nat) : ∀ (k : Nat) (r : List UInt8), (vb x).length ≤ k → cnt k (vb x ++ r) = (vb x).length - 1 := by
 induction x using Nat.strongRecOn with
 | _ x ih =>
  intro k r hk
  have := vB1 x
  obtain ⟨k, rfl⟩ : ∃ m, k = m + 1 := ⟨k - 1, by omega⟩
  rcases xP x 128 with h | h
  ·rw [kU0 h, List.singleton_append, cnt, if_neg (by rw [wB1 (by omega)]; omega)]
   rfl
  ·have hp := vB1 (x / 128)
   rw [vI0 h, lE] at hk
   rw [vI0 h, lL, cnt, if_pos (by rw [wB1 (by omega)]; omega), ih (x / 128) (by omega) k r (by omega), lE]
   omega
theorem yS5 (x : Nat) : ∀ r : List UInt8, dat (vb x ++ r) ((vb x).length - 1) = x / 128 ^ ((vb x).length - 1) ∧ ((vb x).length = 1 ∨ 128 ^ ((vb x).length - 1) ≤ x) := by
 induction x using Nat.strongRecOn with
 | _ x ih =>
  intro r
  rcases xP x 128 with h | h
  ·rw [kU0 h]
   refine ⟨?_, .inl rfl⟩
   show (UInt8.ofNat x).toNat = x / 128 ^ 0
   rw [wB1 (by omega)]
   simp
  ·have hp := vB1 (x / 128)
   obtain ⟨h1, h2⟩ := ih (x / 128) (by omega) r
   rw [vI0 h, lE, lL, Nat.add_sub_cancel]
   obtain ⟨m, hm⟩ : ∃ m, (vb (x / 128)).length = m + 1 := ⟨_, (Nat.sub_add_cancel hp).symm⟩
   rw [hm, Nat.add_sub_cancel] at h1 h2
   rw [hm, kZ9, h1, qY, qN (128 ^ m), ← Nat.div_div_eq_div_mul]
   refine ⟨rfl, .inr ?_⟩
   rcases h2 with h2 | h2
   ·obtain rfl : m = 0 := by omega
    simpa using h
   ·calc 128 * 128 ^ m ≤ 128 * (x / 128) := Nat.mul_le_mul_left _ h2
     _ ≤ x := Nat.mul_div_le _ _
theorem wS8 {x : Nat} (hx : x < 18446744073709551616) (r : List UInt8) : jE1 (vb x ++ r) = (0, (vb x).length) := by
 have h10 := kU1 hx
 have hp := vB1 x
 have hc := zF4 x 10 r h10
 obtain ⟨hl, ho⟩ := yS5 x r
 have h1 : cnt 10 (vb x ++ r) ≠ 10 := by omega
 have h2 : cnt 10 (vb x ++ r) ≠ (vb x ++ r).length := by rw [hc, lX]; omega
 have h3 : ¬ (cnt 10 (vb x ++ r) = 9 ∧ 1 < dat (vb x ++ r) 9) := by
  rintro ⟨h3, h4⟩
  rw [hc] at h3
  rw [h3] at hl
  rw [hl] at h4
  have : x / 128 ^ 9 < 2 := Nat.div_lt_of_lt_mul (by omega)
  omega
 have h4 : ¬ (0 < cnt 10 (vb x ++ r) ∧ dat (vb x ++ r) (cnt 10 (vb x ++ r)) = 0) := by
  rintro ⟨h4, h5⟩
  rw [hc] at h4 h5
  rw [hl] at h5
  rcases ho with ho | ho
  ·omega
  ·have := Nat.div_pos ho (Nat.pow_pos (by omega))
   omega
 unfold jE1
 rw [if_neg h1, if_neg h2, if_neg h3, if_neg h4, hc, Nat.sub_add_cancel hp]
theorem yI3 {s r : List UInt8} {p x : Nat} (hx : x < 18446744073709551616) (h : s.drop p = vb x ++ r) : getQ s p = (x, p + (vb x).length, 0) := by
 unfold getQ
 rw [h, wS8 hx r, if_pos rfl, List.take_left, yK9]
end V
namespace V
open Go.RowKit
def fld (c : Nat) (e : En) : Nat := if c = 0 then e.id else if c = 1 then e.run else if c = 2 then e.len else e.off
def valE (c : Nat) (a : En) (x : Nat) : Nat := if c = 0 then (a.id + x) % 18446744073709551616 else if c = 1 then x % 4294967296 else if c = 2 then x % 4294967296 else if x = 0 then a.next else x - 1
def yR7 (c : Nat) (a b : En) : Prop := (c = 0 → a.id = b.id) ∧ (c = 3 → a.next = b.next)
theorem yT9 {c : Nat} (hc : c < 4) (a e : En) (x : Nat) : fld c (putQ c a e x) = valE c a x := by
 match c, hc with
 | 0, _ => rfl
 | 1, _ => rfl
 | 2, _ => rfl
 | 3, _ => rfl
theorem vY4 {c d : Nat} (hc : c < 4) (hd : d < 4) (h : d ≠ c) (a e : En) (x : Nat) : fld d (putQ c a e x) = fld d e := by
 match c, hc, d, hd with
 | 0, _, 0, _ => omega
 | 0, _, 1, _ => rfl
 | 0, _, 2, _ => rfl
 | 0, _, 3, _ => rfl
 | 1, _, 0, _ => rfl
 | 1, _, 1, _ => omega
 | 1, _, 2, _ => rfl
 | 1, _, 3, _ => rfl
 | 2, _, 0, _ => rfl
 | 2, _, 1, _ => rfl
 | 2, _, 2, _ => omega
 | 2, _, 3, _ => rfl
 | 3, _, 0, _ => rfl
 | 3, _, 1, _ => rfl
 | 3, _, 2, _ => rfl
 | 3, _, 3, _ => omega
theorem wM4 (i : Nat) (a : En) (x : Nat) : errQ 0 i a x = if (a.id + x) % 18446744073709551616 < x then 11 else 0 := by unfold errQ; rw [if_pos rfl]
theorem kG6 {c : Nat} (h : c = 1 ∨ c = 2) (i : Nat) (a : En) (x : Nat) : errQ c i a x = if 4294967296 ≤ x then 11 else 0 := by unfold errQ; rw [if_neg (by omega), if_pos h]
theorem wM3 (i : Nat) (a : En) (x : Nat) : errQ 3 i a x = if i = 0 ∧ x = 0 ∨ 0 < i ∧ 0 < x ∧ x - 1 = a.next then 4 else 0 := by unfold errQ; rw [if_neg (by decide), if_neg (by decide)]
theorem wM2 {c i x : Nat} {a b : En} (hc : c < 4) (h : yR7 c a b) : errQ c i a x = errQ c i b x := by
 obtain ⟨h0, h3⟩ := h
 match c, hc with
 | 0, _ => rw [wM4, wM4, h0 rfl]
 | 1, _ => rw [kG6 (.inl rfl), kG6 (.inl rfl)]
 | 2, _ => rw [kG6 (.inr rfl), kG6 (.inr rfl)]
 | 3, _ => rw [wM3, wM3, h3 rfl]
theorem wA8 {c x : Nat} {a b : En} (hc : c < 4) (h : yR7 c a b) : valE c a x = valE c b x := by
 obtain ⟨h0, h3⟩ := h
 match c, hc with
 | 0, _ => show (a.id + x) % _ = (b.id + x) % _; rw [h0 rfl]
 | 1, _ => rfl
 | 2, _ => rfl
 | 3, _ => show (if x = 0 then a.next else x - 1) = (if x = 0 then b.next else x - 1); rw [h3 rfl]
theorem yK8 {c i : Nat} {a e : En} (hc : c < 4) (ha : a.ok) (he : e.ok) (hid : a.id ≤ e.id) (ho : e.off ≤ 1099511627776) : errQ c i a (numQ c i a e) = 0 ∧ valE c a (numQ c i a e) = fld c e := by
 obtain ⟨a1, a2, a3, a4⟩ := ha
 obtain ⟨e1, e2, e3, e4⟩ := he
 match c, hc with
 | 0, _ =>
  have h1 : (e.id + 18446744073709551616 - a.id) % 18446744073709551616 = e.id - a.id := by omega
  rw [zC8, wM4, h1]
  refine ⟨by rw [if_neg (by omega)], ?_⟩
  show (a.id + (e.id - a.id)) % 18446744073709551616 = e.id
  omega
 | 1, _ =>
  rw [zC7, kG6 (.inl rfl)]
  exact ⟨by rw [if_neg (by omega)], by show e.run % 4294967296 = e.run; omega⟩
 | 2, _ =>
  rw [zC6, kG6 (.inr rfl)]
  exact ⟨by rw [if_neg (by omega)], by show e.len % 4294967296 = e.len; omega⟩
 | 3, _ =>
  rw [zC5, wM3]
  by_cases h : 0 < i ∧ e.off = a.next
  ·rw [if_pos h]
   refine ⟨by rw [if_neg (by omega)], ?_⟩
   exact h.2.symm
  ·rw [if_neg h, show (e.off + 1) % 18446744073709551616 = e.off + 1 by omega]
   refine ⟨by rw [if_neg (by omega)], ?_⟩
   show (if e.off + 1 = 0 then a.next else e.off + 1 - 1) = e.off
   rw [if_neg (by omega)]
   omega
def Agr (j : Nat) (M L : List En) : Prop := M.length = L.length ∧ ∀ c i, c < 4 → i < L.length → c * L.length + i < j → fld c (atE M i) = fld c (atE L i)
theorem Agr.like {c i : Nat} {M L : List En} (hc : c < 4) (hi : i < L.length) (h : Agr (c * L.length + i) M L) : yR7 c (jK6 M i) (jK6 L i) := by
 rcases zK i with h0 | h0
 ·subst h0
  exact ⟨fun _ => rfl, fun _ => rfl⟩
 ·have hp : ∀ N : List En, jK6 N i = atE N (i - 1) := fun N => by simp [jK6, atE, Nat.ne_of_gt h0]
  rw [hp, hp]
  refine ⟨fun hc0 => ?_, fun hc3 => ?_⟩
  ·subst hc0
   exact h.2 0 (i - 1) (by omega) (by omega) (by omega)
  ·subst hc3
   have h1 : (atE M (i - 1)).off = (atE L (i - 1)).off := h.2 3 (i - 1) (by omega) (by omega) (by omega)
   have h2 : (atE M (i - 1)).len = (atE L (i - 1)).len := h.2 2 (i - 1) (by omega) (by omega) (by omega)
   simp only [En.next, h1, h2]
theorem yX4 (M : List En) {i : Nat} (y : En) (hi : i < M.length) : atE (M.set i y) i = y := by simp [atE, hi]
theorem vZ7 (M : List En) {i k : Nat} (y : En) (h : i ≠ k) : atE (M.set i y) k = atE M k := by simp [atE, h]
theorem Agr.step {c i x : Nat} {M L : List En} (hc : c < 4) (hi : i < L.length) (h : Agr (c * L.length + i) M L) (hv : valE c (jK6 M i) x = fld c (atE L i)) : Agr (c * L.length + i + 1) (M.set i (putQ c (jK6 M i) (atE M i) x)) L := by
 refine ⟨by rw [List.length_set]; exact h.1, fun d k hd hk hlt => ?_⟩
 by_cases hik : i = k
 ·subst hik
  rw [yX4 _ _ (by rw [h.1]; exact hi)]
  by_cases hdc : d = c
  ·subst hdc
   rw [yT9 hc]
   exact hv
  ·rw [vY4 hc hd hdc]
   refine h.2 d i hd hk ?_
   have : d * L.length ≠ c * L.length := fun he => hdc (Nat.eq_of_mul_eq_mul_right (by omega) he)
   omega
 ·rw [vZ7 _ _ hik]
  refine h.2 d k hd hk ?_
  have hne : d * L.length + k ≠ c * L.length + i := fun he => by
   have h1 := congrArg (· % L.length) he
   simp only [qN _ L.length, Nat.mul_add_mod, zU hk, zU hi] at h1
   omega
  omega
theorem zE5 {a b : En} (h0 : a.id = b.id) (h1 : a.off = b.off) (h2 : a.len = b.len) (h3 : a.run = b.run) : a = b := by
 obtain ⟨a0, a1, a2, a3⟩ := a
 obtain ⟨b0, b1, b2, b3⟩ := b
 simp only at h0 h1 h2 h3
 subst h0 h1 h2 h3
 rfl
theorem Agr.all {M L : List En} (h : Agr (4 * L.length) M L) : M = L := by
 refine List.ext_getElem h.1 fun i h1 h2 => ?_
 have hat : ∀ (N : List En) (hi : i < N.length), N[i] = atE N i := fun N hi => by simp [atE, hi]
 rw [hat M h1, hat L h2]
 have hf : ∀ c, c < 4 → fld c (atE M i) = fld c (atE L i) := fun c hc => h.2 c i hc h2 (by
  have : c * L.length ≤ 3 * L.length := uN _ (by omega)
  omega)
 have f0 : (atE M i).id = (atE L i).id := hf 0 (by omega)
 have f1 : (atE M i).run = (atE L i).run := hf 1 (by omega)
 have f2 : (atE M i).len = (atE L i).len := hf 2 (by omega)
 have f3 : (atE M i).off = (atE L i).off := hf 3 (by omega)
 exact zE5 f0 f3 f2 f1
theorem Agr.zero (L : List En) : Agr 0 (List.replicate L.length zeroEn) L := ⟨by simp, fun _ _ _ _ h => by omega⟩
end V
namespace V
open Go.RowKit
theorem wF2 : ∀ (L : List En) (free : Nat), rowQ free L = 0 → jF4 L → ∀ i, i < L.length → chkE (atE L i) = 0 ∧ (i = 0 → free ≤ (atE L i).id) ∧ (0 < i → (atE L (i - 1)).id ≤ (atE L i).id)
 | [], _, _, _, i, hi => by simp at hi
 | e :: r, free, h, hE, i, hi => by
  rw [rowQ] at h
  split at h
  ·rename_i hc
   split at h
   ·cases h
   rename_i hf
   have he : e.ok := hE e lO
   have hr : jF4 r := fun x hx => hE x (lW _ hx)
   cases i with
   | zero => exact ⟨hc, fun _ => by show free ≤ e.id; omega, fun h => by omega⟩
   | succ i =>
    have hi' : i < r.length := by simpa using hi
    obtain ⟨h1, h2, h3⟩ := wF2 r _ h hr i hi'
    have e1 : ∀ k, atE (e :: r) (k + 1) = atE r k := fun k => by simp [atE]
    refine ⟨by rw [e1]; exact h1, fun h => by omega, fun _ => ?_⟩
    rw [e1, Nat.add_sub_cancel]
    cases i with
    | zero =>
     have h4 := h2 rfl
     have hl : e.id ≤ jK7 e := by
      have := he.wide
      unfold jK7
      rw [if_pos hc]
      omega
     show e.id ≤ _
     omega
    | succ i => rw [e1]; exact h3 (by omega)
  ·rename_i hc
   exact absurd h hc
theorem kX1 {L : List En} (h : rowC L = 0) (hE : jF4 L) : L.length ≤ 4096 ∧ ∀ i, i < L.length → (jK6 L i).id ≤ (atE L i).id ∧ (atE L i).off ≤ 1099511627776 := by
 unfold rowC at h
 split at h
 ·cases h
 rename_i hl
 refine ⟨by omega, fun i hi => ?_⟩
 obtain ⟨h1, h2, h3⟩ := wF2 L 0 h hE i hi
 refine ⟨?_, (kI6 (jW5 hE i) h1).2.2.1⟩
 rcases zK i with h0 | h0
 ·subst h0; exact xD _
 ·have := h3 h0
  rwa [show jK6 L i = atE L (i - 1) by simp [jK6, atE, Nat.ne_of_gt h0]]
theorem vX6 {c i : Nat} {L : List En} (hc : c < 4) (hi : i < L.length) : (jF3 L).drop (1 + (c * L.length + i)) = numQ c i (jK6 L i) (atE L i) :: (jF3 L).drop (1 + (c * L.length + i + 1)) := by
 have h := vR8 (L := L) hc hi
 rw [qI] at h
 obtain ⟨h1, h2⟩ := List.getElem?_eq_some_iff.1 h
 rw [qR h1, h2, qI 1]
theorem kP0 (x : Nat) (l : List Nat) : allB (x :: l) = vb x ++ allB l := by simp [allB]
theorem yN4 {j n : Nat} (h : j < 4 * n) : ∃ c i, c < 4 ∧ i < n ∧ j = c * n + i := by
 have hn : 0 < n := by omega
 exact ⟨j / n, j % n, (Nat.div_lt_iff_lt_mul hn).2 h, Nat.mod_lt _ hn, by have := Nat.div_add_mod j n; rw [qN] at this; exact this.symm⟩
theorem wO6 {s rest : List UInt8} {L : List En} (hr : rowC L = 0) (hE : jF4 L) : ∀ (k j : Nat) (M : List En) (p : Nat), k + j = 4 * L.length → Agr j M L → s.drop p = allB ((jF3 L).drop (1 + j)) ++ rest → p ≤ s.length →
  decG s k j M p = if 0 < rest.length then ([], s.length - rest.length, 4) else (L, s.length, 0)
 | 0, j, M, p, hk, hA, hs, hp => by
  obtain rfl : j = 4 * L.length := by omega
  have hM := hA.all
  subst hM
  have hz : (jF3 M).drop (1 + 4 * M.length) = [] := List.drop_of_length_le (by rw [jO5]; omega)
  rw [hz] at hs
  have hl := congrArg List.length hs
  simp only [allB, List.flatMap_nil, lD, xY] at hl
  rw [wO9]
  by_cases h0 : 0 < rest.length
  ·rw [if_pos (by omega), if_pos h0, show p = s.length - rest.length by omega]
  ·rw [if_neg (by omega), if_neg (by simpa using hr), if_neg h0]
 | k + 1, j, M, p, hk, hA, hs, hp => by
  obtain ⟨c, i, hc, hi, rfl⟩ := yN4 (j := j) (n := L.length) (by omega)
  obtain ⟨hid, ho⟩ := (kX1 hr hE).2 i hi
  obtain ⟨h1, h2⟩ := yK8 (i := i) hc (kX5 hE i) (jW5 hE i) hid ho
  have hlt := wI8 (c := c) (i := i) (a := jK6 L i) (jW5 hE i)
  have hlike := hA.like hc hi
  rw [vX6 hc hi, kP0, xF] at hs
  generalize numQ c i (jK6 L i) (atE L i) = x at h1 h2 hlt hs
  have hg := yI3 hlt hs
  have hlen := congrArg List.length hs
  rw [xY, lX] at hlen
  rw [yI6 hA.1 rfl hi hg, wM2 hc hlike, h1, if_neg (by simp)]
  refine wO6 hr hE k _ _ _ (by omega) (hA.step hc hi (by rw [wA8 hc hlike]; exact h2)) ?_ (by omega)
  rw [← List.drop_drop, hs, List.drop_left]
theorem vT9 {L : List En} (hE : jF4 L) (hr : rowC L = 0) (rest : List UInt8) (hs : sumB (jF3 L) + rest.length ≤ 65536) :
  decQ (allB (jF3 L) ++ rest) = if 0 < rest.length then ([], sumB (jF3 L), 4) else (L, sumB (jF3 L), 0) := by
 obtain ⟨hl, _⟩ := kX1 hr hE
 have hlen : (allB (jF3 L) ++ rest).length = sumB (jF3 L) + rest.length := by simp [sumB]
 have h0 : (allB (jF3 L) ++ rest).drop 0 = vb L.length ++ (allB ((jF3 L).drop 1) ++ rest) := by
  rw [lC, ← xF, ← kP0]
  rfl
 have hg := yI3 (p := 0) (x := L.length) (by omega) h0
 rw [lA] at hg
 unfold decQ
 rw [if_neg (by omega), hg, if_neg (by simp), if_neg (by simp; omega)]
 rw [wO6 (rest := rest) hr hE _ _ _ _ (by simp) (Agr.zero L) (by rw [lC] at h0; rw [h0, List.drop_left]) (by rw [hlen]; simp only [sumB, jF3, kP0, lX]; omega)]
 rw [hlen]
 by_cases h : 0 < rest.length
 ·rw [if_pos h, if_pos h, Nat.add_sub_cancel]
 ·rw [if_neg h, if_neg h, show rest.length = 0 by omega, lM]
theorem kZ7 {L : List En} (h : (encQ L).2 = 0) : rowC L = 0 ∧ sumB (jF3 L) ≤ 65536 ∧ encQ L = (allB (jF3 L), 0) := by
 unfold encQ at h ⊢
 by_cases h0 : rowC L = 0
 ·rw [if_pos h0] at h ⊢
  by_cases h1 : 65536 < sumB (jF3 L)
  ·rw [if_pos h1] at h
   cases h
  ·rw [if_neg h1]
   exact ⟨h0, by omega, rfl⟩
 ·rw [if_neg h0] at h
  exact absurd h h0
theorem wV7 {L : List En} (hE : jF4 L) (h : L.length ≤ 300) : sumB (jF3 L) ≤ 12010 := by
 have h1 := jT8 (kD1 hE (by omega))
 rw [jO5] at h1
 unfold sumB
 omega
def jT5 (e : En) : Bool := decide (e.run = 0)
def jI2 (L : List En) : Bool := L.any jT5
theorem kR2 (e : En) (h : e.ok) : Fn Tryz.prog 51 [e.val] [] fun v _ => v = .bool (jT5 e) := by
 refine Fn.enter (N := 6) Tryz.func51 rfl (by kernel_rfl) rfl (fun w0 => ?_)
 refine aR (fun Z hZ => jB5 (fun g1 => ?_))
 refine sAN hZ rfl rfl <| f1K 1 rfl <| aR (fun Z hZ => sFA0 jN0 ?_)
 first | refine sL0 0 tyA78 tyS78 ?_
 refine jB0 ?_
 refine sAN hZ rfl rfl ?_
 refine f1K 2 rfl ?_
 refine aE ?_
 exact nR1 rfl rfl (congrArg Value.bool (by rw [lR]; simp [jT5]))
theorem yA8 (A : Option Addr) (c : Nat) (L : List En) (T : Heap) (hA : jH6 A L.length) (hT : 0 < L.length → T = roE A (jA1 L)) (hL : L.length ≤ maxLen) (hE : jF4 L) :
  Fn Tryz.prog 103 [.slice A L.length c, .func (.func 51) #[] #[]] T fun v _ => ∃ i : Int, v = iq i ∧ (0 ≤ i ↔ jI2 L = true) := by
 have hL' : L.length ≤ 9223372036854775807 := hL
 refine Fn.enter (N := 19) Tryz.func103 rfl (by kernel_rfl) rfl (fun w0 => ?_)
 refine aA rfl rfl <| f2K 0 1 rfl <| aS <| aR fun Z hZ => sM rfl rfl <| jE2 Tryz.underlying58 rfl rfl <| sMN hZ rfl rfl <| f4K 0 1 7 8 rfl <| aB ?_
 refine jB9 (ι := Nat) (fun k => [(0, .slice A L.length c), (1, .func (.func 51) #[] #[]), (7, iq (L.length : Nat)), (8, iq (k : Nat))]) (fun _ => T)
  (fun k => k ≤ L.length ∧ jI2 (L.drop k) = jI2 L) (fun k => L.length - k) 0 ⟨by simp, rfl⟩ (kR rfl) (HLe.refl _) ?_
 rintro k ⟨hk, hq⟩
 refine aR (fun Z hZ => jB2 ?_)
 refine sN (hZ _ _ <| f5K 0 1 7 8 9 rfl <| aS (aC0 (fun h => ?_) (fun h => ?_)))
 ·have hlt : k < L.length := by simpa using h
  obtain ⟨x, hx⟩ : ∃ x, L[k]? = some x := ⟨_, xC hlt⟩
  have hxe : L[k] = x := lV ((xC hlt).symm.trans hx)
  have hok : x.ok := hE x (xM hx)
  rw [qR hlt, hxe, jI2, List.any_cons] at hq
  obtain ⟨g, o, rfl⟩ := hA (by omega)
  obtain rfl := hT (by omega)
  refine aK <| nN <| aS (aB <| aR fun Z hZ => sM rfl rfl <| sAN hZ rfl rfl <| f5K 0 1 5 7 8 rfl <| aR fun Z hZ => sM rfl rfl <| sM rfl rfl <| sM rfl rfl <| jB3 (o + k * 4) Tryz.underlying58 tyS80 rfl rfl (by omega) (by simp) rfl ?_)
  refine jB4 0 rfl rfl (k * 4) rfl tyA80 tyS80 (jG4 hx) rfl <| jU7 (caps := []) (vs := [x.val]) [] (kR2 x hok) rfl rfl (HLe.sub (lN _)) Ro.nil rfl <| sN (hZ _ _ <| f6K 0 1 5 7 8 16 rfl <| aC0 (fun hb => ?_) (fun hb => ?_))
  ·have hb' : jT5 x = true := hb
   rw [hb', Bool.true_or] at hq
   refine aR fun Z hZ => sM rfl rfl <| sAN hZ rfl rfl <| f1K 4 rfl <| aE ?_
   repeat (with_reducible (first | refine nTR ?_ | refine nBR ?_))
   exact nR10 ⟨(k : Int), rfl, fun _ => hq.symm, fun _ => by omega⟩
  have hb' : jT5 x = false := hb
  rw [hb', Bool.false_or] at hq
  refine aK ?_
  repeat refine nBN ?_
  refine nN ?_
  refine aG (fun Z hZ => ?_)
  refine jC2 rfl rfl ((k + 1 : Nat) : Int) (by rw [lT _ (by omega)]; omega) rfl ?_
  refine sMN hZ rfl rfl <| nF [(0, _), (1, _), (7, _), (8, _)] (kR rfl) <| jB8 (k + 1) ⟨by omega, hq⟩ (by omega) (kR rfl) (HLe.refl _)
 ·refine jB1 ?_
  repeat refine nTE ?_
  refine nBE <| nN ?_
  have hke : k = L.length := by simp at h; omega
  subst hke
  rw [zW] at hq
  refine aA rfl rfl <| f1K 4 rfl <| aE <| nR10 ⟨-1, rfl, fun h => by omega, fun h => by rw [← hq] at h; simp [jI2] at h⟩
theorem kO8 (A : Option Addr) (c : Nat) (L : List En) (T : Heap) (hA : jH6 A L.length) (hT : 0 < L.length → T = roE A (jA1 L)) (hro : Ro T) (hL : L.length ≤ maxLen) (hE : jF4 L) :
  Fn Tryz.prog 50 [.slice A L.length c, .func (.func 51) #[] #[]] T fun v _ => v = .bool (jI2 L) := by
 refine Fn.enter (N := 9) Tryz.func50 rfl (by kernel_rfl) rfl (fun w0 => ?_)
 refine aA rfl rfl <| f2K 0 1 rfl <| aR fun Z hZ => sM rfl rfl <| sM rfl rfl <| jA5 T [] (yA8 A c L T hA hT hL hE) rfl (by rw [lH]; exact HLe.refl _) rfl ?_
 rintro v H' ⟨i, rfl, hi⟩
 refine jC3 [] (HLe.sub (lN _)) ?_
 refine jO3 rfl rfl rfl ?_
 refine sAN hZ rfl rfl ?_
 refine f1K 4 rfl ?_
 refine aE ?_
 exact nR1 rfl rfl (congrArg Value.bool (by rw [lR, ← hi]; simp))
theorem kL0 (A : Option Addr) (c : Nat) (L : List En) (T : Heap) (hA : jH6 A L.length) (hT : 0 < L.length → T = roE A (jA1 L)) (hnil : A = none → L.length = 0) (hro : Ro T) (hL : L.length ≤ 100000) :
  Fn Tryz.prog 53 [.slice A L.length c] T fun v H' => RowOk v L.length ∧ H' = rowE v 80 4 (jA1 L) := by
 refine Fn.enter (N := 8) Tryz.func53 rfl (by kernel_rfl) rfl (fun w0 => ?_)
 refine aA rfl rfl <| f1K 0 rfl <| aS <| aR fun Z hZ => sM rfl rfl <| kB9 Tryz.underlying58 rfl rfl <| sN (hZ _ _ <| f2K 0 4 rfl <| aC0 (fun h => ?_) (fun h => ?_))
 ·have h0 : A = none := by simpa using h
  have hl := hnil h0
  refine aA rfl rfl <| f1K 2 rfl <| aE ?_
  repeat refine nTR ?_
  have hLn : L = [] := List.length_eq_zero_iff.1 hl
  subst hLn
  exact jC1 [] rfl rfl (HLe.sub (lN _)) ⟨RowOk.nil, rfl⟩
 refine aK <| nN <| aR (fun Z hZ => jI4 Tryz.underlying58 tyS80 rfl (fun g => jC3 (T ++ rowE (.slice (some ⟨g, 0, none⟩) 0 0) 80 4 []) ((HLe.swap _ _).trans (HLe.ownRow [] T rfl (xD _))) <| sM rfl rfl <| jC9 T kI4 rfl (RowOk.mk g 0 0) rfl rfl (fun w hw => vQ7 hA hT (jG6 L) hnil (HLe.sub (lS _ _)) hw) (kG7 L) (by show _ ≤ 9223372036854775807; omega) (by omega) (HLe.refl _) rfl (fun v2 hv2 => ?_)))
 rw [lD]
 rw [lA] at hv2
 refine sAN hZ rfl rfl <| f1K 2 rfl <| aE <| jC1 _ rfl rfl (HLe.sub (lP _ _)) ⟨hv2, rfl⟩
end V
namespace V
open Go.RowKit
def cntP (n z : Nat) : Nat := (n + z - 1) / z
theorem jR2 {n z q : Nat} (hz : 0 < z) : q < cntP n z ↔ q * z < n := by
 unfold cntP
 rw [← Nat.succ_le_iff, Nat.le_div_iff_mul_le hz, zZ]
 omega
def zC1 (A : Option Addr) (k : Nat) : Option Addr := A.map fun a => ⟨a.block, a.off + k, a.spot⟩
def pcL (L : List En) (z q : Nat) : List En := (L.drop (q * z)).take z
theorem kX8 (L : List En) (z q : Nat) : (pcL L z q).length = min z (L.length - q * z) := by simp [pcL]
def pcV (A : Option Addr) (n z q : Nat) : Value := .slice (zC1 A (q * z * 4)) (min z (n - q * z)) (min z (n - q * z))
theorem yD2 (A : Option Addr) (n c z : Nat) (hz : 0 < z) : Fn Tryz.prog 105 [.slice A n c, iq z] [] fun v H' => ∃ gs gn, v = .func (.func 152) #[] #[ptr gs 0, ptr gn 0] ∧ H' = [.own gn 3 [iq z], .own gs 58 [.slice A n c]] := by
 refine Fn.enter (N := 9) Tryz.func105 rfl (by kernel_rfl) rfl (fun w0 => ?_)
 refine aR (fun Z hZ => jB5 (fun g1 => ?_))
 refine jB5 (fun g2 => ?_)
 refine sAN hZ rfl rfl <| f2K 2 3 rfl <| aS <| aR (fun Z hZ => sL0 0 tyA3 tyS3 ?_)
 refine jB2 ?_
 refine sN (hZ _ _ <| f3K 2 3 6 rfl <| aC0 (fun h => ?_) (fun h => ?_))
 ·simp at h
  omega
 refine aK <| nN <| aR (fun Z hZ => jH1 rfl rfl <| sAN hZ rfl rfl <| f1K 4 rfl <| aE <| jC1 _ rfl rfl (HLe.refl _) ⟨g1, g2, rfl, rfl⟩)
theorem yD1 (gs gn : Nat) (A : Option Addr) (n c z : Nat) (hz : 0 < z) (hzm : z ≤ maxLen) (hA : jH6 A n) (hc : n ≤ c) (hn : n ≤ 100000) :
  Iter Tryz.prog 152 [ptr gs 0, ptr gn 0] [.ro gs 0 [.slice A n c], .ro gn 0 [iq z]] ((List.range (cntP n z)).map fun q => [pcV A n z q]) := by
 intro l J Jr S hJ hS hJr hY T0 hT0
 have hzm' : z ≤ 9223372036854775807 := hzm
 have hlen : ((List.range (cntP n z)).map fun q => [pcV A n z q]).length = cntP n z := by simp
 rw [hlen]
 refine Fn.enter (N := 31) Tryz.func152 rfl (by kernel_rfl) rfl (fun w0 => ?_)
 refine jA6 (.ro gs 0 [.slice A n c] :: .ro gn 0 [iq z] :: (T0 ++ Jr)) (HLe.refl _) <| aA rfl rfl <| f4K 0 1 2 4 rfl <| aB ?_
 refine jB9 (ι := Nat × Heap) (fun i => [(0, .func (.yield l) #[] #[]), (1, ptr gs 0), (2, ptr gn 0), (4, iq (i.1 * z : Nat))]) (fun i => .ro gs 0 [.slice A n c] :: .ro gn 0 [iq z] :: (i.2 ++ Jr))
  (fun i => i.1 ≤ cntP n z ∧ J i.1 i.2) (fun i => cntP n z - i.1) (0, T0) ⟨by simp, hT0⟩ (Kn.cons rfl (Kn.cons rfl (Kn.cons rfl (Kn.cons (by rw [xK]; rfl) Kn.nil)))) (HLe.refl _) ?_
 rintro ⟨q, T3⟩ ⟨hi, hT3⟩
 simp only at hi hT3
 have hiff := jR2 (n := n) (q := q) hz
 obtain ⟨i, hqz⟩ := xZ9 (q * z)
 have hnext : (q + 1) * z = i + z := by rw [zZ, hqz]
 rw [hqz] at hiff
 refine aF [(0, .func (.yield l) #[] #[]), (1, ptr gs 0), (2, ptr gn 0), (4, iq (i : Nat))] (Kn.cons rfl (Kn.cons rfl (Kn.cons rfl (Kn.cons (by show some (iq ((q * z : Nat) : Int)) = _; rw [hqz]) Kn.nil)))) ?_
 refine aS <| aR fun Z hZ => sM rfl rfl <| jB4 0 rfl rfl 0 rfl tyA58 tyS58 rfl rfl <| jE2 Tryz.underlying58 rfl rfl <| jB2 ?_
 refine sN (hZ _ _ <| f5K 0 1 2 4 9 rfl <| aC0 (fun hh => ?_) (fun hh => ?_))
 ·have hlt : i < n := by simpa using hh
  have hq : q < cntP n z := hiff.2 hlt
  have hsum : i + z ≤ 9223372036854775807 := by
   rcases zK q with h0 | h0
   ·subst h0; omega
   ·have : z ≤ q * z := Nat.le_mul_of_pos_left z h0
    omega
  obtain ⟨ga, o, rfl⟩ := hA (by omega)
  obtain ⟨e, he⟩ := xZ9 (min z (n - i))
  have he1 : 0 < e ∧ e ≤ n - i := by omega
  have hitem : ((List.range (cntP n z)).map fun q => [pcV (some ⟨ga, o, none⟩) n z q])[q]? = some [.slice (some ⟨ga, o + i * 4, none⟩) e e] := by
   rw [xR, List.getElem?_range hq]
   simp only [qA, pcV, zC1, hqz, he]
  refine aK <| nN <| aS (aB <| jC6 mixed (by kernel_rfl) (fun Z hZ => ?_))
  refine jG7 1 rfl rfl 0 rfl tyA3 tyS3 rfl rfl <| jG7 0 rfl rfl 0 rfl tyA58 tyS58 rfl rfl <| qM rfl rfl <| vP7 Tryz.underlying58 tyS80 rfl rfl rfl (by omega) (by omega) (by omega) rfl (fun o' ho => ?_)
  refine wD9 Tryz.underlying58 rfl rfl <| zA7 rfl rfl ((e : Nat) : Int) (by rw [← he]; simp only [x9]; omega) rfl ?_
  refine jC8 rfl rfl <| jF0 (hZ _ _ <| f5K 0 1 2 4 5 rfl <| jM2 (fun Z hZ => sy_x rfl <| sM rfl rfl <| sN <| sy_x rfl <| jB4 0 rfl rfl 0 rfl tyA58 tyS58 rfl rfl <| sN ?_))
  refine sy_x rfl <| sM rfl rfl <| sN <| sy_x rfl <| sM rfl rfl <| sN <| sy_x rfl <| sM rfl rfl <| sN <| sy_x rfl ?_
  refine jC2 rfl rfl ((i + e : Nat) : Int) (by rw [lT _ (by omega)]; omega) rfl ?_
  refine sN ?_
  refine sy_x rfl ?_
  refine sM rfl rfl ?_
  refine sN ?_
  refine sy_x rfl ?_
  refine sM rfl rfl ?_
  refine sN ?_
  refine sy_x rfl ?_
  refine jC2 rfl rfl ((i + e : Nat) : Int) (by rw [lT _ (by omega)]; omega) rfl ?_
  refine sN <| sy_x rfl <| wC0 (o + i * 4) Tryz.underlying58 tyS80 rfl rfl rfl rfl (by omega) (by omega) (xB _) (by omega) rfl rfl ?_
  rw [Nat.add_sub_cancel_left]
  refine sN <| kB8 [_, _] T3 Jr Jr (hY q _ T3 hitem hT3) rfl rfl rfl (xU _) hJr rfl ?_
  rintro v T4 ⟨b, rfl, hb1, hb2⟩
  refine sy_x rfl <| jI8 rfl rfl <| sN <| vB7 (hZ _ _ <| f5K 0 1 2 4 30 rfl <| aC0 (fun h3 => ?_) (fun h3 => ?_))
  ·have hb : b = false := by simpa using h3
   refine aE ?_
   repeat (with_reducible (first | refine nTR ?_ | refine nBR ?_))
   exact jK3 T4 rfl (vH8 (A := [_, _]) (hS T4 (hb2 hb))) (.inr (hb2 hb))
  have hb : b = true := by simpa using h3
  have hT4 := hb1 hb
  rw [(hJ _ T4 hT4).filter]
  refine aK ?_
  repeat refine nBN ?_
  refine nN ?_
  refine aG (fun Z hZ => ?_)
  refine sM rfl rfl ?_
  refine jB4 1 rfl rfl 0 rfl tyA3 tyS3 rfl rfl ?_
  refine jC2 rfl rfl (((q + 1) * z : Nat) : Int) (by rw [hnext, lT _ (by omega)]; omega) rfl ?_
  refine sAN hZ rfl rfl <| nF [(0, _), (1, _), (2, _), (4, _)] (kR rfl) <| jB8 (q + 1, T4) ⟨by show q + 1 ≤ _; omega, hT4⟩ (by simp; omega) (kR rfl) (HLe.refl _)
 ·have hge : ¬ i < n := by simpa using hh
  have hqe : q = cntP n z := by
   have : ¬ q < cntP n z := fun h => hge (hiff.1 h)
   omega
  subst hqe
  refine jB1 ?_
  repeat refine nTE ?_
  refine nBE <| jH5 T3 rfl (HLe.sub ((lS T3 Jr).trans ((x4 _ _).trans (x4 _ _)))) (.inl hT3)
end V
namespace V
open Go.RowKit
theorem zE6 : ElemOk Tryz.prog 125 58 1 24 := ElemOk.mk_ (z := .slice none 0 0) Tryz.underlying125 (by kernel_rfl) rfl (by omega)
def pcH (us : List (Value × List En)) : Heap := us.flatMap fun x => rowE x.1 80 4 (jA1 x.2)
theorem wH8 (us : List (Value × List En)) : Wrs (pcH us) := fun e he => by
 obtain ⟨x, _, hx⟩ := List.mem_flatMap.1 he
 exact jI9 _ _ _ _ e hx
theorem wY5 (us : List (Value × List En)) (x : Value × List En) : pcH (us ++ [x]) = pcH us ++ rowE x.1 80 4 (jA1 x.2) := by simp [pcH]
theorem wO4 {L : List En} {i z j : Nat} {u : Value} (h : (jA1 ((L.drop i).take z))[j]? = some u) : (jA1 L)[i * 4 + j]? = some u := by
 have h1 : (jA1 L).drop (i * 4) = jA1 (L.drop i) := kZ2 jW3 L i
 have h2 : jA1 (L.drop i) = jA1 ((L.drop i).take z) ++ jA1 ((L.drop i).drop z) := by rw [← zV, List.take_append_drop]
 rw [← zP, h1, h2, qK (List.getElem?_eq_some_iff.1 h).1]
 exact h
theorem yZ6 (X R Y U : Heap) : HLe ((X ++ (Y ++ U)) ++ R) (X ++ ((R ++ Y) ++ U)) := fun _ _ _ hw => hw.perm (by
 rw [xF, xF]
 exact qP X (qX (l₁ := R) (l₂ := Y ++ U)))
theorem zE3 (b v a r : Ent) (C U R : Heap) : HLe (a :: (R ++ (C ++ U))) ((b :: v :: a :: ((C ++ [r]) ++ U)) ++ R) := fun _ _ _ hw =>
 (hw.sub (show List.Sublist (a :: ((C ++ U) ++ R)) _ from zF b (zF v (qC a (List.Sublist.append_right (List.Sublist.append_right (lS C [r]) U) R))))).perm
  (z8 a qX)
theorem rev3 (a b c : Ent) (T : Heap) : HLe (c :: b :: a :: T) (a :: b :: c :: T) := fun _ _ _ hw => hw.perm (List.Perm.append_right T (List.reverse_perm [c, b, a]))
theorem cut_fn (A : Option Addr) (c : Nat) (L : List En) (T : Heap) (z : Nat) (hA : jH6 A L.length) (hT : 0 < L.length → T = roE A (jA1 L)) (hro : Ro T) (hL : L.length ≤ 10000) (hc : L.length ≤ c) (hz : 0 < z) (hzm : z ≤ maxLen) :
  Fn Tryz.prog 54 [.slice A L.length c, iq z] T fun v H' => ∃ us : List (Value × List En), RowOk v us.length ∧ us.length = cntP L.length z ∧ (∀ x ∈ us, RowOk x.1 x.2.length) ∧ us.map Prod.snd = (List.range (cntP L.length z)).map (pcL L z) ∧ H' = rowE v 58 1 (us.map Prod.fst) ++ pcH us := by
 have hcn : cntP L.length z ≤ L.length := by
  rcases xP L.length (cntP L.length z) with h | h
  ·have h1 := (jR2 hz).1 h
   have := Nat.le_mul_of_pos_right L.length hz
   omega
  ·exact h
 refine Fn.enterM (n := 19) Tryz.func54 rfl (by kernel_rfl) rfl (fun w0 => ?_)
 refine aA rfl rfl <| f2K 0 1 rfl <| aS <| aR fun Z hZ => sM rfl rfl <| jB2 ?_
 refine sN (hZ _ _ <| f3K 0 1 8 rfl <| aC0 (fun h => ?_) (fun h => ?_))
 ·simp at h
  omega
 refine aK <| nN <| aR (fun Z hZ => sAl tyZ125 rfl (fun g1 => sN (hZ _ _ <| f3K 0 1 5 rfl <| aS <| aR fun Z hZ => sM rfl rfl <| sM rfl rfl <| jA5 [] (.own g1 125 [.slice none 0 0] :: T) (yD2 A L.length c z hz) rfl (HLe.refl _) rfl ?_)))
 rintro v H' ⟨gs, gn, rfl, rfl⟩
 refine jC3 (.own g1 125 [.slice none 0 0] :: .own gs 58 [.slice A L.length c] :: .own gn 3 [iq z] :: T) (rev3 _ _ _ T) <| jC3 (.own g1 125 [.slice none 0 0] :: .ro gs 0 [.slice A L.length c] :: .own gn 3 [iq z] :: T) (HLe.toRo [.own g1 125 [.slice none 0 0]] (.own gn 3 [iq z] :: T)) <| jC3 (.own g1 125 [.slice none 0 0] :: .ro gs 0 [.slice A L.length c] :: .ro gn 0 [iq z] :: T) (HLe.toRo [.own g1 125 [.slice none 0 0], .ro gs 0 [.slice A L.length c]] T) <| sN (hZ _ _ <| f2K 5 11 rfl <| aB ?_)
 refine kE5 (fun k H => ∃ (v : Value) (us : List (Value × List En)), us.length = k ∧ RowOk v k ∧ (∀ x ∈ us, RowOk x.1 x.2.length) ∧ us.map Prod.snd = (List.range k).map (pcL L z) ∧ H = .own g1 125 [v] :: (rowE v 58 1 (us.map Prod.fst) ++ pcH us)) T (fun _ _ => False) [.own g1 125 [.slice none 0 0]] (yD1 gs gn A L.length c z hz hzm hA hc (by omega)) rfl (fun k H h => by obtain ⟨v, us, _, _, _, _, rfl⟩ := h; exact .cons rfl ((jI9 _ _ _ _).append (wH8 us))) (fun _ _ h => h.elim) hro (fun x hx => by simp only [lY, List.not_mem_nil, or_false] at hx; rcases hx with rfl | rfl <;> rfl) (fun k vs h => by rw [xR] at h; cases hk : (List.range (cntP L.length z))[k]? with | none => rw [hk] at h; cases h | some x => rw [hk] at h; obtain rfl := lV h; rfl) rfl ⟨.slice none 0 0, [], rfl, RowOk.nil, (fun x hx => absurd hx List.not_mem_nil), rfl, rfl⟩ (HLe.refl _) rfl ?_ ?_ (fun _ _ _ h => h.elim)
 ·rintro q vs H hk ⟨v, us, husl, hv, hus, hsnd, rfl⟩ l w1
  rw [xR] at hk
  cases hkx : (List.range (cntP L.length z))[q]? with
  | none => rw [hkx] at hk; cases hk
  | some x =>
   rw [hkx] at hk
   have hvs : [pcV A L.length z x] = vs := lV hk
   obtain ⟨hkl, hxe⟩ := List.getElem?_eq_some_iff.1 hkx
   rw [List.getElem_range] at hxe
   subst hxe
   have hq : q < cntP L.length z := by simpa using hkl
   have hqz := (jR2 hz).1 hq
   obtain ⟨ga, o, rfl⟩ := hA (by omega)
   obtain rfl := hT (by omega)
   obtain ⟨P, hP⟩ := xZ9 (pcL L z q)
   have hPl : P.length = min z (L.length - q * z) := by rw [← hP, kX8]
   have hpv : pcV (some ⟨ga, o, none⟩) L.length z q = .slice (some ⟨ga, o + q * z * 4, none⟩) P.length P.length := by rw [hPl]; rfl
   have hP0 : 0 < P.length := by omega
   have hcl := kL0 (some ⟨ga, o + q * z * 4, none⟩) P.length P (roE (some ⟨ga, o + q * z * 4, none⟩) (jA1 P)) (fun _ => ⟨_, _, rfl⟩) (fun _ => rfl) (fun h => by cases h) (Ro.roE _ _) (by omega)
   rw [hpv] at hvs
   subst hvs
   refine aG (fun Z hZ => sAN hZ rfl rfl <| nF [(5, _), (6, _)] (kR rfl) <| jV7 [] Wrs.nil (HLe.refl _) fun w2 => aB <| jA6 (.ro ga (o + q * z * 4) (jA1 P) :: .own g1 125 [v] :: (rowE v 58 1 (us.map Prod.fst) ++ (pcH us ++ [.ro ga o (jA1 L)]))) (HLe.trans (HLe.view (k := q * z * 4) (H := .own g1 125 [v] :: (rowE v 58 1 (us.map Prod.fst) ++ (pcH us ++ [.ro ga o (jA1 L)]))) (xs := jA1 L) (by simp) (fun j u hu => by subst hP; exact wO4 hu)) (by simp only [qS, xF]; exact HLe.refl _)) ?_)
   refine jS4 _ [(0, true), (1, true), (2, false), (3, false), (4, false)] 5 rfl mixed (by kernel_rfl) (HLe.pick [1] (by simp) (by simp only [pick, l7, qS]; rfl)) (fun Z hZ => ?_)
   refine tw_p rfl ?_
   first | refine jE6 0 rfl rfl tyA125 tyS125 rfl rfl ?_
   refine vN <| tw_p rfl <| jA8 ?_
   refine vN <| tw_g rfl <| wC6 (roE (some ⟨ga, o + q * z * 4, none⟩) (jA1 P)) hcl rfl (qC _ (lN _)) (Ro.roE _ _) rfl (fun u hu => ?_)
   obtain ⟨gu, cu, rfl⟩ := hu.some hP0
   refine sN ⟨HLe.pick [1] (by simp) rfl, ?_⟩
   refine tw_g rfl <| sBS0 Tryz.underlying125 tyS58 tyZ58 (fun g2 => ?_)
   refine sN ⟨HLe.pick [2] (by simp) rfl, ?_⟩
   refine tw_g rfl <| jC9 (_ :: .ro ga (o + q * z * 4) (jA1 P) :: .own g1 125 [v] :: ((pcH us ++ [.ro ga o (jA1 L)]) ++ rowE (.slice (some ⟨gu, 0, none⟩) P.length cu) 80 4 (jA1 P))) zE6 rfl hv (by rw [zG, husl]; omega) rfl (fun w hw => jJ3 (i := 0) (xs := [.slice (some ⟨gu, 0, none⟩) P.length cu]) rfl rfl hw) rfl (by show _ ≤ 9223372036854775807; omega) (by omega) (yZ6 [_, _, _] _ _ _) rfl (fun v2 hv2 => ?_)
   refine sN ⟨HLe.pick [2] (by simp) rfl, ?_⟩
   refine jI7 ?_
   obtain ⟨gv, cv, rfl⟩ := hv2.some (Nat.succ_pos q)
   refine sS10 2 tyS125 ?_
   refine sN (hZ _ _ <| nF [] (Kn.nil) <| nBN <| kA2 (.own g1 125 [.slice (some ⟨gv, 0, none⟩) (q + 1) cv] :: (rowE (.slice (some ⟨gv, 0, none⟩) (q + 1) cv) 58 1 ((us ++ [(Value.slice (some ⟨gu, 0, none⟩) P.length cu, P)]).map Prod.fst) ++ pcH (us ++ [(Value.slice (some ⟨gu, 0, none⟩) P.length cu, P)]))) ⟨_, us ++ [(Value.slice (some ⟨gu, 0, none⟩) P.length cu, P)], by simp [husl], RowOk.mk _ _ _, fun x hx => ?_, by rw [x8, hsnd, List.range_succ, x8, ← hP]; rfl, rfl⟩ ?_)
   ·rcases List.mem_append.1 hx with hx | hx
    ·exact hus x hx
    ·rw [List.mem_singleton.1 hx]; exact hu
   ·rw [wY5, x8]
    exact zE3 _ _ _ _ _ _ _
 ·rintro D H ⟨v, us, husl, hv, hus, hsnd, rfl⟩
  rw [zG, List.length_range] at husl hv hsnd
  refine nBN ?_
  with_reducible refine jN8 ?_
  refine aR (fun Z hZ => sL0 1 tyA125 tyS125 ?_)
  refine sAN hZ rfl rfl <| f1K 4 rfl <| aE <| jJ5 [0] ⟨rfl, trivial⟩ (jC1 _ rfl rfl (HLe.sub ((lS _ _).trans (x4 _ _))) ⟨us, by rw [husl]; exact hv, husl, hus, hsnd, rfl⟩)
end V
namespace V
open Go.RowKit
def pcs (L : List En) (z : Nat) : List (List En) := (List.range (cntP L.length z)).map (pcL L z)
def jI0 (ps : List (List En)) : List UInt8 := ps.flatMap fun P => (encQ P).1
def kC4 (t : Nat) (P : List En) : En := ⟨(atE P 0).id, t, (encQ P).1.length, 0⟩
def jI6 (t : Nat) : List (List En) → List En
 | [] => []
 | P :: r => kC4 t P :: jI6 (t + (encQ P).1.length) r
theorem kC3 : ∀ (ps : List (List En)) (t : Nat), (jI6 t ps).length = ps.length
 | [], _ => rfl
 | P :: r, t => by simp [jI6, kC3 r]
theorem kR0 : ∀ (ps : List (List En)) (t : Nat) (P : List En), jI6 t (ps ++ [P]) = jI6 t ps ++ [kC4 (t + (jI0 ps).length) P]
 | [], t, P => by simp [jI6, jI0]
 | Q :: r, t, P => by
  simp only [lL, jI6, kR0 r, jI0, xX, lX]
  rw [qI]
theorem vV7 (ps : List (List En)) (P : List En) : jI0 (ps ++ [P]) = jI0 ps ++ (encQ P).1 := by simp [jI0]
def okQ (L : List En) (b : Int) (z : Nat) : Bool := ((pcs L z).all fun P => decide ((encQ P).2 = 0)) && decide ((jM8 (jI6 0 (pcs L z)) : Int) ≤ b)
def jU0 (L : List En) (b : Int) : Nat → Nat → List En × List UInt8 × Nat × Nat
 | 0, _ => ([], [], 0, 15)
 | k + 1, z => if okQ L b z = true then (jI6 0 (pcs L z), jI0 (pcs L z), z, 0) else jU0 L b k (2 * z)
def jK5 (L : List En) (b : Int) : List En × List UInt8 × Nat × Nat :=
 if b < 1 ∨ 16257 < b then ([], [], 0, 2) else if rowC L ≠ 0 then ([], [], 0, rowC L) else if jI2 L = true then ([], [], 0, 14)
 else if (jM8 L : Int) ≤ b then (L, [], 0, 0) else jU0 L b 13 1
theorem kE1 (P : List En) : (encQ P).1.length ≤ 65536 := by
 unfold encQ
 split
 ·split
  ·exact xD _
  ·rename_i h
   show (allB (jF3 P)).length ≤ 65536
   unfold sumB at h
   omega
 ·exact xD _
theorem vB5 : ∀ ps : List (List En), (jI0 ps).length ≤ 65536 * ps.length
 | [] => by simp [jI0]
 | P :: r => by
  have h1 := kE1 P
  have h2 := vB5 r
  simp only [jI0, xX, lX, lE] at h2 ⊢
  omega
theorem vL0 (L : List En) (z : Nat) : (pcs L z).length = cntP L.length z := by simp [pcs]
theorem kX7 {L P : List En} {z : Nat} (h : P ∈ pcs L z) : ∀ e ∈ P, e ∈ L := fun e he => by
 obtain ⟨q, _, rfl⟩ := List.mem_map.1 h
 exact List.mem_of_mem_drop (List.mem_of_mem_take he)
theorem wH5 {L P : List En} {z : Nat} (hz : 0 < z) (h : P ∈ pcs L z) : 0 < P.length := by
 obtain ⟨q, hq, rfl⟩ := List.mem_map.1 h
 have := (jR2 hz).1 (List.mem_range.1 hq)
 rw [kX8]
 omega
theorem kK2 : ∀ (ps : List (List En)) (t : Nat), (∀ P ∈ ps, jF4 P) → t + 65536 * ps.length < 18446744073709551616 → jF4 (jI6 t ps)
 | [], _, _, _ => fun e he => by cases he
 | P :: r, t, hP, ht => fun e he => by
  have h1 := kE1 P
  rw [lE] at ht
  rcases List.mem_cons.1 he with rfl | he
  ·have := jW5 (hP P lO) 0
   exact ⟨this.1, by show t < _; omega, by show (encQ P).1.length < _; omega, by show 0 < _; omega⟩
  ·exact kK2 r _ (fun Q hQ => hP Q (lW _ hQ)) (by omega) e he
def slA : Value → Option Addr
 | .slice A _ _ => A
 | _ => none
def pcR (us : List (Value × List En)) : Heap := us.flatMap fun x => roE (slA x.1) (jA1 x.2)
theorem zC0 (us : List (Value × List En)) : Ro (pcR us) := fun e he => by
 obtain ⟨x, _, hx⟩ := List.mem_flatMap.1 he
 exact Ro.roE _ _ e hx
theorem yH3 : ∀ (us : List (Value × List En)) (X Y : Heap), (∀ x ∈ us, RowOk x.1 x.2.length) → HLe (X ++ (pcR us ++ Y)) (X ++ (pcH us ++ Y))
 | [], X, Y, _ => HLe.refl _
 | x :: r, X, Y, h => by
  obtain ⟨A, c, hx, hA, hle⟩ := (h x lO).ro
  have h1 := yH3 r (X ++ roE (slA x.1) (jA1 x.2)) Y (fun y hy => h y (lW _ hy))
  have h2 := hle X (pcH r ++ Y) 80 4 (jA1 x.2)
  rw [← hx] at h2
  have e1 : slA x.1 = A := by rw [hx]; rfl
  rw [← e1] at h2
  simp only [pcR, pcH, xX, xF] at h1 h2 ⊢
  exact h1.trans h2
theorem yP9 {us : List (Value × List En)} {x : Value × List En} (h : x ∈ us) : (roE (slA x.1) (jA1 x.2)).Sublist (pcR us) := by
 rw [pcR, List.flatMap_def]
 exact List.sublist_flatten_of_mem (List.mem_map.2 ⟨x, h, rfl⟩)
end V
namespace V
open Go.RowKit
theorem yQ6 {L : List En} {b : Int} {z j : Nat} {P : List En} (hP : (pcs L z)[j]? = some P) (he : (encQ P).2 ≠ 0) : okQ L b z = false := by
 unfold okQ
 rw [Bool.and_eq_false_iff]
 refine .inl ?_
 rw [List.all_eq_false]
 exact ⟨P, xM hP, by simpa using he⟩
theorem zD4 (x : Ent) (a b c : Heap) : HLe ((c ++ b) ++ a) (x :: ((a ++ b) ++ c)) := fun _ _ _ hw => (hw.sub (x4 x _)).perm (by
 rw [xF c b a]
 exact List.perm_append_comm.trans (qP c qX))
theorem yS4 (a b c : Heap) : HLe (a ++ (c ++ b)) ((a ++ b) ++ c) := fun _ _ _ hw => hw.perm (by
 rw [xF]
 exact qP a qX)
theorem wW0 (A : Option Addr) (c : Nat) (L : List En) (T : Heap) (b : Int) (hA : jH6 A L.length) (hT : 0 < L.length → T = roE A (jA1 L)) (hro : Ro T) (hL : L.length ≤ 10000) (hE : jF4 L) (hnil : A = none → L.length = 0) (hc : L.length ≤ c) :
  Fn Tryz.prog 22 [.slice A L.length c, iq b] T fun v H' => ∃ u, v = .tuple #[u, .string (str (jK5 L b).2.1), iq (jK5 L b).2.2.1, iq (jK5 L b).2.2.2] ∧ RowOk u (jK5 L b).1.length ∧ H' = rowE u 80 4 (jA1 (jK5 L b).1) := by
 have hmax : L.length ≤ maxLen := by show _ ≤ 9223372036854775807; omega
 refine Fn.enter (N := 80) Tryz.func22 rfl (by kernel_rfl) rfl (fun w0 => ?_)
 refine aR fun Z hZ => sA rfl rfl <| sA rfl rfl <| sA rfl rfl <| sAN hZ rfl rfl <| f2K 0 1 rfl <| vH0 <| aS <| jA3 [(0, .slice A L.length c), (1, iq b), (21, .bool (decide (b < 1 ∨ 16257 < b)))] T (fun Z hZ => ?_) ?_
 ·refine sM rfl rfl <| jB2 ?_
  refine sM rfl rfl <| jD0 18 rfl (fun hb2 => ?_) (fun hb2 => ?_)
  ·refine sO0 ?_
   refine sO0 ?_
   refine sP rfl rfl rfl <| sN (hZ _ _ ?_ ?_)
   ·exact Kn.cons rfl (Kn.cons rfl (Kn.cons (congrArg some (congrArg Value.bool (by first | (simp at *; done) | (simp at *; omega) | (simp at *; rw [lR]; simp; omega)))) Kn.nil))
   ·exact HLe.refl _
  ·refine sOn0 ?_
   refine sM rfl rfl <| sOn0 ?_
   refine jC4 ?_
   refine sP rfl rfl rfl <| sN (hZ _ _ ?_ ?_)
   ·exact Kn.cons rfl (Kn.cons rfl (Kn.cons (congrArg some (congrArg Value.bool (by first | (simp at *; done) | (simp at *; omega) | (simp at *; rw [lR]; simp; omega)))) Kn.nil))
   ·exact HLe.refl _
 refine aC0 (fun h => ?_) (fun h => ?_)
 ·have h1 : b < 1 ∨ 16257 < b := by simpa using h
  rw [show jK5 L b = ([], [], 0, 2) by unfold jK5; rw [if_pos h1]]
  refine aR fun Z hZ => sA rfl rfl <| sA rfl rfl <| sA rfl rfl <| sAN hZ rfl rfl <| f4K 4 5 6 7 rfl <| aE ?_
  repeat (with_reducible (first | refine nTR ?_ | refine jF5 ?_))
  exact jX7 [] rfl rfl rfl rfl rfl (HLe.sub (lN _)) ⟨_, rfl, RowOk.nil, rfl⟩
 have h1 : ¬ (b < 1 ∨ 16257 < b) := by simpa using h
 refine aK <| nN <| aS <| aR fun Z hZ => sM rfl rfl <| jD1 T (kA6 A c L T hA hT hro hmax hE) rfl (xU _) hro rfl <| sAN hZ rfl rfl <| f3K 0 1 8 rfl <| aR fun Z hZ => sM rfl rfl <| jC7 ?_
 refine sN (hZ _ _ <| f4K 0 1 8 25 rfl <| aC0 (fun h2 => ?_) (fun h2 => ?_))
 ·have h2' : rowC L ≠ 0 := by simp at h2; omega
  rw [show jK5 L b = ([], [], 0, rowC L) by unfold jK5; rw [if_neg h1, if_pos h2']]
  refine aR fun Z hZ => sM rfl rfl <| sA rfl rfl <| sA rfl rfl <| sA rfl rfl <| sAN hZ rfl rfl <| f4K 4 5 6 7 rfl <| aE ?_
  repeat (with_reducible (first | refine nTR ?_ | refine jF5 ?_))
  exact jX7 [] rfl rfl rfl rfl rfl (HLe.sub (lN _)) ⟨_, rfl, RowOk.nil, rfl⟩
 have h2' : rowC L = 0 := by simp at h2; omega
 refine aK <| nN <| aS <| aR fun Z hZ => sM rfl rfl <| jD1 T (kO8 A c L T hA hT hro hmax hE) rfl (xU _) hro rfl <| sN (hZ _ _ <| f3K 0 1 28 rfl <| aC0 (fun h3 => ?_) (fun h3 => ?_))
 ·have h3' : jI2 L = true := h3
  rw [show jK5 L b = ([], [], 0, 14) by unfold jK5; rw [if_neg h1, if_neg (by simpa using h2'), if_pos h3']]
  refine aR fun Z hZ => sA rfl rfl <| sA rfl rfl <| sA rfl rfl <| sAN hZ rfl rfl <| f4K 4 5 6 7 rfl <| aE ?_
  repeat (with_reducible (first | refine nTR ?_ | refine jF5 ?_))
  exact jX7 [] rfl rfl rfl rfl rfl (HLe.sub (lN _)) ⟨_, rfl, RowOk.nil, rfl⟩
 have h3' : ¬ jI2 L = true := by rw [show jI2 L = false from h3]; decide
 refine aK <| nN <| aS <| aR fun Z hZ => sM rfl rfl <| jD1 T (kZ8 A c L T hA hT hro (by omega) hE) rfl (xU _) hro rfl ?_
 refine sM rfl rfl <| jN4 rfl rfl rfl <| sN (hZ _ _ <| f3K 0 1 32 rfl <| aC0 (fun h4 => ?_) (fun h4 => ?_))
 ·have h4' : (jM8 L : Int) ≤ b := by simpa using h4
  rw [show jK5 L b = (L, [], 0, 0) by unfold jK5; rw [if_neg h1, if_neg (by simpa using h2'), if_neg h3', if_pos h4']]
  refine aR fun Z hZ => sM rfl rfl <| kV8 T (kL0 A c L T hA hT hnil hro (by omega)) rfl (xU _) hro rfl ?_
  rintro v H' ⟨hv, rfl⟩
  rw [jF1]
  refine sA rfl rfl <| sA rfl rfl <| sA rfl rfl <| sAN hZ rfl rfl <| f4K 4 5 6 7 rfl <| aE ?_
  repeat (with_reducible (first | refine nTR ?_ | refine jF5 ?_))
  exact jX7 _ rfl rfl rfl rfl rfl (HLe.sub (lS _ _)) ⟨_, rfl, hv, rfl⟩
 have h4' : ¬ (jM8 L : Int) ≤ b := by simpa using h4
 have hL0 : 0 < L.length := by
  rcases zK L.length with h0 | h0
  ·exfalso
   have : L = [] := List.length_eq_zero_iff.1 h0
   subst this
   have hs0 : jM8 [] = 1 := by
    unfold jM8
    rw [if_pos (by rfl), show jF3 [] = [0] from rfl, sumB, allB, xX, List.flatMap_nil, kU0 (by omega)]
    rfl
   rw [hs0] at h4'
   omega
  ·exact h0
 have hD : jK5 L b = jU0 L b 13 1 := by unfold jK5; rw [if_neg h1, if_neg (by simpa using h2'), if_neg h3', if_neg h4']
 rw [hD]
 obtain ⟨D, hDD⟩ := xZ9 (jU0 L b 13 1)
 rw [hDD]
 refine aK <| nN <| aS (vH1 <| nN <| aS <| aA rfl rfl <| f3K 0 1 9 rfl <| aB ?_)
 refine jB9 (ι := Nat) (fun i => [(0, .slice A L.length c), (1, iq b), (9, iq (2 ^ i : Nat))]) (fun _ => T)
  (fun i => i ≤ 13 ∧ jU0 L b (13 - i) (2 ^ i) = D) (fun i => 13 - i) 0 ⟨by omega, hDD⟩ (kR rfl) (HLe.refl _) ?_
 rintro i ⟨hi, hq⟩
 refine aS <| aR fun Z hZ => sM rfl rfl <| jN4 rfl rfl rfl <| sN (hZ _ _ <| f4K 0 1 9 36 rfl <| aC0 (fun h5 => ?_) (fun h5 => ?_))
 ·have hz4 : 2 ^ i ≤ 4096 := Int.ofNat_le.1 (of_decide_eq_true h5)
  have hi12 : i ≤ 12 := by
   rcases xP i 13 with h | h
   ·omega
   ·have : 2 ^ 13 ≤ 2 ^ i := z7 (by omega) h
    omega
  obtain ⟨m', hm'⟩ : ∃ m', 13 - i = m' + 1 := ⟨12 - i, by omega⟩
  have hz0 : 0 < 2 ^ i := Nat.pow_pos (by omega)
  have hpow : 2 ^ (i + 1) = 2 * 2 ^ i := by rw [qY]; omega
  rw [hm', jU0] at hq
  obtain ⟨z, hz⟩ := xZ9 (2 ^ i)
  rw [hz] at hq hz4 hz0 hpow
  refine aK <| nN <| jJ7 (ι := Unit) (fun _ => [(0, .slice A L.length c), (1, iq b), (9, iq z)]) (fun _ => T) (fun _ => okQ L b z = false) ?_ ?_
  ·refine aB <| aF [(0, .slice A L.length c), (1, iq b), (9, iq z)] (Kn.cons rfl (Kn.cons rfl (Kn.cons (by show some (iq ((2 ^ i : Nat) : Int)) = _; rw [hz]) Kn.nil))) ?_
   refine aA rfl rfl <| f4K 0 1 9 10 rfl <| aA rfl rfl <| f5K 0 1 9 10 11 rfl <| aS <| aR fun Z hZ => sM rfl rfl <| sM rfl rfl <| kV8 T (cut_fn A c L T z hA hT hro hL hc hz0 (by show _ ≤ 9223372036854775807; omega)) rfl (xU _) hro rfl ?_
   rintro v H' ⟨us, hv, husl, hus, hsnd, rfl⟩
   rw [((jI9 _ _ _ _).append (wH8 us)).filter]
   obtain ⟨A1, c1, rfl, hA1, hle1⟩ := hv.ro
   refine jC3 (roE A1 (us.map Prod.fst) ++ (pcR us ++ T)) (HLe.trans (yH3 us (roE A1 (us.map Prod.fst)) T hus) (by rw [xF]; exact hle1 [] _ _ _ _)) ?_
   refine jE2 Tryz.underlying125 rfl rfl <| sMN hZ rfl rfl <| f8K 0 1 9 10 11 41 42 43 rfl ?_
   have hps : us.map Prod.snd = pcs L z := hsnd
   have hul : us.length ≤ 10000 := by
    rw [husl]
    rcases xP L.length (cntP L.length z) with h | h
    ·have h1 := (jR2 hz0).1 h
     have := Nat.le_mul_of_pos_right L.length hz0
     omega
    ·omega
   have hro2 : Ro (roE A1 (us.map Prod.fst) ++ (pcR us ++ T)) := (Ro.roE _ _).append ((zC0 us).append hro)
   have hget : ∀ {j : Nat} {x : Value × List En}, us[j]? = some x → (pcs L z)[j]? = some x.2 := fun {j x} hx => by rw [← hps, xR, hx]; rfl
   have hpl : (pcs L z).length = us.length := by rw [← hps, zG]
   refine vA4 (ι := Value × Value) (fun i => [(0, .slice A L.length c), (1, iq b), (9, iq z), (10, i.1), (11, i.2)]) (fun i => rowE i.1 80 4 (jA1 (jI6 0 (pcs L z))) ++ (rowE i.2 5 1 (bv (jI0 (pcs L z))) ++ (roE A1 (us.map Prod.fst) ++ (pcR us ++ T)))) (fun i => RowOk i.1 (pcs L z).length ∧ RowOk i.2 (jI0 (pcs L z)).length ∧ ∀ P ∈ pcs L z, (encQ P).2 = 0) ?_ ?_
   ·refine aB ?_
    refine jB9 (ι := Nat × Value × Value) (fun i => [(0, .slice A L.length c), (1, iq b), (9, iq z), (10, i.2.1), (11, i.2.2), (41, .slice A1 us.length c1), (42, iq (us.length : Nat)), (43, iq (i.1 : Nat))]) (fun i => rowE i.2.1 80 4 (jA1 (jI6 0 ((pcs L z).take i.1))) ++ (rowE i.2.2 5 1 (bv (jI0 ((pcs L z).take i.1))) ++ (roE A1 (us.map Prod.fst) ++ (pcR us ++ T))))
     (fun i => i.1 ≤ us.length ∧ RowOk i.2.1 i.1 ∧ RowOk i.2.2 (jI0 ((pcs L z).take i.1)).length ∧ ∀ P ∈ (pcs L z).take i.1, (encQ P).2 = 0) (fun i => us.length - i.1) (0, .slice none 0 0, .slice none 0 0) ⟨by simp, RowOk.nil, by rw [lB]; exact RowOk.nil, fun P hP => by rw [lB] at hP; cases hP⟩ (kR rfl) (HLe.refl _) ?_
    rintro ⟨j, v, w⟩ ⟨hj, hv2, hw2, hgood⟩
    simp only at hj hv2 hw2 hgood
    refine aR (fun Z hZ => jB2 ?_)
    refine sN (hZ _ _ <| f9K 0 1 9 10 11 41 42 43 44 rfl <| aS (aC0 (fun h6 => ?_) (fun h6 => ?_)))
    ·have hlt : j < us.length := by simpa using h6
     obtain ⟨x, hx⟩ : ∃ x, us[j]? = some x := ⟨_, xC hlt⟩
     have hxm := xM hx
     have hP := hget hx
     have hPm := xM hP
     have hP0 := wH5 hz0 hPm
     have hPE : jF4 x.2 := fun e he => hE e (kX7 hPm e he)
     have hPl : x.2.length ≤ 10000 := by
      obtain ⟨q, _, hq⟩ := List.mem_map.1 hPm
      rw [← hq, kX8]
      omega
     obtain ⟨gp, cp, hxv⟩ := (hus x hxm).some hP0
     obtain ⟨u, P⟩ := x
     simp only at hxv hP hPm hP0 hPE hPl hxm
     subst hxv
     obtain ⟨ga, o1, hA1e⟩ := hA1.some (by omega)
     have hrd : rdV false 1 (us.map Prod.fst) j = some (.slice (some ⟨gp, 0, none⟩) P.length cp) := by show (us.map Prod.fst)[j]? = _; rw [xR, hx]; rfl
     have htake : (pcs L z).take (j + 1) = (pcs L z).take j ++ [P] := by rw [List.take_add_one, hP]; rfl
     have hel := kE1 P
     have htl := vB5 ((pcs L z).take j)
     rw [xS, hpl, uP hj] at htl
     obtain ⟨S, hS⟩ := xZ9 ((encQ P).1)
     obtain ⟨e, he⟩ := xZ9 ((encQ P).2)
     have henc := kS5 (some ⟨gp, 0, none⟩) cp P _ (fun _ => ⟨_, _, rfl⟩) (fun _ => rfl) (Ro.roE _ _) hPl hPE
     rw [hS, he] at henc
     rw [hS] at hel
     have hpsub : (roE (some ⟨gp, 0, none⟩) (jA1 P)).Sublist (rowE v 80 4 (jA1 (jI6 0 ((pcs L z).take j))) ++ (rowE w 5 1 (bv (jI0 ((pcs L z).take j))) ++ (roE A1 (us.map Prod.fst) ++ (pcR us ++ T)))) :=
      ((((yP9 hxm).trans (lS _ T)).trans (lP (roE A1 (us.map Prod.fst)) _)).trans (lP (rowE w 5 1 _) _)).trans (lP _ _)
     have hasub : (roE A1 (us.map Prod.fst)).Sublist (rowE v 80 4 (jA1 (jI6 0 ((pcs L z).take j))) ++ (rowE w 5 1 (bv (jI0 ((pcs L z).take j))) ++ (roE A1 (us.map Prod.fst) ++ (pcR us ++ T)))) :=
      ((lS _ (pcR us ++ T)).trans (lP (rowE w 5 1 _) _)).trans (lP _ _)
     refine aK <| nN <| aS (aB <| aR (fun Z hZ => jB3 (o1 + j * 1) Tryz.underlying125 tyS58 (by rw [hA1e]; rfl) rfl (by omega) (by simp) rfl ?_))
     refine jS0 (o := o1) (n := us.length) (size := 1) (xs := us.map Prod.fst) j rfl (by rw [zE]) (fun w hw => by rw [← hA1e]; exact wF9 hA1 (fun y hy => hasub.subset hy) (by rw [zG]; omega) hw) (by omega) tyA58 tyS58 hrd rfl ?_
     refine sAN hZ rfl rfl <| f9K 0 1 9 10 11 13 41 42 43 rfl <| aR fun Z hZ => sM rfl rfl <| jD1 (roE (some ⟨gp, 0, none⟩) (jA1 P)) henc rfl hpsub (Ro.roE _ _) rfl <| sM rfl rfl <| sX rfl rfl rfl <| sX rfl rfl rfl <| sA rfl rfl <| sAN hZ rfl rfl <| f11K 0 1 9 10 11 13 14 15 41 42 43 rfl <| aS <| aR fun Z hZ => sM rfl rfl <| jC7 ?_
     refine sN (hZ _ _ <| f11K 0 1 9 10 11 13 14 41 42 43 53 rfl <| aC0 (fun h7 => ?_) (fun h7 => ?_))
     ·have he0 : e ≠ 0 := by simp at h7; omega
      refine jB1 ?_
      repeat (with_reducible (first | refine nTE ?_ | refine jR7 (by decide) ?_))
      refine nBE <| jE4 () (yQ6 hP (by rw [he]; exact he0)) (kR rfl) (HLe.sub (((lP (pcR us) T).trans (lP (roE A1 _) _)).trans ((lP (rowE w 5 1 _) _).trans (lP _ _))))
     have he0 : e = 0 := by simp at h7; omega
     subst he0
     refine aK <| nN ?_
     have hid : rdV false 1 (jA1 P) 0 = some (uq (atE P 0).id) := wG0 (k := 0) (jW6 hP0)
     have hroot : jI6 0 ((pcs L z).take (j + 1)) = jI6 0 ((pcs L z).take j) ++ [⟨(atE P 0).id, (jI0 ((pcs L z).take j)).length, S.length, 0⟩] := by rw [htake, kR0, kC4, hS, lA]
     have htext : jI0 ((pcs L z).take (j + 1)) = jI0 ((pcs L z).take j) ++ S := by rw [htake, vV7, hS]
     have hcells : jA1 (jI6 0 ((pcs L z).take (j + 1))) = jA1 (jI6 0 ((pcs L z).take j)) ++ [uq (atE P 0).id, uq (jI0 ((pcs L z).take j)).length, wq4 S.length, wq4 0] := by rw [hroot]; exact kO2 _ _
     obtain ⟨aw, cw, rfl, _⟩ := hw2.form
     refine aR fun Z hZ => sM rfl rfl <| sM rfl rfl <| jB3 0 Tryz.underlying58 tyS80 rfl rfl (by omega) (by simp) rfl ?_
     refine sFA0 jK0 ?_
     refine jS0 (o := 0) (n := P.length) (size := 4) (xs := jA1 P) 0 rfl rfl (fun w hw => wF9 (.inr ⟨_, _, rfl⟩) (fun y hy => hpsub.subset hy) (jG6 P) hw) hP0 tyA25 tyS25 hid rfl <| sM rfl rfl <| jE2 Tryz.underlying44 rfl rfl <| jB7 Tryz.underlying3 Tryz.underlying25 rfl (((jI0 ((pcs L z).take j)).length : Nat) : Int) (by rw [l6 _ (by omega)]) rfl ?_
     refine sM rfl rfl <| jD6 Tryz.underlying9 rfl rfl <| jB7 Tryz.underlying3 Tryz.underlying78 rfl ((S.length : Nat) : Int) (by rw [yL5, zU (by omega)]) rfl ?_
     refine jD4 tyZ80 tyP80 ?_
     refine sBS0 Tryz.underlying58 tyS80 tyZ80 (fun g1 => ?_)
     refine jC9 (_ :: (rowE (.slice aw (jI0 ((pcs L z).take j)).length cw) 5 1 (bv (jI0 ((pcs L z).take j))) ++ (roE A1 (us.map Prod.fst) ++ (pcR us ++ T)))) kI4 rfl hv2 (by rw [jG6, kC3, xS, hpl, uP hj]) rfl (fun w hw => jJ3 (i := 0) (xs := [uq (atE P 0).id, uq (jI0 ((pcs L z).take j)).length, wq4 S.length, wq4 0]) rfl rfl hw) rfl (by show _ ≤ 9223372036854775807; omega) (by omega) (HLe.toEnd [_] _ _) rfl (fun v2 hv2' => ?_)
     rw [← hcells]
     refine sAN hZ rfl rfl <| f9K 0 1 9 10 11 14 41 42 43 rfl <| aG (fun Z hZ => sM rfl rfl <| sM rfl rfl <| kH7 (rowE v2 80 4 (jA1 (jI6 0 ((pcs L z).take (j + 1)))) ++ (roE A1 (us.map Prod.fst) ++ (pcR us ++ T))) Tryz.underlying44 Tryz.underlying9 (by kernel_rfl) rfl hw2 rfl (by omega) (zD4 _ _ _ _) rfl (fun w2 hw2' => ?_))
     rw [← htext]
     rw [← htext] at hw2'
     refine sAN hZ rfl rfl <| nF [(0, _), (1, _), (9, _), (10, _), (11, _), (41, _), (42, _), (43, _)] (kR rfl) ?_
     repeat refine nBN ?_
     refine nN ?_
     refine aG (fun Z hZ => ?_)
     refine jC2 rfl rfl ((j + 1 : Nat) : Int) (by rw [lT _ (by omega)]; omega) rfl ?_
     refine sMN hZ rfl rfl <| nF [(0, _), (1, _), (9, _), (10, _), (11, _), (41, _), (42, _), (43, _)] (kR rfl) <| jB8 (j + 1, v2, w2) ⟨by show j + 1 ≤ _; omega, hv2', hw2', fun Q hQ => ?_⟩ (by simp; omega) (kR rfl) ?_
     ·rw [htake] at hQ
      rcases List.mem_append.1 hQ with hQ | hQ
      ·exact hgood Q hQ
      ·rw [List.mem_singleton.1 hQ]; exact he
     ·exact yS4 _ _ _
    ·have hje : j = us.length := by simp at h6; omega
     subst hje
     have hall : (pcs L z).take us.length = pcs L z := qZ (by omega)
     rw [hall] at hw2 hgood
     refine jB1 ?_
     repeat refine nTE ?_
     refine nBE <| jE4 (v, w) ⟨by rw [hpl]; exact hv2, hw2, hgood⟩ (kR rfl) ?_
     simp only [hall]
     exact HLe.refl _
   ·rintro ⟨v, w⟩ ⟨hv2, hw2, hgood⟩
    simp only at hv2 hw2
    have hps0 : 0 < (pcs L z).length := by
     rw [vL0]
     exact (jR2 hz0).2 (by omega)
    have hRE : jF4 (jI6 0 (pcs L z)) := kK2 _ 0 (fun P hP e he => hE e (kX7 hP e he)) (by omega)
    have hrl := kC3 (pcs L z) 0
    obtain ⟨gr, cr, rfl⟩ := hv2.some hps0
    have hok : okQ L b z = decide ((jM8 (jI6 0 (pcs L z)) : Int) ≤ b) := by
     unfold okQ
     rw [List.all_eq_true.2 (fun P hP => by simpa using hgood P hP), Bool.true_and]
    have hsz := kZ8 (some ⟨gr, 0, none⟩) cr (jI6 0 (pcs L z)) _ (fun _ => ⟨_, _, rfl⟩) (fun _ => rfl) (Ro.roE _ _) (by omega) hRE
    rw [hrl] at hsz
    refine nN <| aS <| aR fun Z hZ => sM rfl rfl <| jO2 (roE (some ⟨gr, 0, none⟩) (jA1 (jI6 0 (pcs L z)))) hsz rfl ((HLe.sub (qC _ (lN _))).trans (HLe.rowRo [] _)) (Ro.roE _ _) rfl <| sM rfl rfl <| jC4 ?_
    refine sN (hZ _ _ <| f6K 0 1 9 10 11 75 rfl <| aC0 (fun h8 => ?_) (fun h8 => ?_))
    ·have hbad : ¬ (jM8 (jI6 0 (pcs L z)) : Int) ≤ b := by simp at h8; omega
     refine jB1 ?_
     repeat refine nTE ?_
     refine nBE <| jE4 () (by rw [hok, decide_eq_false hbad]) (kR rfl) (HLe.sub (((lP (pcR us) T).trans (lP (roE A1 _) _)).trans ((lP (rowE w 5 1 _) _).trans (x4 _ _))))
    have hgd : (jM8 (jI6 0 (pcs L z)) : Int) ≤ b := by simp at h8; omega
    rw [hok, decide_eq_true hgd, if_pos rfl] at hq
    rw [← hq]
    have htp : 0 < (jI0 (pcs L z)).length := by
     match hpc : pcs L z, hps0 with
     | P :: r, _ =>
      rw [hpc] at hgood
      have h1 := kZ7 (hgood P lO)
      have h2 := vA6 P
      rw [jI0, xX, lX, h1.2.2]
      show 0 < (allB (jF3 P)).length + _
      omega
    obtain ⟨gw, cw, rfl⟩ := hw2.some htp
    refine aK <| nN <| jA6 [.ob gr (RowP 80 4 (pcs L z).length cr (jA1 (jI6 0 (pcs L z)))), .ob gw (RowP 5 1 (jI0 (pcs L z)).length cw (bv (jI0 (pcs L z))))] (HLe.sub (qC _ (qC _ (lN _)))) <| jD3 _ [(0, true), (1, true), (2, false), (3, true), (4, true), (5, true), (6, true), (7, true)] mixed (by kernel_rfl) (HLe.pick [0, 1] (by simp) (by simp only [pick, l7, qS]; rfl)) (fun Z hZ => ?_)
    refine tw_p rfl <| jA8 ?_
    refine vN <| tw_p rfl <| jA8 ?_
    refine vN <| tw_g rfl <| kM3 (l := jI0 (pcs L z)) Tryz.underlying44 Tryz.underlying5 Tryz.underlying9 rfl (fun w hw => jV4 (i := 1) rfl hw) rfl <| sN ⟨HLe.pick [0, 1] (by simp) rfl, ?_⟩
    refine tw_p rfl <| jA8 ?_
    refine vN <| tw_p rfl <| jE7 rfl rfl <| vN <| tw_p rfl <| jE7 rfl rfl <| vN <| tw_p rfl <| jE7 rfl rfl <| vN ?_
    refine tw_p rfl <| jE7 rfl rfl <| vN <| jI7 (hZ _ _ <| f4K 4 5 6 7 rfl <| aE ?_)
    repeat (with_reducible (first | refine nTR ?_ | refine nBR ?_ | refine jF5 ?_))
    exact jX7 _ rfl rfl rfl rfl rfl (HLe.pick [0] (by simp) rfl) ⟨_, rfl, by rw [hrl]; exact RowOk.mk _ _ _, rfl⟩
  ·rintro ⟨⟩ hok
   rw [hok] at hq
   rw [if_neg (by decide)] at hq
   refine aG (fun Z hZ => sM rfl rfl <| vB9 rfl rfl ((2 ^ (i + 1) : Nat) : Int) (by rw [hpow, lT _ (by omega)]; omega) rfl ?_)
   refine sAN hZ rfl rfl <| nF [(0, _), (1, _), (9, _)] (kR rfl) <| jB8 (i + 1) ⟨by omega, by rw [hpow, show 13 - (i + 1) = m' by omega]; exact hq⟩ (by omega) (kR rfl) (HLe.refl _)
 ·have hi13 : i = 13 := by
   rcases xP i 13 with h | h
   ·have : 2 ^ i ≤ 2 ^ 12 := z7 (by omega) (by omega)
    exact absurd (Int.ofNat_le.2 (zM this (by decide : 2 ^ 12 ≤ 4096))) (of_decide_eq_false h5)
   ·omega
  subst hi13
  rw [uL, jU0] at hq
  rw [← hq]
  refine jB1 ?_
  repeat refine nTE ?_
  refine nBE <| nN <| aR fun Z hZ => sA rfl rfl <| sA rfl rfl <| sA rfl rfl <| sAN hZ rfl rfl <| f4K 4 5 6 7 rfl <| aE ?_
  repeat refine jF5 ?_
  exact jX7 [] rfl rfl rfl rfl rfl (HLe.sub (lN _)) ⟨_, rfl, RowOk.nil, rfl⟩
end V
namespace V
open Go.RowKit
def jF9 (p : En) (t : List UInt8) : List En × Nat :=
 if t.length < p.off + p.len then ([], 8)
 else if (decQ ((t.drop p.off).take p.len)).2.2 ≠ 0 then ([], (decQ ((t.drop p.off).take p.len)).2.2)
 else if jI2 (decQ ((t.drop p.off).take p.len)).1 = true then ([], 20)
 else if (decQ ((t.drop p.off).take p.len)).1.length = 0 ∨ (atE (decQ ((t.drop p.off).take p.len)).1 0).id ≠ p.id then ([], 10)
 else ((decQ ((t.drop p.off).take p.len)).1, 0)
def jP1 (t : List UInt8) : List En → List En → List En × Nat
 | out, [] => if rowC out ≠ 0 then ([], rowC out) else (out, 0)
 | out, x :: r => if jT5 x = true then (if (jF9 x t).2 ≠ 0 then ([], (jF9 x t).2) else jP1 t (out ++ (jF9 x t).1) r) else jP1 t (out ++ [x]) r
def jQ5 (L : List En) (t : List UInt8) : List En × Nat := if rowC L ≠ 0 then ([], rowC L) else jP1 t [] L
theorem kC8 (p : En) (t : List UInt8) : (jF9 p t).1.length ≤ 4096 ∧ jF4 (jF9 p t).1 := by
 have he : jF4 [] := fun e h => by cases h
 obtain ⟨h1, h2, _⟩ := kG8 ((t.drop p.off).take p.len)
 unfold jF9
 split
 ·exact ⟨xD _, he⟩
 split
 ·exact ⟨xD _, he⟩
 split
 ·exact ⟨xD _, he⟩
 split
 ·exact ⟨xD _, he⟩
 ·exact ⟨h1, h2⟩
theorem wY3 (p : En) (hp : p.ok) (ho : p.off ≤ 1099511627776) (t : List UInt8) (ht : t.length ≤ 1000000) :
  Fn Tryz.prog 124 [p.val, .string (str t)] [] fun v H' => ∃ u, v = .tuple #[u, iq (jF9 p t).2] ∧ RowOk u (jF9 p t).1.length ∧ H' = rowE u 80 4 (jA1 (jF9 p t).1) := by
 obtain ⟨p1, p2, p3, p4⟩ := hp
 refine Fn.enter (N := 55) Tryz.func124 rfl (by kernel_rfl) rfl (fun w0 => ?_)
 refine aR (fun Z hZ => jB5 (fun g1 => ?_))
 refine sA rfl rfl <| sAN hZ rfl rfl <| f2K 1 2 rfl <| aS <| aR (fun Z hZ => sFA0 jH7 ?_)
 first | refine sL0 0 tyA25 tyS25 ?_
 refine sFA0 jL8 ?_
 first | refine sL0 0 tyA78 tyS78 ?_
 refine jB7 Tryz.underlying78 Tryz.underlying25 rfl ((p.len : Nat) : Int) (by rw [l6 _ (by omega)]) rfl ?_
 refine jC2 rfl rfl ((p.off + p.len : Nat) : Int) (by rw [l6 _ (by omega)]; omega) rfl ?_
 refine sM rfl rfl <| jD6 Tryz.underlying9 rfl rfl <| jB7 Tryz.underlying3 Tryz.underlying25 rfl ((t.length : Nat) : Int) (by rw [l6 _ (by omega)]) rfl ?_
 refine jC4 ?_
 refine sN (hZ _ _ <| f3K 1 2 18 rfl <| aC0 (fun h => ?_) (fun h => ?_))
 ·have h1 : t.length < p.off + p.len := by simp at h; omega
  rw [show jF9 p t = ([], 8) by unfold jF9; rw [if_pos h1]]
  refine aR fun Z hZ => sA rfl rfl <| sAN hZ rfl rfl <| f2K 4 5 rfl <| aE ?_
  repeat refine nTR ?_
  exact jD9 [] rfl rfl rfl (HLe.sub (lN _)) ⟨_, rfl, RowOk.nil, rfl⟩
 have h1 : ¬ t.length < p.off + p.len := by simp at h; omega
 obtain ⟨s, hs⟩ := xZ9 ((t.drop p.off).take p.len)
 have hsl : s.length ≤ 1000000 := by rw [← hs, xS, xY]; omega
 have hD := jY1 s hsl
 obtain ⟨d1, d2, d3, d4⟩ := kG8 s
 obtain ⟨M, hM⟩ := xZ9 ((decQ s).1)
 obtain ⟨e, he⟩ := xZ9 ((decQ s).2.2)
 rw [hM, he] at hD
 rw [hM] at d1 d2
 have hmax : M.length ≤ maxLen := by show _ ≤ 9223372036854775807; omega
 refine aK <| nN <| aR fun Z hZ => sM rfl rfl <| sFA0 jH7 ?_
 first | refine sL0 0 tyA25 tyS25 ?_
 refine sFA0 jH7 ?_
 first | refine sL0 0 tyA25 tyS25 ?_
 refine sFA0 jL8 ?_
 first | refine sL0 0 tyA78 tyS78 ?_
 refine jB7 Tryz.underlying78 Tryz.underlying25 rfl ((p.len : Nat) : Int) (by rw [l6 _ (by omega)]) rfl ?_
 refine jC2 rfl rfl ((p.off + p.len : Nat) : Int) (by rw [l6 _ (by omega)]; omega) rfl ?_
 refine jL9 s Tryz.underlying9 rfl rfl rfl (by omega) (by omega) (by omega) (by rw [← hs]; simp only [x9]; rw [Nat.add_sub_cancel_left]) rfl ?_
 refine jA5 [] [_] hD rfl (HLe.refl _) rfl ?_
 rintro v H' ⟨u, rfl, hu, rfl⟩
 rw [jF1]
 obtain ⟨A1, c1, rfl, hA1, hle1⟩ := hu.ro
 refine jC3 ([_] ++ rowE (.slice A1 M.length c1) 80 4 (jA1 M)) (HLe.swap _ _) <| sM rfl rfl <| sX rfl rfl rfl <| sX rfl rfl rfl <| sX rfl rfl rfl <| sA rfl rfl <| sA rfl rfl <| sAN hZ rfl rfl <| f3K 2 6 8 rfl <| aS (aB <| aR fun Z hZ => sM rfl rfl <| jC7 ?_)
 refine sAN hZ rfl rfl <| f4K 2 6 8 34 rfl <| aC0 (fun h2 => ?_) (fun h2 => ?_)
 ·have he0 : e ≠ 0 := by simp at h2; omega
  rw [show jF9 p t = ([], e) by unfold jF9; rw [if_neg h1, hs, he, if_pos he0]]
  refine aR fun Z hZ => sM rfl rfl <| sA rfl rfl <| sAN hZ rfl rfl <| f2K 4 5 rfl <| aE ?_
  repeat (with_reducible (first | refine nTR ?_ | refine nBR ?_))
  exact jD9 [] rfl rfl rfl (HLe.sub (lN _)) ⟨_, rfl, RowOk.nil, rfl⟩
 have he0 : e = 0 := by simp at h2; omega
 refine aR fun Z hZ => sM rfl rfl <| jO2 (roE A1 (jA1 M)) (kO8 A1 c1 M _ hA1.arg (fun _ => rfl) (Ro.roE _ _) hmax d2) rfl (kK0 hle1 [.own g1 80 p.cells] _ _ _) (Ro.roE _ _) rfl <| sAN hZ rfl rfl <| f3K 2 6 38 rfl <| aC0 (fun h3 => ?_) (fun h3 => ?_)
 ·have h3' : jI2 M = true := h3
  rw [show jF9 p t = ([], 20) by unfold jF9; rw [if_neg h1, hs, he, if_neg (by simpa using he0), hM, if_pos h3']]
  refine aR fun Z hZ => sA rfl rfl <| sAN hZ rfl rfl <| f2K 4 5 rfl <| aE ?_
  repeat (with_reducible (first | refine nTR ?_ | refine nBR ?_))
  exact jD9 [] rfl rfl rfl (HLe.sub (lN _)) ⟨_, rfl, RowOk.nil, rfl⟩
 have h3' : ¬ jI2 M = true := by rw [show jI2 M = false from h3]; decide
 have hAs : 0 < M.length → ∃ g, A1 = some ⟨g, 0, none⟩ := fun h0 => by
  obtain ⟨g, c', hh⟩ := hu.some h0
  injection hh with hh _ _
  exact ⟨g, hh⟩
 obtain ⟨gz, hgz⟩ : ∃ g, 0 < M.length → A1 = some ⟨g, 0, none⟩ := by
  rcases zK M.length with h0 | h0
  ·exact ⟨0, fun h => by omega⟩
  ·obtain ⟨g, hg⟩ := hAs h0
   exact ⟨g, fun _ => hg⟩
 have hpos : ((M.length : Int) == 0) = false → 0 < M.length := fun h => by simp at h; exact List.length_pos_iff.2 h
 refine jE8 [(6, .slice A1 M.length c1), (41, .bool (decide (M.length = 0 ∨ (atE M 0).id ≠ p.id)))] ([.own g1 80 p.cells] ++ rowE (.slice A1 M.length c1) 80 4 (jA1 M)) mixed (by kernel_rfl) (fun Z hZ => ?_) ?_
 ·refine qM rfl rfl <| wD9 Tryz.underlying58 rfl rfl <| jM6 rfl rfl rfl <| qM rfl rfl <| jL6 45 rfl (fun hb3 => ?_) (fun hb3 => ?_)
  ·refine qO0 ?_
   refine qO0 ?_
   refine qO0 ?_
   refine qO0 ?_
   refine qO0 ?_
   refine qO0 ?_
   refine qO0 ?_
   refine jE3 rfl rfl rfl <| jC8 rfl rfl <| jF0 (hZ _ _ ?_ ?_)
   ·exact Kn.cons rfl (Kn.cons (congrArg some (congrArg Value.bool (by first | (simp at hb3; subst hb3; rfl) | (simp at hb3; rw [lR]; simp [hb3]; omega) | (simp at hb3; rw [lR]; simp [hb3])))) Kn.nil)
   ·exact HLe.refl _
  ·refine jA4 ?_
   refine qM rfl rfl <| jA4 ?_
   refine jG2 0 Tryz.underlying58 tyS80 (by rw [hgz (hpos hb3)]; rfl) rfl (by have := hpos hb3; omega) (by simp) rfl ?_
   refine jA4 ?_
   refine qFA0 jK0 ?_
   refine jA4 ?_
   refine kM7 (o := 0) (n := M.length) (size := 4) (xs := jA1 M) 0 rfl rfl (fun w hw => by have hg := hgz (hpos hb3); subst hg; exact kX3 hu (jG6 M) (fun y hy => x0 _ hy) hw) (hpos hb3) tyA25 tyS25 (wG0 (k := 0) (jW6 (hpos hb3))) rfl ?_
   refine jA4 ?_
   refine qFA0 jK0 ?_
   refine jA4 ?_
   first | refine jB6 0 tyA25 tyS25 ?_
   refine jA4 ?_
   refine vP8 rfl rfl rfl <| jE3 rfl rfl rfl <| jC8 rfl rfl <| jF0 (hZ _ _ ?_ ?_)
   ·exact Kn.cons rfl (Kn.cons (congrArg some (congrArg Value.bool (by first | (simp at hb3; subst hb3; rfl) | (simp at hb3; rw [lR]; simp [hb3]; omega) | (simp at hb3; rw [lR]; simp [hb3])))) Kn.nil)
   ·exact HLe.refl _
 refine aC0 (fun h4 => ?_) (fun h4 => ?_)
 ·have h4' : M.length = 0 ∨ (atE M 0).id ≠ p.id := by simpa using h4
  rw [show jF9 p t = ([], 10) by unfold jF9; rw [if_neg h1, hs, he, if_neg (by simpa using he0), hM, if_neg h3', if_pos h4']]
  refine aR fun Z hZ => sA rfl rfl <| sAN hZ rfl rfl <| f2K 4 5 rfl <| aE ?_
  repeat (with_reducible (first | refine nTR ?_ | refine nBR ?_))
  exact jD9 [] rfl rfl rfl (HLe.sub (lN _)) ⟨_, rfl, RowOk.nil, rfl⟩
 have h4' : ¬ (M.length = 0 ∨ (atE M 0).id ≠ p.id) := by simpa using h4
 rw [show jF9 p t = (M, 0) by unfold jF9; rw [if_neg h1, hs, he, if_neg (by simpa using he0), hM, if_neg h3', if_neg h4']]
 refine aK ?_
 repeat refine nBN ?_
 refine nN <| aR fun Z hZ => sM rfl rfl <| sA rfl rfl <| sAN hZ rfl rfl <| f2K 4 5 rfl <| aE <| jD9 _ rfl rfl rfl (HLe.sub (lP _ _)) ⟨_, rfl, hu, rfl⟩
end V
namespace V
open Go.RowKit
theorem yS7 (A : Option Addr) (c : Nat) (L : List En) (T : Heap) (hA : jH6 A L.length) (hT : 0 < L.length → T = roE A (jA1 L)) (hro : Ro T) (hL : L.length ≤ maxLen) (hE : jF4 L) (t : List UInt8) (ht : t.length ≤ 1000000) :
  Fn Tryz.prog 69 [.slice A L.length c, .string (str t)] T fun v H' => ∃ u, v = .tuple #[u, iq (jQ5 L t).2] ∧ RowOk u (jQ5 L t).1.length ∧ H' = rowE u 80 4 (jA1 (jQ5 L t).1) := by
 have hL' : L.length ≤ 9223372036854775807 := hL
 refine Fn.enter (N := 50) Tryz.func69 rfl (by kernel_rfl) rfl (fun w0 => ?_)
 refine aR fun Z hZ => sA rfl rfl <| sAN hZ rfl rfl <| f2K 0 1 rfl <| aS <| aR fun Z hZ => sM rfl rfl <| jD1 T (kA6 A c L T hA hT hro hL hE) rfl (xU _) hro rfl <| sAN hZ rfl rfl <| f3K 0 1 6 rfl <| aR fun Z hZ => sM rfl rfl <| jC7 ?_
 refine sN (hZ _ _ <| f4K 0 1 6 16 rfl <| aC0 (fun h => ?_) (fun h => ?_))
 ·have hr : rowC L ≠ 0 := by simp at h; omega
  rw [show jQ5 L t = ([], rowC L) by unfold jQ5; rw [if_pos hr]]
  refine aR fun Z hZ => sM rfl rfl <| sA rfl rfl <| sAN hZ rfl rfl <| f2K 4 5 rfl <| aE ?_
  repeat refine nTR ?_
  exact jD9 [] rfl rfl rfl (HLe.sub (lN _)) ⟨_, rfl, RowOk.nil, rfl⟩
 have hr : rowC L = 0 := by simp at h; omega
 obtain ⟨hl, hat⟩ := kX1 hr hE
 obtain ⟨D, hD⟩ := xZ9 (jP1 t [] L)
 rw [show jQ5 L t = D by unfold jQ5; rw [if_neg (by simpa using hr), hD]]
 refine aK <| nN <| aA rfl rfl <| f3K 0 1 7 rfl <| aS <| aR fun Z hZ => sM rfl rfl <| jE2 Tryz.underlying58 rfl rfl <| sMN hZ rfl rfl <| f5K 1 7 18 19 20 rfl <| aB ?_
 refine jB9 (ι := Nat × Value × List En) (fun i => [(1, .string (str t)), (7, i.2.1), (18, .slice A L.length c), (19, iq (L.length : Nat)), (20, iq (i.1 : Nat))]) (fun i => T ++ rowE i.2.1 80 4 (jA1 i.2.2))
  (fun i => i.1 ≤ L.length ∧ RowOk i.2.1 i.2.2.length ∧ jF4 i.2.2 ∧ i.2.2.length ≤ i.1 * 4096 ∧ jP1 t i.2.2 (L.drop i.1) = D) (fun i => L.length - i.1) (0, .slice none 0 0, []) ⟨by simp, RowOk.nil, fun e he => (by cases he), by simp, hD⟩ (kR rfl) (by simp [rowE]; exact HLe.refl _) ?_
 rintro ⟨k, v, out⟩ ⟨hk, hv, hO, hol, hq⟩
 simp only at hk hv hO hol hq
 refine aR (fun Z hZ => jB2 ?_)
 refine sN (hZ _ _ <| f6K 1 7 18 19 20 21 rfl <| aS (aC0 (fun h1 => ?_) (fun h1 => ?_)))
 ·have hlt : k < L.length := by simpa using h1
  have hx := jW6 hlt
  have hxo := jW5 hE k
  have hoff := (hat k hlt).2
  obtain ⟨x, hxe⟩ := xZ9 (atE L k)
  rw [hxe] at hx hxo hoff
  have hdr : L.drop k = x :: L.drop (k + 1) := by rw [qR hlt]; congr 1; exact (List.getElem?_eq_some_iff.1 hx).2
  rw [hdr, jP1] at hq
  obtain ⟨ga, o, rfl⟩ := hA (by omega)
  obtain rfl := hT (by omega)
  refine aK <| nN <| jJ7 (ι := Value × List En) (fun i => [(1, .string (str t)), (7, i.1), (18, .slice (some ⟨ga, o, none⟩) L.length c), (19, iq (L.length : Nat)), (20, iq (k : Nat))]) (fun i => [.ro ga o (jA1 L)] ++ rowE i.1 80 4 (jA1 i.2)) (fun i => RowOk i.1 i.2.length ∧ jF4 i.2 ∧ i.2.length ≤ (k + 1) * 4096 ∧ jP1 t i.2 (L.drop (k + 1)) = D) ?_ ?_
  ·refine aB <| aR (fun Z hZ => jB3 (o + k * 4) Tryz.underlying58 tyS80 rfl rfl (by omega) (by simp) rfl ?_)
   refine jB4 0 rfl rfl (k * 4) rfl tyA80 tyS80 (jG4 hx) rfl <| sAl tyZ80 rfl (fun g1 => sS0 0 tyS80 ?_)
   refine sN (hZ _ _ <| f6K 1 7 9 18 19 20 rfl <| aS <| aR (fun Z hZ => sLA0 0 tyA80 tyS80 ?_))
   refine sCP0 (kR2 x hxo) ?_
   refine jI8 rfl rfl <| sN (hZ _ _ <| f7K 1 7 9 18 19 20 26 rfl <| aC0 (fun h2 => ?_) (fun h2 => ?_))
   ·have hp : jT5 x = false := by simpa using h2
    rw [hp, if_neg (by decide)] at hq
    refine aR fun Z hZ => sM rfl rfl <| sLA0 0 tyA80 tyS80 ?_
    refine sBS0 Tryz.underlying58 tyS80 tyZ80 (fun g2 => ?_)
    refine jC9 [_, _, _] kI4 rfl hv (jG6 out) rfl (fun w hw => jJ3 (i := 0) (xs := x.cells) rfl rfl hw) rfl (by show _ ≤ 9223372036854775807; omega) (by omega) (HLe.refl _) rfl (fun v2 hv2 => ?_)
    rw [show jA1 out ++ x.cells = jA1 (out ++ [x]) from (kO2 _ _).symm]
    refine sAN hZ rfl rfl <| f5K 1 7 18 19 20 rfl <| jB1 ?_
    repeat refine nTE ?_
    refine nBE <| jE4 (v2, out ++ [x]) ⟨by simpa using hv2, fun e he => ?_, by simp; omega, hq⟩ (kR rfl) (HLe.sub (zF _ (zF _ (xU _))))
    rcases List.mem_append.1 he with he | he
    ·exact hO e he
    ·rw [List.mem_singleton.1 he]; exact hxo
   have hp : jT5 x = true := by simpa using h2
   rw [hp, if_pos rfl] at hq
   have hpc := wY3 x hxo hoff t ht
   obtain ⟨q1, q2⟩ := kC8 x t
   obtain ⟨M, hM⟩ := xZ9 ((jF9 x t).1)
   obtain ⟨e, he⟩ := xZ9 ((jF9 x t).2)
   rw [hM, he] at hpc hq
   rw [hM] at q1 q2
   refine aK <| nN <| aR (fun Z hZ => sLA0 0 tyA80 tyS80 ?_)
   refine sM rfl rfl <| jA5 [] (_ :: .ro ga o (jA1 L) :: rowE v 80 4 (jA1 out)) hpc rfl (HLe.refl _) rfl ?_
   rintro v H' ⟨u, rfl, hu, rfl⟩
   rw [jF1]
   refine sM rfl rfl <| sX rfl rfl rfl <| sX rfl rfl rfl <| sA rfl rfl <| sAN hZ rfl rfl <| f7K 1 7 10 11 18 19 20 rfl <| aS <| aR fun Z hZ => sM rfl rfl <| jC7 ?_
   refine sN (hZ _ _ <| f8K 1 7 10 11 18 19 20 38 rfl <| aC0 (fun h3 => ?_) (fun h3 => ?_))
   ·have he0 : e ≠ 0 := by simp at h3; omega
    rw [if_pos he0] at hq
    rw [← hq]
    refine aR fun Z hZ => sM rfl rfl <| sA rfl rfl <| sAN hZ rfl rfl <| f2K 4 5 rfl <| aE ?_
    repeat (with_reducible (first | refine nTR ?_ | refine nBR ?_))
    exact jD9 [] rfl rfl rfl (HLe.sub (lN _)) ⟨_, rfl, RowOk.nil, rfl⟩
   have he0 : e = 0 := by simp at h3; omega
   rw [if_neg (by simpa using he0)] at hq
   refine aK <| nN ?_
   obtain ⟨A2, c2, rfl, hA2⟩ := hu.form
   refine aG (fun Z hZ => sM rfl rfl <| sM rfl rfl <| jC9 (rowE (.slice A2 M.length c2) 80 4 (jA1 M) ++ [_, _]) kI4 rfl hv (jG6 out) rfl (fun w hw => kX3 hu (jG6 M) (fun y hy => xI _ hy) hw) (kG7 M) (by show _ ≤ 9223372036854775807; omega) (by omega) (by rw [xF]; exact HLe.refl _) rfl (fun v2 hv2 => ?_))
   rw [show jA1 out ++ jA1 M = jA1 (out ++ M) from by simp [jA1]]
   refine sAN hZ rfl rfl <| nF [(1, _), (7, _), (18, _), (19, _), (20, _)] (kR rfl) ?_
   repeat refine nBN ?_
   refine jE4 (v2, out ++ M) ⟨by simpa using hv2, fun e he => ?_, by simp; omega, hq⟩ (kR rfl) (HLe.sub (by rw [xF]; exact (zF _ (xU _)).trans (lP _ _)))
   rcases List.mem_append.1 he with he | he
   ·exact hO e he
   ·exact q2 e he
  ·rintro ⟨v2, out2⟩ ⟨hv2, hO2, hol2, hq2⟩
   refine aG (fun Z hZ => ?_)
   refine jC2 rfl rfl ((k + 1 : Nat) : Int) (by rw [lT _ (by omega)]; omega) rfl ?_
   refine sMN hZ rfl rfl <| nF [(1, _), (7, _), (18, _), (19, _), (20, _)] (kR rfl) <| jB8 (k + 1, v2, out2) ⟨by show k + 1 ≤ _; omega, hv2, hO2, hol2, hq2⟩ (by simp; omega) (kR rfl) (HLe.refl _)
 ·refine jB1 ?_
  repeat refine nTE ?_
  refine nBE <| nN ?_
  have hke : k = L.length := by simp at h1; omega
  subst hke
  rw [zW, jP1] at hq
  have hom : out.length ≤ maxLen := by show _ ≤ 9223372036854775807; omega
  obtain ⟨A3, c3, rfl, hA3, hle3⟩ := hv.ro
  refine aS <| aR fun Z hZ => sM rfl rfl <| jO2 (roE A3 (jA1 out)) (kA6 A3 c3 out _ hA3.arg (fun _ => rfl) (Ro.roE _ _) hom hO) rfl (kK0 hle3 T _ _ _) (Ro.roE _ _) rfl <| sAN hZ rfl rfl <| f2K 7 12 rfl <| aR fun Z hZ => sM rfl rfl <| jC7 ?_
  refine sN (hZ _ _ <| f3K 7 12 47 rfl <| aC0 (fun h2 => ?_) (fun h2 => ?_))
  ·have hr2 : rowC out ≠ 0 := by simp at h2; omega
   rw [if_pos hr2] at hq
   rw [← hq]
   refine aR fun Z hZ => sM rfl rfl <| sA rfl rfl <| sAN hZ rfl rfl <| f2K 4 5 rfl <| aE ?_
   repeat refine nTR ?_
   exact jD9 [] rfl rfl rfl (HLe.sub (lN _)) ⟨_, rfl, RowOk.nil, rfl⟩
  have hr2 : rowC out = 0 := by simp at h2; omega
  rw [if_neg (by simpa using hr2)] at hq
  rw [← hq]
  refine aK <| nN <| aR fun Z hZ => sM rfl rfl <| sA rfl rfl <| sAN hZ rfl rfl <| f2K 4 5 rfl <| aE <| jD9 _ rfl rfl rfl (HLe.sub (lP _ _)) ⟨_, rfl, hv, rfl⟩
end V
namespace V
open Go.RowKit
theorem vY3 (L : List En) : jI2 L = decide (0 < (L.filter jT5).length) := by
 induction L with
 | nil => rfl
 | cons x r ih =>
  rw [jI2, List.any_cons, xL]
  cases hx : jT5 x with
  | true => simp
  | false => simpa [jI2] using ih
end V
namespace V
open Go.RowKit
end V
section
open Go.RowKit
def FnD (P : Program) (f : FuncId) (args : List Value) (H : Heap) (R : Value → Heap → Prop) : Prop :=
 Enters P f ∧ ∀ w u, Sat w (wrs H) H w → CallsDIn Fence.wide 0 P f args.toArray u w fun e u' w' => u' = u ∧ jR4 w (wrs H) R e w'
theorem FnD.enter {P : Program} {N : Nat} {f : FuncId} {fn : Func} {c : Code} {args : List Value} {H : Heap} {R : Value → Heap → Prop} (hf : P.funcs[f]? = some fn) (hb : fn.body = some c) (hn : (fn.name == "runtime.NumGoroutine") = false) (hN : args.length + (fn.ntmps - args.length) = N)
  (h : ∀ w0, awp P ⟨N, none, []⟩ w0 (wrs H) c (kS2 0 args) H (bodyPost P fn (jR4 w0 (wrs H) R))) : FnD P f args H R := by
 refine ⟨⟨fn, hf, hn, by simp [hb]⟩, fun w u hw => callsDIn_of_wp (n := 0) hf hb trivial (h w _ w ⟨?_, rfl, ?_⟩ hw (fun e => by cases e))⟩
 ·simp [← hN]
 ·intro t v ht
  obtain ⟨k, rfl, hk⟩ := kY5 args 0 t v ht
  have hl : k < args.length := (List.getElem?_eq_some_iff.1 hk).1
  simp only [lA]
  rw [Array.getElem?_append_left (by simpa using hl)]
  simpa using hk
section
variable {P : Program} {n : Nat} {ds : List Mk} {w0 : World} {Wr : List Nat} {fr : Fr} {H : Heap} {Q : Exit → Act → World → Prop}
theorem yL3 {fn : Func} {R : Ending → World → Prop} {f : FuncId} {caps : List Value} {Rd : Value → Heap → Prop} (Hc K : Heap) (hc : FnD P f caps Hc Rd) (hk : HLe (Hc ++ K) H)
  (h : ∀ v H', Rd v H' → ∀ a w, FrOk ⟨n, none, ds⟩ fr a → Sat w0 Wr (H'.filter Ent.wr ++ K) w → LeavesInM Fence.wide 0 P fn a.tmps R a.defers .returning w) :
  ∀ a w, FrOk ⟨n, none, .fn f caps :: ds⟩ fr a → Sat w0 Wr H w → LeavesInM Fence.wide 0 P fn a.tmps R a.defers .returning w := fun a w ha hw => by
 rw [ha.defers]
 have hw' := hk _ _ _ hw
 have hpre : Sat w (wrs Hc) Hc w := (hw'.sub (lS Hc K)).base
 obtain ⟨g, h1, h2, h3⟩ := hc.1
 have h2' : ¬ (g.name = "runtime.NumGoroutine") := by simpa using h2
 have h3' : ¬ (g.body = none) := by intro e; rw [e] at h3; cases h3
 refine ⟨by simp, .inr ⟨(fun e => by cases e), .func f, caps.toArray, f, caps.toArray, rfl, ?_, (fun _ _ => trivial), ?_⟩⟩
 ·simp [jU1, invoke, callFunc, h1, h2', h3', program, lI, l9, Sem.run]
 ·refine (hc.2 w .returning hpre).mono fun e u' w' he => ?_
  obtain ⟨rfl, v, H', rfl, hR, hS⟩ := he
  have h4 := Sat.callA (Hc := Hc) (K := K) (U := []) hw' Ro.nil (by rw [lH]; exact hS)
  exact h v H' hR { tmps := a.tmps, defers := ds.map jU1 } w' ⟨ha.size, rfl, ha.at_⟩ h4
theorem jX6 {fn : Func} {R : Ending → World → Prop} {f : FuncId} {caps : List Value} {Rd : Value → Heap → Prop} (Hc K : Heap) (hc : FnD P f caps Hc Rd) (hk : HLe (Hc ++ K) H)
  (h : ∀ v H', Rd v H' → nx ⟨n, none, ds⟩ w0 Wr fr (H'.filter Ent.wr ++ K) (yD6 P fn R) .ret) : nx ⟨n, none, .fn f caps :: ds⟩ w0 Wr fr H (yD6 P fn R) .ret := yL3 Hc K hc hk h
theorem vH2 {id d : Nat} {f : FuncId} {xs : List Operand} {vs : List Value} {ty ty' : Nat} {pos pos' : String} {after after' : Array Edge} {y : Code} (hx : evs fr xs = some vs) (hN : Nat.ble (d + 1) n = true)
  (h : awp P ⟨n, none, .fn f vs :: ds⟩ w0 Wr y ((d, .func (.func f) #[] vs.toArray) :: fr) H Q) :
  awp P ⟨n, none, ds⟩ w0 Wr (.seq (.region id [⟨some d, .makeFunc (.func f) #[] xs.toArray, ty, pos, after, none⟩, ⟨none, .defer { callee := .value (.tmp d), args := #[], argTypes := #[] }, ty', pos', after', none⟩].toArray false) y) fr H Q := by
 refine aS fun a w ha hw => yF9 (wpList_plain rfl fun K hK => ?_)
 unfold Oper.wp
 have hxs := ha.evals hx
 have e1 : (execOp a.eval ⟨some d, .makeFunc (.func f) #[] xs.toArray, ty, pos, after, none⟩).run P w = .ok (.value (.func (.func f) #[] vs.toArray)) w := by
  have hv : xs.toArray.map a.eval = vs.toArray := by simp [hxs]
  simp [execOp, Instr.makeFunc, lI, l9, hxs]
 rw [e1]
 have hb := ha.put (d := d) hN (.func (.func f) #[] vs.toArray)
 refine hK _ _ (wpList_plain rfl fun K hK => ?_)
 unfold Oper.wp
 have hev := hb.eval (x := .tmp d) (v := .func (.func f) #[] vs.toArray) (by simp [ev, lk])
 have e2 : (execOp (a.put (some d) (.func (.func f) #[] vs.toArray)).eval ⟨none, .defer { callee := .value (.tmp d), args := #[], argTypes := #[] }, ty', pos', after', none⟩).run P w = .ok (.defer (jU1 (.fn f vs))) w := by
  simp [execOp, resolve, hev, Deferred.ofValue, jU1, lI, l9]
 rw [e2]
 refine hK _ _ ⟨rfl, h _ w ⟨?_, ?_, ?_⟩ hw⟩
 ·exact hb.size
 ·show jU1 (.fn f vs) :: (a.put (some d) (.func (.func f) #[] vs.toArray)).defers = _
  rw [hb.defers]
  rfl
 ·exact hb.at_
end
abbrev jQ7 (s : ByteArray) (p b : Int) : Value := .agg #[.string s, .int .i64 p, .int .i64 b]
def jN2 (n : Int) : Bool := decide (1 ≤ n ∧ n ≤ 8)
theorem jT6 (n : Int) (w : World) : Calls Tryz.prog 173 #[.int .i64 n] w fun e w' => e = .returned (.bool (jN2 n)) ∧ w = w' := by
 by_cases h1 : 1 ≤ n
 ·by_cases h2 : n ≤ 8
  ·have h : jN2 n = true := by simp [jN2, h1, h2]
   rw [h]
   go_enter Tryz.func173, Tryz.ntmps173
   go_wp2
   go_ret
   exact ⟨rfl, rfl⟩
  ·have h : jN2 n = false := by simp [jN2, h1, h2]
   rw [h]
   go_enter Tryz.func173, Tryz.ntmps173
   go_wp2
   go_ret
   exact ⟨rfl, rfl⟩
 ·have h : jN2 n = false := by simp [jN2, h1]
  rw [h]
  go_enter Tryz.func173, Tryz.ntmps173
  go_wp2
  go_ret
  exact ⟨rfl, rfl⟩
def stands (s : ByteArray) (p : Int) : Bool := decide (0 ≤ p ∧ p ≤ s.size)
set_option maxHeartbeats 400000 in
theorem jX4 (s : ByteArray) (p e : Int) (w : World) : Calls Tryz.prog 215 #[jQ7 s p e] w fun e w' => e = .returned (.bool (stands s p)) ∧ Bel w w' := by
 by_cases h1 : 0 ≤ p
 ·by_cases h2 : p ≤ s.size
  ·have h : stands s p = true := by simp [stands, h1, h2]
   rw [h]
   go_enter Tryz.func215, Tryz.ntmps215
   go_wp2
   go_ret
   exact ⟨rfl, (Bel.refl _).alloc _⟩
  ·have h : stands s p = false := by simp [stands, h1, h2]
   rw [h]
   go_enter Tryz.func215, Tryz.ntmps215
   go_wp2
   go_ret
   exact ⟨rfl, (Bel.refl _).alloc _⟩
 ·have h : stands s p = false := by simp [stands, h1]
  rw [h]
  go_enter Tryz.func215, Tryz.ntmps215
  go_wp2
  go_ret
  exact ⟨rfl, (Bel.refl _).alloc _⟩
set_option maxHeartbeats 400000 in
theorem kZ3 (s : ByteArray) (p b c : Int) (w : World) : Calls Tryz.prog 216 #[jQ7 s p b, .int .i64 c] w fun e w' => e = .returned (.tuple #[.string ⟨#[]⟩, jQ7 s p c]) ∧ Bel w w' := by
 go_enter Tryz.func216, Tryz.ntmps216
 go_wp2
 go_region
 go_wp2
 refine bodyPost_ret (v := .tuple #[.string ⟨#[]⟩, jQ7 s p c]) (by simp [results, Tryz.results216, go_sem]) rfl ⟨rfl, ?_⟩
 exact (by repeat (first | exact Bel.refl _ | exact Bel.drew (Bel.refl _) | refine Bel.drew ?_ | refine Bel.drewN ?_ _ | refine Bel.alloc ?_ _ | refine Bel.set ?_ (by simp; try omega) _ | refine Bel.trans ?_ (by assumption)))
def jY2 (s : ByteArray) (p e n : Int) (may : Bool) : Int := if e ≠ 0 then e else if may = false ∨ stands s p = false then 2 else if (s.size : Int) - p < n then 3 else 0
def jZ3 (s : ByteArray) (p e n : Int) (may : Bool) : ByteArray := if jY2 s p e n may = 0 then s.extract p.toNat (p + n).toNat else ⟨#[]⟩
def kF5 (s : ByteArray) (p e n : Int) (may : Bool) : Int := if jY2 s p e n may = 0 then p + n else p
set_option maxHeartbeats 400000 in
theorem yV7 (s : ByteArray) (p e n : Int) (may : Bool) (w : World) (he : e ≠ 0) :
  Calls Tryz.prog 172 #[jQ7 s p e, .int .i64 n, .bool may] w fun x w' => x = .returned (.tuple #[.string ⟨#[]⟩, jQ7 s p e]) ∧ Bel w w' := by
 have h1 : (e != 0) = true := by simp [he]
 go_enter Tryz.func172, Tryz.ntmps172
 go_wp2
 go_region
 go_wp2
 refine bodyPost_ret (v := .tuple #[.string ⟨#[]⟩, jQ7 s p e]) (by simp [results, Tryz.results172, go_sem]) rfl ⟨rfl, ?_⟩
 exact (by repeat (first | exact Bel.refl _ | exact Bel.drew (Bel.refl _) | refine Bel.drew ?_ | refine Bel.drewN ?_ _ | refine Bel.alloc ?_ _ | refine Bel.set ?_ (by simp; try omega) _ | refine Bel.trans ?_ (by assumption)))
set_option maxHeartbeats 400000 in
theorem yV8 (s : ByteArray) (p n : Int) (may : Bool) (w : World) (h : may = false ∨ stands s p = false) :
  Calls Tryz.prog 172 #[jQ7 s p 0, .int .i64 n, .bool may] w fun x w' => x = .returned (.tuple #[.string ⟨#[]⟩, jQ7 s p 2]) ∧ Bel w w' := by
 cases may with
 | false =>
  clear h
  go_enter Tryz.func172, Tryz.ntmps172
  go_wp2_with (first | (go_at_call 215; refine (jX4 _ _ _ _).mono ?_; rintro e w1 ⟨rfl, hb1⟩; obtain ⟨hb1c, hb1f, hb1z⟩ := Bel.took hb1; have hb1z0 : w.heap.size < w1.heap.size := (by (try simp at hb1z); omega); have hb1z1 : w.heap.size + 1 < w1.heap.size := (by (try simp at hb1z); omega); clear hb1z) | (go_at_call 216; refine (kZ3 _ _ _ _ _).mono ?_; rintro e w1 ⟨rfl, hb1⟩; obtain ⟨hb1c, hb1f, hb1z⟩ := Bel.took hb1; have hb1z0 : w.heap.size < w1.heap.size := (by (try simp at hb1z); omega); have hb1z1 : w.heap.size + 1 < w1.heap.size := (by (try simp at hb1z); omega); clear hb1z))
  refine bodyPost_ret (v := .tuple #[.string ⟨#[]⟩, jQ7 s p 2]) (by simp [results, Tryz.results172, go_sem, *]) rfl ⟨rfl, ?_⟩
  exact (by repeat (first | exact Bel.refl _ | exact Bel.drew (Bel.refl _) | refine Bel.drew ?_ | refine Bel.drewN ?_ _ | refine Bel.alloc ?_ _ | refine Bel.set ?_ (by simp; try omega) _ | refine Bel.trans ?_ (by assumption)))
 | true =>
  have h : stands s p = false := by simpa using h
  go_enter Tryz.func172, Tryz.ntmps172
  go_wp2_with (first | (go_at_call 215; refine (jX4 _ _ _ _).mono ?_; rintro e w1 ⟨rfl, hb1⟩; obtain ⟨hb1c, hb1f, hb1z⟩ := Bel.took hb1; have hb1z0 : w.heap.size < w1.heap.size := (by (try simp at hb1z); omega); have hb1z1 : w.heap.size + 1 < w1.heap.size := (by (try simp at hb1z); omega); clear hb1z) | (go_at_call 216; refine (kZ3 _ _ _ _ _).mono ?_; rintro e w2 ⟨rfl, hb2⟩; obtain ⟨hb2c, hb2f, hb2z⟩ := Bel.took hb2; have hb2z0 : w.heap.size < w2.heap.size := (by (try simp at hb2z); omega); have hb2z1 : w.heap.size + 1 < w2.heap.size := (by (try simp at hb2z); omega); clear hb2z))
  refine bodyPost_ret (v := .tuple #[.string ⟨#[]⟩, jQ7 s p 2]) (by simp [results, Tryz.results172, go_sem, *]) rfl ⟨rfl, ?_⟩
  exact (by repeat (first | exact Bel.refl _ | exact Bel.drew (Bel.refl _) | refine Bel.drew ?_ | refine Bel.drewN ?_ _ | refine Bel.alloc ?_ _ | refine Bel.set ?_ (by simp; try omega) _ | refine Bel.trans ?_ (by assumption)))
set_option maxHeartbeats 400000 in
theorem wP1 (s : ByteArray) (p n : Int) (w : World) (h : stands s p = true) (hn : (s.size : Int) - p < n) (hs : s.size ≤ maxLen) :
  Calls Tryz.prog 172 #[jQ7 s p 0, .int .i64 n, .bool true] w fun x w' => x = .returned (.tuple #[.string ⟨#[]⟩, jQ7 s p 3]) ∧ Bel w w' := by
 unfold maxLen at hs
 obtain ⟨k, rfl⟩ : ∃ k : Nat, p = k := ⟨p.toNat, by simp [stands] at h; omega⟩
 have hk : k ≤ s.size := by simp [stands] at h; omega
 go_enter Tryz.func172, Tryz.ntmps172
 go_wp2_with (first | (go_at_call 215; refine (jX4 _ _ _ _).mono ?_; rintro e w1 ⟨rfl, hb1⟩; obtain ⟨hb1c, hb1f, hb1z⟩ := Bel.took hb1; have hb1z0 : w.heap.size < w1.heap.size := (by (try simp at hb1z); omega); have hb1z1 : w.heap.size + 1 < w1.heap.size := (by (try simp at hb1z); omega); clear hb1z) | (go_at_call 216; refine (kZ3 _ _ _ _ _).mono ?_; rintro e w2 ⟨rfl, hb2⟩; obtain ⟨hb2c, hb2f, hb2z⟩ := Bel.took hb2; have hb2z0 : w.heap.size < w2.heap.size := (by (try simp at hb2z); omega); have hb2z1 : w.heap.size + 1 < w2.heap.size := (by (try simp at hb2z); omega); clear hb2z))
 refine bodyPost_ret (v := .tuple #[.string ⟨#[]⟩, jQ7 s k 3]) (by simp [results, Tryz.results172, go_sem, *]) rfl ⟨rfl, ?_⟩
 exact (by repeat (first | exact Bel.refl _ | exact Bel.drew (Bel.refl _) | refine Bel.drew ?_ | refine Bel.drewN ?_ _ | refine Bel.alloc ?_ _ | refine Bel.set ?_ (by simp; try omega) _ | refine Bel.trans ?_ (by assumption)))
set_option maxHeartbeats 400000 in
theorem zF0 (s : ByteArray) (k n : Nat) (w : World) (hn : k + n ≤ s.size) (hs : s.size ≤ maxLen) :
  Calls Tryz.prog 172 #[jQ7 s k 0, .int .i64 n, .bool true] w fun x w' => x = .returned (.tuple #[.string (s.extract k (k + n)), jQ7 s (k + n : Nat) 0]) ∧ Bel w w' := by
 unfold maxLen at hs
 have h : stands s k = true := by simp [stands]; omega
 go_enter Tryz.func172, Tryz.ntmps172
 go_wp2_with (first | (go_at_call 215; refine (jX4 _ _ _ _).mono ?_; rintro e w1 ⟨rfl, hb1⟩; obtain ⟨hb1c, hb1f, hb1z⟩ := Bel.took hb1; have hb1z0 : w.heap.size < w1.heap.size := (by (try simp at hb1z); omega); have hb1z1 : w.heap.size + 1 < w1.heap.size := (by (try simp at hb1z); omega); clear hb1z; have hs1 : ∀ u, (w1.setCell ⟨w.heap.size, 1, none⟩ u).cell? ⟨w.heap.size, 1, none⟩ = some u := (fun u => cell_set_here _ _ _ (by simp [go_sem, hb1c]))))
 go_region
 go_wp2
 refine bodyPost_ret (v := .tuple #[.string (s.extract k (k + n)), jQ7 s (k + n : Nat) 0]) (by simp [results, Tryz.results172, go_sem, *]) rfl ⟨rfl, ?_⟩
 exact (by repeat (first | exact Bel.refl _ | exact Bel.drew (Bel.refl _) | refine Bel.drew ?_ | refine Bel.drewN ?_ _ | refine Bel.alloc ?_ _ | refine Bel.set ?_ (by simp; try omega) _ | refine Bel.trans ?_ (by assumption)))
theorem yV9 (s : ByteArray) (p e n : Int) (may : Bool) (w : World) (hs : s.size ≤ maxLen) (hm : may = true → 0 ≤ n) :
  Calls Tryz.prog 172 #[jQ7 s p e, .int .i64 n, .bool may] w fun x w' => x = .returned (.tuple #[.string (jZ3 s p e n may), jQ7 s (kF5 s p e n may) (jY2 s p e n may)]) ∧ Bel w w' := by
 by_cases he : e = 0
 ·subst he
  by_cases h : may = false ∨ stands s p = false
  ·have h1 : jY2 s p 0 n may = 2 := by simp [jY2, h]
   have h2 : jZ3 s p 0 n may = ⟨#[]⟩ := by simp [jZ3, h1]
   have h3 : kF5 s p 0 n may = p := by simp [kF5, h1]
   rw [h1, h2, h3]
   exact yV8 s p n may w h
  ·have h' := h
   simp only [not_or, Bool.not_eq_false] at h'
   obtain ⟨rfl, hst⟩ := h'
   by_cases hn : (s.size : Int) - p < n
   ·have h1 : jY2 s p 0 n true = 3 := by simp [jY2, hst, hn]
    have h2 : jZ3 s p 0 n true = ⟨#[]⟩ := by simp [jZ3, h1]
    have h3 : kF5 s p 0 n true = p := by simp [kF5, h1]
    rw [h1, h2, h3]
    exact wP1 s p n w hst hn hs
   ·have h1 : jY2 s p 0 n true = 0 := by simp [jY2, hst, hn]
    have h2 : jZ3 s p 0 n true = s.extract p.toNat (p + n).toNat := by simp [jZ3, h1]
    have h3 : kF5 s p 0 n true = p + n := by simp [kF5, h1]
    rw [h1, h2, h3]
    have hst' := hst
    simp only [stands, decide_eq_true_eq] at hst'
    obtain ⟨k, rfl⟩ : ∃ k : Nat, p = k := ⟨p.toNat, by omega⟩
    obtain ⟨m, rfl⟩ : ∃ m : Nat, n = m := ⟨n.toNat, by have := hm rfl; omega⟩
    have e1 : ((k : Int) + (m : Int)).toNat = k + m := by omega
    have e2 : ((k : Int) + (m : Int)) = ((k + m : Nat) : Int) := by omega
    rw [e1, e2, x9]
    exact zF0 s k m w (by omega) hs
 ·have h1 : jY2 s p e n may = e := by simp [jY2, he]
  have h2 : jZ3 s p e n may = ⟨#[]⟩ := by simp [jZ3, h1, he]
  have h3 : kF5 s p e n may = p := by simp [kF5, h1, he]
  rw [h1, h2, h3]
  exact yV7 s p e n may w he
end
section
open Go.RowKit
end
section
open Go.RowKit
def sgnE (n : Int) : Int := if 1 ≤ n ∧ n ≤ 8 then 0 else 2
def sgnV (x n : Int) : Int := if 1 ≤ n ∧ n ≤ 8 then (x + 2 ^ (8 * n - 1).toNat) % 2 ^ (8 * n).toNat - 2 ^ (8 * n - 1).toNat else 0
theorem ret2 {a b c d : Value} (h1 : a = c) (h2 : b = d) : Ending.returned (.tuple #[a, b]) = .returned (.tuple #[c, d]) := by rw [h1, h2]
theorem yH1 {n : Int} (h : 1 ≤ n ∧ n ≤ 8) : n = 1 ∨ n = 2 ∨ n = 3 ∨ n = 4 ∨ n = 5 ∨ n = 6 ∨ n = 7 ∨ n = 8 := by omega
set_option maxHeartbeats 1000000 in
theorem vW3 (x n : Int) (w : World) (hx : 0 ≤ x ∧ x < 18446744073709551616) :
  Calls Tryz.prog 128 #[.int .u64 x, .int .i64 n] w fun e w' => e = .returned (.tuple #[.int .i64 (sgnV x n), .int .i64 (sgnE n)]) ∧ w = w' := by
 by_cases h : 1 ≤ n ∧ n ≤ 8
 ·rcases yH1 h with rfl | rfl | rfl | rfl | rfl | rfl | rfl | rfl
  all_goals
   go_enter Tryz.func128, Tryz.ntmps128
   go_wp2_with (go_at_call 173; refine (jT6 _ _).mono ?_; rintro e w1 ⟨rfl, rfl⟩; rw [show jN2 _ = true from by decide])
   go_ret2
   refine ⟨ret2 (congrArg (Value.int _) ?_) rfl, rfl⟩
   simp [sgnV, wrap64, IntKind.wrap_u64]
   try omega
 ·have h1 : jN2 n = false := by simp [jN2]; omega
  go_enter Tryz.func128, Tryz.ntmps128
  go_wp2_with (go_at_call 173; refine (jT6 _ _).mono ?_; rintro e w1 ⟨rfl, rfl⟩)
  go_ret2
  exact ⟨by simp [sgnV, sgnE, h], rfl⟩
def unsE (v n : Int) : Int := if 1 ≤ n ∧ n ≤ 8 then (if -2 ^ (8 * n - 1).toNat ≤ v ∧ v < 2 ^ (8 * n - 1).toNat then 0 else 8) else 2
def unsV (v n : Int) : Int := if unsE v n = 0 then v % 2 ^ (8 * n).toNat else 0
set_option maxHeartbeats 1000000 in
theorem vB4 (v n : Int) (w : World) (hx : -9223372036854775808 ≤ v ∧ v < 9223372036854775808) :
  Calls Tryz.prog 155 #[.int .i64 v, .int .i64 n] w fun e w' => e = .returned (.tuple #[.int .u64 (unsV v n), .int .i64 (unsE v n)]) ∧ w = w' := by
 by_cases h : 1 ≤ n ∧ n ≤ 8
 ·rcases yH1 h with rfl | rfl | rfl | rfl | rfl | rfl | rfl | rfl
  all_goals
   go_enter Tryz.func155, Tryz.ntmps155
   go_wp2_with (go_at_call 173; refine (jT6 _ _).mono ?_; rintro e w1 ⟨rfl, rfl⟩; rw [show jN2 _ = true from by decide])
   all_goals
    go_ret2
    refine ⟨ret2 (congrArg (Value.int _) ?_) (congrArg (Value.int _) ?_), rfl⟩
    all_goals
     simp [unsV, unsE, wrap64, IntKind.wrap_u64] at *
     try (repeat' split) <;> omega
 ·have h1 : jN2 n = false := by simp [jN2]; omega
  go_enter Tryz.func155, Tryz.ntmps155
  go_wp2_with (go_at_call 173; refine (jT6 _ _).mono ?_; rintro e w1 ⟨rfl, rfl⟩)
  go_ret2
  exact ⟨by simp [unsV, unsE, h], rfl⟩
end
section
open Go.RowKit
def numL : List UInt8 → Nat
 | [] => 0
 | c :: l => c.toNat + 256 * numL l
theorem kY2 : ∀ l : List UInt8, numL l < 256 ^ l.length
 | [] => by simp [numL]
 | c :: l => by
  have h1 := kY2 l
  have h2 : c.toNat < 256 := c.toNat_lt
  simp only [numL, lE, qY]
  omega
theorem wH3 {n : Nat} (h : n ≤ 8) : 256 ^ n ≤ 18446744073709551616 := by
 have : 256 ^ n ≤ 256 ^ 8 := z7 (by omega) h
 simpa using this
theorem vV8 (s : ByteArray) (p e n : Int) (m : Bool) (hm : m = true → 0 ≤ n ∧ n ≤ 8) : (jZ3 s p e n m).size ≤ 8 := by
 unfold jZ3
 split
 ·rename_i h
  have h1 : m = true ∧ stands s p = true := by
   unfold jY2 at h
   split at h
   ·omega
   ·split at h
    ·omega
    ·rename_i h'; simpa using h'
  have h2 := hm h1.1
  have h3 : 0 ≤ p ∧ p ≤ s.size := by have := h1.2; simpa [stands] using this
  simp
  omega
 ·exact xD _
theorem wY8 (a c k : Nat) (ha : a < 2 ^ k) : a ||| (c * 2 ^ k) = a + c * 2 ^ k := by
 rw [Nat.or_comm, qN, ← Nat.two_pow_add_eq_or_of_lt ha, Nat.add_comm]
theorem vE6 : ∀ (l : List UInt8) (c : UInt8), numL (l ++ [c]) = numL l + c.toNat * 256 ^ l.length
 | [], c => by simp [numL]
 | b :: l, c => by simp only [List.cons_append, numL, vE6 l c, List.length_cons, Nat.pow_succ]; rw [Nat.mul_add, Nat.add_assoc]; congr 2; rw [Nat.mul_comm, Nat.mul_assoc]
theorem yL8 (s : ByteArray) (k : Nat) (h : k < s.size) : s.data.toList.take (k + 1) = s.data.toList.take k ++ [s[k]] := by
 rw [qB (by simpa using h)]; rfl
theorem yQ3 (a c k : Nat) (hk : k < 8) (ha : a < 256 ^ k) (hc : c < 256) : bits .or .u64 (a : Int) (IntKind.u64.wrap ((c : Int) * 2 ^ (8 * k))) = ((a + c * 256 ^ k : Nat) : Int) := by
 have e : (256 : Nat) ^ k = 2 ^ (8 * k) := by rw [Nat.pow_mul]
 have h1 : 256 ^ (k + 1) ≤ 18446744073709551616 := wH3 (by omega)
 have h2 : c * 256 ^ k + 256 ^ k ≤ 256 ^ (k + 1) := by
  rw [qY, qN (256 ^ k) 256, ← zZ]
  exact uN _ hc
 have h0 : 0 < 256 ^ k := Nat.pow_pos (by omega)
 have e2 : IntKind.u64.wrap ((c : Int) * 2 ^ (8 * k)) = ((c * 256 ^ k : Nat) : Int) := by
  have e3 : ((c : Int) * 2 ^ (8 * k)) = ((c * 256 ^ k : Nat) : Int) := by rw [e]; simp
  rw [IntKind.wrap_u64, e3]
  generalize c * 256 ^ k = y at *
  generalize 256 ^ (k + 1) = z at *
  generalize 256 ^ k = x at *
  omega
 rw [e2, u64_or_nat _ _ (by omega) (by omega)]
 rw [e] at ha ⊢
 rw [wY8 _ _ _ ha]
set_option maxHeartbeats 400000 in
theorem yQ8 (s : ByteArray) (p e n : Int) (w : World) (hs : s.size ≤ maxLen) :
  Calls Tryz.prog 127 #[jQ7 s p e, .int .i64 n] w fun x w' => x = .returned (.tuple #[.int .u64 (numL (jZ3 s p e n (jN2 n)).data.toList), jQ7 s (kF5 s p e n (jN2 n)) (jY2 s p e n (jN2 n))]) ∧ Bel w w' := by
 have hm : jN2 n = true → 0 ≤ n ∧ n ≤ 8 := by intro h; simp [jN2] at h; omega
 have ht := vV8 s p e n (jN2 n) hm
 generalize hT : jZ3 s p e n (jN2 n) = T at ht
 have HT := hide hT
 clear hT
 have hmf : ∀ (fn : Go.Fn) (first cap : Array Value) (w : World), (Instr.makeFunc fn first cap).run Tryz.prog w = .ok (.func fn first cap) w := fun _ _ _ _ => rfl
 go_enter Tryz.func127, Tryz.ntmps127
 go_wp2_with (first | (go_at_call 173; refine (jT6 _ _).mono ?_; rintro e w1 ⟨rfl, rfl⟩) | (go_at_call 172; refine (yV9 _ _ _ _ _ _ hs (fun h => (hm h).1)).mono ?_; rintro e w1 ⟨rfl, hb1⟩; rw [HT.out]; obtain ⟨hb1c, hb1f, hb1z⟩ := Bel.took hb1; have hb1z0 : w.heap.size < w1.heap.size := (by (try simp at hb1z); omega); have hb1z1 : w.heap.size + 1 < w1.heap.size := (by (try simp at hb1z); omega); clear hb1z))
 go_loop [9, 10, 23] (fun x _ i => ∃ k : Nat, k ≤ T.size ∧ i = .int .i64 k ∧ x = .int .u64 (numL (T.data.toList.take k))) (fun _ _ i => T.size - (intOf i).toNat)
 case atStart => exact ⟨0, xD _, rfl, rfl⟩
 case round =>
  obtain ⟨k, hk, rfl, rfl⟩ := hrel
  by_cases hlt : k < T.size
  ·have hs1 := yL8 T k hlt
   have hl : numL (T.data.toList.take k) < 256 ^ k := by
    have := kY2 (T.data.toList.take k)
    rwa [xS, Array.length_toList, uP (by simpa using hk)] at this
   have hb2 : (T[k]).toNat < 256 := (T[k]).toNat_lt
   have HS := hide hs1
   clear hs1
   go_wp2
   go_round
   case rel =>
    refine ⟨k + 1, by omega, by go_num, congrArg (Value.int _) ?_⟩
    rw [HS.out, vE6]
    refine (yQ3 _ _ _ (by omega) hl hb2).trans ?_
    rw [xS, Array.length_toList, uP (by simpa using hk)]
   case measure => simp [intOf]; omega
  ·have hke : k = T.size := by omega
   subst hke
   go_wp2
   have hT2 : List.take T.size T.data.toList = T.data.toList := qZ (by simp)
   rw [hT2]
   go_region
   go_wp2
   refine bodyPost_ret (v := .tuple #[.int .u64 (numL T.data.toList), jQ7 s (kF5 s p e n (jN2 n)) (jY2 s p e n (jN2 n))]) (by simp [results, Tryz.results127, go_sem, hb1c, hb1z0, hb1z1]) rfl ⟨rfl, ?_⟩
   exact (by repeat (first | exact Bel.refl _ | exact Bel.drew (Bel.refl _) | refine Bel.drew ?_ | refine Bel.drewN ?_ _ | refine Bel.alloc ?_ _ | refine Bel.set ?_ (by simp; try omega) _ | refine Bel.trans ?_ (by assumption)))
end
section
open Go.RowKit
end
section
open Go.RowKit
@[go_sem] theorem eqnil_bytes (w : World) (A : Option Addr) (n c : Nat) : (binOp .eql 44 (.slice A n c) (.slice none 0 0)).run Tryz.prog w = .ok (.bool A.isNone) w := Lib.run_eql_slice_nil w _ _ A n c 0 0 Tryz.underlying44
theorem kI3 : ElemOk Tryz.prog 44 5 1 1 := ElemOk.mk_ (z := .int .u8 0) Tryz.underlying44 (by kernel_rfl) rfl (by omega)
def leB : Nat → Nat → List UInt8
 | 0, _ => []
 | n + 1, x => UInt8.ofNat (x % 256) :: leB n (x / 256)
theorem jH0 : ∀ n x, (leB n x).length = n
 | 0, _ => rfl
 | n + 1, x => by simp [leB, jH0 n]
theorem vS8 : ∀ n x, leB (n + 1) x = leB n x ++ [UInt8.ofNat (x / 256 ^ n % 256)]
 | 0, x => by simp [leB]
 | n + 1, x => by
  rw [leB, vS8 n (x / 256), leB]
  simp only [lL]
  rw [Nat.div_div_eq_div_mul, qY, qN 256]
def putL (b : List UInt8) (n : Int) (x : Nat) : List UInt8 := if 1 ≤ n ∧ n ≤ 8 then b ++ leB n.toNat x else b
theorem vR5 {w : World} {base : Nat} {e : TypeId} {size : Nat} {v : Value} {n : Nat} {xs : List Value} (h : w.ownsRow base e size v n xs) : ∃ A c, v = .slice A n c ∧ (A = none → n = 0 ∧ c = 0) := by
 rcases h.2 with ⟨rfl, rfl⟩ | ⟨g, cap, cur, rfl, _⟩
 ·exact ⟨_, _, rfl, fun _ => ⟨rfl, rfl⟩⟩
 ·exact ⟨_, _, rfl, fun h => by cases h⟩
def kE9 (W0 : World) (e : TypeId) (size : Nat) (xs : List Value) (len : Nat) (x : Ending) (w' : World) : Prop :=
 ∃ A c, x = .returned (.slice A len c) ∧ w'.ownsRow W0.heap.size e size (.slice A len c) len xs ∧ (A = none → len = 0 ∧ c = 0) ∧ Bel W0 w'
set_option maxHeartbeats 400000 in
theorem vG6 (A : Option Addr) (c : Nat) (l : List UInt8) (w : World) (hr : Rd w 1 A l.length (bv l)) (hc : A = none → c = 0) (hn : l.length ≤ 1099511627776) :
  Calls Tryz.prog 194 #[.slice A l.length c] w (kE9 w 5 1 (bv l) l.length) := by
 rcases A with _ | ad
 ·obtain rfl := hc rfl
  have h0 := hr.2.1 rfl
  obtain rfl : l = [] := qT h0
  go_enter Tryz.func194, Tryz.ntmps194
  go_wp2
  go_ret
  exact ⟨_, _, rfl, by simpa [bv] using World.ownsRow_nil w _ _ 1, fun _ => ⟨rfl, rfl⟩, Bel.refl _⟩
 ·clear hc
  go_enter Tryz.func194, Tryz.ntmps194
  have hown : ∀ W : World, Bel w W → (W.alloc (.cells #[] 5)).ownsRow w.heap.size 5 1 (.slice (some ⟨W.heap.size, 0, none⟩) 0 0) 0 [] := fun W hW => World.ownsRow_lit W #[] 0 hW.size (by unfold maxLen; omega) rfl
  go_wp2_with (at_builtin; refine kQ2 w kI3 rfl _ _ rfl ((Bel.refl w).alloc _) (xB _) (by simp) rfl (hown w (Bel.refl w)) rfl (hr.alloc _) (yJ2 l) (by unfold maxLen; omega) (by omega) ?_; intro v' w1 hown1 hb1 _ _)
  simp only [Nat.zero_add, List.nil_append] at hown1
  obtain ⟨A', c', rfl, hA⟩ := vR5 hown1
  go_wp2
  go_ret
  exact ⟨_, _, rfl, hown1, hA, hb1⟩
set_option maxHeartbeats 1000000 in
theorem yP1 (A : Option Addr) (c : Nat) (l : List UInt8) (m x : Nat) (w : World) (hr : Rd w 1 A l.length (bv l)) (hc : A = none → c = 0) (hn : l.length ≤ 1099511627776) (hm : 1 ≤ m ∧ m ≤ 8) (hx : x < 18446744073709551616) :
  Calls Tryz.prog 154 #[.slice A l.length c, .int .i64 m, .int .u64 x] w (kE9 w 5 1 (bv (l ++ leB m x)) (l.length + m)) := by
 have hf : jN2 m = true := by simp [jN2]; omega
 go_enter Tryz.func154, Tryz.ntmps154
 go_wp2_with (first | (go_at_call 194; refine (vG6 A c l _ hr hc hn).mono ?_; rintro e w1 ⟨A1, c1, rfl, hown1, hA1, hb1⟩) | (go_at_call 173; refine (jT6 _ _).mono ?_; rintro e w2 ⟨rfl, rfl⟩))
 go_loopw [2, 7, 15] (fun y o i wr => ∃ (k : Nat) (Ao : Option Addr) (co : Nat), k ≤ m ∧ i = .int .i64 k ∧ y = .int .u64 ((x / 256 ^ k : Nat) : Int) ∧ o = .slice Ao (l.length + k) co ∧ wr.ownsRow w.heap.size 5 1 (.slice Ao (l.length + k) co) (l.length + k) (bv (l ++ leB k x)) ∧ (Ao = none → l.length + k = 0 ∧ co = 0) ∧ Bel w wr) (fun _ _ i _ => m - (intOf i).toNat)
 case atStart => exact ⟨0, A1, c1, xD _, rfl, by simp, rfl, by simpa [leB] using hown1, by simpa using hA1, hb1⟩
 case round =>
  obtain ⟨k, Ao, co, hk, rfl, rfl, rfl, hown, hAo, hbw⟩ := hrel
  by_cases hlt : k < m
  ·have hy : x / 256 ^ k < 18446744073709551616 := Nat.lt_of_le_of_lt (Nat.div_le_self _ _) hx
   go_wp2_with (at_builtin; refine kQ2 w kI3 rfl _ _ rfl (hbw.alloc _) (xB _) (by have := hbw.size; simp; omega) rfl (hown.alloc _) rfl (Rd.new wr _ _ 1 rfl) (by intro u hu; simp at hu; subst hu; rfl) (by unfold maxLen; omega) (by omega) ?_; intro v' w3 hown3 hb3 _ _)
   go_roundw
   case rel =>
    obtain ⟨A2, c2, hv2, hA2⟩ := vR5 hown3
    rw [hv2] at hown3
    refine ⟨k + 1, A2, c2, by omega, by go_num, ?_, hv2, ?_, fun h => by have := hA2 h; omega, hb3⟩
    ·rw [qY, ← Nat.div_div_eq_div_mul]; simp
    ·have e : bv (l ++ leB (k + 1) x) = bv (l ++ leB k x) ++ #[Value.int .u8 ((x : Int) / 256 ^ k % 256)].toList := by
      rw [vS8, ← xF, jN1 (l ++ leB k x)]
      simp [bv]
     rw [e]
     exact hown3
   case measure => simp [intOf]; omega
  ·have hke : k = m := by omega
   subst hke
   go_wp2
   go_ret
   exact ⟨_, _, rfl, hown, hAo, hbw⟩
set_option maxHeartbeats 1000000 in
theorem zB6 (A : Option Addr) (c : Nat) (l : List UInt8) (m x : Int) (w : World) (hr : Rd w 1 A l.length (bv l)) (hc : A = none → c = 0) (hn : l.length ≤ 1099511627776) (hm : ¬ (1 ≤ m ∧ m ≤ 8)) :
  Calls Tryz.prog 154 #[.slice A l.length c, .int .i64 m, .int .u64 x] w (kE9 w 5 1 (bv l) l.length) := by
 have hf : jN2 m = false := by simp [jN2]; omega
 go_enter Tryz.func154, Tryz.ntmps154
 go_wp2_with (first | (go_at_call 194; refine (vG6 A c l _ hr hc hn).mono ?_; rintro e w1 ⟨A1, c1, rfl, hown1, hA1, hb1⟩) | (go_at_call 173; refine (jT6 _ _).mono ?_; rintro e w2 ⟨rfl, rfl⟩))
 go_ret
 exact ⟨_, _, rfl, hown1, hA1, hb1⟩
theorem yP3 (A : Option Addr) (c : Nat) (l : List UInt8) (m x : Int) (w : World) (hr : Rd w 1 A l.length (bv l)) (hc : A = none → c = 0) (hn : l.length ≤ 1099511627776) (hx : 0 ≤ x ∧ x < 18446744073709551616) :
  Calls Tryz.prog 154 #[.slice A l.length c, .int .i64 m, .int .u64 x] w (kE9 w 5 1 (bv (putL l m x.toNat)) (putL l m x.toNat).length) := by
 by_cases hm : 1 ≤ m ∧ m ≤ 8
 ·obtain ⟨k, rfl⟩ : ∃ k : Nat, m = k := ⟨m.toNat, by omega⟩
  obtain ⟨y, rfl⟩ : ∃ y : Nat, x = y := ⟨x.toNat, by omega⟩
  have e : putL l k (y : Int).toNat = l ++ leB k y := by simp only [putL, if_pos hm, x9]
  have e2 : (l ++ leB k y).length = l.length + k := by simp [jH0]
  rw [e, e2]
  exact yP1 A c l k y w hr hc hn (by omega) (by omega)
 ·have e : putL l m x.toNat = l := if_neg hm
  rw [e]
  exact zB6 A c l m x w hr hc hn hm
end
section
open Go.RowKit
end
section
open Go.RowKit
end
end Go.Proofs.YtfeopecgedbfpaaGreatDoor
