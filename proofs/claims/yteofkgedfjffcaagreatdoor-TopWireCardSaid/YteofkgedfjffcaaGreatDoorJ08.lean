/- Walks and plain laws for this claim (texts Lf14, Lf15, Lf18, Ly8, Nt5, SxIf, Nt6, Wp1, Wl1, Wp2, SxGo, Wa1, Wa2, Wa3, SxFO, Wa4, Bd1, Bd2, Wb1, Wb2, joined). Each theorem states its own conditions. -/
import Derived.Test.YteofkgedfjffcaaGreatDoorJ07
import Derived.Lib.ItoaNum
import Derived.Lib.AtoiAll
import Derived.Lib.AtoiAllCases
import Derived.Shelf.Strings.Prefix
import Derived.Shelf.Small.Wraps
import Derived.Shelf.Strings.SlTrimAscii
import Derived.Shelf.Strings.Search3
import Derived.Shelf.Strings.FuncGrows
import Derived.Shelf.Strings.SplitCore
import Derived.Shelf.Strings.Count
import Derived.Shelf.Strconv.AtoiAll
import Derived.Shelf.Strconv.Itoa3
import Derived.Laws.RangeAny
import Derived.Laws.RangeString
import Derived.Scope
import Derived.Lib.SplitLaws
import Derived.Shelf.Strings.Builder1
import Derived.Lib.UnsafeStr
import Derived.Lib.MakeNoZero
set_option linter.all false
namespace Go.Proofs.YteofkgedfjffcaaGreatDoor
namespace V.L
open Go.RowKit
theorem rowQ_cons {f : Nat} {e : En} {r : List En} : rowQ f (e :: r) = 0 ↔ chkE e = 0 ∧ f ≤ e.id ∧ rowQ (jK4 e + 1) r = 0 := by
 rw [rowQ]
 by_cases h1 : chkE e = 0
 ·rw [if_pos h1]
  by_cases h2 : e.id < f
  ·rw [if_pos h2]
   exact ⟨(fun h => absurd h (by decide)), fun h => by omega⟩
  ·rw [if_neg h2]
   exact ⟨fun h => ⟨h1, by omega, h⟩, fun h => h.2.2⟩
 ·rw [if_neg h1]
  exact ⟨fun h => absurd h h1, fun h => absurd h.1 h1⟩
theorem wL0 {e : En} (h : e.ok) (hc : chkE e = 0) : e.id ≤ jK4 e := by
 have := h.wide
 unfold jK4
 rw [if_pos hc]
 omega
theorem vD4 : ∀ {f g : Nat} {Q : List En}, f ≤ g → rowQ g Q = 0 → rowQ f Q = 0
 | _, _, [], _, _ => rfl
 | f, g, e :: r, h, hr => by
  obtain ⟨h1, h2, h3⟩ := rowQ_cons.1 hr
  exact rowQ_cons.2 ⟨h1, by omega, h3⟩
theorem vD5 : ∀ {P Q : List En} {f : Nat}, jF5 P → rowQ f (P ++ Q) = 0 → rowQ f Q = 0
 | [], Q, f, _, h => h
 | e :: P, Q, f, hE, h => by
  obtain ⟨h1, h2, h3⟩ := rowQ_cons.1 h
  have h4 := vD5 (fun x hx => hE x (lU _ hx)) h3
  have := wL0 (hE e lP) h1
  exact vD4 (by omega) h4
theorem vQ9 {L : List En} {z : Nat} (hz : 0 < z) : (pcs L z).flatten = L := by
 have key : ∀ k, ((List.range k).map (pcL L z)).flatten = L.take (k * z) := fun k => by
  induction k with
  | zero => simp
  | succ k ih =>
   rw [List.range_succ, x0, List.flatten_append, ih, zH, List.take_add]
   simp [pcL]
 rw [pcs, key]
 refine zN ?_
 have h : ¬ cntP L.length z * z < L.length := fun h => by have := (jQ0 hz).2 h; omega
 omega
theorem wQ2 {P : List En} (h : (encQ P).2 = 0) : 0 < (encQ P).1.length := by
 rw [(kY9 h).2.2]
 exact vA1 P
theorem vQ5 : ∀ (ps : List (List En)) (t f : Nat), (∀ P ∈ ps, 0 < P.length ∧ jF5 P ∧ (encQ P).2 = 0) → rowQ f ps.flatten = 0 → t + 65536 * ps.length ≤ 1099511627776 → rowQ f (jH6 t ps) = 0
 | [], _, _, _, _, _ => rfl
 | [] :: r, t, f, hP, _, _ => by have := (hP [] lP).1; simp at this
 | (e :: P) :: r, t, f, hP, h, ht => by
  obtain ⟨_, hE, he⟩ := hP (e :: P) lP
  have heo : e.ok := hE e lP
  have hl := kC1 (e :: P)
  have hp := wQ2 he
  rw [lD] at ht
  rw [zW, lL] at h
  obtain ⟨h1, h2, h3⟩ := rowQ_cons.1 h
  have hid := (kG1 heo h1).2.1
  have hw := heo.wide
  have hat : atE (e :: P) 0 = e := rfl
  have hc : chkE (kA2 t (e :: P)) = 0 := by
   unfold chkE
   have hwide : (kA2 t (e :: P)).wide = 1 := rfl
   have hnx : (kA2 t (e :: P)).next = t + (encQ (e :: P)).1.length := by
    show (t + (encQ (e :: P)).1.length) % 18446744073709551616 = _
    omega
   rw [if_neg (by show ¬ (encQ (e :: P)).1.length = 0; omega), hwide, if_neg (by show ¬ _ < (atE (e :: P) 0).id; rw [hat]; omega), hnx, if_neg (by show ¬ (1099511627776 < t ∨ _); omega)]
  refine rowQ_cons.2 ⟨hc, by show f ≤ (atE (e :: P) 0).id; rw [hat]; exact h2, ?_⟩
  have hlast : jK4 (kA2 t (e :: P)) = e.id := by
   unfold jK4
   rw [if_pos hc]
   show (atE (e :: P) 0).id + 1 - 1 = e.id
   rw [hat]
   omega
  rw [hlast]
  have h4 := vD5 (fun x hx => hE x (lU _ hx)) h3
  have := wL0 heo h1
  exact vQ5 r _ _ (fun Q hQ => hP Q (lU _ hQ)) (vD4 (by omega) h4) (by omega)
theorem vQ6 : ∀ (ps : List (List En)) (t : Nat), (jH6 t ps).filter kB4 = jH6 t ps
 | [], _ => rfl
 | P :: r, t => by
  rw [jH6, xL, if_pos (by rfl), vQ6 r]
def endQ : Nat → List En → Nat
 | n, [] => n
 | n, e :: r => endQ (if chkE e = 0 then max n e.next else n) r
theorem vQ7 : ∀ (ps : List (List En)) (t n : Nat), n ≤ t → (∀ P ∈ ps, 0 < P.length ∧ jF5 P ∧ (encQ P).2 = 0) → (∀ f, rowQ f (jH6 t ps) = 0 → True) → (∀ e ∈ jH6 t ps, chkE e = 0) → t + 65536 * ps.length ≤ 1099511627776 → (ps = [] → n = t) → endQ n (jH6 t ps) = t + (jH2 ps).length
 | [], t, n, _, _, _, _, _, h0 => by rw [h0 rfl]; rfl
 | P :: r, t, n, hn, hP, _, hc, ht, _ => by
  have hl := kC1 P
  rw [lD] at ht
  rw [jH6, endQ, if_pos (hc _ (by rw [jH6]; exact lP))]
  have hnx : (kA2 t P).next = t + (encQ P).1.length := by
   show (t + (encQ P).1.length) % 18446744073709551616 = _
   omega
  rw [hnx, show max n (t + (encQ P).1.length) = t + (encQ P).1.length by omega, vQ7 r _ _ (xP _) (fun Q hQ => hP Q (lU _ hQ)) (fun _ _ => trivial) (fun e he => hc e (by rw [jH6]; exact lU _ he)) (by omega) (fun _ => rfl)]
  simp only [jH2, x5, lN]
  omega
theorem vQ4 : ∀ {f : Nat} {L : List En}, rowQ f L = 0 → ∀ e ∈ L, chkE e = 0
 | _, [], _, e, h => by cases h
 | f, x :: r, hr, e, h => by
  obtain ⟨h1, _, h3⟩ := rowQ_cons.1 hr
  rcases List.mem_cons.1 h with rfl | h
  ·exact h1
  ·exact vQ4 h3 e h
theorem vE5 : ∀ (ps : List (List En)) (out : List En) (pre : List UInt8), (∀ P ∈ ps, 0 < P.length ∧ jF5 P ∧ (encQ P).2 = 0 ∧ jH8 P = false) → rowC (out ++ ps.flatten) = 0 →
  jQ9 (pre ++ jH2 ps) out (jH6 pre.length ps) = (out ++ ps.flatten, 0)
 | [], out, pre, _, hr => by
  rw [jH6, jQ9]
  rw [List.flatten_nil, lH] at hr ⊢
  rw [if_neg (by simpa using hr)]
 | P :: r, out, pre, hP, hr => by
  obtain ⟨h0, hE, he, hh⟩ := hP P lP
  obtain ⟨hrc, hsz, henc⟩ := kY9 he
  obtain ⟨S, hS⟩ := xZ9 ((encQ P).1)
  have hSe : S = allB (jF4 P) := by rw [← hS, henc]
  have hd := vT5 hE hrc [] (by simpa using hsz)
  rw [lH, if_neg (by decide), ← hSe] at hd
  have htx : jH2 (P :: r) = S ++ jH2 r := by rw [jH2, x5, hS]; rfl
  have hsl : ((pre ++ jH2 (P :: r)).drop pre.length).take S.length = S := by rw [htx, uC, uD]
  have hpc : jJ2 (kA2 pre.length P) (pre ++ jH2 (P :: r)) = (P, 0) := by
   have e1 : (kA2 pre.length P).off = pre.length := rfl
   have e2 : (kA2 pre.length P).len = S.length := hS ▸ rfl
   have e3 : (kA2 pre.length P).id = (atE P 0).id := rfl
   unfold jJ2
   rw [e1, e2, e3, hsl, hd, if_neg (by rw [htx, lN, lN]; omega), if_neg (by simp), if_neg (by rw [hh]; decide), if_neg (fun h => h.elim (fun h => absurd h (Nat.ne_of_gt h0)) (fun h => h rfl))]
  rw [jH6, jQ9, if_pos (by rfl), hpc, if_neg (by simp)]
  have ih := vE5 r (out ++ P) (pre ++ S) (fun Q hQ => hP Q (lU _ hQ)) (by rw [xD, ← zW]; exact hr)
  rw [lN, xD, ← htx, xD, ← zW, ← hS] at ih
  exact ih
theorem kQ7 {t : List UInt8} : ∀ (L out : List En), jH8 L = false → rowC (out ++ L) = 0 → jQ9 t out L = (out ++ L, 0)
 | [], out, _, hr => by
  rw [jQ9]
  rw [lH] at hr ⊢
  rw [if_neg (by simpa using hr)]
 | x :: r, out, hh, hr => by
  rw [jH8, List.any_cons, Bool.or_eq_false_iff] at hh
  rw [jQ9, if_neg (by rw [hh.1]; decide), kQ7 r (out ++ [x]) hh.2 (by rw [xD]; exact hr), xD]
  rfl
theorem zG3 {L : List En} (h : rowC L = 0) : rowQ 0 L = 0 ∧ L.length ≤ 4096 := by
 unfold rowC at h
 split at h
 ·cases h
 ·exact ⟨h, by omega⟩
theorem zG6 {L : List En} (h : rowQ 0 L = 0) (hl : L.length ≤ 4096) : rowC L = 0 := by
 unfold rowC
 rw [if_neg (by omega), h]
theorem kF2 {L : List En} {b : Int} : ∀ (k z : Nat), 0 < z → jS5 L b k z = ([], [], 0, 15) ∨ ∃ y, 0 < y ∧ okQ L b y = true ∧ jS5 L b k z = (jH6 0 (pcs L y), jH2 (pcs L y), y, 0)
 | 0, _, _ => .inl rfl
 | k + 1, z, hz => by
  rw [jS5]
  by_cases h : okQ L b z = true
  ·rw [if_pos h]
   exact .inr ⟨z, hz, h, rfl⟩
  ·rw [if_neg h]
   exact kF2 k (2 * z) (by omega)
theorem vC6 (L : List En) (b : Int) : (∃ e, e ≠ 0 ∧ jI3 L b = ([], [], 0, e)) ∨
  (rowC L = 0 ∧ jH8 L = false ∧ 1 ≤ b ∧ b ≤ 16257 ∧ ((jI3 L b = (L, [], 0, 0) ∧ (jK7 L : Int) ≤ b) ∨ ∃ y, 0 < y ∧ okQ L b y = true ∧ jI3 L b = (jH6 0 (pcs L y), jH2 (pcs L y), y, 0))) := by
 unfold jI3
 by_cases h1 : b < 1 ∨ 16257 < b
 ·rw [if_pos h1]; exact .inl ⟨2, by decide, rfl⟩
 rw [if_neg h1]
 by_cases h2 : rowC L ≠ 0
 ·rw [if_pos h2]; exact .inl ⟨_, h2, rfl⟩
 rw [if_neg h2]
 by_cases h3 : jH8 L = true
 ·rw [if_pos h3]; exact .inl ⟨14, by decide, rfl⟩
 rw [if_neg h3]
 have h2' : rowC L = 0 := by omega
 have h3' : jH8 L = false := by simpa using h3
 by_cases h4 : (jK7 L : Int) ≤ b
 ·rw [if_pos h4]
  exact .inr ⟨h2', h3', by omega, by omega, .inl ⟨rfl, h4⟩⟩
 rw [if_neg h4]
 rcases kF2 (L := L) (b := b) 13 1 (by omega) with h | ⟨y, hy, ho, h⟩
 ·rw [h]; exact .inl ⟨15, by decide, rfl⟩
 ·exact .inr ⟨h2', h3', by omega, by omega, .inr ⟨y, hy, ho, h⟩⟩
theorem wJ7 {L : List En} {b : Int} {y : Nat} (hy : 0 < y) (hE : jF5 L) (hh : jH8 L = false) (h : okQ L b y = true) : (∀ P ∈ pcs L y, 0 < P.length ∧ jF5 P ∧ (encQ P).2 = 0 ∧ jH8 P = false) ∧ (jK7 (jH6 0 (pcs L y)) : Int) ≤ b := by
 unfold okQ at h
 rw [xM, xB, decide_eq_true_eq] at h
 refine ⟨fun P hP => ⟨wJ2 hy hP, fun e he => hE e (kW9 hP e he), by simpa using h.1 P hP, ?_⟩, h.2⟩
 rw [jH8, List.any_eq_false] at hh ⊢
 exact fun e he => hh e (kW9 hP e he)
end V.L
namespace V.L
open Go.RowKit
set_option maxRecDepth 100000
theorem yL6 {M : List En} {b : Int} (hr : rowC M = 0) (hs : (jK7 M : Int) ≤ b) (hb : b ≤ 16257) : ∃ S, encQ M = (S, 0) ∧ (S.length : Int) ≤ b := by
 have hz : jK7 M = sumB (jF4 M) := by unfold jK7; rw [if_pos hr]
 rw [hz] at hs
 refine ⟨allB (jF4 M), ?_, hs⟩
 unfold encQ
 rw [if_pos hr, if_neg (by omega)]
theorem yZ5 {P : List En} (hE : jF5 P) (hl : P.length < 1000000) : (encQ P).1.length ≤ 10 + 40 * P.length := by
 have h := jS4 (kA9 hE (by omega))
 rw [jN4] at h
 unfold encQ
 split
 ·split
  ·exact lZ _
  ·show (allB (jF4 P)).length ≤ _
   omega
 ·exact lZ _
theorem vP0 : ∀ ps : List (List En), (∀ P ∈ ps, jF5 P ∧ P.length < 1000000) → (jH2 ps).length ≤ 10 * ps.length + 40 * ps.flatten.length
 | [], _ => by simp [jH2]
 | P :: r, h => by
  have h1 := yZ5 (h P lP).1 (h P lP).2
  have h2 := vP0 r (fun Q hQ => h Q (lU _ hQ))
  simp only [jH2, x5, lN, lD, zW] at h2 ⊢
  omega
theorem vZ3 {L M : List En} {b : Int} {s : List UInt8} {m : Nat} (hE : jF5 L) (h : jI3 L b = (M, s, m, 0)) :
  jF5 M ∧ M.length ≤ L.length ∧ (∃ S, encQ M = (S, 0) ∧ (S.length : Int) ≤ b) ∧ jT0 M s = (L, 0) ∧ (m = 0 ↔ s = []) ∧ (M.filter kB4).length = (if 0 < m then M.length else 0) ∧ endQ 0 M * min m 1 = s.length ∧ s.length ≤ 50 * L.length := by
 rcases vC6 L b with ⟨e, he, h1⟩ | ⟨hr, hh, hb1, hb2, h1⟩
 ·rw [h1] at h
  have := congrArg (·.2.2.2) h
  exact absurd this he
 obtain ⟨hq0, hl⟩ := zG3 hr
 rcases h1 with ⟨h1, hs⟩ | ⟨y, hy, hok, h1⟩
 ·rw [h1] at h
  simp only [Prod.mk.injEq] at h
  obtain ⟨rfl, rfl, rfl, _⟩ := h
  have hhl := vY4 L
  rw [hh] at hhl
  refine ⟨hE, xP _, yL6 hr hs hb2, ?_, by simp, ?_, by simp, by simp⟩
  ·unfold jT0
   rw [if_neg (by simpa using hr), kQ7 L [] hh hr]
   rfl
  ·have : ¬ 0 < (L.filter kB4).length := by simpa using hhl.symm
   rw [if_neg (by decide)]
   omega
 ·rw [h1] at h
  simp only [Prod.mk.injEq] at h
  obtain ⟨rfl, rfl, rfl, _⟩ := h
  obtain ⟨hP, hsz⟩ := wJ7 hy hE hh hok
  have hpl : (pcs L y).length ≤ L.length := by rw [vK0]; exact zB5 hy
  have hfl := vQ9 (L := L) hy
  have hP3 : ∀ P ∈ pcs L y, 0 < P.length ∧ jF5 P ∧ (encQ P).2 = 0 := fun P h => ⟨(hP P h).1, (hP P h).2.1, (hP P h).2.2.1⟩
  have hrow := vQ5 (pcs L y) 0 0 hP3 (by rw [hfl]; exact hq0) (by omega)
  have hrl := kA1 (pcs L y) 0
  have hrc := zG6 hrow (by omega)
  have hL0 : 0 < (pcs L y).length := by
   rcases zM (pcs L y).length with h0 | h0
   ·exfalso
    have hnil : pcs L y = [] := List.length_eq_zero_iff.1 h0
    rw [hnil] at hfl
    have hLn : L = [] := hfl.symm
    subst hLn
    have hs0 : jK7 ([] : List En) = 1 := by
     unfold jK7
     rw [if_pos (by rfl), show jF4 [] = [0] from rfl, sumB, allB, x5, List.flatMap_nil, kT4 (by omega)]
     rfl
    have : jI3 [] b = ([], [], 0, 0) := by
     unfold jI3
     rw [if_neg (by omega), if_neg (by decide), if_neg (by decide), if_pos (by rw [hs0]; omega)]
    rw [this] at h1
    have := congrArg (·.2.2.1) h1
    simp only at this
    omega
   ·exact h0
  have htp : 0 < (jH2 (pcs L y)).length := by
   match hpc : pcs L y, hL0 with
   | P :: r, _ =>
    rw [hpc] at hP3
    have h1 := wQ2 (hP3 P lP).2.2
    rw [jH2, x5, lN]
    omega
  refine ⟨kI2 _ 0 (fun P h => (hP P h).2.1) (by omega), by omega, yL6 hrc hsz hb2, ?_, ⟨fun h => by omega, fun h => by rw [h] at htp; simp at htp⟩, ?_, ?_, ?_⟩
  ·unfold jT0
   rw [if_neg (by simpa using hrc)]
   have := vE5 (pcs L y) [] [] hP (by rw [lE, hfl]; exact hr)
   rw [hfl] at this
   exact this
  ·rw [vQ6, if_pos hy]
  ·have := vQ7 (pcs L y) 0 0 (xP _) hP3 (fun _ _ => trivial) (vQ4 hrow) (by omega) (fun _ => rfl)
   rw [this, show min y 1 = 1 by omega]
   omega
  ·have := vP0 (pcs L y) (fun P h => ⟨(hP P h).2.1, by
    obtain ⟨q, _, hq⟩ := List.mem_map.1 h
    rw [← hq, kX0]
    omega⟩)
   rw [hfl] at this
   omega
end V.L
namespace Y
open Go.RowKit
theorem kX6 (X Q R : List UInt8) (i n : Nat) (hi : X.length = i) (hn : Q.length = n) : ((X ++ (Q ++ R)).drop i).take n = Q := by
 subst hi; subst hn
 rw [uC, uD]
theorem wQ3 {G : Hdr} (hc : jG4 G = 0) : (encV G).length = 127 := by unfold encV; rw [if_pos hc, jY4]
theorem yE5 (h : Hdr) (hk : h.Ok) (p : P4) (hp : p.Ok) (hc : jG4 (jJ8 h p) = 0) (t : List UInt8) : decV (encV (jJ8 h p) ++ t) = jJ8 h p ∧ decE (encV (jJ8 h p) ++ t) = 0 := yF5 (vS8 h hk p hp) hc t
theorem yE6 (h : Hdr) (hk : h.Ok) (p : P4) (hp : p.Ok) (hc : jG4 (jJ8 h p) = 0) (t : List UInt8) :
  cutE (encV (jJ8 h p) ++ p.all ++ t) = 0 ∧ cutH (encV (jJ8 h p) ++ p.all ++ t) = jJ8 h p ∧ cutP (encV (jJ8 h p) ++ p.all ++ t) = p := by
 have hel := wQ3 hc
 rw [xD]
 obtain ⟨h1, h2⟩ := yE5 h hk p hp hc (p.all ++ t)
 obtain ⟨l, hll⟩ := xZ9 (encV (jJ8 h p) ++ (p.all ++ t))
 have hlen : l.length = 127 + (p.a.length + p.b.length + p.c.length + p.d.length) + t.length := by
  rw [← hll]; simp only [lN, P4.all, hel]; omega
 rw [hll] at h1 h2 ⊢
 have hin : ∀ k, k < 4 → inL l k = true := fun k hk4 => by
  unfold inL
  rw [h1, hlen]
  obtain rfl | rfl | rfl | rfl := four hk4 <;> simp [hf, hl, jJ8, layH, wA5] <;> omega
 have e := wR4 h2 hin
 have pc : ∀ k, piece l k = (l.drop (hf (jJ8 h p) k)).take (hl (jJ8 h p) k) := fun k => by unfold piece; rw [h1]
 have q0 : piece l 0 = p.a := by
  rw [pc, ← hll, show encV (jJ8 h p) ++ (p.all ++ t) = encV (jJ8 h p) ++ (p.a ++ (p.b ++ p.c ++ p.d ++ t)) by simp [P4.all]]
  exact kX6 _ _ _ _ _ hel rfl
 have q1 : piece l 1 = p.b := by
  rw [pc, ← hll, show encV (jJ8 h p) ++ (p.all ++ t) = (encV (jJ8 h p) ++ p.a) ++ (p.b ++ (p.c ++ p.d ++ t)) by simp [P4.all]]
  exact kX6 _ _ _ _ _ (by rw [lN, hel]; rfl) rfl
 have q2 : piece l 2 = p.c := by
  rw [pc, ← hll, show encV (jJ8 h p) ++ (p.all ++ t) = (encV (jJ8 h p) ++ p.a ++ p.b) ++ (p.c ++ (p.d ++ t)) by simp [P4.all]]
  exact kX6 _ _ _ _ _ (by simp only [lN, hel]; rfl) rfl
 have q3 : piece l 3 = p.d := by
  rw [pc, ← hll, show encV (jJ8 h p) ++ (p.all ++ t) = (encV (jJ8 h p) ++ p.a ++ p.b ++ p.c) ++ (p.d ++ t) by simp [P4.all]]
  exact kX6 _ _ _ _ _ (by simp only [lN, hel]; rfl) rfl
 refine ⟨e, by unfold cutH; rw [if_pos e, h1], ?_⟩
 unfold cutP
 rw [if_pos e, q0, q1, q2, q3]
end Y
section
open Go.RowKit V V.L Y
set_option maxRecDepth 100000
theorem vC7 {L : List En} {b : Int} : ∀ (k z j : Nat), j < k → okQ L b (z * 2 ^ j) = true → (jS5 L b k z).2.2.2 = 0
 | 0, _, _, h, _ => by omega
 | k + 1, z, j, h, ho => by
  rw [jS5]
  split
  ·rfl
  ·rename_i hno
   cases j with
   | zero => rw [Nat.pow_zero, qN] at ho; exact absurd ho hno
   | succ j => exact vC7 k (2 * z) j (by omega) (by rw [show 2 * z * 2 ^ j = z * 2 ^ (j + 1) by rw [qV, qU 2 z, Nat.mul_assoc, qU 2]]; exact ho)
theorem wH1 : ∀ R : List En, (∀ e ∈ R, 0 < e.run) → R.length ≤ (R.flatMap expE).length
 | [], _ => xP _
 | e :: r, h => by
  have h1 := h e lP
  have h2 := wH1 r fun x hx => h x (lU _ hx)
  rw [x5, lN, kY6, lD]
  omega
theorem yI4 {L : List It} (hok : ChOk L) : (prR L).length ≤ L.length := by
 have hw := wW7 hok
 have h1 := wH1 (jJ4 L).1 fun e he => (hw.gr.ok e he).1
 rw [hw.exl] at h1
 exact h1
theorem zH7 {R : List En} (h : ∀ e ∈ R, 0 < e.run) : jH8 R = false := by
 unfold jH8
 rw [List.any_eq_false]
 intro e he
 have := h e he
 simp [kB4]
 omega
theorem wZ2 (e : En) (he : e.ok) : jK7 [e] ≤ 50 := by
 have h1 : jF5 [e] := fun x hx => by rw [List.mem_singleton.1 hx]; exact he
 have h := jS4 (kA9 h1 (by simp))
 rw [jN4] at h
 unfold jK7 sumB
 simp only [zY] at h
 split <;> omega
theorem yB1 {L : List It} (hok : ChOk L) (hlen : L.length ≤ 100) {b : Nat} (hb : 512 ≤ b ∧ b ≤ 16257) : (prS L b).2.2.2 = 0 := by
 have hw := wW7 hok
 have hR := yI4 hok
 have hE : jF5 (prR L) := hw.ens
 have hrow : rowC (prR L) = 0 := hw.row
 have hp := zH7 (R := prR L) fun e he => (hw.gr.ok e he).1
 unfold prS jI3
 rw [if_neg (by omega), if_neg (by simpa using hrow), if_neg (by rw [hp]; decide)]
 split
 ·rfl
 refine vC7 13 1 7 (by omega) ?_
 rw [show 1 * 2 ^ 7 = 128 from rfl]
 have hfl := vQ9 (L := prR L) (z := 128) (by omega)
 have hpl : (pcs (prR L) 128).length ≤ 1 := by rw [vK0]; unfold cntP; omega
 unfold okQ
 rw [xM]
 match hpc : pcs (prR L) 128, hpl with
 | [], _ =>
  refine ⟨rfl, decide_eq_true ?_⟩
  have : jK7 (jH6 0 []) ≤ 10 := by
   have h := jS4 (xs := jF4 []) (fun x hx => by rw [show jF4 [] = [0] from rfl] at hx; rw [List.mem_singleton.1 hx]; decide)
   rw [jN4] at h
   show jK7 [] ≤ 10
   unfold jK7 sumB
   simp only [lF] at h
   split <;> omega
  omega
 | [P], _ =>
  rw [hpc] at hfl
  have hPR : P = prR L := by simpa using hfl
  subst hPR
  have hs := wY7 hE (by omega)
  have henc : (encQ (prR L)).2 = 0 := by unfold encQ; rw [if_pos hrow, if_neg (by omega)]
  refine ⟨by simp [henc], decide_eq_true ?_⟩
  have := wZ2 (kA2 0 (prR L)) (kI2 [prR L] 0 (fun P hP => by rw [List.mem_singleton.1 hP]; exact hE) (by simp) _ lP)
  show (jK7 [kA2 0 (prR L)] : Int) ≤ b
  omega
 | _ :: _ :: _, h => simp at h
theorem wA0 {a b : Nat} (hab : a ≤ b) (hb : b < 6004799503160661) : 0 ≤ jW5 a ∧ jW5 a ≤ jW5 b ∧ jW5 b ≤ 26 := by
 obtain ⟨y, h1, h2, h3, h4⟩ := wA2 hb
 obtain ⟨z, g1, g2, g3, g4⟩ := wA2 (k := a) (by omega)
 rw [h2, g2]
 refine ⟨by omega, ?_, by omega⟩
 rcases xX y z with h | h
 ·exfalso
  have := kS0 (show y + 1 ≤ z by omega)
  omega
 ·omega
theorem z_ok {L : List It} (hok : ChOk L) : 0 ≤ zLo L ∧ zLo L ≤ zHi L ∧ zHi L ≤ 26 := by
 unfold zLo zHi
 by_cases h : L = []
 ·rw [if_pos h, if_pos h]; omega
 rw [if_neg h, if_neg h]
 have hpos : 0 < L.length := List.length_pos_iff.2 h
 have e0 : itAt L 0 = L[0] := by simp [itAt, xF hpos]
 have e1 : itAt L (L.length - 1) = L[L.length - 1] := by simp [itAt, xF (show L.length - 1 < L.length by omega)]
 rw [e0, e1]
 refine wA0 ?_ (hok.lt _ (zQ _))
 rcases Nat.eq_or_lt_of_le (show 1 ≤ L.length by omega) with h1 | h1
 ·simp [← h1]
 ·exact Nat.le_of_lt (List.pairwise_iff_getElem.1 hok.rise 0 (L.length - 1) hpos (by omega) (by omega))
theorem vK1 {lo hi a b c : Int} (h : (lo ≤ a ∧ a ≤ hi) ∧ (lo ≤ b ∧ b ≤ hi) ∧ (lo ≤ c ∧ c ≤ hi) ∧ a ≤ b) : ¬ jS9 lo hi a b c = true := by
 obtain ⟨⟨h1, h2⟩, ⟨h3, h4⟩, ⟨h5, h6⟩, h7⟩ := h
 simp [jS9, wi, h1, h2, h3, h4, h5, h6, h7]
theorem yD8 {L : List It} (hok : ChOk L) {R : List En} {k : Nat} (hk : k ≤ 5) {q : P4} (hq : q.Ok) : jG4 (jJ8 (kG5 L R k) q) = 0 := by
 obtain ⟨z1, z2, z3⟩ := z_ok hok
 have := hq.a; have := hq.b; have := hq.c; have := hq.d
 have hf : ∀ f l : Nat, f ≤ 100000 → l ≤ 20000 → kB7 f l = true := fun f l h1 h2 => by
  unfold kB7
  rw [xK _ (by omega)]
  simp
  omega
 unfold jG4
 rw [if_neg, if_neg, if_neg, if_neg, if_neg]
 ·exact vK1 (lo := -900000000) (hi := 900000000) (a := -850511287) (b := 850511287) (c := 0) (by omega)
 ·exact vK1 (lo := -1800000000) (hi := 1800000000) (a := -1800000000) (b := 1800000000) (c := 0) (by omega)
 ·exact vK1 (lo := 0) (hi := 26) (a := zLo L) (b := zHi L) (c := zLo L) (by omega)
 ·show ¬ ((decide (4 < 1) || decide (4 < 1) || decide (5 < k)) = true)
  simp
  omega
 ·simp only [kG4, jJ8, layH, wA5]
  rw [hf _ _ (by omega) (by omega), hf _ _ (by omega) (by omega), hf _ _ (by omega) (by omega), hf _ _ (by omega) (by omega)]
  decide
structure Sm (L : List It) (p : Pn) : Prop where
 ok : ChOk L
 len : L.length ≤ 100
 by_ : kR7 L ≤ 10000
 b : 512 ≤ p.b ∧ p.b ≤ 16257
 k : p.k ≤ 5
 note : vV4 p.note
 nl : p.note.length ≤ 4096
structure PrIs (L : List It) (p : Pn) : Prop where
 ok : PrOk L p
 e : prE L p = 0
 t : prT L p = encV (jJ8 (prH L p) (prP L p)) ++ (prP L p).all
 cut : cutE (prT L p) = 0 ∧ cutH (prT L p) = jJ8 (prH L p) (prP L p) ∧ cutP (prT L p) = prP L p
 dec : ∃ M n, decQ (prP L p).a = (M, n, 0) ∧ jT0 M (prP L p).c = (prR L, 0)
 len : (prT L p).length ≤ 60000
theorem Sm.pr {L : List It} {p : Pn} (h : Sm L p) : PrIs L p := by
 have hw := wW7 h.ok
 have hR := yI4 h.ok
 have hE : jF5 (prR L) := hw.ens
 have hs := yB1 h.ok h.len h.b
 have hlen := h.len
 have hby := h.by_
 have hbb := h.b
 have hnl := h.nl
 have hD : (prD L).length ≤ 10000 := by
  have h1 := wC4 L []
  unfold prD
  rw [hw.fl.symm]
  unfold tsS
  simp only [List.flatten_nil, lF] at h1
  omega
 obtain ⟨M, s, m, e, hsp⟩ : ∃ M s m e, prS L p.b = (M, s, m, e) := ⟨_, _, _, _, rfl⟩
 rw [hsp] at hs
 obtain rfl : e = 0 := hs
 obtain ⟨b1, b2, ⟨S, b3, b4⟩, b5, _, _, _, b6⟩ := vZ3 hE hsp
 have hP : prP L p = ⟨S, p.note, s, prD L⟩ := by unfold prP; rw [hsp, b3]
 have hPok : (prP L p).Ok := by
  rw [hP]
  exact ⟨by show S.length ≤ 20000; omega, by show p.note.length ≤ 20000; omega, by show s.length ≤ 20000; omega, by show (prD L).length ≤ 20000; omega⟩
 have hPr : PrOk L p := ⟨h.ok, h.b, h.k, h.note, hPok, by rw [hsp]; exact ⟨by show M.length ≤ 10000; omega, b1⟩, by omega, hE⟩
 have hc : jG4 (jJ8 (prH L p) (prP L p)) = 0 := yD8 h.ok (R := prR L) h.k hPok
 have he : prE L p = 0 := by
  unfold prE
  rw [hsp, if_neg (by simp), b3, if_neg (by simp)]
  exact hc
 have ht : prT L p = encV (jJ8 (prH L p) (prP L p)) ++ (prP L p).all := by
  unfold prT
  rw [if_pos he]
  unfold vF1
  rw [if_pos hc]
 have hho : (prH L p).Ok := vS4 (by omega) (by omega) h.k
 have hcut := yE6 (prH L p) hho (prP L p) hPok hc []
 rw [lH, ← ht] at hcut
 refine ⟨hPr, he, ht, hcut, ?_, ?_⟩
 ·obtain ⟨c1, c2, c3⟩ := kY9 (L := M) (by rw [b3])
  have hS : S = allB (jF4 M) := by rw [b3] at c3; exact congrArg Prod.fst c3
  have hd := vT5 b1 c1 [] (by simp; omega)
  rw [lH, ← hS] at hd
  rw [hP]
  exact ⟨M, _, hd, b5⟩
 ·rw [ht, lN, wQ3 hc]
  have := hPok.a; have := hPok.b; have := hPok.c; have := hPok.d
  have hq : (prP L p).all.length = (prP L p).a.length + (prP L p).b.length + (prP L p).c.length + (prP L p).d.length := by simp only [P4.all, lN]
  rw [hq, hP]
  simp only
  omega
theorem PrIs.rows {L : List It} {p : Pn} (h : PrIs L p) : nrE (prT L p) = 0 ∧ nrL (prT L p) = prR L ∧ nrT (prT L p) = prD L := by
 obtain ⟨M, n, d1, d2⟩ := h.dec
 obtain ⟨c1, c2, c3⟩ := h.cut
 have he : nrE (prT L p) = 0 := by
  unfold nrE
  rw [if_pos c1, c3, d1, if_pos rfl, d2]
  rfl
 refine ⟨he, ?_, ?_⟩
 ·unfold nrL
  rw [if_pos he, c3, d1, d2]
 ·unfold nrT
  rw [if_pos he, c3]
  rfl
theorem PrIs.read {L : List It} {p : Pn} (h : PrIs L p) : rdK8 (prT L p) = 0 ∧ rdO (prT L p) = L := by
 obtain ⟨h1, h2, h3⟩ := h.rows
 have hb := (wW7 h.ok.ok).back h.ok.ok
 have hb' : mbQ (prR L) (prD L) = (0, L) := hb
 unfold rdK8 rdO
 rw [if_pos h1, if_pos h1, h2, h3, hb']
 exact ⟨rfl, rfl⟩
end
section
open Go.RowKit
theorem jP3 {P : Program} {f : FuncId} {vs : List Value} {H : Heap} {R R' : Value → Heap → Prop} (h : Fn P f vs H R) (hm : ∀ v H', R v H' → R' v H') : Fn P f vs H R' :=
 ⟨h.1, fun w hw => (h.2 w hw).mono fun e w' he => by
  obtain ⟨v, H', h1, h2, h3⟩ := he
  exact ⟨v, H', h1, hm v H' h2, h3⟩⟩
section
variable {P : Program} {N : Frm} {w0 : World} {Wr : List Nat} {ops : Array Oper} {rest : List Oper} {fr : Fr} {H : Heap} {Z : Fr → Heap → Prop}
variable {d ty : Nat} {pos : String} {after : Array Edge}
theorem wY2 {t t' : TypeId} {x : Operand} {ms} (ht : P.underlying t = some (.interface ms)) (hx : ev fr x = some .nilIface) (hN : bN d N)
  (h : sx P N w0 Wr ops rest ((d, .bool false) :: fr) H Z) : sx P N w0 Wr ops (⟨some d, .binOp .neq t x (.const .nilIface) t', ty, pos, after, none⟩ :: rest) fr H Z :=
 jE4 _ hN (fun a w ha _ => by
  have e' : a.eval (.const .nilIface) = .nilIface := rfl
  have hq : (Op.equal t .nilIface .nilIface).run P w = .ok true w := by
   unfold Op.equal Op.maxDepth Op.equalIn
   simp [lJ, run_underlying ht]
  have hg : (eqGuard .neq t x (.const .nilIface) .nilIface .nilIface).run P w = .ok () w := by
   unfold eqGuard
   cases x <;> rfl
  simp only [execOp, ha.eval hx, e', lJ, hg, lR, binOp]
  simp [hq]) h
end
end
section
open Go.RowKit V V.L Y
set_option maxRecDepth 100000
def tpL : List It := [⟨0, [120]⟩]
def tpP : Pn := ⟨512, 0, [123, 125]⟩
theorem zM8 : ChOk tpL := ⟨List.pairwise_singleton _ _, fun e he => by rw [List.mem_singleton.1 he]; decide, fun e he => by rw [List.mem_singleton.1 he]; decide, by decide⟩
theorem tp_sm : Sm tpL tpP := ⟨zM8, by decide, by decide, by decide, by decide, zO0, by decide⟩
theorem zE1 : (prT tpL tpP).length = 135 := by kernel_rfl
theorem tp_of : ofQ tpL = 0 ∧ jR8 tpL = tpL := ⟨by decide, rfl⟩
theorem zB3 (A : Option Addr) (c : Nat) (L : List It) (T : Heap) (hA : jK9 A L.length) (hT : 0 < L.length → T = roE A (jC9 L)) (hro : Ro T) (hL : L.length ≤ 100000) (h : ofQ L = 0) :
  Fn Tryz.prog 14 [.slice A L.length c] T fun v H' => ∃ u, v = .tuple #[.agg #[u], iq 0] ∧ RowOk u (jR8 L).length ∧ H' = rowE u 63 2 (jC9 (jR8 L)) :=
 jP3 (yM2 A c L T hA hT hro hL) fun v H' hh => by
  obtain ⟨u, h1, ⟨_, h2, h3⟩ | ⟨h4, _⟩⟩ := hh
  ·exact ⟨u, by rw [h1, h]; rfl, h2, h3⟩
  ·exact absurd h h4
theorem wC8 : Fn Tryz.prog 5 [] [] fun v _ => v = .bool true := by
 have hpr := tp_sm.pr
 have hlen := zE1
 have hread := hpr.read
 have hplen := hpr.len
 have hpe := hpr.e
 obtain ⟨S, hS⟩ := xZ9 (prT tpL tpP)
 have hof := fun A c T hA hT hro => zB3 A c tpL T hA hT hro (by decide) tp_of.1
 rw [tp_of.2] at hof
 have hps := fun A c T hA hT hro => yB0 A c tpL T hA hT hro tpP hpr.ok
 rw [hpe, hS] at hps
 rw [hS] at hread hlen hplen
 have hnr := yC1 S (by omega)
 rw [hread.1, hread.2] at hnr
 refine fE 44 Tryz.func5 rfl (fun w0 => aA rfl rfl <| aF [] (kF) <| aR (fun Z hZ => jB6 tyZ63 tyP63 ?_))
 refine sBS0 Tryz.underlying56 tyS63 tyZ63 (fun g1 => ?_)
 refine jC6 [.ro g1 0 (jC9 tpL)] (HLe.toRo [] []) <| jO1 [] [.ro g1 0 (jC9 tpL)] [.ro g1 0 (jC9 tpL)] (hof (some ⟨g1, 0, none⟩) 1 _ (fun _ => ⟨_, _, rfl⟩) (fun _ => rfl) (kG (some ⟨g1, 0, none⟩) (jC9 tpL))) rfl (hV _) (xO _) (kG (some ⟨g1, 0, none⟩) (jC9 tpL)) rfl ?_
 rintro v H' ⟨u, rfl, hu, rfl⟩
 rw [jE2]
 obtain ⟨ga, ca, rfl⟩ := hu.some (by decide)
 refine jC6 [.ro ga 0 (jC9 tpL)] ((kA (xE [.ro ga 0 (jC9 tpL)] _)).trans (HLe.rowRo [] _)) <| sM rfl rfl <| sX rfl rfl rfl <| sX rfl rfl rfl <| sAl tyZ58 rfl (fun g2 => sS0 0 tyS58 ?_)
 refine sAN hZ rfl rfl <| f2K 1 2 rfl <| jA7 [.own g2 58 [.slice (some ⟨ga, 0, none⟩) 1 ca], .ro ga 0 (jC9 tpL)] (hV _) <| aR (fun Z hZ => sLA0 0 tyA58 tyS58 ?_)
 refine jB6 tyZ66 tyP66 ?_
 refine jD7 [.ro ga 0 (jC9 tpL)] (hps (some ⟨ga, 0, none⟩) ca _ (fun _ => ⟨_, _, rfl⟩) (fun _ => rfl) (kG (some ⟨ga, 0, none⟩) (jC9 tpL))) rfl (lX [_] [_]) (kG (some ⟨ga, 0, none⟩) (jC9 tpL)) rfl <| sM rfl rfl <| sX rfl rfl rfl <| sX rfl rfl rfl <| sA rfl rfl <| sAN hZ rfl rfl <| f4K 1 2 3 4 rfl <| aR fun Z hZ => sM rfl rfl <| jB4 [] _ hnr rfl (hV _) rfl ?_
 rintro v H' ⟨u, rfl, hu, rfl⟩
 rw [jE2]
 obtain ⟨gb, cb, rfl⟩ := hu.some (by decide)
 refine jC6 [.ro gb 0 (jC9 tpL), .own g2 58 [.slice (some ⟨ga, 0, none⟩) 1 ca], .ro ga 0 (jC9 tpL)] (HLe.rowRo [] _) <| sM rfl rfl <| sX rfl rfl rfl <| sX rfl rfl rfl <| sAl tyZ58 rfl (fun g3 => sS0 0 tyS58 ?_)
 refine sAN hZ rfl rfl <| f6K 1 2 3 4 5 6 rfl <| jA0 [(0, .bool true)] [] (fun Z hZ => ?_) ?_
 ·refine sM rfl rfl <| jB1 ?_
  refine sM rfl rfl <| jB9 26 rfl true (by first | rfl | (simp [hlen]; done)) ?_
  refine sOn0 ?_
  refine sM rfl rfl <| sOn0 ?_
  refine jB1 ?_
  refine sP rfl rfl rfl <| sM rfl rfl <| jB9 30 rfl true (by first | rfl | (simp [hlen]; done)) ?_
  refine sOn0 ?_
  refine sM rfl rfl <| sOn0 ?_
  refine jC8 Tryz.underlying9 rfl rfl <| sOn0 ?_
  refine jB1 ?_
  refine sP rfl rfl rfl <| sM rfl rfl <| jB9 35 rfl true (by first | rfl | (simp [hlen]; done)) ?_
  refine sOn0 ?_
  refine sM rfl rfl <| sOn0 ?_
  refine jB1 ?_
  refine sP rfl rfl rfl <| sM rfl rfl <| jB9 39 rfl true (by first | rfl | (simp [hlen]; done)) ?_
  refine sOn0 ?_
  refine sLA0 2 tyA58 tyS58 ?_
  refine sOn0 ?_
  refine sLA0 0 tyA58 tyS58 ?_
  refine sOn0 ?_
  refine jO0 ([.ro ga 0 (jC9 tpL)] ++ [.ro gb 0 (jC9 tpL)]) (yF7 (some ⟨ga, 0, none⟩) ca tpL _ (fun _ => ⟨_, _, rfl⟩) (fun _ => rfl) (kG (some ⟨ga, 0, none⟩) (jC9 tpL)) (by decide) (some ⟨gb, 0, none⟩) cb tpL _ (fun _ => ⟨_, _, rfl⟩) (fun _ => rfl) (kG (some ⟨gb, 0, none⟩) (jC9 tpL)) (by decide)) rfl (pH [3, 1] rfl) ((kG (some ⟨ga, 0, none⟩) (jC9 tpL)).append (kG (some ⟨gb, 0, none⟩) (jC9 tpL))) rfl ?_
  rw [show jW7 tpL tpL = true from by decide]
  refine sP rfl rfl rfl <| sA rfl rfl <| sN (hZ _ _ ?_ ?_)
  ·exact kE rfl kF
  ·exact kA (lO _)
 refine aE <| nR10 rfl
end
section
open Go.RowKit
abbrev Bs := List UInt8
def plB (c : UInt8) : Bool := Nat.beq c.toNat 9 || (Nat.ble 32 c.toNat && Nat.ble c.toNat 126)
def PlL (l : Bs) : Prop := l.all plB = true
theorem PlL.app {a b : Bs} (ha : PlL a) (hb : PlL b) : PlL (a ++ b) := by unfold PlL at *; rw [List.all_append, ha, hb]; rfl
theorem PlL.mem {a : Bs} (ha : PlL a) {b : UInt8} (hb : b ∈ a) : plB b = true := List.all_eq_true.1 ha b hb
theorem PlL.at {a : Bs} (ha : PlL a) {i : Nat} {b : UInt8} (hb : a[i]? = some b) : plB b = true := ha.mem (xN hb)
def hbp (L : List Bs) : Bs := L.flatMap (fun l => l ++ [13, 10])
def hdB (L : List Bs) : Bs := hbp L ++ [13, 10]
theorem vS6 (l : Bs) (L : List Bs) : hbp (l :: L) = l ++ 13 :: 10 :: hbp L := by simp [hbp]
theorem vL2 (A B : List Bs) : hbp (A ++ B) = hbp A ++ hbp B := by simp [hbp]
theorem jS2 (l : Bs) (L : List Bs) : hdB (l :: L) = l ++ 13 :: 10 :: hdB L := by simp [hdB, vS6]
theorem kM6 : hdB [] = [13, 10] := rfl
theorem vS5 {L : List Bs} {i : Nat} {l : Bs} (h : L[i]? = some l) : hbp (L.take (i + 1)) = hbp (L.take i) ++ (l ++ [13, 10]) := by
 obtain ⟨hlt, rfl⟩ := List.getElem?_eq_some_iff.1 h
 rw [qC hlt, vL2]
 simp [hbp]
theorem yE0 {L : List Bs} {i : Nat} {l : Bs} (h : L[i]? = some l) : hdB (L.drop i) = l ++ 13 :: 10 :: hdB (L.drop (i + 1)) := by
 obtain ⟨hlt, rfl⟩ := List.getElem?_eq_some_iff.1 h
 rw [zA hlt, jS2]
theorem vE8 (L : List Bs) (i : Nat) : hdB L = hbp (L.take i) ++ hdB (L.drop i) := by
 unfold hdB
 rw [← xD, ← vL2, zZ]
structure LnOk (l : Bs) : Prop where
 pl : PlL l
 ne : l ≠ []
 le : l.length ≤ 256
abbrev dd (n : Nat) : Bs := Lib.decDigits n
theorem jL5 {n : Nat} (h : n < 10) : dd n = [UInt8.ofNat (48 + n)] := by unfold dd; rw [Lib.decDigits, dif_pos h]
theorem jX0 {n : Nat} (h : ¬ n < 10) : dd n = dd (n / 10) ++ [UInt8.ofNat (48 + n % 10)] := by unfold dd; rw [Lib.decDigits, dif_neg h]
def digB (c : UInt8) : Bool := Nat.ble 48 c.toNat && Nat.ble c.toNat 57
theorem wQ7 {k : Nat} (h : k < 10) : digB (UInt8.ofNat (48 + k)) = true := by
 have : (UInt8.ofNat (48 + k)).toNat = 48 + k := by rw [UInt8.toNat_ofNat']; omega
 simp only [digB, this, xM, Nat.ble_eq]
 omega
theorem kR6 (n : Nat) : (dd n).all digB = true := by
 induction n using Nat.strongRecOn with
 | _ n ih =>
  by_cases h : n < 10
  ·rw [jL5 h, List.all_cons, wQ7 h]; rfl
  ·rw [jX0 h, List.all_append, ih (n / 10) (by omega), List.all_cons, wQ7 (by omega)]; rfl
theorem zA1 {c : UInt8} (h : digB c = true) : plB c = true := by
 simp only [digB, xM, Nat.ble_eq] at h
 simp only [plB, zB, xM, Nat.ble_eq]
 exact .inr (by omega)
theorem vZ1 (n : Nat) : PlL (dd n) := List.all_eq_true.2 fun b hb => zA1 (List.all_eq_true.1 (kR6 n) b hb)
theorem zA7 (n : Nat) : dd n ≠ [] := by
 by_cases h : n < 10
 ·rw [jL5 h]; simp
 ·rw [jX0 h]; simp
theorem kG0 : ∀ (k n : Nat), n < 10 ^ (k + 1) → (dd n).length ≤ k + 1
 | 0, n, h => by rw [jL5 (by omega)]; simp
 | k + 1, n, h => by
  by_cases hn : n < 10
  ·rw [jL5 hn]; simp
  ·rw [jX0 hn, lN]
   have := kG0 k (n / 10) (by rw [qV] at h; omega)
   simp only [List.length_cons, List.length_nil]
   omega
theorem zA5 (n : Nat) : (dd n)[0]? = some 48 → n = 0 := by
 induction n using Nat.strongRecOn with
 | _ n ih =>
  by_cases h : n < 10
  ·rw [jL5 h]
   intro h2
   have h3 := congrArg UInt8.toNat (lV h2)
   have : (UInt8.ofNat (48 + n)).toNat = 48 + n := by rw [UInt8.toNat_ofNat']; omega
   rw [this] at h3
   simp at h3
   omega
  ·intro h2
   rw [jX0 h, qE (List.length_pos_iff.2 (zA7 _))] at h2
   have := ih (n / 10) (by omega) h2
   omega
theorem yK0 : ∀ (l : Bs) (acc : Nat) (c : UInt8), Lib.parseUint10 acc (l ++ [c]) = match Lib.parseUint10 acc l with | .ok u => Lib.parseUint10 u [c] | Lib.NumEnd.syntax => Lib.NumEnd.syntax | .range => .range
 | [], acc, c => rfl
 | x :: l, acc, c => by
  simp only [lL, Lib.parseUint10]
  split
  ·split
   ·rfl
   ·split
    ·rfl
    ·exact yK0 l _ c
  ·rfl
theorem zN1 (n : Nat) : n < 9223372036854775808 → Lib.parseUint10 0 (dd n) = .ok n := by
 induction n using Nat.strongRecOn with
 | _ n ih =>
  intro hn
  have hd : ∀ k, k < 10 → (UInt8.ofNat (48 + k)).toNat = 48 + k := fun k hk => by rw [UInt8.toNat_ofNat']; omega
  by_cases h : n < 10
  ·rw [jL5 h, Lib.parseUint10, hd n h, if_pos (by omega), if_neg (by omega), if_neg (by omega), Lib.parseUint10]
   congr 1
   omega
  ·rw [jX0 h, yK0, ih (n / 10) (by omega) (by omega)]
   simp only
   rw [Lib.parseUint10, hd (n % 10) (by omega), if_pos (by omega), if_neg (by omega), if_neg (by omega), Lib.parseUint10]
   congr 1
   omega
theorem wR2 (n : Nat) : ∃ c r, dd n = c :: r ∧ 48 ≤ c.toNat ∧ c.toNat ≤ 57 := by
 obtain ⟨c, r, h⟩ := List.exists_cons_of_ne_nil (zA7 n)
 have := kR6 n
 rw [h, List.all_cons, xM] at this
 have := this.1
 simp only [digB, xM, Nat.ble_eq] at this
 exact ⟨c, r, h, this.1, this.2⟩
theorem yM9 (n : Nat) (hn : n < 9223372036854775808) : Lib.atoiAll (dd n) = .ok (n : Int) := by
 obtain ⟨c, r, h, h1, h2⟩ := wR2 n
 have hp := zN1 n hn
 rw [h] at hp ⊢
 have hm : Lib.parseMag (c :: r) = .ok n := by unfold Lib.parseMag; rw [if_neg (by simp), hp]
 simp only [Lib.atoiAll]
 rw [if_neg (by omega), hm]
 simp only
 rw [if_neg (by omega), if_neg (by omega), if_neg (by omega)]
end
section
open Go.RowKit
set_option maxRecDepth 100000
theorem hpf0 : Lays.n99 Tryz.prog jI8 := by repeat' first | kernel_rfl | (intro w; kernel_rfl) | constructor
theorem cpf0 : Lays.n103 Tryz.prog jI8 := by repeat' first | kernel_rfl | (intro w; kernel_rfl) | constructor
theorem trm0 : Lays.n160 Tryz.prog jI8 := by repeat' first | kernel_rfl | (intro w; kernel_rfl) | constructor
theorem trr0 : Lays.n162 Tryz.prog jI8 := by repeat' first | kernel_rfl | (intro w; kernel_rfl) | constructor
theorem ixs0 : Lays.n219 Tryz.prog jI8 := by repeat' first | kernel_rfl | (intro w; kernel_rfl) | constructor
def yW7 : Go.Shelf.Ren := ⟨fun n => match n with | 0 => 0 | 1 => 1 | 2 => 2 | 15 => 185 | 20 => 236 | 22 => 198 | 23 => 200 | 24 => 245 | 25 => 247 | 26 => 307 | 27 => 308 | 28 => 309 | 29 => 310 | 30 => 311 | 31 => 312 | 32 => 313 | 33 => 314 | 34 => 315 | 35 => 316 | 36 => 317 | 37 => 318 | 38 => 319 | 39 => 322 | 40 => 323 | 41 => 333 | 42 => 365 | _ => 0, fun n => match n with | 0 => 0 | 1 => 1 | 2 => 2 | 3 => 3 | 4 => 4 | 5 => 5 | 6 => 6 | 7 => 7 | 8 => 8 | 9 => 9 | 10 => 10 | 11 => 11 | 12 => 12 | 13 => 13 | 14 => 14 | 15 => 15 | 16 => 16 | 17 => 17 | 18 => 18 | 19 => 19 | 20 => 20 | 21 => 21 | 23 => 243 | 24 => 43 | 26 => 324 | 27 => 410 | 28 => 242 | 29 => 338 | 30 => 363 | 31 => 336 | 32 => 337 | 33 => 153 | 34 => 401 | 35 => 172 | 36 => 402 | 37 => 403 | 38 => 404 | 39 => 84 | 40 => 429 | 41 => 430 | 42 => 431 | 43 => 432 | 44 => 433 | 45 => 213 | 46 => 180 | 47 => 435 | 48 => 166 | 49 => 436 | 50 => 143 | 51 => 437 | 52 => 438 | 53 => 439 | 54 => 440 | 55 => 158 | _ => 0, fun n => match n with | 0 => 2 | 1 => 3 | _ => 0⟩
theorem ixf0 : LaysGw.n15 Tryz.prog yW7 := by repeat' first | kernel_rfl | (intro w; kernel_rfl) | constructor
theorem spl0 : Lays.n221 Tryz.prog jI8 := by repeat' first | kernel_rfl | (intro w; kernel_rfl) | constructor
theorem cnt0 : Lays.n138 Tryz.prog jI8 := by repeat' first | kernel_rfl | (intro w; kernel_rfl) | constructor
theorem ixo0 : Lays.n143 Tryz.prog jI8 := by repeat' first | kernel_rfl | (intro w; kernel_rfl) | constructor
theorem ato0 : LaysC.n172 Tryz.prog jI8 := by repeat' first | kernel_rfl | (intro w; kernel_rfl) | constructor
theorem ito0 : Lays.n171 Tryz.prog jI8 := by repeat' first | kernel_rfl | (intro w; kernel_rfl) | constructor
theorem wP6 : Enters Tryz.prog 184 := Enters.mk Tryz.func184 (by kernel_rfl) (by kernel_rfl)
theorem wP7 : Enters Tryz.prog 140 := Enters.mk Tryz.func140 (by kernel_rfl) (by kernel_rfl)
theorem wO7 : Enters Tryz.prog 74 := Enters.mk Tryz.func74 (by kernel_rfl) (by kernel_rfl)
theorem wO6 : Enters Tryz.prog 75 := Enters.mk Tryz.func75 (by kernel_rfl) (by kernel_rfl)
theorem wP2 : Enters Tryz.prog 249 := Enters.mk Tryz.func249 (by kernel_rfl) (by kernel_rfl)
theorem wP3 : Enters Tryz.prog 185 := Enters.mk Tryz.func185 (by kernel_rfl) (by kernel_rfl)
theorem wO8 : Enters Tryz.prog 237 := Enters.mk Tryz.func237 (by kernel_rfl) (by kernel_rfl)
theorem wP9 : Enters Tryz.prog 191 := Enters.mk Tryz.func191 (by kernel_rfl) (by kernel_rfl)
theorem wP5 : Enters Tryz.prog 68 := Enters.mk Tryz.func68 (by kernel_rfl) (by kernel_rfl)
def kS4 (l : List UInt8) : Prop := ∀ (j : Nat) b, l[j]? = some b → b.toNat < 128
theorem zJ0 (s p : List UInt8) : Fn Tryz.prog 184 [.string (str s), .string (str p)] [] fun v _ => v = .bool (p.isPrefixOf s) :=
 Fn.of_same wP6 fun w => (Any.strings_HasPrefix hpf0 (str s) (str p) w).mono fun e w' ⟨he, hw⟩ => ⟨by rw [he]; simp [str, Lib.hasPrefix], hw.symm⟩
theorem wR9 (s p : List UInt8) : Fn Tryz.prog 140 [.string (str s), .string (str p)] [] fun v _ => v = .tuple #[.string (str (Lib.trimPrefix s p)), .bool (p.isPrefixOf s)] :=
 Fn.of_same wP7 fun w => (Any.strings_CutPrefix cpf0 (str s) (str p) w).mono fun e w' ⟨he, hw⟩ => ⟨by rw [he]; simp [str, Lib.hasPrefix], hw.symm⟩
theorem wC5 (s p : List UInt8) (hs : s.length ≤ 1000000) (hp : p.length ≤ 100) (ha : kS4 p) : Fn Tryz.prog 74 [.string (str s), .string (str p)] [] fun v _ => v = .string (str (Lib.trimS s p)) :=
 Fn.of_bel wO7 fun w => (Any.strings_Trim_laid trm0 (by kernel_rfl) (str s) (str p) w (by show s.length ≤ _; omega) (by show p.length < _; omega) (by simpa [str, kS4] using ha)).mono fun e w' ⟨he, hw⟩ => ⟨by rw [he]; simp [str], hw⟩
theorem zD9 (s p : List UInt8) (hs : s.length ≤ 1000000) (hp : p.length ≤ 100) (ha : kS4 p) : Fn Tryz.prog 75 [.string (str s), .string (str p)] [] fun v _ => v = .string (str (Lib.trimRightS s p)) :=
 Fn.of_bel wO6 fun w => (Any.strings_TrimRight_laid trr0 (by kernel_rfl) (str s) (str p) w (by show s.length ≤ _; omega) (by show p.length < _; omega) (by simpa [str, kS4] using ha)).mono fun e w' ⟨he, hw⟩ => ⟨by rw [he]; simp [str], hw⟩
theorem zI5 (s : List UInt8) (c : UInt8) : Fn Tryz.prog 249 [.string (str s), .string (str [c])] [] fun v _ => v = iq (Lib.indexByte s c) :=
 Fn.of_same wP2 fun w => (Any.stringslite_Index_one ixs0 (str s) c w).mono fun e w' ⟨he, hw⟩ => ⟨by rw [he]; simp [str], hw.symm⟩
theorem yM8 (l : List UInt8) (hl : l.length ≤ 1000000) (n : Int) (h : Lib.atoiAll l = .ok n) : Fn Tryz.prog 191 [.string (str l)] [] fun v _ => v = .tuple #[iq n, .nilIface] :=
 Fn.of_bel wP9 fun w => (Any.strconv_Atoi_ok ato0 (str l) (by show l.length ≤ _; omega) n (by simpa [str] using h) w).mono (by
  rintro e w' ⟨rfl, hw'⟩
  refine ⟨rfl, ?_⟩
  rcases hw' with rfl | ⟨t, rfl⟩
  ·exact Bel.refl _
  ·exact Lib.bytesWorld_below _ _ _)
theorem yX1 (n : Nat) (hn : n < 100) : Fn Tryz.prog 68 [iq (n : Nat)] [] fun v _ => v = .string (str (dd n)) :=
 Fn.of_same wP5 fun w => (Any.strconv_Itoa_small ito0 n hn w).mono fun e w' ⟨he, hw⟩ => ⟨by rw [he]; simp [str], hw.symm⟩
theorem wG8 {w W : World} {T : Heap} (hT : Ro T) (h : Sat w (wrs T) T w) (hb : Below w.heap.size w W) : Sat W (wrs T) T W :=
 ⟨Only.refl _ _, fun e he => ⟨Ent.keep (h.ents e he).1 hb.size (hb.block _ (Ent.lt (h.ents e he).1)), fun hw => by rw [hT e he] at hw; cases hw⟩, h.sep⟩
theorem yJ4 {T : Heap} (hT : Ro T) : wrs T = [] := by simpa [wrs] using hT.wrs []
theorem wL3 (s : List UInt8) (f : FuncId) (caps : List Value) (T : Heap) (hT : Ro T) (p : Nat → Bool) (hE : Enters Tryz.prog f) (hp : ∀ x : Nat, x ≤ 1114111 → Fn Tryz.prog f (.int .i32 (x : Int) :: caps) T fun v _ => v = .bool (p x)) :
  Fn Tryz.prog 185 [.string (str s), .func (.func f) #[] caps.toArray] T fun v _ => v = iq (Lib.idxFunc p true (str s)) := by
 refine ⟨wP3, fun w hw => ?_⟩
 have eg : ∀ args w, (callFunc f args).run Tryz.prog w = .ok (.enter f args) w := by
  obtain ⟨fn, h1, h2, h3⟩ := hE
  cases hb : fn.body with
  | none => rw [hb] at h3; cases h3
  | some c => exact enters_of h1 h2 hb
 refine (Any.strings_IndexFunc_grows ixf0 f caps.toArray eg p (str s) w fun W x hx hb => ?_).mono ?_
 ·have h := (hp x hx).2 W (wG8 hT hw hb)
  have e0 : (Value.int .i32 (x : Int) :: caps).toArray = #[Value.int .i32 (x : Int)] ++ caps.toArray := by simp
  rw [e0] at h
  refine h.mono ?_
  rintro e w' ⟨v, H', rfl, rfl, hS⟩
  have := hS.only
  rw [yJ4 hT] at this
  exact ⟨rfl, this.bel⟩
 ·rintro e w' ⟨rfl, hb⟩
  exact ⟨_, [], rfl, rfl, ⟨Only.of_bel hb, by simp, qR⟩⟩
end
section
open Go.RowKit
theorem wE6 {s : Bs} {i : Nat} {b : UInt8} (hb : s[i]? = some b) : ∃ h : i < (str s).size, ((str s)[i]'h).toNat = b.toNat := by
 obtain ⟨hlt, rfl⟩ := List.getElem?_eq_some_iff.1 hb
 exact ⟨by rw [str_size]; exact hlt, rfl⟩
theorem vS0 (p : Nat → Bool) (s : Bs) (h : ∀ b ∈ s, b.toNat < 128 ∧ p b.toNat = false) : ∀ f i, Lib.idxFuncFrom p true (str s) f i = -1
 | 0, _ => rfl
 | f + 1, i => by
  unfold Lib.idxFuncFrom
  split
  ·rename_i hi
   rw [str_size] at hi
   obtain ⟨h1, h2⟩ := wE6 (xF hi)
   have h3 := h _ (zQ hi)
   rw [decode_ascii _ _ h1 (by rw [h2]; exact h3.1), h2]
   simp only [h3.2, zV, if_false]
   exact vS0 p s h f _
  ·rfl
theorem vK9 {p : Nat → Bool} {s : Bs} (h : ∀ b ∈ s, b.toNat < 128 ∧ p b.toNat = false) : Lib.idxFunc p true (str s) = -1 := vS0 p s h _ _
theorem vS1 (p : Nat → Bool) (s : Bs) (hp : ∀ x, 128 ≤ x → p x = true) : ∀ f i, s.length ≤ i + f → Lib.idxFuncFrom p true (str s) f i < 0 → ∀ j b, i ≤ j → s[j]? = some b → b.toNat < 128 ∧ p b.toNat = false
 | 0, i, hf, _, j, b, hj, hb => by have := (List.getElem?_eq_some_iff.1 hb).1; omega
 | f + 1, i, hf, h, j, b, hj, hb => by
  have hl := (List.getElem?_eq_some_iff.1 hb).1
  have hi : i < s.length := by omega
  obtain ⟨h1, h2⟩ := wE6 (xF hi)
  unfold Lib.idxFuncFrom at h
  rw [if_pos (by rw [str_size]; exact hi)] at h
  by_cases ha : ((str s)[i]'h1).toNat < 128
  ·rw [decode_ascii _ _ h1 ha] at h
   simp only at h
   by_cases hq : p ((str s)[i]'h1).toNat = true
   ·rw [if_pos hq] at h; omega
   ·rw [if_neg hq] at h
    by_cases hij : j = i
    ·subst hij
     rw [xF hi] at hb
     obtain rfl := lV hb
     rw [h2] at ha hq
     exact ⟨ha, by simpa using hq⟩
    ·exact vS1 p s hp f (i + 1) (by omega) h j b (by omega) hb
  ·have hd := decode_high _ _ h1 (by omega)
   rw [if_pos (hp _ hd.1)] at h
   omega
theorem wL2 {p : Nat → Bool} {s : Bs} (hp : ∀ x, 128 ≤ x → p x = true) (h : Lib.idxFunc p true (str s) < 0) : ∀ b ∈ s, b.toNat < 128 ∧ p b.toNat = false := fun b hb => by
 obtain ⟨j, hj⟩ := List.getElem?_of_mem hb
 exact vS1 p s hp _ 0 (by rw [str_size]; omega) h j b (lZ _) hj
theorem yL0 (p : Nat → Bool) (s : Bs) : -1 ≤ Lib.idxFunc p true (str s) ∧ Lib.idxFunc p true (str s) ≤ s.length := by
 rcases Lib.idxFunc_range p true (str s) with h | ⟨h1, h2⟩
 ·rw [h]; omega
 ·rw [str_size] at h2; omega
def labs (J : Nat → Act → World → Prop) (Q : Exit → Act → World → Prop) : Exit → Act → World → Prop
 | .goto l, a, w => J l a w
 | e, a, w => Q e a w
def labX (c : Code) (l : Nat) : Code := match findLabel c l with | some (.seq .skip x) => x | _ => .skip
section
variable {P : Program} {N : Frm} {n : Nat} {ds : List Mk} {w0 : World} {Wr : List Nat} {fr : Fr} {H : Heap} {Q : Exit → Act → World → Prop} {J : Nat → Act → World → Prop}
theorem yO2 {c : Code} {ι : Type} (L : ι → Nat) (K : ι → Act → World → Prop) (I : ι → Prop) (μ : ι → Nat) (R : ι → Code) (hR : ∀ i, I i → findLabel c (L i) = some (R i)) {a : Act} {w : World}
  (first : c.wp P (labs (fun l a w => ∃ j, I j ∧ L j = l ∧ K j a w) Q) a w)
  (pass : ∀ i, I i → ∀ a w, K i a w → (R i).wp P (labs (fun l a w => ∃ j, I j ∧ μ j < μ i ∧ L j = l ∧ K j a w) Q) a w) : (Code.scope c).wp P Q a w := by
 intro b k cs
 have key : ∀ n i a w, μ i = n → I i → K i a w → ∃ e a' w', Q e a' w' ∧ Arrives P (lone (b.at a (.code (R i) :: .inScope c :: k)) cs w) b k cs e a' w' := by
  intro n
  induction n using Nat.strongRecOn with
  | _ n ih =>
   intro i a w hn hI hK
   obtain ⟨e, a₁, w₁, hq, harr⟩ := pass i hI a w hK b (.inScope c :: k) cs
   cases e with
   | normal => exact ⟨.normal, a₁, w₁, hq, Steps.trans harr (.one step_inScope)⟩
   | exit id => exact ⟨.exit id, a₁, w₁, hq, fun k' hk => harr k' (by simp [exitTo, hk])⟩
   | goto l' =>
    obtain ⟨j, hj, hlt, rfl, hKj⟩ := hq
    obtain ⟨e₂, a₂, w₂, hq₂, harr₂⟩ := ih (μ j) (hn ▸ hlt) j a₁ w₁ rfl hj hKj
    exact ⟨e₂, a₂, w₂, hq₂, .of_steps (harr _ (by simp [gotoIn, hR j hj])) harr₂⟩
   | ret => exact ⟨_, a₁, w₁, hq, harr⟩
   | panic ch => exact ⟨_, a₁, w₁, hq, harr⟩
   | outgrown => exact ⟨_, a₁, w₁, hq, harr⟩
 obtain ⟨e, a₁, w₁, hq, harr⟩ := first b (.inScope c :: k) cs
 cases e with
 | normal => exact ⟨.normal, a₁, w₁, hq, .head step_scope (Steps.trans harr (.one step_inScope))⟩
 | exit id => exact ⟨.exit id, a₁, w₁, hq, fun k' hk => .head step_scope (harr k' (by simp [exitTo, hk]))⟩
 | goto l' =>
  obtain ⟨j, hj, rfl, hKj⟩ := hq
  obtain ⟨e₂, a₂, w₂, hq₂, harr₂⟩ := key _ j a₁ w₁ rfl hj hKj
  exact ⟨e₂, a₂, w₂, hq₂, .of_steps (.head step_scope (harr _ (by simp [gotoIn, hR j hj]))) harr₂⟩
 | ret => exact ⟨_, a₁, w₁, hq, .of_steps (.one step_scope) harr⟩
 | panic ch => exact ⟨_, a₁, w₁, hq, .of_steps (.one step_scope) harr⟩
 | outgrown => exact ⟨_, a₁, w₁, hq, .of_steps (.one step_scope) harr⟩
theorem yG6 {c : Code} {ι : Type} (L : ι → Nat) (F : ι → Fr) (HH : ι → Heap) (I : ι → Prop) (μ : ι → Nat) (hR : ∀ i, I i → findLabel c (L i) = some (.seq .skip (labX c (L i))))
  (pass : ∀ i, I i → awp P ⟨n, none, ds⟩ w0 Wr (labX c (L i)) (F i) (HH i) (labs (fun l a w => ∃ j, I j ∧ μ j < μ i ∧ L j = l ∧ FrOk ⟨n, none, ds⟩ (F j) a ∧ Sat w0 Wr (HH j) w) Q))
  (first : (∀ i, I i → awp P ⟨n, none, ds⟩ w0 Wr (labX c (L i)) (F i) (HH i) (labs (fun l a w => ∃ j, I j ∧ L j = l ∧ FrOk ⟨n, none, ds⟩ (F j) a ∧ Sat w0 Wr (HH j) w) Q)) →
   awp P ⟨n, none, ds⟩ w0 Wr c fr H (labs (fun l a w => ∃ j, I j ∧ L j = l ∧ FrOk ⟨n, none, ds⟩ (F j) a ∧ Sat w0 Wr (HH j) w) Q)) : awp P ⟨n, none, ds⟩ w0 Wr (.scope c) fr H Q := fun a w ha hw _ => by
 refine wpIn_wide.2 (yO2 (K := fun j a w => FrOk ⟨n, none, ds⟩ (F j) a ∧ Sat w0 Wr (HH j) w) L I μ _ hR ?_ fun i hI a w hK => kS8 (aS (aK (nN (pass i hI))) a w hK.1 hK.2))
 refine kS8 (first (fun i hI a w hf hs => kS9 (fun e a w hq => ?_) (pass i hI a w hf hs)) a w ha hw)
 cases e with
 | goto l => obtain ⟨j, hj, _, h⟩ := hq; exact ⟨j, hj, h⟩
 | _ => exact hq
theorem kZ8 {l : Nat} (h : nx N w0 Wr fr H Q (.goto l)) : awp P N w0 Wr (.goto l) fr H Q := fun a w ha hw _ => wpIn_goto (h a w ha hw)
theorem jU7 {K : Act → World → Prop} {l : Nat} (h : nx N w0 Wr fr H Q (.goto l)) : nx N w0 Wr fr H (Exit.then K Q) (.goto l) := h
theorem kX3 {id l : Nat} (h : nx N w0 Wr fr H Q (.goto l)) : nx N w0 Wr fr H (Exit.inBlock id Q) (.goto l) := h
theorem kM1 (h : nx N w0 Wr fr H Q .ret) : nx N w0 Wr fr H (labs J Q) .ret := h
theorem vK3 {ι : Type} {L : ι → Nat} {F : ι → Fr} {HH : ι → Heap} {I : ι → Prop} {μ : ι → Nat} {i : ι} {l : Nat} (j : ι) (hI : I j) (hμ : μ j < μ i) (hL : L j = l) (hF : Kn (F j) fr) (hH : HLe (HH j) H) :
  nx N w0 Wr fr H (labs (fun l a w => ∃ j, I j ∧ μ j < μ i ∧ L j = l ∧ FrOk N (F j) a ∧ Sat w0 Wr (HH j) w) Q) (.goto l) := fun a w ha hw => ⟨j, hI, hμ, hL, ha.kn hF, hH _ _ _ hw⟩
theorem wT8 {c : Code} (fr' : Fr) (H' : Heap) (hk : Kn fr' fr) (hH : HLe H' H) (h : awp P N w0 Wr c fr' H' Q) : awp P N w0 Wr c fr H Q := fun a w ha hw => h a w (ha.kn hk) (hH _ _ _ hw)
end
end
section
open Go.RowKit
set_option maxRecDepth 100000
theorem yK7 (c : UInt8) : Fn Tryz.prog 77 [ub c.toNat] [] fun v _ => v = .bool (plB c) := by
 obtain ⟨n, hn⟩ := xZ9 (c.toNat)
 have hq : plB c = (Nat.beq n 9 || (Nat.ble 32 n && Nat.ble n 126)) := by rw [← hn]; rfl
 rw [hq, hn]
 refine fE 13 Tryz.func77 rfl (fun w0 => aA rfl rfl <| f1K 0 rfl <| jA0 [(2, .bool (Nat.beq n 9 || (Nat.ble 32 n && Nat.ble n 126)))] [] (fun Z hZ => ?_) ?_)
 ·refine sM rfl rfl <| jB1 ?_
  refine sM rfl rfl <| jB3 5 rfl (fun hb2 => ?_) (fun hb2 => ?_)
  ·refine sO0 ?_
   refine sO0 ?_
   refine sO0 ?_
   refine jU0 rfl rfl rfl rfl <| jU0 rfl rfl rfl rfl <| sO0 ?_
   refine sP rfl rfl rfl <| sA rfl rfl <| sN (hZ _ _ ?_ ?_)
   ·exact kE (congrArg some (congrArg Value.bool (by first | rfl | (exfalso; simp at *; omega) | (simp at *; done) | (simp at *; omega) | (rw [lS]; simp at *; omega)))) kF
   ·exact hV _
  ·refine sOn0 ?_
   refine sM rfl rfl <| sOn0 ?_
   refine jH7 rfl rfl rfl <| sOn0 ?_
   refine sM rfl rfl <| jB3 8 rfl (fun hb5 => ?_) (fun hb5 => ?_)
   ·refine sOn0 ?_
    refine sM rfl rfl <| sOn0 ?_
    refine jI2 rfl rfl rfl <| sOn0 ?_
    refine sP rfl rfl rfl <| sP rfl rfl rfl <| sA rfl rfl <| sN (hZ _ _ ?_ ?_)
    ·exact kE (congrArg some (congrArg Value.bool (by first | rfl | (exfalso; simp at *; omega) | (simp at *; done) | (simp at *; omega) | (rw [lS]; simp at *; omega)))) kF
    ·exact hV _
   ·refine sO0 ?_
    refine sO0 ?_
    refine sOn0 ?_
    refine sP rfl rfl rfl <| sP rfl rfl rfl <| sA rfl rfl <| sN (hZ _ _ ?_ ?_)
    ·exact kE (congrArg some (congrArg Value.bool (by first | rfl | (exfalso; simp at *; omega) | (simp at *; done) | (simp at *; omega) | (rw [lS]; simp at *; omega)))) kF
    ·exact hV _
 refine aE <| nR10 rfl
theorem zK4 {s R : Bs} {a j : Nat} (h : s.drop a = R) : s[a + j]? = R[j]? := by rw [← h, zJ]
theorem zM3 {R u X : Bs} (h : R ++ u = X) {j : Nat} (hj : j < R.length) : R[j]? = X[j]? := by rw [← h, qE hj]
theorem wC9 (s : Bs) (a : Nat) (l R u v : Bs) (hs : s.length ≤ 1000000) (hR : s.drop a = R) (ha : a ≤ s.length) (hl : PlL l) (h256 : l.length ≤ 256) (hc : R ++ u = l ++ 13 :: 10 :: v) :
  Fn Tryz.prog 116 [.string (str s), iq (a : Nat)] [] fun w _ => w = .tuple #[.string (str (if R.length < l.length + 2 then [] else l)), iq ((if R.length < l.length + 2 then a else a + l.length + 2 : Nat) : Int), iq ((if R.length < l.length + 2 then 3 else 0 : Nat) : Int)] := by
 have hRl : R.length = s.length - a := by rw [← hR, qF]
 refine fE 65 Tryz.func116 rfl (fun w0 => aR fun Z hZ => sA rfl rfl <| sA rfl rfl <| sAN hZ rfl rfl <| f2K 0 1 rfl ?_)
 refine yG6 (ι := Option Nat) (fun o => match o with | some _ => 1 | none => 0) (fun o => match o with | some j => [(0, .string (str s)), (1, iq (a : Nat)), (6, iq 3), (7, iq ((a + j : Nat) : Int))] | none => [(1, iq (a : Nat)), (6, iq 3)]) (fun _ => [])
  (fun o => match o with | some j => j ≤ l.length ∧ j ≤ R.length | none => R.length < l.length + 2) (fun o => match o with | some j => R.length + 2 - j | none => 0) (by rintro (_ | j) _ <;> rfl) ?_ (fun hB => ?_)
 ·rintro (_ | j) hI
  ·simp only at hI
   rw [if_pos hI, if_pos hI, if_pos hI]
   refine aR fun Z hZ => sM rfl rfl <| sM rfl rfl <| sA rfl rfl <| sA rfl rfl <| sAN hZ rfl rfl <| f3K 4 5 6 rfl <| aE ?_
   repeat refine kM1 ?_
   exact jN6 rfl rfl rfl rfl rfl
  obtain ⟨hjl, hjR⟩ := hI
  refine aS <| aR fun Z hZ => sM rfl rfl <| sM rfl rfl <| jC8 Tryz.underlying9 rfl rfl <| jB1 ?_
  refine sN (hZ _ _ <| f5K 0 1 6 7 22 rfl <| aC0 (fun h1 => ?_) (fun h1 => ?_))
  ·have hj : R.length = j := by simp at h1; omega
   refine kZ8 ?_
   repeat refine jU7 ?_
   exact vK3 (i := some j) none (show R.length < l.length + 2 by omega) (show 0 < R.length + 2 - j by omega) rfl (kR rfl) (hV _)
  have hjR' : j < R.length := by simp at h1; omega
  refine aK <| nN ?_
  obtain ⟨c, hcj⟩ : ∃ c, R[j]? = some c := ⟨_, xF hjR'⟩
  have hsj : s[a + j]? = some c := by rw [zK4 hR, hcj]
  have hXj : (l ++ 13 :: 10 :: v)[j]? = some c := by rw [← zM3 hc hjR', hcj]
  refine aS <| aR fun Z hZ => sM rfl rfl <| sM rfl rfl <| jE6 Tryz.underlying9 rfl rfl (by omega) (by rw [x4]; exact hsj) rfl ?_
  refine sAN hZ rfl rfl <| f5K 0 1 6 7 8 rfl <| aB ?_
  by_cases hj : j < l.length
  ·have hp : plB c = true := hl.at (i := j) (by rw [qE hj] at hXj; exact hXj)
   have hc13 : ¬ c.toNat = 13 := fun e => by rw [plB, e] at hp; cases hp
   have f1 := yK7 c
   rw [hp] at f1
   obtain ⟨k, hk⟩ := xZ9 (c.toNat)
   rw [hk] at f1 hc13 ⊢
   refine jA0 [(0, .string (str s)), (1, iq (a : Nat)), (6, iq 3), (7, iq ((a + j : Nat) : Int)), (8, ub k), (26, .bool false)] [] (fun Z hZ => ?_) ?_
   ·refine sM rfl rfl <| jB1 ?_
    refine sM rfl rfl <| jB9 29 rfl false (by simp; omega) ?_
    refine sO0 ?_
    refine sO0 ?_
    refine sO0 ?_
    refine sO0 ?_
    refine sO0 ?_
    refine sP rfl rfl rfl <| sA rfl rfl <| sN (hZ _ _ ?_ ?_)
    ·exact kR rfl
    ·exact hV _
   refine aC0 (fun h2 => ?_) (fun h2 => ?_)
   ·cases h2
   refine jA0 [(0, .string (str s)), (1, iq (a : Nat)), (6, iq 3), (7, iq ((a + j : Nat) : Int)), (8, ub k), (36, .bool false)] [] (fun Z hZ => ?_) ?_
   ·refine sM rfl rfl <| jB1 ?_
    refine sM rfl rfl <| jB9 39 rfl false (by simp; omega) ?_
    refine sO0 ?_
    refine sO0 ?_
    refine sO0 ?_
    refine sO0 ?_
    refine sO0 ?_
    refine sP rfl rfl rfl <| sA rfl rfl <| sN (hZ _ _ ?_ ?_)
    ·exact kR rfl
    ·exact hV _
   refine aC0 (fun h3 => ?_) (fun h3 => ?_)
   ·cases h3
   refine aR fun Z hZ => sM rfl rfl <| sCP0 f1 ?_
   refine jE8 rfl rfl <| sAN hZ rfl rfl <| aC0 (fun h4 => ?_) (fun h4 => ?_)
   ·cases h4
   refine aR fun Z hZ => sM rfl rfl <| sM rfl rfl <| jN0 rfl rfl ((j : Nat) : Int) (by rw [lT _ (by omega)]; omega) rfl ?_
   refine jB1 ?_
   refine sAN hZ rfl rfl <| aC0 (fun h5 => ?_) (fun h5 => ?_)
   ·simp at h5; omega
   refine aK ?_
   repeat (with_reducible refine nBN ?_)
   refine nN ?_
   refine aR fun Z hZ => sM rfl rfl ?_
   refine jB7 rfl rfl ((a + (j + 1) : Nat) : Int) (by rw [lT _ (by omega)]; omega) rfl ?_
   refine sAN hZ rfl rfl <| aS (kZ8 ?_)
   repeat refine jU7 ?_
   exact vK3 (i := some j) (some (j + 1)) ⟨by omega, by omega⟩ (show R.length + 2 - (j + 1) < R.length + 2 - j by omega) rfl (kR rfl) (hV _)
  obtain rfl : j = l.length := by omega
  obtain rfl : c = 13 := by
   rw [qH (xP _), uK] at hXj
   exact (lV hXj).symm
  by_cases hK : R.length = l.length + 1
  ·refine jA0 [(1, iq (a : Nat)), (6, iq 3), (26, .bool true)] [] (fun Z hZ => ?_) ?_
   ·refine sM rfl rfl <| jB1 ?_
    refine sM rfl rfl <| jB9 29 rfl true (by rfl) ?_
    refine sOn0 ?_
    refine sM rfl rfl <| sOn0 ?_
    refine jB7 rfl rfl ((a + l.length + 1 : Nat) : Int) (by rw [lT _ (by omega)]; omega) rfl ?_
    refine sOn0 ?_
    refine sM rfl rfl <| sOn0 ?_
    refine jC8 Tryz.underlying9 rfl rfl <| sOn0 ?_
    refine jB1 ?_
    refine sP rfl rfl rfl <| sA rfl rfl <| sN (hZ _ _ ?_ ?_)
    ·exact kE rfl (kE rfl (kE (congrArg some (congrArg Value.bool (by simp; omega))) kF))
    ·exact hV _
   refine aC0 (fun h2 => ?_) (fun h2 => ?_)
   ·refine kZ8 ?_
    repeat (with_reducible (first | refine jU7 ?_ | refine kX3 ?_))
    exact vK3 (i := some l.length) none (show R.length < l.length + 2 by omega) (show 0 < R.length + 2 - l.length by omega) rfl (kR rfl) (hV _)
   cases h2
  have hn : ¬ R.length < l.length + 2 := by omega
  rw [if_neg hn, if_neg hn, if_neg hn]
  have hs10 : s[a + l.length + 1]? = some 10 := by
   rw [qP, zK4 hR, zM3 hc (by omega), qH (by omega), uF]
   rfl
  have hsl : (s.drop (a + l.length - l.length)).take l.length = l := by
   rw [uN, hR]
   have := congrArg (List.take l.length) hc
   rw [List.take_append_of_le_length (by omega), uD] at this
   exact this
  refine jA0 [(0, .string (str s)), (1, iq (a : Nat)), (7, iq ((a + l.length : Nat) : Int)), (8, ub 13), (26, .bool false)] [] (fun Z hZ => ?_) ?_
  ·refine sM rfl rfl <| jB1 ?_
   refine sM rfl rfl <| jB9 29 rfl true (by rfl) ?_
   refine sOn0 ?_
   refine sM rfl rfl <| sOn0 ?_
   refine jB7 rfl rfl ((a + l.length + 1 : Nat) : Int) (by rw [lT _ (by omega)]; omega) rfl ?_
   refine sOn0 ?_
   refine sM rfl rfl <| sOn0 ?_
   refine jC8 Tryz.underlying9 rfl rfl <| sOn0 ?_
   refine jB1 ?_
   refine sP rfl rfl rfl <| sA rfl rfl <| sN (hZ _ _ ?_ ?_)
   ·exact kE rfl (kE rfl (kE rfl (kE rfl (kE (congrArg some (congrArg Value.bool (by simp; omega))) kF))))
   ·exact hV _
  refine aC0 (fun h2 => ?_) (fun h2 => ?_)
  ·cases h2
  refine jA0 [(0, .string (str s)), (1, iq (a : Nat)), (7, iq ((a + l.length : Nat) : Int)), (36, .bool true)] [] (fun Z hZ => ?_) ?_
  ·refine sM rfl rfl <| jB1 ?_
   refine sM rfl rfl <| jB9 39 rfl true (by rfl) ?_
   refine sOn0 ?_
   refine sM rfl rfl <| sOn0 ?_
   refine sM rfl rfl <| sOn0 ?_
   refine jB7 rfl rfl ((a + l.length + 1 : Nat) : Int) (by rw [lT _ (by omega)]; omega) rfl ?_
   refine sOn0 ?_
   refine jE6 Tryz.underlying9 rfl rfl (by omega) (by rw [x4]; exact hs10) rfl ?_
   refine sOn0 ?_
   refine jB1 ?_
   refine sP rfl rfl rfl <| sA rfl rfl <| sN (hZ _ _ ?_ ?_)
   ·exact kE rfl (kE rfl (kE rfl (kE (congrArg some (congrArg Value.bool (by rfl))) kF)))
   ·exact hV _
  refine aC0 (fun h3 => ?_) (fun h3 => ?_)
  ·refine aR (fun Z hZ => sM rfl rfl <| sM rfl rfl <| sM rfl rfl <| jF7 l Tryz.underlying9 rfl rfl rfl (by omega) (by omega) (by omega) (by simp only [x4]; rw [uF, hR]; rw [uN, hR] at hsl; exact hsl) rfl ?_)
   refine sM rfl rfl ?_
   refine jB7 rfl rfl ((a + l.length + 2 : Nat) : Int) (by rw [lT _ (by omega)]; omega) rfl ?_
   refine sA rfl rfl <| sA rfl rfl <| sAN hZ rfl rfl ?_
   refine f3K 4 5 6 rfl ?_
   refine aE ?_
   repeat (with_reducible (first | refine nTR ?_ | refine nBR ?_))
   repeat refine kM1 ?_
   exact jN6 rfl rfl rfl rfl rfl
  cases h3
 ·refine aS <| jA0 [(0, .string (str s)), (1, iq (a : Nat)), (16, .bool false)] [] (fun Z hZ => ?_) ?_
  ·refine sM rfl rfl <| jB0 ?_
   refine sM rfl rfl <| jB9 11 rfl false (by simp) ?_
   refine sOn0 ?_
   refine sM rfl rfl <| sOn0 ?_
   refine sM rfl rfl <| sOn0 ?_
   refine jC8 Tryz.underlying9 rfl rfl <| sOn0 ?_
   refine jC4 ?_
   refine sP0 ?_
   refine sN (hZ _ _ ?_ ?_)
   ·exact kE rfl (kE rfl (kE (congrArg some (congrArg Value.bool (by simp; omega))) kF))
   ·exact hV _
  refine aC0 (fun h1 => ?_) (fun h1 => ?_)
  ·cases h1
  refine aK <| nN <| aR fun Z hZ => sM rfl rfl <| sAN hZ rfl rfl <| f3K 0 1 7 rfl <| aA rfl rfl <| f4K 0 1 6 7 rfl <| aS (kN4 (nN <| wT8 _ _ (kR rfl) (hV _) (hB (some 0) ⟨lZ _, lZ _⟩)))
theorem vD9 (l : Bs) (hl : PlL l) (hs : l.length ≤ 1000000) :
  Fn Tryz.prog 35 [.string (str l)] [] fun w _ => w = .tuple #[.string (str (if l.length ≤ 256 then l ++ [13, 10] else [])), iq ((if l.length ≤ 256 then 0 else 5 : Nat) : Int)] := by
 refine fE 21 Tryz.func35 rfl (fun w0 => aR fun Z hZ => sA rfl rfl <| sAN hZ rfl rfl <| f1K 0 rfl <| aS <| aR fun Z hZ => sM rfl rfl <| jC8 Tryz.underlying9 rfl rfl <| sMN hZ rfl rfl <| f3K 0 6 7 rfl <| aB <| jC3 (ι := Nat) (fun i => [(0, .string (str l)), (6, iq (l.length : Nat)), (7, iq (i : Nat))]) (fun _ => []) (fun i => i ≤ l.length) (fun i => l.length - i) 0 (lZ _) (kR rfl) (hV _) ?_)
 rintro i hi
 refine aR (fun Z hZ => jB0 ?_)
 refine sN (hZ _ _ <| f4K 0 6 7 8 rfl <| aS (aC0 (fun h1 => ?_) (fun h1 => ?_)))
 ·have hlt : i < l.length := by simpa using h1
  obtain ⟨c, hc⟩ : ∃ c, l[i]? = some c := ⟨_, xF hlt⟩
  have f1 := yK7 c
  rw [hl.at hc] at f1
  refine aK <| nN <| aS (aB <| aR fun Z hZ => sM rfl rfl <| sAN hZ rfl rfl <| f4K 0 4 6 7 rfl <| aR fun Z hZ => sM rfl rfl <| sM rfl rfl <| jE6 Tryz.underlying9 rfl rfl (by omega) (by rw [x4]; exact hc) rfl ?_)
  refine sCP0 f1 ?_
  refine jE8 rfl rfl <| sN (hZ _ _ <| f4K 0 6 7 14 rfl <| aC0 (fun h2 => ?_) (fun h2 => ?_))
  ·cases h2
  refine aK ?_
  repeat (with_reducible refine nBN ?_)
  refine nN ?_
  refine aG (fun Z hZ => ?_)
  refine jB7 rfl rfl ((i + 1 : Nat) : Int) (by rw [lT _ (by omega)]; omega) rfl ?_
  refine sMN hZ rfl rfl <| nF [(0, _), (6, _), (7, _)] (kR rfl) <| jC2 (i + 1) hlt (by omega) (kR rfl) (hV _)
 ·refine jB5 ?_
  repeat (with_reducible refine nTE ?_)
  refine nBE ?_
  refine nN ?_
  refine aS ?_
  refine aR fun Z hZ => sM rfl rfl ?_
  refine jC8 Tryz.underlying9 rfl rfl ?_
  refine jC4 ?_
  refine sN (hZ _ _ <| f2K 0 18 rfl <| aC0 (fun h2 => ?_) (fun h2 => ?_))
  ·have hn : ¬ l.length ≤ 256 := by simp at h2; omega
   rw [if_neg hn, if_neg hn]
   refine aR fun Z hZ => sA rfl rfl <| sAN hZ rfl rfl ?_
   refine f2K 2 3 rfl ?_
   refine aE ?_
   repeat (with_reducible refine nTR ?_)
   exact jF3 rfl rfl rfl rfl
  have hn : l.length ≤ 256 := by simp at h2; omega
  rw [if_pos hn, if_pos hn]
  refine aK <| nN <| aR fun Z hZ => sM rfl rfl <| jN3 rfl rfl (by simp; omega) rfl ?_
  refine sA rfl rfl <| sAN hZ rfl rfl <| f2K 2 3 rfl <| aE <| jF3 rfl rfl rfl rfl
abbrev svs (L : List Bs) : List Value := L.map fun l => .string (str l)
theorem yZ7 : ElemOk Tryz.prog 94 9 1 16 := ElemOk.mk_ (z := .string ⟨#[]⟩) Tryz.underlying94 (by kernel_rfl) rfl (by omega)
theorem kZ3 {s u A B : Bs} (h : s ++ u = A ++ B) (hl : A.length ≤ s.length) : s.drop A.length ++ u = B := by
 have h2 := congrArg (List.drop A.length) h
 rw [uC, List.drop_append_of_le_length hl] at h2
 exact h2
theorem wM4 (s : Bs) (L : List Bs) (u v : Bs) (hs : s.length ≤ 1000000) (hL : ∀ l ∈ L, LnOk l) (h17 : L.length ≤ 17) (hc : s ++ u = hdB L ++ v) :
  Fn Tryz.prog 57 [.string (str s)] [] fun w H' => (s.length < (hdB L).length ∧ w = .tuple #[.slice none 0 0, iq 0, iq 3] ∧ H' = []) ∨ ((hdB L).length ≤ s.length ∧ ∃ A, w = .tuple #[A, iq ((hdB L).length : Nat), iq 0] ∧ RowOk A L.length ∧ H' = rowE A 9 1 (svs L)) := by
 refine fE 34 Tryz.func57 rfl (fun w0 => aR fun Z hZ => sA rfl rfl <| sA rfl rfl <| sAN hZ rfl rfl <| f2K 0 2 rfl <| aA rfl rfl <| f3K 0 2 5 rfl <| aB ?_)
 refine jC3 (ι := Nat × Value) (fun i => [(0, .string (str s)), (2, i.2), (5, iq ((hbp (L.take i.1)).length : Nat))]) (fun i => rowE i.2 9 1 (svs (L.take i.1))) (fun i => i.1 ≤ L.length ∧ RowOk i.2 i.1 ∧ (hbp (L.take i.1)).length ≤ s.length) (fun i => L.length - i.1)
  (0, .slice none 0 0) ⟨lZ _, kI, by simp [hbp]⟩ (kR rfl) (hV _) ?_
 rintro ⟨i, A⟩ ⟨hi, hA, ha⟩
 simp only at hi hA ha
 obtain ⟨a, hae⟩ := xZ9 ((hbp (L.take i)).length)
 obtain ⟨R, hR⟩ := xZ9 (s.drop a)
 have hRl : R.length = s.length - a := by rw [← hR, qF]
 have hRc : R ++ u = hdB (L.drop i) ++ v := by
  rw [vE8 L i, xD] at hc
  rw [← hR, ← hae]
  exact kZ3 hc ha
 have hdl : (hdB L).length = a + (hdB (L.drop i)).length := by rw [vE8 L i, lN, hae]
 rw [hae] at ha
 refine aF [(0, .string (str s)), (2, A), (5, iq (a : Nat))] (kE rfl (kE rfl (kE (by rw [← hae]; rfl) kF))) ?_
 refine jA7 (rowE A 9 1 (svs (L.take i))) (hV _) <| aB ?_
 by_cases hlt : i < L.length
 ·obtain ⟨l, hl⟩ : ∃ l, L[i]? = some l := ⟨_, xF hlt⟩
  have hok := hL l (xN hl)
  have hdr := yE0 hl
  have hsn := vS5 hl
  rw [hdr, xD, lL, lL] at hRc
  have f1 := wC9 s a l R u (hdB (L.drop (i + 1)) ++ v) hs hR ha hok.pl hok.le hRc
  have hdl2 : (hdB L).length = a + (l.length + 2 + (hdB (L.drop (i + 1))).length) := by rw [hdl, hdr, lN, lD, lD]; omega
  by_cases hK : R.length < l.length + 2
  ·rw [if_pos hK, if_pos hK, if_pos hK] at f1
   refine aR fun Z hZ => sM rfl rfl <| sM rfl rfl <| sCP0 f1 ?_
   refine sM rfl rfl <| sX rfl rfl rfl <| sX rfl rfl rfl <| sX rfl rfl rfl <| sA rfl rfl <| sA rfl rfl <| sAN hZ rfl rfl <| f5K 0 2 6 7 8 rfl <| aS (aB <| aR fun Z hZ => sM rfl rfl <| jA6 ?_)
   refine sAN hZ rfl rfl <| f6K 0 2 6 7 8 16 rfl <| aC0 (fun h1 => ?_) (fun h1 => ?_)
   ·refine aR (fun Z hZ => ?_)
    refine sM rfl rfl <| sA rfl rfl <| sA rfl rfl <| sAN hZ rfl rfl ?_
    refine f3K 2 3 4 rfl ?_
    refine aE ?_
    repeat (with_reducible (first | refine nTR ?_ | refine nBR ?_))
    exact jF8 [] rfl rfl rfl rfl (kA (lO _)) (.inl ⟨by omega, rfl, rfl⟩)
   cases h1
  rw [if_neg hK, if_neg hK, if_neg hK] at f1
  obtain ⟨c, l', hcl⟩ := List.exists_cons_of_ne_nil hok.ne
  have hne : (l == []) = false := by rw [hcl]; rfl
  refine aR fun Z hZ => sM rfl rfl <| sM rfl rfl <| sCP0 f1 ?_
  refine sM rfl rfl <| sX rfl rfl rfl <| sX rfl rfl rfl <| sX rfl rfl rfl <| sA rfl rfl <| sA rfl rfl <| sAN hZ rfl rfl <| f5K 0 2 6 7 8 rfl <| aS (aB <| aR fun Z hZ => sM rfl rfl <| jA6 ?_)
  refine sAN hZ rfl rfl <| f6K 0 2 6 7 8 16 rfl <| aC0 (fun h1 => ?_) (fun h1 => ?_)
  ·cases h1
  refine aR fun Z hZ => sM rfl rfl <| jQ1 rfl rfl rfl <| sAN hZ rfl rfl <| f5K 0 2 6 7 20 rfl <| aC0 (fun h2 => ?_) (fun h2 => ?_)
  ·have h3 : (l == []) = true := h2
   rw [hne] at h3
   cases h3
  obtain ⟨A1, c1, rfl, hA1⟩ := hA.form
  refine aR fun Z hZ => sM rfl rfl <| jE5 Tryz.underlying94 rfl rfl <| jC4 ?_
  refine sAN hZ rfl rfl <| f5K 0 2 6 7 25 rfl <| aC0 (fun h3 => ?_) (fun h3 => ?_)
  ·simp at h3; omega
  refine aK ?_
  repeat (with_reducible refine nBN ?_)
  refine nN ?_
  refine aR fun Z hZ => sM rfl rfl <| sM rfl rfl ?_
  refine sBS Tryz.underlying94 tyS9 tyZ9 rfl rfl rfl rfl (by first | (simp only [qS, Nat.reduceAdd, Value.cells, wrV, vN6, x8, x9, Nat.reduceMul, xH]; first | done | rfl) | rfl) rfl (fun g1 => ?_)
  refine jD3 [_] yZ7 rfl hA (by simp [svs, xV]; omega) rfl (fun w hw => jI0 (i := 0) (n := 1) (xs := [.string (str l)]) rfl rfl hw) rfl (by show _ ≤ 9223372036854775807; omega) (by omega) (hV _) rfl (fun v2 hv2 => ?_)
  refine sAN hZ rfl rfl ?_
  refine f3K 0 2 7 rfl ?_
  refine aG (fun Z hZ => ?_)
  refine sM rfl rfl <| sAN hZ rfl rfl ?_
  refine nF [(0, _), (2, _), (5, _)] (kR rfl) ?_
  repeat (with_reducible refine nBN ?_)
  refine jC2 (i + 1, v2) ⟨by show i + 1 ≤ _; omega, hv2, ?_⟩ (by simp; omega) (kE rfl (kE rfl (kE ?_ kF))) ?_
  ·show (hbp (L.take (i + 1))).length ≤ s.length
   rw [hsn, lN, hae]; simp; omega
  ·show some (iq ((a + l.length + 2 : Nat) : Int)) = _
   rw [hsn, lN, hae]; simp; omega
  ·simp only
   rw [show svs (L.take (i + 1)) = svs (L.take i) ++ [.string (str l)] from by rw [svs, qC hlt, x0]; simp [(List.getElem?_eq_some_iff.1 hl).2]]
   exact kC 1 rfl
 ·have hie : i = L.length := by omega
  subst hie
  rw [uO, kM6] at hRc
  rw [uO, kM6] at hdl
  simp only [qS] at hdl
  have f1 := wC9 s a [] R u v hs hR ha rfl (by simp) (by simpa using hRc)
  by_cases hK : R.length < 0 + 2
  ·rw [lF, if_pos hK, if_pos hK, if_pos hK] at f1
   refine aR fun Z hZ => sM rfl rfl <| sM rfl rfl <| sCP0 f1 ?_
   refine sM rfl rfl <| sX rfl rfl rfl <| sX rfl rfl rfl <| sX rfl rfl rfl <| sA rfl rfl <| sA rfl rfl <| sAN hZ rfl rfl <| f5K 0 2 6 7 8 rfl <| aS (aB <| aR fun Z hZ => sM rfl rfl <| jA6 ?_)
   refine sAN hZ rfl rfl <| f6K 0 2 6 7 8 16 rfl <| aC0 (fun h1 => ?_) (fun h1 => ?_)
   ·refine aR (fun Z hZ => ?_)
    refine sM rfl rfl <| sA rfl rfl <| sA rfl rfl <| sAN hZ rfl rfl ?_
    refine f3K 2 3 4 rfl ?_
    refine aE ?_
    repeat (with_reducible (first | refine nTR ?_ | refine nBR ?_))
    exact jF8 [] rfl rfl rfl rfl (kA (lO _)) (.inl ⟨by omega, rfl, rfl⟩)
   cases h1
  rw [lF, if_neg hK, if_neg hK, if_neg hK] at f1
  refine aR fun Z hZ => sM rfl rfl <| sM rfl rfl <| sCP0 f1 ?_
  refine sM rfl rfl <| sX rfl rfl rfl <| sX rfl rfl rfl <| sX rfl rfl rfl <| sA rfl rfl <| sA rfl rfl <| sAN hZ rfl rfl <| f5K 0 2 6 7 8 rfl <| aS (aB <| aR fun Z hZ => sM rfl rfl <| jA6 ?_)
  refine sAN hZ rfl rfl <| f6K 0 2 6 7 8 16 rfl <| aC0 (fun h1 => ?_) (fun h1 => ?_)
  ·cases h1
  refine aR fun Z hZ => sM rfl rfl <| jQ1 rfl rfl rfl <| sAN hZ rfl rfl <| f5K 0 2 6 7 20 rfl <| aC0 (fun h2 => ?_) (fun h2 => ?_)
  ·refine aR (fun Z hZ => ?_)
   refine sM rfl rfl <| sM rfl rfl <| sA rfl rfl <| sA rfl rfl <| sAN hZ rfl rfl ?_
   refine f3K 2 3 4 rfl ?_
   refine aE ?_
   repeat (with_reducible (first | refine nTR ?_ | refine nBR ?_))
   rw [xY]
   exact jF8 _ rfl rfl rfl rfl (hV _) (.inr ⟨by omega, A, by rw [hdl], hA, rfl⟩)
  cases h2
theorem vS2 (c : UInt8) (r : Bs) : ∀ a : Bs, c ∉ a → Lib.indexByte (a ++ c :: r) c = (a.length : Nat)
 | [], _ => by simp [Lib.indexByte]
 | b :: l, h => by
  have h1 : (b == c) = false := beq_eq_false_iff_ne.2 fun e => h (e ▸ lP)
  have h2 := vS2 c r l fun e => h (lU _ e)
  have h3 : (((l.length : Nat) : Int) == -1) = false := beq_eq_false_iff_ne.2 (by omega)
  simp [Lib.indexByte, h1, h2, h3]
theorem wZ5 (a r : Bs) (c : UInt8) (h : c ∉ a) (hl : (a ++ c :: r).length ≤ 1000000) :
  Fn Tryz.prog 206 [.string (str (a ++ c :: r)), .string (str [c])] [] fun v _ => v = .tuple #[.string (str a), .string (str r), .bool true] := by
 have f1 := zI5 (a ++ c :: r) c
 rw [vS2 c r a h] at f1
 have hlen : (a ++ c :: r).length = a.length + 1 + r.length := by rw [lN, lD]; omega
 obtain ⟨s, hs⟩ := xZ9 (a ++ c :: r)
 have h1 : s.take a.length = a := by rw [← hs, uD]
 have h2 : s.drop (a.length + 1) = r := by rw [← hs, List.drop_append]; simp
 rw [hs] at f1 hl hlen ⊢
 refine fE 23 Tryz.func206 rfl (fun w0 => aR fun Z hZ => sA rfl rfl <| sA rfl rfl <| sAN hZ rfl rfl <| f2K 0 1 rfl <| aS <| aR fun Z hZ => sM rfl rfl <| sM rfl rfl <| sCP0 f1 ?_)
 refine sAN hZ rfl rfl <| f3K 0 1 7 rfl <| aR fun Z hZ => sM rfl rfl ?_
 first | refine jH7 rfl rfl rfl ?_ | refine sx_sgeq rfl rfl rfl ?_
 refine sN (hZ _ _ <| f4K 0 1 7 12 rfl ?_)
 first | refine aC0 (fun h3 => ?_) (fun h3 => ?_) | refine aS (aC0 (fun h3 => ?_) (fun h3 => ?_))
 ·refine jC1 jF1 (by kernel_rfl) (fun Z hZ => ?_)
  refine qM rfl rfl <| qM rfl rfl <| kL1 a Tryz.underlying9 rfl rfl rfl (by omega) (by omega) (by omega) (by simp only [x4]; exact h1) rfl ?_
  refine qM rfl rfl <| qM rfl rfl <| qM rfl rfl ?_
  first | refine vP8 Tryz.underlying9 rfl rfl ?_ | refine jP0 Tryz.underlying9 rfl rfl ?_
  refine kL2 rfl rfl ((a.length + 1 : Nat) : Int) (by rw [lT _ (by simp; omega)]; simp) rfl ?_
  refine kL1 r Tryz.underlying9 rfl rfl rfl (by omega) (by omega) (by omega) (by simp only [x4]; rw [h2]; exact zN (by omega)) rfl ?_
  refine jB8 rfl rfl <| jB8 rfl rfl <| jB8 rfl rfl <| jE9 (hZ _ _ <| f3K 4 5 6 rfl <| aE ?_)
  repeat (with_reducible (first | refine nTR ?_ | refine nBR ?_ | refine jD4 ?_))
  exact jN6 rfl rfl rfl rfl rfl
 ·simp at h3
theorem kW0 (a r : Bs) (c : UInt8) (h : c ∉ a) (hl : (a ++ c :: r).length ≤ 1000000) :
  Fn Tryz.prog 141 [.string (str (a ++ c :: r)), .string (str [c])] [] fun v _ => v = .tuple #[.string (str a), .string (str r), .bool true] := by
 have f1 := wZ5 a r c h hl
 refine fE 13 Tryz.func141 rfl (fun w0 => aR fun Z hZ => sA rfl rfl <| sA rfl rfl <| sAN hZ rfl rfl <| f2K 0 1 rfl <| aR fun Z hZ => sM rfl rfl <| sM rfl rfl <| sCP0 f1 ?_)
 refine sX rfl rfl rfl <| sX rfl rfl rfl <| sX rfl rfl rfl <| sA rfl rfl <| sA rfl rfl <| sAN hZ rfl rfl <| f3K 4 5 6 rfl <| aE ?_
 repeat (with_reducible (first | refine nTR ?_ | refine nBR ?_ | refine jD4 ?_))
 exact jN6 rfl rfl rfl rfl rfl
theorem zF7 (a p b : Bs) (ha : 32 ∉ a) (hp : 32 ∉ p) (hb : 32 ∉ b) : Lib.splitB (str [32]) 0 2 (str (a ++ 32 :: (p ++ 32 :: b))) = [str a, str p, str b] := by
 have hd := Lib.splitB_data (str [32]) 0 2 (str (a ++ 32 :: (p ++ 32 :: b)))
 have hq : Lib.splitK [32] 0 2 (a ++ 32 :: (p ++ 32 :: b)) = [a, p, b] := by
  have e1 : Lib.index (a ++ 32 :: (p ++ 32 :: b)) [32] = (a.length : Nat) := by rw [Lib.index_one, vS2 32 _ a ha]
  have e2 : Lib.index (p ++ 32 :: b) [32] = (p.length : Nat) := by rw [Lib.index_one, vS2 32 _ p hp]
  have n1 : (((a.length : Nat) : Int) == -1) = false := beq_eq_false_iff_ne.2 (by omega)
  have n2 : (((p.length : Nat) : Int) == -1) = false := beq_eq_false_iff_ne.2 (by omega)
  have d1 : (a ++ 32 :: (p ++ 32 :: b)).drop (a.length + 1) = p ++ 32 :: b := by rw [List.drop_append]; simp
  have d2 : (p ++ 32 :: b).drop (p.length + 1) = b := by rw [List.drop_append]; simp
  simp only [Lib.splitK, e1, n1, zV, if_false, x4, qS, uD, d1, e2, n2, d2]
 rw [show (str [32]).data.toList = [32] from rfl, show (str (a ++ 32 :: (p ++ 32 :: b))).data.toList = a ++ 32 :: (p ++ 32 :: b) from by simp [str], hq] at hd
 have hinj : ∀ (x : ByteArray) (l : Bs), x.data.toList = l → x = str l := fun x l e => by subst e; cases x; simp [str]
 match h : Lib.splitB (str [32]) 0 2 (str (a ++ 32 :: (p ++ 32 :: b))) with
 | [x, y, z] =>
  rw [h] at hd
  simp only [xR, qT, List.cons.injEq, and_true] at hd
  rw [hinj x a hd.1, hinj y p hd.2.1, hinj z b hd.2.2]
 | [] => rw [h] at hd; simp at hd
 | [_] => rw [h] at hd; simp at hd
 | [_, _] => rw [h] at hd; simp at hd
 | _ :: _ :: _ :: _ :: _ => rw [h] at hd; simp at hd
theorem cnt3 (a p b : Bs) (ha : 32 ∉ a) (hp : 32 ∉ p) (hb : 32 ∉ b) : Lib.countByte (a ++ 32 :: (p ++ 32 :: b)) 32 = 2 := by
 simp [Lib.countByte, List.count_append, List.count_cons, List.count_eq_zero_of_not_mem ha, List.count_eq_zero_of_not_mem hp, List.count_eq_zero_of_not_mem hb]
theorem zJ2 (a p b : Bs) (ha : 32 ∉ a) (hp : 32 ∉ p) (hb : 32 ∉ b) (hl : (a ++ 32 :: (p ++ 32 :: b)).length ≤ 1000000) :
  Fn Tryz.prog 237 [.string (str (a ++ 32 :: (p ++ 32 :: b))), .string (str [32]), iq 0, iq (-1)] [] fun v H' => ∃ g, v = .slice (some ⟨g, 0, none⟩) 3 3 ∧ H' = [.own g 9 (svs [a, p, b])] := by
 obtain ⟨s, hs⟩ := xZ9 (a ++ 32 :: (p ++ 32 :: b))
 have h3 := zF7 a p b ha hp hb
 have h4 := cnt3 a p b ha hp hb
 rw [hs] at h3 h4 hl ⊢
 have hsd : (str s).data.toList = s := by simp [str]
 have h4' : Lib.countB (str s) (str [32]) = 2 := by
  show Lib.count (str s).data.toList [32] = 2
  rw [Lib.count_one, hsd]; exact h4
 have hl2 : 2 ≤ s.length := by rw [← hs, lN, lD, lN, lD]; omega
 refine ⟨wO8, fun w hw => ?_⟩
 refine (Any.strings_genSplit_core spl0 (by kernel_rfl) (str s) (str [32]) 0 (-1) 3 w (by rw [str_size]; omega) (by decide) (lZ _) (fun x c hx => ?_) ?_ (by decide) (by decide) (by rw [h4', str_size, if_pos (by decide)]; omega)).mono ?_
 ·refine (Any.strings_Index_one ixo0 x 32 _).mono fun e w' ⟨he, hw⟩ => ⟨?_, hw⟩
  rw [he]
  show _ = Ending.returned (Value.int .i64 (Lib.index x.data.toList [32]))
  rw [Lib.index_one]
 ·refine (Any.strings_Count_one cnt0 (str s) 32 w).mono fun e w' ⟨he, hw⟩ => ⟨?_, hw⟩
  rw [he]
  show _ = Ending.returned (Value.int .i64 ((Lib.count (str s).data.toList [32] : Nat) : Int))
  rw [Lib.count_one]
  rfl
 ·rintro e w' ⟨rfl, rfl⟩
  rw [show (3 : Nat) - 1 = 2 from rfl, h3]
  refine ⟨_, [.own w.heap.size 9 (svs [a, p, b])], rfl, ⟨_, rfl, rfl⟩, ?_⟩
  exact (Sat.nil w).alloc (svs [a, p, b]) 9
theorem zN0 (a p b : Bs) (ha : 32 ∉ a) (hp : 32 ∉ p) (hb : 32 ∉ b) (hl : (a ++ 32 :: (p ++ 32 :: b)).length ≤ 1000000) :
  Fn Tryz.prog 187 [.string (str (a ++ 32 :: (p ++ 32 :: b))), .string (str [32])] [] fun v H' => ∃ g, v = .slice (some ⟨g, 0, none⟩) 3 3 ∧ H' = [.own g 9 (svs [a, p, b])] := by
 have f1 := zJ2 a p b ha hp hb hl
 refine fE 8 Tryz.func187 rfl (fun w0 => aA rfl rfl <| f2K 0 1 rfl <| aR fun Z hZ => sM rfl rfl <| sM rfl rfl <| jB4 [] [] f1 rfl (hV _) rfl ?_)
 rintro v H' ⟨g, rfl, rfl⟩
 refine sAN hZ rfl rfl <| f1K 4 rfl <| aE ?_
 repeat (with_reducible (first | refine nTR ?_ | refine nBR ?_ | refine jD4 ?_))
 exact nR10 ⟨g, rfl, rfl⟩
theorem wW6 (a p b : Bs) (ha : 32 ∉ a) (hp : 32 ∉ p) (hb : 32 ∉ b) (hl : (a ++ 32 :: (p ++ 32 :: b)).length ≤ 1000000) :
  Fn Tryz.prog 117 [.string (str (a ++ 32 :: (p ++ 32 :: b)))] [] fun v H' => ∃ g, v = .slice (some ⟨g, 0, none⟩) 3 3 ∧ H' = [.own g 9 (svs [a, p, b])] := by
 have f1 := zN0 a p b ha hp hb hl
 refine fE 5 Tryz.func117 rfl (fun w0 => aA rfl rfl <| f1K 0 rfl <| aR fun Z hZ => sM rfl rfl <| jB4 [] [] f1 rfl (hV _) rfl ?_)
 rintro v H' ⟨g, rfl, rfl⟩
 refine sAN hZ rfl rfl <| f1K 2 rfl <| aE ?_
 repeat (with_reducible (first | refine nTR ?_ | refine nBR ?_ | refine jD4 ?_))
 exact nR10 ⟨g, rfl, rfl⟩
end
section
open Go.RowKit
theorem kK7 {P : Program} {N : Frm} {w0 : World} {Wr : List Nat} {ops : Array Oper} {rest : List Oper} {fr : Fr} {H : Heap} {Z : Fr → Heap → Prop} {ty : Nat} {pos : String} {after : Array Edge}
  {f : FuncId} {caps : List Value} {x : Operand} {xs : List Operand} {vs : List Value} {ts : Array TypeId} {dst : Option Nat} {R : Value → Heap → Prop} (Hc K : Heap) (hc : Fn P f (vs ++ caps) Hc R) (hf : ev fr x = some (.func (.func f) #[] caps.toArray)) (hx : evs fr xs = some vs) (hH : HLe (Hc ++ K) H) (hN : dstB N dst = true)
  (h : ∀ v H', R v H' → sx P N w0 Wr ops rest (match dst with | some d => (d, v) :: fr | none => fr) (H'.filter Ent.wr ++ K) Z) :
  sx P N w0 Wr ops (⟨dst, .call { callee := .value x, args := xs.toArray, argTypes := ts }, ty, pos, after, none⟩ :: rest) fr H Z :=
 kK6 (R := fun v H2 => ∃ H', R v H' ∧ H2 = H'.filter Ent.wr ++ K) hc.1 hf hx hN (fun w hw => by
  have hw' := hH _ _ _ hw
  have hpre : Sat w (wrs Hc) Hc w := by
   have hsub := hw'.sub (xE Hc K)
   exact ⟨Only.refl _ _, fun e he => ⟨(hsub.ents e he).1, fun h => .inl (mem_wrs.2 ⟨e, he, h, rfl⟩)⟩, hsub.sep⟩
  exact (hc.2 w hpre).mono fun e w' he => by
   obtain ⟨v, H', h1, h2, h3⟩ := he
   exact ⟨v, _, h1, ⟨H', h2, rfl⟩, hw'.callA (U := []) Ro.nil (by rw [lH]; exact h3)⟩) (fun v H2 hR => by obtain ⟨H', hR, rfl⟩ := hR; exact h v H' hR)
end
section
open Go.RowKit
set_option maxRecDepth 100000
abbrev rn (x : Nat) : Value := .int .i32 (x : Int)
def digN (x : Nat) : Bool := decide (48 ≤ x ∧ x ≤ 57)
def namN (x : Nat) : Bool := decide ((97 ≤ x ∧ x ≤ 122) ∨ (48 ≤ x ∧ x ≤ 57) ∨ x = 45)
def pthN (x : Nat) : Bool := decide (33 ≤ x ∧ x ≤ 126)
def hstN (x : Nat) : Bool := decide ((97 ≤ x ∧ x ≤ 122) ∨ (48 ≤ x ∧ x ≤ 57) ∨ x = 45 ∨ x = 46)
theorem wN5 (x : Nat) : Fn Tryz.prog 192 [rn x] [] fun v _ => v = .bool (digN x) := by
 refine fE 9 Tryz.func192 rfl (fun w0 => aA rfl rfl <| f1K 0 rfl <| jA0 [(2, .bool (digN x))] [] (fun Z hZ => ?_) ?_)
 ·refine sM rfl rfl <| jH7 rfl rfl rfl <| sM rfl rfl <| jB3 5 rfl (fun hb2 => ?_) (fun hb2 => ?_)
  ·refine sOn0 ?_
   refine sM rfl rfl <| sOn0 ?_
   refine jI2 rfl rfl rfl <| sP rfl rfl rfl <| sA rfl rfl <| sN (hZ _ _ ?_ ?_)
   ·exact kE (congrArg some (congrArg Value.bool (by unfold digN; first | (exfalso; simp at *; omega) | (rw [lS]; simp at *; omega)))) kF
   ·exact hV _
  ·refine sO0 ?_
   refine sO0 ?_
   refine sP rfl rfl rfl <| sA rfl rfl <| sN (hZ _ _ ?_ ?_)
   ·exact kE (congrArg some (congrArg Value.bool (by unfold digN; first | (exfalso; simp at *; omega) | (rw [lS]; simp at *; omega)))) kF
   ·exact hV _
 refine aE <| nR10 rfl
theorem yY1 (x : Nat) : Fn Tryz.prog 130 [rn x] [] fun v _ => v = .bool (namN x) := by
 have f1 := wN5 x
 refine fE 17 Tryz.func130 rfl (fun w0 => aA rfl rfl <| f1K 0 rfl <| jA0 [(2, .bool (namN x))] [] (fun Z hZ => ?_) ?_)
 ·refine sM rfl rfl <| jH7 rfl rfl rfl <| sM rfl rfl <| jB3 5 rfl (fun hb2 => ?_) (fun hb2 => ?_)
  ·refine sOn0 ?_
   refine sM rfl rfl <| sOn0 ?_
   refine jI2 rfl rfl rfl <| sP rfl rfl rfl <| sM rfl rfl <| jB3 9 rfl (fun hb6 => ?_) (fun hb6 => ?_)
   ·refine sO0 ?_
    refine sO0 ?_
    refine sP rfl rfl rfl <| sM rfl rfl <| sO0 ?_
    refine sO0 ?_
    refine sP rfl rfl rfl <| sA rfl rfl <| sN (hZ _ _ ?_ ?_)
    ·exact kE (congrArg some (congrArg Value.bool (by clear f1; simp only [namN, digN] at *; first | (exfalso; simp at *; omega) | (rw [lS]; simp at *; omega)))) kF
    ·exact hV _
   ·refine sOn0 ?_
    refine sM rfl rfl <| sOn0 ?_
    refine sCP0 f1 ?_
    refine sP rfl rfl rfl <| sM rfl rfl <| jB3 13 rfl (fun hb10 => ?_) (fun hb10 => ?_)
    ·refine sO0 ?_
     refine sO0 ?_
     refine sP rfl rfl rfl <| sA rfl rfl <| sN (hZ _ _ ?_ ?_)
     ·exact kE (congrArg some (congrArg Value.bool (by clear f1; simp only [namN, digN] at *; first | (exfalso; simp at *; omega) | (rw [lS]; simp at *; omega)))) kF
     ·exact hV _
    ·refine sOn0 ?_
     refine sM rfl rfl <| sOn0 ?_
     refine jB1 ?_
     refine sP rfl rfl rfl <| sA rfl rfl <| sN (hZ _ _ ?_ ?_)
     ·exact kE (congrArg some (congrArg Value.bool (by clear f1; simp only [namN, digN] at *; first | (exfalso; simp at *; omega) | (rw [lS]; simp at *; omega)))) kF
     ·exact hV _
  ·refine sO0 ?_
   refine sO0 ?_
   refine sP rfl rfl rfl <| sM rfl rfl <| sOn0 ?_
   refine sM rfl rfl <| sOn0 ?_
   refine sCP0 f1 ?_
   refine sP rfl rfl rfl <| sM rfl rfl <| jB3 13 rfl (fun hb10 => ?_) (fun hb10 => ?_)
   ·refine sO0 ?_
    refine sO0 ?_
    refine sP rfl rfl rfl <| sA rfl rfl <| sN (hZ _ _ ?_ ?_)
    ·exact kE (congrArg some (congrArg Value.bool (by clear f1; simp only [namN, digN] at *; first | (exfalso; simp at *; omega) | (rw [lS]; simp at *; omega)))) kF
    ·exact hV _
   ·refine sOn0 ?_
    refine sM rfl rfl <| sOn0 ?_
    refine jB1 ?_
    refine sP rfl rfl rfl <| sA rfl rfl <| sN (hZ _ _ ?_ ?_)
    ·exact kE (congrArg some (congrArg Value.bool (by clear f1; simp only [namN, digN] at *; first | (exfalso; simp at *; omega) | (rw [lS]; simp at *; omega)))) kF
    ·exact hV _
 refine aE <| nR10 rfl
theorem yN2 (x : Nat) : Fn Tryz.prog 183 [rn x] [] fun v _ => v = .bool (!pthN x) := by
 refine fE 9 Tryz.func183 rfl (fun w0 => aA rfl rfl <| f1K 0 rfl <| jA0 [(2, .bool (!pthN x))] [] (fun Z hZ => ?_) ?_)
 ·refine sM rfl rfl <| jI2 rfl rfl rfl <| sM rfl rfl <| jB3 5 rfl (fun hb2 => ?_) (fun hb2 => ?_)
  ·refine sO0 ?_
   refine sO0 ?_
   refine sP rfl rfl rfl <| sA rfl rfl <| sN (hZ _ _ ?_ ?_)
   ·exact kE (congrArg some (congrArg Value.bool (by unfold pthN; first | (exfalso; simp at *; omega) | (rw [lS]; simp at *; omega)))) kF
   ·exact hV _
  ·refine sOn0 ?_
   refine sM rfl rfl <| sOn0 ?_
   refine jC4 ?_
   refine sP rfl rfl rfl <| sA rfl rfl <| sN (hZ _ _ ?_ ?_)
   ·exact kE (congrArg some (congrArg Value.bool (by unfold pthN; first | (exfalso; simp at *; omega) | (rw [lS]; simp at *; omega)))) kF
   ·exact hV _
 refine aE <| nR10 rfl
theorem yN5 (x : Nat) : Fn Tryz.prog 186 [rn x] [] fun v _ => v = .bool (!hstN x) := by
 refine fE 26 Tryz.func186 rfl (fun w0 => aA rfl rfl <| f1K 0 rfl <| jA0 [(2, .bool (!hstN x))] [] (fun Z hZ => ?_) ?_)
 ·refine sM rfl rfl <| jH7 rfl rfl rfl <| sM rfl rfl <| jB3 5 rfl (fun hb2 => ?_) (fun hb2 => ?_)
  ·refine sOn0 ?_
   refine sM rfl rfl <| sOn0 ?_
   refine jI2 rfl rfl rfl <| sP rfl rfl rfl <| sM rfl rfl <| jB3 9 rfl (fun hb6 => ?_) (fun hb6 => ?_)
   ·refine sO0 ?_
    refine sO0 ?_
    refine sO0 ?_
    refine jU0 rfl rfl rfl rfl <| jU0 rfl rfl rfl rfl <| sO0 ?_
    refine sP rfl rfl rfl <| sM rfl rfl <| sO0 ?_
    refine sO0 ?_
    refine sP rfl rfl rfl <| sM rfl rfl <| sO0 ?_
    refine sO0 ?_
    refine sP0 ?_
    refine jE8 rfl rfl <| sA rfl rfl <| sN (hZ _ _ ?_ ?_)
    ·exact kE (congrArg some (congrArg Value.bool (by unfold hstN; first | (exfalso; simp at *; omega) | (rw [lS]; simp at *; omega)))) kF
    ·exact hV _
   ·refine sOn0 ?_
    refine sM rfl rfl <| sOn0 ?_
    refine jH7 rfl rfl rfl <| sOn0 ?_
    refine sM rfl rfl <| jB3 12 rfl (fun hb9 => ?_) (fun hb9 => ?_)
    ·refine sOn0 ?_
     refine sM rfl rfl <| sOn0 ?_
     refine jI2 rfl rfl rfl <| sOn0 ?_
     refine sP rfl rfl rfl <| sP rfl rfl rfl <| sM rfl rfl <| jB3 17 rfl (fun hb14 => ?_) (fun hb14 => ?_)
     ·refine sO0 ?_
      refine sO0 ?_
      refine sP rfl rfl rfl <| sM rfl rfl <| sO0 ?_
      refine sO0 ?_
      refine sP0 ?_
      refine jE8 rfl rfl <| sA rfl rfl <| sN (hZ _ _ ?_ ?_)
      ·exact kE (congrArg some (congrArg Value.bool (by unfold hstN; first | (exfalso; simp at *; omega) | (rw [lS]; simp at *; omega)))) kF
      ·exact hV _
     ·refine sOn0 ?_
      refine sM rfl rfl <| sOn0 ?_
      refine jB1 ?_
      refine sP rfl rfl rfl <| sM rfl rfl <| jB3 21 rfl (fun hb18 => ?_) (fun hb18 => ?_)
      ·refine sO0 ?_
       refine sO0 ?_
       refine sP0 ?_
       refine jE8 rfl rfl <| sA rfl rfl <| sN (hZ _ _ ?_ ?_)
       ·exact kE (congrArg some (congrArg Value.bool (by unfold hstN; first | (exfalso; simp at *; omega) | (rw [lS]; simp at *; omega)))) kF
       ·exact hV _
      ·refine sOn0 ?_
       refine sM rfl rfl <| sOn0 ?_
       refine jB1 ?_
       refine sP0 ?_
       refine jE8 rfl rfl <| sA rfl rfl <| sN (hZ _ _ ?_ ?_)
       ·exact kE (congrArg some (congrArg Value.bool (by unfold hstN; first | (exfalso; simp at *; omega) | (rw [lS]; simp at *; omega)))) kF
       ·exact hV _
    ·refine sO0 ?_
     refine sO0 ?_
     refine sOn0 ?_
     refine sP rfl rfl rfl <| sP rfl rfl rfl <| sM rfl rfl <| sOn0 ?_
     refine sM rfl rfl <| sOn0 ?_
     refine jB1 ?_
     refine sP rfl rfl rfl <| sM rfl rfl <| jB3 21 rfl (fun hb18 => ?_) (fun hb18 => ?_)
     ·refine sO0 ?_
      refine sO0 ?_
      refine sP0 ?_
      refine jE8 rfl rfl <| sA rfl rfl <| sN (hZ _ _ ?_ ?_)
      ·exact kE (congrArg some (congrArg Value.bool (by unfold hstN; first | (exfalso; simp at *; omega) | (rw [lS]; simp at *; omega)))) kF
      ·exact hV _
     ·refine sOn0 ?_
      refine sM rfl rfl <| sOn0 ?_
      refine jB1 ?_
      refine sP0 ?_
      refine jE8 rfl rfl <| sA rfl rfl <| sN (hZ _ _ ?_ ?_)
      ·exact kE (congrArg some (congrArg Value.bool (by unfold hstN; first | (exfalso; simp at *; omega) | (rw [lS]; simp at *; omega)))) kF
      ·exact hV _
  ·refine sO0 ?_
   refine sO0 ?_
   refine sP rfl rfl rfl <| sM rfl rfl <| sOn0 ?_
   refine sM rfl rfl <| sOn0 ?_
   refine jH7 rfl rfl rfl <| sOn0 ?_
   refine sM rfl rfl <| jB3 12 rfl (fun hb9 => ?_) (fun hb9 => ?_)
   ·refine sOn0 ?_
    refine sM rfl rfl <| sOn0 ?_
    refine jI2 rfl rfl rfl <| sOn0 ?_
    refine sP rfl rfl rfl <| sP rfl rfl rfl <| sM rfl rfl <| jB3 17 rfl (fun hb14 => ?_) (fun hb14 => ?_)
    ·refine sO0 ?_
     refine sO0 ?_
     refine sP rfl rfl rfl <| sM rfl rfl <| sO0 ?_
     refine sO0 ?_
     refine sP0 ?_
     refine jE8 rfl rfl <| sA rfl rfl <| sN (hZ _ _ ?_ ?_)
     ·exact kE (congrArg some (congrArg Value.bool (by unfold hstN; first | (exfalso; simp at *; omega) | (rw [lS]; simp at *; omega)))) kF
     ·exact hV _
    ·refine sOn0 ?_
     refine sM rfl rfl <| sOn0 ?_
     refine jB1 ?_
     refine sP rfl rfl rfl <| sM rfl rfl <| jB3 21 rfl (fun hb18 => ?_) (fun hb18 => ?_)
     ·refine sO0 ?_
      refine sO0 ?_
      refine sP0 ?_
      refine jE8 rfl rfl <| sA rfl rfl <| sN (hZ _ _ ?_ ?_)
      ·exact kE (congrArg some (congrArg Value.bool (by unfold hstN; first | (exfalso; simp at *; omega) | (rw [lS]; simp at *; omega)))) kF
      ·exact hV _
     ·refine sOn0 ?_
      refine sM rfl rfl <| sOn0 ?_
      refine jB1 ?_
      refine sP0 ?_
      refine jE8 rfl rfl <| sA rfl rfl <| sN (hZ _ _ ?_ ?_)
      ·exact kE (congrArg some (congrArg Value.bool (by unfold hstN; first | (exfalso; simp at *; omega) | (rw [lS]; simp at *; omega)))) kF
      ·exact hV _
   ·refine sO0 ?_
    refine sO0 ?_
    refine sOn0 ?_
    refine sP rfl rfl rfl <| sP rfl rfl rfl <| sM rfl rfl <| sOn0 ?_
    refine sM rfl rfl <| sOn0 ?_
    refine jB1 ?_
    refine sP rfl rfl rfl <| sM rfl rfl <| jB3 21 rfl (fun hb18 => ?_) (fun hb18 => ?_)
    ·refine sO0 ?_
     refine sO0 ?_
     refine sP0 ?_
     refine jE8 rfl rfl <| sA rfl rfl <| sN (hZ _ _ ?_ ?_)
     ·exact kE (congrArg some (congrArg Value.bool (by unfold hstN; first | (exfalso; simp at *; omega) | (rw [lS]; simp at *; omega)))) kF
     ·exact hV _
    ·refine sOn0 ?_
     refine sM rfl rfl <| sOn0 ?_
     refine jB1 ?_
     refine sP0 ?_
     refine jE8 rfl rfl <| sA rfl rfl <| sN (hZ _ _ ?_ ?_)
     ·exact kE (congrArg some (congrArg Value.bool (by unfold hstN; first | (exfalso; simp at *; omega) | (rw [lS]; simp at *; omega)))) kF
     ·exact hV _
 refine aE <| nR10 rfl
theorem wU5 (g : Nat) (f : FuncId) (p : Nat → Bool) (x : Nat) (hf : Fn Tryz.prog f [rn x] [] fun v _ => v = .bool (p x)) :
  Fn Tryz.prog 196 [rn x, ptr g 0] [.ro g 0 [.func (.func f) #[] #[]]] fun v _ => v = .bool (!p x) := by
 refine fE 8 Tryz.func196 rfl (fun w0 => aA rfl rfl <| f2K 0 1 rfl <| aR (fun Z hZ => jE0 0 rfl rfl 0 rfl tyA243 tyS243 rfl rfl <| sM rfl rfl <| kK7 (caps := []) (vs := [rn x]) [] _ hf rfl rfl (hV _) rfl ?_))
 rintro v H' rfl
 refine jC6 [] (kA (lO _)) <| jE8 rfl rfl <| sAN hZ rfl rfl <| f1K 3 rfl <| aE <| nR10 rfl
theorem wU3 (s : Bs) (f : FuncId) (p : Nat → Bool) (hf : ∀ x, Fn Tryz.prog f [rn x] [] fun v _ => v = .bool (p x)) :
  Fn Tryz.prog 129 [.string (str s), .func (.func f) #[] #[]] [] fun v _ => v = .bool (decide (Lib.idxFunc (fun x => !p x) true (str s) < 0)) := by
 have hE : Enters Tryz.prog 196 := (wU5 0 f p 0 (hf 0)).1
 refine fE 9 Tryz.func129 rfl (fun w0 => aR (fun Z hZ => jB2 (fun g1 => ?_)))
 refine sAN hZ rfl rfl <| f2K 0 3 rfl <| jA7 [.ro g1 0 [.func (.func f) #[] #[]]] (HLe.toRo [] []) <| aR fun Z hZ => sM rfl rfl <| jL9 rfl rfl <| jD7 [.ro g1 0 [.func (.func f) #[] #[]]] (wL3 s _ [ptr g1 0] [.ro g1 0 [.func (.func f) #[] #[]]] (kG (some ⟨g1, 0, none⟩) _) (fun x => !p x) hE (fun x _ => wU5 g1 f p x (hf x))) rfl (xO _) (kG (some ⟨g1, 0, none⟩) _) rfl <| jB0 ?_
 refine sAN hZ rfl rfl <| f1K 4 rfl <| aE <| nR10 rfl
theorem yN4 (s : Bs) (f : FuncId) (p : Nat → Bool) (hf : ∀ x, Fn Tryz.prog f [rn x] [] fun v _ => v = .bool (p x)) (h : ∀ b ∈ s, b.toNat < 128 ∧ p b.toNat = true) :
  Fn Tryz.prog 129 [.string (str s), .func (.func f) #[] #[]] [] fun v _ => v = .bool true := by
 have f1 := wU3 s f p hf
 rw [vK9 (p := fun x => !p x) (fun b hb => ⟨(h b hb).1, by simp [(h b hb).2]⟩)] at f1
 exact f1
def zC6 (s : Bs) : Prop := s ≠ [] ∧ s.length ≤ 32 ∧ s.all (fun b => namN b.toNat) = true
theorem wK2 {b : UInt8} (h : namN b.toNat = true) : b.toNat < 128 := by
 simp [namN] at h; omega
theorem wK1 (s : Bs) (h : zC6 s) : Fn Tryz.prog 72 [.string (str s)] [] fun v _ => v = .bool true := by
 have f1 := yN4 s 130 namN yY1 fun b hb => ⟨wK2 (List.all_eq_true.1 h.2.2 b hb), List.all_eq_true.1 h.2.2 b hb⟩
 obtain ⟨c, l', hcl⟩ := List.exists_cons_of_ne_nil h.1
 have hne : (s != []) = true := by rw [hcl]; rfl
 have hl := h.2.1
 refine fE 14 Tryz.func72 rfl (fun w0 => aA rfl rfl <| f1K 0 rfl <| jA0 [(2, .bool true)] [] (fun Z hZ => ?_) ?_)
 ·refine sM rfl rfl <| jT9 rfl rfl rfl <| sM rfl rfl <| jB9 5 rfl true (by first | rfl | exact hne | (simp; omega)) ?_
  refine sOn0 ?_
  refine sM rfl rfl <| sOn0 ?_
  refine jC8 Tryz.underlying9 rfl rfl <| sOn0 ?_
  refine jI2 rfl rfl rfl <| sP rfl rfl rfl <| sM rfl rfl <| jB9 10 rfl true (by first | rfl | exact hne | (simp; omega)) ?_
  refine sOn0 ?_
  refine sM rfl rfl <| sOn0 ?_
  refine sCP0 f1 ?_
  refine sP rfl rfl rfl <| sA rfl rfl <| sN (hZ _ _ ?_ ?_)
  ·exact kE rfl kF
  ·exact hV _
 refine aE <| nR10 rfl
def jQ5 (s : Bs) : Prop := s[0]? = some 47 ∧ s.length ≤ 64 ∧ s.all (fun b => pthN b.toNat) = true
def jP6 (s : Bs) : Prop := s ≠ [] ∧ s.length ≤ 32 ∧ s.all (fun b => hstN b.toNat) = true
theorem vU9 (s : Bs) (hs : s.length ≤ 1000000) : ∃ b, (b = true → jQ5 s) ∧ (jQ5 s → b = true) ∧ Fn Tryz.prog 113 [.string (str s)] [] fun v _ => v = .bool b := by
 have hE : Enters Tryz.prog 183 := (yN2 0).1
 have f1 := wL3 s _ [] [] Ro.nil (fun x => !pthN x) hE (fun x _ => yN2 x)
 have f2 := zJ0 s [47]
 have hpx : ∀ x, 128 ≤ x → (fun x => !pthN x) x = true := by
  intro x hx
  have h0 : ¬ (33 ≤ x ∧ x ≤ 126) := by omega
  simp [pthN, h0]
 have hb1 := yL0 (fun x => !pthN x) s
 have hpre : ([47] : Bs).isPrefixOf s = decide (s[0]? = some 47) := by
  cases s with
  | nil => rfl
  | cons a r => simp [List.isPrefixOf, Bool.beq_eq_decide_eq, eq_comm]
 rw [hpre] at f2
 obtain ⟨q, hq⟩ := xZ9 (Lib.idxFunc (fun x => !pthN x) true (str s))
 have hall : q < 0 ↔ s.all (fun b => pthN b.toNat) = true := by
  constructor
  ·intro hlt
   exact List.all_eq_true.2 fun b hb => by simpa using (wL2 hpx (hq ▸ hlt) b hb).2
  ·intro ha
   rw [← hq, vK9 (p := fun x => !pthN x) (fun b hb => ⟨by have := List.all_eq_true.1 ha b hb; simp [pthN] at this; omega, by simp [List.all_eq_true.1 ha b hb]⟩)]
   omega
 rw [hq] at f1 hb1
 refine ⟨decide (s[0]? = some 47) && decide (s.length ≤ 64) && decide (q < 0), fun h => ?_, fun h => ?_, ?_⟩
 ·simp only [xM, decide_eq_true_eq] at h
  exact ⟨h.1.1, h.1.2, hall.1 h.2⟩
 ·simp only [xM, decide_eq_true_eq]
  exact ⟨⟨h.1, h.2.1⟩, hall.2 h.2.2⟩
 refine fE 17 Tryz.func113 rfl (fun w0 => aA rfl rfl <| f1K 0 rfl <| aA rfl rfl <| f2K 0 3 rfl <| jA0 [(2, .bool (decide (s[0]? = some 47) && decide (s.length ≤ 64) && decide (q < 0)))] [] (fun Z hZ => ?_) ?_)
 ·refine sM rfl rfl <| sCP0 f2 ?_
  refine sM rfl rfl <| jB3 6 rfl (fun hb2 => ?_) (fun hb2 => ?_)
  ·refine sOn0 ?_
   refine sM rfl rfl <| sOn0 ?_
   refine jC8 Tryz.underlying9 rfl rfl <| sOn0 ?_
   refine jI2 rfl rfl rfl <| sP rfl rfl rfl <| sM rfl rfl <| jB3 11 rfl (fun hb7 => ?_) (fun hb7 => ?_)
   ·refine sOn0 ?_
    refine sM rfl rfl <| sOn0 ?_
    refine sM rfl rfl <| sOn0 ?_
    refine sCP0 f1 ?_
    refine sOn0 ?_
    refine jB0 ?_
    refine sP rfl rfl rfl <| sA rfl rfl <| sN (hZ _ _ ?_ ?_)
    ·exact kE (congrArg some (congrArg Value.bool (by clear f1 hall hpx; first | (exfalso; simp at *; done) | (rw [lS]; simp at *; omega) | (rw [lS]; simp_all; done) | (rw [lS]; simp_all; omega)))) kF
    ·exact hV _
   ·refine sO0 ?_
    refine sO0 ?_
    refine sO0 ?_
    refine sO0 ?_
    refine sP rfl rfl rfl <| sA rfl rfl <| sN (hZ _ _ ?_ ?_)
    ·exact kE (congrArg some (congrArg Value.bool (by clear f1 hall hpx; first | (exfalso; simp at *; done) | (rw [lS]; simp at *; omega) | (rw [lS]; simp_all; done) | (rw [lS]; simp_all; omega)))) kF
    ·exact hV _
  ·refine sO0 ?_
   refine sO0 ?_
   refine sO0 ?_
   refine sP rfl rfl rfl <| sM rfl rfl <| sO0 ?_
   refine sO0 ?_
   refine sO0 ?_
   refine sO0 ?_
   refine sP rfl rfl rfl <| sA rfl rfl <| sN (hZ _ _ ?_ ?_)
   ·exact kE (congrArg some (congrArg Value.bool (by clear f1 hall hpx; first | (exfalso; simp at *; done) | (rw [lS]; simp at *; omega) | (rw [lS]; simp_all; done) | (rw [lS]; simp_all; omega)))) kF
   ·exact hV _
 refine aE <| nR10 rfl
theorem vV1 (s : Bs) (hs : s.length ≤ 1000000) : ∃ b, (b = true → jP6 s) ∧ (jP6 s → b = true) ∧ Fn Tryz.prog 114 [.string (str s)] [] fun v _ => v = .bool b := by
 have hE : Enters Tryz.prog 186 := (yN5 0).1
 have f1 := wL3 s _ [] [] Ro.nil (fun x => !hstN x) hE (fun x _ => yN5 x)
 have hpx : ∀ x, 128 ≤ x → (fun x => !hstN x) x = true := by
  intro x hx
  have h0 : ¬ ((97 ≤ x ∧ x ≤ 122) ∨ (48 ≤ x ∧ x ≤ 57) ∨ x = 45 ∨ x = 46) := by omega
  simp [hstN, h0]
 have hb1 := yL0 (fun x => !hstN x) s
 obtain ⟨q, hq⟩ := xZ9 (Lib.idxFunc (fun x => !hstN x) true (str s))
 have hall : q < 0 ↔ s.all (fun b => hstN b.toNat) = true := by
  constructor
  ·intro hlt
   exact List.all_eq_true.2 fun b hb => by simpa using (wL2 hpx (hq ▸ hlt) b hb).2
  ·intro ha
   rw [← hq, vK9 (p := fun x => !hstN x) (fun b hb => ⟨by have := List.all_eq_true.1 ha b hb; simp [hstN] at this; omega, by simp [List.all_eq_true.1 ha b hb]⟩)]
   omega
 rw [hq] at f1 hb1
 refine ⟨(s != []) && decide (s.length ≤ 32) && decide (q < 0), fun h => ?_, fun h => ?_, ?_⟩
 ·simp only [xM, decide_eq_true_eq, bne_iff_ne] at h
  exact ⟨h.1.1, h.1.2, hall.1 h.2⟩
 ·simp only [xM, decide_eq_true_eq, bne_iff_ne]
  exact ⟨⟨h.1, h.2.1⟩, hall.2 h.2.2⟩
 refine fE 17 Tryz.func114 rfl (fun w0 => aA rfl rfl <| f1K 0 rfl <| aA rfl rfl <| f2K 0 3 rfl <| jA0 [(2, .bool ((s != []) && decide (s.length ≤ 32) && decide (q < 0)))] [] (fun Z hZ => ?_) ?_)
 ·refine sM rfl rfl <| jT9 rfl rfl rfl <| sM rfl rfl <| jB3 6 rfl (fun hb2 => ?_) (fun hb2 => ?_)
  ·refine sOn0 ?_
   refine sM rfl rfl <| sOn0 ?_
   refine jC8 Tryz.underlying9 rfl rfl <| sOn0 ?_
   refine jI2 rfl rfl rfl <| sP rfl rfl rfl <| sM rfl rfl <| jB3 11 rfl (fun hb7 => ?_) (fun hb7 => ?_)
   ·refine sOn0 ?_
    refine sM rfl rfl <| sOn0 ?_
    refine sM rfl rfl <| sOn0 ?_
    refine sCP0 f1 ?_
    refine sOn0 ?_
    refine jB0 ?_
    refine sP rfl rfl rfl <| sA rfl rfl <| sN (hZ _ _ ?_ ?_)
    ·exact kE (congrArg some (congrArg Value.bool (by clear f1 hall hpx; first | (exfalso; simp at *; done) | (rw [lS]; simp at *; omega) | (rw [lS]; simp_all; done) | (rw [lS]; simp_all; omega)))) kF
    ·exact hV _
   ·refine sO0 ?_
    refine sO0 ?_
    refine sO0 ?_
    refine sO0 ?_
    refine sP rfl rfl rfl <| sA rfl rfl <| sN (hZ _ _ ?_ ?_)
    ·exact kE (congrArg some (congrArg Value.bool (by clear f1 hall hpx; first | (exfalso; simp at *; done) | (rw [lS]; simp at *; omega) | (rw [lS]; simp_all; done) | (rw [lS]; simp_all; omega)))) kF
    ·exact hV _
  ·refine sO0 ?_
   refine sO0 ?_
   refine sO0 ?_
   refine sP rfl rfl rfl <| sM rfl rfl <| sO0 ?_
   refine sO0 ?_
   refine sO0 ?_
   refine sO0 ?_
   refine sP rfl rfl rfl <| sA rfl rfl <| sN (hZ _ _ ?_ ?_)
   ·exact kE (congrArg some (congrArg Value.bool (by clear f1 hall hpx; first | (exfalso; simp at *; done) | (rw [lS]; simp at *; omega) | (rw [lS]; simp_all; done) | (rw [lS]; simp_all; omega)))) kF
   ·exact hV _
 refine aE <| nR10 rfl
theorem cck0 : Lays.n240 Tryz.prog jI8 := by constructor <;> first | kernel_rfl | (intro w; kernel_rfl)
theorem cck1 : Builder.X72 Tryz.prog jI8 where
 sizeBuilder := by kernel_rfl
 liesBuilder := by kernel_rfl
theorem wP8 : Enters Tryz.prog 62 := Enters.mk Tryz.func62 (by kernel_rfl) (by kernel_rfl)
abbrev bldE (g : Nat) (p v : Value) : Ent := .own g 79 [p, v]
theorem vU1 (g : Nat) (p v : Value) (hp : p = .pointer none ∨ p = ptr g 0) : Fn Tryz.prog 62 [ptr g 0] [bldE g p v] fun u H' => u = .tuple #[] ∧ H' = [bldE g (ptr g 0) v] :=
 ⟨wP8, fun w hw => by
  have hm : w.heap[g]? = some (.cells [p, v].toArray 79 (0, 0)) := hw.mem (i := 0) (e := bldE g p v) rfl
  rcases hp with rfl | rfl
  ·refine (Any.Builder_copyCheck_fresh cck0 cck1 g w (by simp [World.cell?, hm]) (by simp [World.shape?, hm]; rfl) (by simp [World.frozen?, hm])).mono ?_
   rintro e w' ⟨rfl, rfl⟩
   exact ⟨_, _, rfl, ⟨rfl, rfl⟩, hw.turn (i := 0) rfl rfl (e' := bldE g (ptr g 0) v) rfl (Only.setCell w g 0 _) (Ent.setCell hm 0 (ptr g 0))⟩
  ·refine (Any.Builder_copyCheck_used cck0 cck1 g w (by simp [World.cell?, hm, ptr])).mono ?_
   rintro e w' ⟨rfl, rfl⟩
   exact ⟨_, _, rfl, ⟨rfl, rfl⟩, hw⟩⟩
section
variable {P : Program} {N : Frm} {w0 : World} {Wr : List Nat} {ops : Array Oper} {rest : List Oper} {fr : Fr} {H : Heap} {Z : Fr → Heap → Prop}
variable {d ty : Nat} {pos : String} {after : Array Edge}
theorem vB0 {t : TypeId} {x : Operand} {b : Addr} {n c : Nat} (hx : ev fr x = some (.slice (some b) n c)) (hc : c ≠ 0) (hN : bN d N)
  (h : sx P N w0 Wr ops rest ((d, .pointer (some b)) :: fr) H Z) : sx P N w0 Wr ops (⟨some d, .call { callee := .builtin .unsafeSliceData, args := #[x], argTypes := #[t] }, ty, pos, after, none⟩ :: rest) fr H Z :=
 jE4 _ hN (fun a w ha _ => by
  have := ha.eval hx
  simp [execOp, resolve, invoke, builtin, this, lJ, Lib.run_unsafeSliceData_row (P := P) w _ _ _ _ _ hc]) h
theorem kV0 {t : TypeId} {x : Operand} (hx : ev fr x = some (.slice none 0 0)) (hN : bN d N)
  (h : sx P N w0 Wr ops rest ((d, .pointer none) :: fr) H Z) : sx P N w0 Wr ops (⟨some d, .call { callee := .builtin .unsafeSliceData, args := #[x], argTypes := #[t] }, ty, pos, after, none⟩ :: rest) fr H Z :=
 jE4 _ hN (fun a w ha _ => by
  have := ha.eval hx
  have hd : (Builtin.unsafeSliceData_ #[t] ty #[.slice none 0 0]).run P w = .ok (.pointer none) w := rfl
  simp [execOp, resolve, invoke, builtin, this, lJ, hd]) h
theorem kG3 {t i : TypeId} {x y : Operand} {p : Option Addr} (hx : ev fr x = some (.pointer p)) (hy : ev fr y = some (iq 0)) (hN : bN d N)
  (h : sx P N w0 Wr ops rest ((d, .string (str [])) :: fr) H Z) : sx P N w0 Wr ops (⟨some d, .call { callee := .builtin .unsafeString, args := #[x, y], argTypes := #[t, i] }, ty, pos, after, none⟩ :: rest) fr H Z :=
 jE4 _ hN (fun a w ha _ => by
  have h1 := ha.eval hx
  have h2 := ha.eval hy
  simp only [execOp, resolve, uB, xR, qT, h1, h2, lJ, l7, lR, invoke, builtin, Lib.run_unsafeString_none]
  rfl) h
theorem kK2 (i : Nat) {t it e : TypeId} {x y : Operand} {g n c : Nat} {l : List UInt8} (ht : P.underlying t = some (.pointer e)) (hc : P.cellsOf e = 1) (hx : ev fr x = some (ptr g 0)) (hy : ev fr y = some (iq (n : Nat))) (hH : H[i]? = some (.ob g (RowP e 1 n c (bv l)))) (h0 : l ≠ []) (hn : n = l.length) (hN : bN d N)
  (h : sx P N w0 Wr ops rest ((d, .string (str l)) :: fr) (H.set i (.ro g 0 (bv l))) Z) : sx P N w0 Wr ops (⟨some d, .call { callee := .builtin .unsafeString, args := #[x, y], argTypes := #[t, it] }, ty, pos, after, none⟩ :: rest) fr H Z := by
 subst hn
 refine jI7 (R := fun v H' => v = .string (str l) ∧ H' = H.set i (.ro g 0 (bv l))) hN (fun a w ha hw => ?_) (fun v H' hR => by obtain ⟨rfl, rfl⟩ := hR; exact h)
 obtain ⟨ob, h1, cur, rfl, h2, h3, h4, h5, h6⟩ := hw.mem hH
 have h1' : w.heap[g]? = some (.cells cur e (0, 0)) := h1
 have had : ∀ j : Nat, (⟨g, 0, none⟩ : Addr).add j = ⟨g, j, none⟩ := fun j => by unfold Addr.add; split <;> simp_all
 have hcell : ∀ j x, l[j]? = some x → w.cell? ((⟨g, 0, none⟩ : Addr).add j) = some (.int .u8 x.toNat) := fun j x hj => by
  have hu : (bv l)[j]? = some (.int .u8 (x.toNat : Int)) := by simp [bv, hj]
  rw [← h5, zS] at hu
  split at hu
  ·rw [had j, cell_of_row w g j cur e (0, 0) h1']
   simpa using hu
  ·cases hu
 have hrun := Lib.run_unsafeString_row (P := P) w t it ty e ht hc g cur.size (by simp [World.shape?, h1']) l h0 (by omega) (by unfold maxLen at h3; omega) hcell
 refine ⟨_, w.freeze ⟨g, 0, none⟩ l.length, _, ?_, ⟨rfl, rfl⟩, hw.turn hH rfl (e' := .ro g 0 (bv l)) rfl ?_ ?_⟩
 ·simp only [execOp, resolve, uB, xR, qT, ha.eval hx, ha.eval hy, lJ, l7, lR, invoke, builtin, ptr, hrun]
  rfl
 ·refine ⟨by simp [World.freeze, h0], by simp [World.freeze, h0], by simp [World.freeze, h0], by simp [World.freeze, h0], fun k _ hk => ?_⟩
  have hk' : g ≠ k := fun e => hk (by simp [Ent.g, e])
  simp [World.freeze, h0, z6, hk']
 ·have hl : g < w.heap.size := (Array.getElem?_eq_some_iff.1 h1').1
  refine ⟨by simpa [World.freeze, h0, Ent.g] using hl, fun j u hu => ?_⟩
  have hj : l[j]?.isSome := by
   simp only [bv, xZ, Option.map_eq_some_iff] at hu
   obtain ⟨x, hx, _⟩ := hu
   rw [hx]; rfl
  obtain ⟨x, hx'⟩ := Option.isSome_iff_exists.1 hj
  have hux : u = .int .u8 (x.toNat : Int) := by simpa [bv, hx'] using hu.symm
  have hc2 := hcell j x hx'
  rw [had j] at hc2
  rw [lA, hux, ← hc2]
  simp [World.freeze, h0, World.cell?, z6, h1']
end
abbrev i32v (c : UInt8) : Value := .int .i32 (c.toNat : Int)
theorem yH2 (v : Value) (n : Nat) (l : List UInt8) (c : UInt8) (hc : c.toNat < 128) (hv : RowOk v n) (hn : n = l.length) (hl : l.length ≤ 1000000) :
  Fn Tryz.prog 248 [v, i32v c] (rowE v 5 1 (bv l)) fun u H' => RowOk u (n + 1) ∧ H' = rowE u 5 1 (bv (l ++ [c])) := by
 refine fE 16 Tryz.func248 rfl (fun w0 => aA rfl rfl <| f2K 0 1 rfl <| aS <| jA0 [(0, v), (1, i32v c), (7, .bool true)] (rowE v 5 1 (bv l)) (fun Z hZ => ?_) ?_)
 ·refine sM rfl rfl <| jD0 Tryz.underlying21 Tryz.underlying180 rfl ((c.toNat : Nat) : Int) (uH _ (by omega)) rfl ?_
  refine jI2 rfl rfl rfl <| sN (hZ _ _ ?_ ?_)
  ·exact kE rfl (kE rfl (kE (congrArg some (congrArg Value.bool (by simp; omega))) kF))
  ·exact hV _
 refine aC0 (fun h => ?_) (fun h => ?_)
 ·refine aR (fun Z hZ => sM rfl rfl <| sM rfl rfl <| jD0 Tryz.underlying21 Tryz.underlying5 rfl ((c.toNat : Nat) : Int) (IntWalk.u8_in _ (by omega)) rfl ?_)
  refine sBS0 Tryz.underlying72 tyS5 tyZ5 (fun g1 => ?_)
  refine jD3 [_] kR1 rfl hv (by rw [jF9, hn, qN]) rfl (fun w hw => jI0 (i := 0) (n := 1) (xs := bv [c]) rfl rfl hw) rfl (by show _ ≤ 9223372036854775807; omega) (by omega) (hV _) rfl (fun v2 hv2 => ?_)
  refine sAN hZ rfl rfl ?_
  refine f1K 4 rfl ?_
  refine aE ?_
  repeat (with_reducible refine nTR ?_)
  exact jD9 (rowE v2 5 1 (bv l ++ bv [c])) rfl rfl (kA (lX [_] _)) ⟨hv2, by rw [jP4]⟩
 ·cases h
theorem wV8 (g : Nat) (p v : Value) (l : List UInt8) (c : UInt8) (hc : c.toNat < 128) (hp : p = .pointer none ∨ p = ptr g 0) (hv : RowOk v l.length) (hl : l.length ≤ 1000000) :
  Fn Tryz.prog 202 [ptr g 0, i32v c] ([bldE g p v] ++ rowE v 5 1 (bv l)) fun u H' => u = .tuple #[iq 1, .nilIface] ∧ ∃ v', RowOk v' (l.length + 1) ∧ H' = [bldE g (ptr g 0) v'] ++ rowE v' 5 1 (bv (l ++ [c])) := by
 obtain ⟨A, cp, rfl, hA⟩ := hv.form
 refine fE 30 Tryz.func202 rfl (fun w0 => aR fun Z hZ => sA rfl rfl <| sAN hZ rfl rfl <| f2K 0 1 rfl <| aR fun Z hZ => sM rfl rfl <| jB4 [bldE g p (.slice A l.length cp)] (rowE (.slice A l.length cp) 5 1 (bv l)) (vU1 g p _ hp) rfl (hV _) rfl ?_)
 rintro v H' ⟨rfl, rfl⟩
 refine sN (hZ _ _ <| f2K 0 1 rfl <| aR fun Z hZ => sM rfl rfl <| jA1 ?_)
 refine sFA0 jI1 ?_
 first | refine sL0 0 tyA72 tyS72 ?_
 refine jE5 Tryz.underlying72 rfl rfl <| sAN hZ rfl rfl <| f3K 0 1 6 rfl <| aR fun Z hZ => sM rfl rfl <| sM rfl rfl <| jA1 ?_
 refine sFA0 jI1 ?_
 first | refine sL0 0 tyA72 tyS72 ?_
 refine sM rfl rfl <| jB4 (rowE (.slice A l.length cp) 5 1 (bv l)) [bldE g (ptr g 0) (.slice A l.length cp)] (yH2 _ _ l c hc hv rfl hl) rfl (kD _ _) rfl ?_
 rintro v2 H' ⟨hv2, rfl⟩
 rw [jE2]
 obtain ⟨A2, cp2, rfl, hA2⟩ := hv2.form
 refine jC6 ([bldE g (ptr g 0) (.slice A l.length cp)] ++ rowE (.slice A2 (l.length + 1) cp2) 5 1 (bv (l ++ [c]))) (kD _ _) <| jA1 ?_
 refine sFA0 jI1 ?_
 first | refine sS10 0 tyS72 ?_
 refine sN (hZ _ _ <| f2K 0 6 rfl <| aR fun Z hZ => sM rfl rfl <| jA1 ?_)
 refine sFA0 jI1 ?_
 first | refine sL0 0 tyA72 tyS72 ?_
 refine jE5 Tryz.underlying72 rfl rfl <| sM rfl rfl <| jN0 rfl rfl _ rfl rfl <| sA rfl rfl <| sAN hZ rfl rfl <| f2K 4 5 rfl <| aE <| jD8 ([bldE g (ptr g 0) (.slice A2 (l.length + 1) cp2)] ++ rowE (.slice A2 (l.length + 1) cp2) 5 1 (bv (l ++ [c]))) rfl rfl rfl (hV _) ⟨by rw [show IntKind.i64.wrap (((l.length + 1 : Nat) : Int) - ((l.length : Nat) : Int)) = 1 by rw [lT _ (by omega)]; omega], _, hv2, rfl⟩
theorem wS8 (g : Nat) (p v : Value) (l : List UInt8) (hv : RowOk v l.length) (h0 : l = [] → v = .slice none 0 0) :
  Fn Tryz.prog 23 [ptr g 0] ([bldE g p v] ++ rowE v 5 1 (bv l)) fun u _ => u = .string (str l) := by
 refine fE 14 Tryz.func23 rfl (fun w0 => aA rfl rfl <| f1K 0 rfl ?_)
 rcases hv with ⟨rfl, hl0⟩ | ⟨g', cp, rfl⟩
 ·have hl : l = [] := List.length_eq_zero_iff.1 hl0
  subst hl
  refine jD5 _ [(0, true), (1, true), (2, true), (3, true), (4, false), (5, true), (6, true), (7, true), (8, true), (9, true), (10, false), (11, true)] jF1 (by kernel_rfl) (HLe.pick [0] (by simp) (by simp only [pick, l8, lY]; rfl)) (fun Z hZ => ?_)
  refine tw_p rfl <| jA5 ?_
  refine vN <| tw_p rfl <| jC0 rfl rfl <| vN <| tw_p rfl <| jA3 jI1 ?_
  refine vN <| tw_p rfl ?_
  first | refine jD6 0 rfl rfl tyA72 tyS72 rfl rfl ?_
  refine vN <| tw_g rfl <| kV0 rfl rfl <| sN ⟨pH [0] rfl, ?_⟩
  refine tw_p rfl <| jA5 ?_
  refine vN <| tw_p rfl <| jC0 rfl rfl <| vN <| tw_p rfl <| jA3 jI1 ?_
  refine vN <| tw_p rfl ?_
  first | refine jD6 0 rfl rfl tyA72 tyS72 rfl rfl ?_
  refine vN <| tw_p rfl <| jZ6 Tryz.underlying72 rfl rfl <| vN <| tw_g rfl <| kG3 rfl rfl rfl <| sN ⟨pH [0] rfl, ?_⟩
  refine tw_p rfl <| jE3 rfl rfl <| vN <| jH1 (hZ _ _ <| f1K 2 rfl <| aE <| nR10 rfl)
 ·have hl : l ≠ [] := fun h => by cases h0 h
  refine jW4 (fun w hw => row_cap (RowOk.mk g' l.length cp) (fun x hx => x7 _ hx) hw) (fun hcap => ?_)
  have hpos : 0 < l.length := List.length_pos_iff.2 hl
  refine jD5 _ [(0, true), (1, true), (2, true), (3, true), (4, false), (5, true), (6, true), (7, true), (8, true), (9, true), (10, false), (11, true)] jF1 (by kernel_rfl) (HLe.pick [0] (by simp) (by simp only [pick, l8, lY]; rfl)) (fun Z hZ => ?_)
  refine tw_p rfl <| jA5 ?_
  refine vN <| tw_p rfl <| jC0 rfl rfl <| vN <| tw_p rfl <| jA3 jI1 ?_
  refine vN <| tw_p rfl ?_
  first | refine jD6 0 rfl rfl tyA72 tyS72 rfl rfl ?_
  refine vN <| tw_g rfl <| vB0 rfl (by have := hcap.1; omega) rfl ?_
  refine sN ⟨pH [0] rfl, ?_⟩
  refine tw_p rfl <| jA5 ?_
  refine vN <| tw_p rfl <| jC0 rfl rfl <| vN <| tw_p rfl <| jA3 jI1 ?_
  refine vN <| tw_p rfl ?_
  first | refine jD6 0 rfl rfl tyA72 tyS72 rfl rfl ?_
  refine vN <| tw_p rfl <| jZ6 Tryz.underlying72 rfl rfl <| vN <| tw_g rfl <| kK2 1 Tryz.underlying143 (by kernel_rfl) rfl rfl rfl hl rfl rfl ?_
  refine sN ⟨pH [0] rfl, ?_⟩
  refine tw_p rfl <| jE3 rfl rfl <| vN <| jH1 (hZ _ _ <| f1K 2 rfl <| aE <| nR10 rfl)
section
variable {P : Program} {N : Frm} {w0 : World} {Wr : List Nat} {ops : Array Oper} {rest : List Oper} {fr : Fr} {H : Heap} {Z : Fr → Heap → Prop}
variable {d ty : Nat} {pos : String} {after : Array Edge}
theorem wD8 {t e : TypeId} {x : Operand} {A : Option Addr} {n c : Nat} (ht : P.underlying t = some (.slice e)) (hx : ev fr x = some (.slice A n c)) (hN : bN d N)
  (h : sx P N w0 Wr ops rest ((d, iq (c : Nat)) :: fr) H Z) : sx P N w0 Wr ops (⟨some d, .call { callee := .builtin .cap, args := #[x], argTypes := #[t] }, ty, pos, after, none⟩ :: rest) fr H Z :=
 jE4 _ hN (fun a w ha _ => by
  have := ha.eval hx
  simp [execOp, resolve, invoke, builtin, this, lJ, Builtin.cap_, run_underlying ht, goInt]) h
theorem zF6 {t e : TypeId} {x : Operand} {A : Option Addr} {n c : Nat} (ht : P.underlying t = some (.slice e)) (hx : ev fr x = some (.slice A n c)) (hN : bN d N)
  (h : sq P N w0 Wr ops rest ((d, iq (c : Nat)) :: fr) H Z) : sq P N w0 Wr ops (⟨some d, .call { callee := .builtin .cap, args := #[x], argTypes := #[t] }, ty, pos, after, none⟩ :: rest) fr H Z :=
 jJ0 _ hN (fun a w ha _ => by
  have := ha.eval hx
  simp [execOp, resolve, invoke, builtin, this, lJ, Builtin.cap_, run_underlying ht, goInt]) h
theorem kP1 {t e n g o len c h' : Nat} {x y : Operand} (ht : P.underlying t = some (.slice e)) (hs : tySize P e = some n) (hx : ev fr x = some (.slice (some ⟨g, o, none⟩) len c)) (hy : ev fr y = some (iq (h' : Nat))) (h2 : h' ≤ c) (hN : bN d N)
  (h : sx P N w0 Wr ops rest ((d, .slice (some ⟨g, o, none⟩) h' c) :: fr) H Z) : sx P N w0 Wr ops (⟨some d, .slice t x none (some y) none, ty, pos, after, none⟩ :: rest) fr H Z :=
 jE4 (.slice (some ⟨g, o, none⟩) h' c) hN (fun a w ha _ => by
  have hb := jH5 (P := P) (isS := true) (len := len) (cap := c) (w := w) ha (show bnd fr 0 none = some (0 : Int) from rfl) (show bnd fr (len : Int) (some y) = some ((h' : Nat) : Int) from by simp [bnd, hy]) (by omega) (by omega) (by omega)
  simp only [execOp, Instr.sliceAt, Instr.slice, ha.eval hx, lJ, run_underlying ht, lR, zK, l7, jC5 hs, qG, jG5]
  simp only [zK, qG] at hb
  by_cases hc : c = 0 <;> simp [hb, hc] <;> (subst hc; simp [hb])) h
theorem vW4 {t e n g o len c h' : Nat} {x y : Operand} (ht : P.underlying t = some (.slice e)) (hs : tySize P e = some n) (hx : ev fr x = some (.slice (some ⟨g, o, none⟩) len c)) (hy : ev fr y = some (iq (h' : Nat))) (h2 : h' ≤ c) (hN : bN d N)
  (h : sv P N w0 Wr ops rest ((d, .slice (some ⟨g, o, none⟩) h' c) :: fr) H Z) : sv P N w0 Wr ops (⟨some d, .slice t x none (some y) none, ty, pos, after, none⟩ :: rest) fr H Z :=
 jK5 (.slice (some ⟨g, o, none⟩) h' c) hN (fun a w ha _ => by
  have hb := jH5 (P := P) (isS := true) (len := len) (cap := c) (w := w) ha (show bnd fr 0 none = some (0 : Int) from rfl) (show bnd fr (len : Int) (some y) = some ((h' : Nat) : Int) from by simp [bnd, hy]) (by omega) (by omega) (by omega)
  simp only [execOp, Instr.sliceAt, Instr.slice, ha.eval hx, lJ, run_underlying ht, lR, zK, l7, jC5 hs, qG, jG5]
  simp only [zK, qG] at hb
  by_cases hc : c = 0 <;> simp [hb, hc] <;> (subst hc; simp [hb])) h
theorem wY3 {t t' e : TypeId} {n : Nat} {x y : Operand} {A : Option Addr} {m c : Nat} (ht : P.underlying t = some (.slice e)) (hs : tySize P e = some n) (hx : ev fr x = some (.slice A m c)) (hy : ev fr y = some (.slice none 0 0)) (hN : bN d N)
  (h : sx P N w0 Wr ops rest ((d, iq (0 : Nat)) :: fr) H Z) : sx P N w0 Wr ops (⟨some d, .call { callee := .builtin .copy, args := #[x, y], argTypes := #[t, t'] }, ty, pos, after, none⟩ :: rest) fr H Z :=
 jE4 _ hN (fun a w ha _ => by
  have e1 := ha.eval hx
  have e2 := ha.eval hy
  have e3 : (sizeOf e).run P w = .ok n w := jC5 hs
  simp only [execOp, resolve, invoke, builtin, uB, xR, qT, e1, e2, lJ, l7, lR, Builtin.copy_]
  cases A <;> simp [run_underlying ht, Builtin.lenOf, Builtin.firstCells, e3, goInt, storeCells]) h
theorem wD3 {f : FuncId} {fn : Func} {ps : Array TypeId} {t e : TypeId} {xs : List Operand} {ts : Array TypeId} {n : Nat} (hf : P.funcs[f]? = some fn) (hname : (fn.name == "runtime.NumGoroutine") = false)
  (hb : fn.body.isNone = true) (hn : Extern.findNext fn = none) (he : Extern.find fn = some (Extern.BytealgMakeNoZero.makeNoZero ps #[t])) (ht : P.underlying t = some (.slice e)) (hx : evs fr xs = some [iq (n : Nat)]) (hn2 : n ≤ 281474976710656) (hN : bN d N)
  (h : ∀ g c, n ≤ c → sx P N w0 Wr ops rest ((d, .slice (some ⟨g, 0, none⟩) n c) :: fr) (H ++ [.ob g (RowP e 1 0 c [])]) Z) :
  sx P N w0 Wr ops (⟨some d, .call { callee := .value (.func f), args := xs.toArray, argTypes := ts }, ty, pos, after, none⟩ :: rest) fr H Z :=
 kK5 (R := fun v H' => ∃ g c, n ≤ c ∧ v = .slice (some ⟨g, 0, none⟩) n c ∧ H' = H ++ [.ob g (RowP e 1 0 c [])]) hf hname hb hn he hx hN (fun w hw => by
  obtain ⟨cs, h1, h2, h3⟩ := Lib.run_makeNoZero (P := P) w ps t e ht n hn2
  exact ⟨_, _, _, h1, ⟨_, _, h2, rfl, rfl⟩, (kD [_] H) _ _ _ (hw.drew.drew.allocOb _ _ ⟨cs, rfl, lZ _, h3 (by show n ≤ 9223372036854775807; omega), by simp, by simp, by simp⟩)⟩) (fun v H' hR => by obtain ⟨g, c, hc, rfl, rfl⟩ := hR; exact h g c hc)
end
theorem yE4 (g n : Nat) (hn : n ≤ 1000000) :
  Fn Tryz.prog 230 [ptr g 0, iq (n : Nat)] [bldE g (ptr g 0) (.slice none 0 0)] fun u H' => u = .tuple #[] ∧ ∃ v', RowOk v' 0 ∧ H' = [bldE g (ptr g 0) v'] ++ rowE v' 5 1 [] := by
 refine fE 30 Tryz.func230 rfl (fun w0 => jD5 _ [(0, true), (1, true), (2, true), (3, true), (4, false), (5, true), (6, true), (7, true), (8, false), (9, true), (10, true), (11, true), (12, true), (13, true), (14, true), (15, true)] jF1 (by kernel_rfl) (HLe.pick [0] (by simp) (by simp only [pick, l8, qS]; rfl)) (fun Z hZ => ?_))
 refine tw_p rfl <| jA5 ?_
 refine vN <| tw_p rfl <| jC0 rfl rfl <| vN <| tw_p rfl <| jA3 jI1 ?_
 refine vN <| tw_p rfl ?_
 first | refine jD6 0 rfl rfl tyA72 tyS72 rfl rfl ?_
 refine vN <| tw_g rfl <| wD8 Tryz.underlying72 rfl rfl <| sN ⟨pH [0] rfl, ?_⟩
 refine tw_p rfl <| zF2 rfl rfl (0 : Int) (by decide) rfl ?_
 refine vN <| tw_p rfl <| jA5 ?_
 refine vN <| tw_p rfl <| vP6 rfl rfl ((n : Nat) : Int) (by rw [lT _ (by omega)]; omega) rfl ?_
 refine vN <| tw_g rfl <| wD3 (ps := #[3]) Tryz.func265 (by kernel_rfl) (by kernel_rfl) (by kernel_rfl) (by kernel_rfl) Tryz.underlying72 rfl (by omega) rfl (fun gb cb hcb => ?_)
 refine sN ⟨pH [0] rfl, ?_⟩
 refine tw_p rfl <| jA5 ?_
 refine vN <| tw_p rfl <| jC0 rfl rfl <| vN <| tw_p rfl <| jA3 jI1 ?_
 refine vN <| tw_p rfl ?_
 first | refine jD6 0 rfl rfl tyA72 tyS72 rfl rfl ?_
 refine vN <| tw_p rfl <| jZ6 Tryz.underlying72 rfl rfl <| vN <| tw_p rfl <| vW4 (h' := 0) Tryz.underlying72 tyS5 rfl rfl (lZ _) rfl <| vN <| tw_p rfl <| jE3 rfl rfl <| vN ?_
 refine jH1 (hZ _ _ <| f2K 0 4 rfl <| aR fun Z hZ => sM rfl rfl <| sM rfl rfl <| jA1 ?_)
 refine sFA0 jI1 ?_
 refine sL0 0 tyA72 tyS72 ?_
 refine wY3 Tryz.underlying72 tyS5 rfl rfl rfl <| sN (hZ _ _ <| f2K 0 4 rfl <| aG (fun Z hZ => sM rfl rfl <| sM rfl rfl <| jA1 ?_))
 refine sFA0 jI1 ?_
 refine sS10 0 tyS72 ?_
 refine sN (hZ _ _ <| nF [] (kF) <| jM8 ([bldE g (ptr g 0) (.slice (some ⟨gb, 0, none⟩) 0 cb)] ++ rowE (.slice (some ⟨gb, 0, none⟩) 0 cb) 5 1 []) rfl (hV _) ⟨rfl, _, RowOk.mk _ _ _, rfl⟩)
theorem yG5 (g n : Nat) (hn : n ≤ 1000000) (h0 : 0 < n) :
  Fn Tryz.prog 175 [ptr g 0, iq (n : Nat)] [bldE g (.pointer none) (.slice none 0 0)] fun u H' => u = .tuple #[] ∧ ∃ v', RowOk v' 0 ∧ H' = [bldE g (ptr g 0) v'] ++ rowE v' 5 1 [] := by
 refine fE 25 Tryz.func175 rfl (fun w0 => aR fun Z hZ => sM rfl rfl <| jB4 [bldE g (.pointer none) (.slice none 0 0)] [] (vU1 g _ _ (.inl rfl)) rfl (hV _) rfl ?_)
 rintro v H' ⟨rfl, rfl⟩
 refine sN (hZ _ _ <| f2K 0 1 rfl <| aS <| aR fun Z hZ => sM rfl rfl <| jB0 ?_)
 refine sN (hZ _ _ <| f3K 0 1 7 rfl <| aC0 (fun h1 => ?_) (fun h1 => ?_))
 ·simp at h1; omega
 refine aK <| nN <| jC1 jF1 (by kernel_rfl) (fun Z hZ => ?_)
 refine qM rfl rfl <| jC7 rfl rfl <| qFA0 jI1 ?_
 first | refine jA9 0 tyA72 tyS72 ?_
 refine zF6 Tryz.underlying72 rfl rfl <| qM rfl rfl <| jC7 rfl rfl <| qFA0 jI1 ?_
 first | refine jA9 0 tyA72 tyS72 ?_
 refine vP8 Tryz.underlying72 rfl rfl <| vP7 rfl rfl (0 : Int) (by decide) rfl ?_
 refine qM rfl rfl <| kP5 rfl rfl rfl <| jE9 (hZ _ _ <| f3K 0 1 21 rfl <| aC0 (fun h2 => ?_) (fun h2 => ?_))
 ·refine aG (fun Z hZ => sM rfl rfl <| sM rfl rfl <| jB4 [bldE g (ptr g 0) (.slice none 0 0)] [] (yE4 g n hn) rfl (hV _) rfl ?_)
  rintro v H' ⟨rfl, v', hv', rfl⟩
  refine sN (hZ _ _ <| nF [] (kF) ?_)
  obtain ⟨A, c, rfl, hA⟩ := hv'.form
  exact jM8 ([bldE g (ptr g 0) (.slice A 0 c)] ++ rowE (.slice A 0 c) 5 1 []) rfl (kA (by rw [lH, qJ, jE2]; exact xO _)) ⟨rfl, _, hv', rfl⟩
 ·simp at h2; omega
theorem yM5 (g : Nat) (p v : Value) (l m : List UInt8) (hp : p = .pointer none ∨ p = ptr g 0) (hv : RowOk v l.length) (hl : l.length + m.length ≤ 1000000) :
  Fn Tryz.prog 24 [ptr g 0, .string (str m)] ([bldE g p v] ++ rowE v 5 1 (bv l)) fun u H' => u = .tuple #[iq (m.length : Nat), .nilIface] ∧ ∃ v', RowOk v' (l ++ m).length ∧ H' = [bldE g (ptr g 0) v'] ++ rowE v' 5 1 (bv (l ++ m)) := by
 obtain ⟨A, cp, rfl, hA⟩ := hv.form
 refine fE 19 Tryz.func24 rfl (fun w0 => aR fun Z hZ => sA rfl rfl <| sAN hZ rfl rfl <| f2K 0 1 rfl <| aR fun Z hZ => sM rfl rfl <| jB4 [bldE g p (.slice A l.length cp)] (rowE (.slice A l.length cp) 5 1 (bv l)) (vU1 g p _ hp) rfl (hV _) rfl ?_)
 rintro v H' ⟨rfl, rfl⟩
 refine sN (hZ _ _ <| f2K 0 1 rfl <| aR fun Z hZ => sM rfl rfl <| sM rfl rfl <| jA1 ?_)
 refine sFA0 jI1 ?_
 first | refine sL0 0 tyA72 tyS72 ?_
 refine sM rfl rfl <| jP8 (l := l) (m := m) [bldE g (ptr g 0) (.slice A l.length cp)] Tryz.underlying72 Tryz.underlying9 (by kernel_rfl) rfl hv rfl (by omega) (hV _) rfl (fun v2 hv2 => ?_)
 obtain ⟨A2, cp2, rfl, hA2⟩ := hv2.form
 refine jA1 ?_
 refine sFA0 jI1 ?_
 first | refine sS10 0 tyS72 ?_
 refine sN (hZ _ _ <| f1K 1 rfl <| aR fun Z hZ => sM rfl rfl <| jC8 Tryz.underlying9 rfl rfl <| sA rfl rfl <| sAN hZ rfl rfl <| f2K 4 5 rfl <| aE <| jD8 ([bldE g (ptr g 0) (.slice A2 (l ++ m).length cp2)] ++ rowE (.slice A2 (l ++ m).length cp2) 5 1 (bv (l ++ m))) rfl rfl rfl (hV _) ⟨rfl, _, hv2, rfl⟩)
theorem zL7 (g : Nat) (p v : Value) (l : List UInt8) (c : UInt8) (hp : p = .pointer none ∨ p = ptr g 0) (hv : RowOk v l.length) (hl : l.length ≤ 1000000) :
  Fn Tryz.prog 204 [ptr g 0, ub c.toNat] ([bldE g p v] ++ rowE v 5 1 (bv l)) fun u H' => u = .nilIface ∧ ∃ v', RowOk v' (l.length + 1) ∧ H' = [bldE g (ptr g 0) v'] ++ rowE v' 5 1 (bv (l ++ [c])) := by
 obtain ⟨A, cp, rfl, hA⟩ := hv.form
 refine fE 17 Tryz.func204 rfl (fun w0 => aA rfl rfl <| f2K 0 1 rfl <| aR fun Z hZ => sM rfl rfl <| jB4 [bldE g p (.slice A l.length cp)] (rowE (.slice A l.length cp) 5 1 (bv l)) (vU1 g p _ hp) rfl (hV _) rfl ?_)
 rintro v H' ⟨rfl, rfl⟩
 refine sN (hZ _ _ <| f2K 0 1 rfl <| aR fun Z hZ => sM rfl rfl <| sM rfl rfl <| jA1 ?_)
 refine sFA0 jI1 ?_
 first | refine sL0 0 tyA72 tyS72 ?_
 refine sM rfl rfl <| sBS0 Tryz.underlying72 tyS5 tyZ5 (fun g1 => ?_)
 refine jD3 [_, bldE g (ptr g 0) (.slice A l.length cp)] kR1 rfl hv (by rw [jF9, qN]) rfl (fun w hw => jI0 (i := 0) (n := 1) (xs := bv [c]) rfl rfl hw) rfl (by show _ ≤ 9223372036854775807; omega) (by omega) (hV _) rfl (fun v2 hv2 => ?_)
 obtain ⟨A2, cp2, rfl, hA2⟩ := hv2.form
 rw [← jP4]
 refine jA1 ?_
 refine sFA0 jI1 ?_
 refine sS10 1 tyS72 ?_
 refine sN (hZ _ _ <| aF [] (kF) <| aA rfl rfl <| f1K 4 rfl <| aE <| jD9 ([bldE g (ptr g 0) (.slice A2 (l.length + 1) cp2)] ++ rowE (.slice A2 (l.length + 1) cp2) 5 1 (bv (l ++ [c]))) rfl rfl (kC 1 rfl) ⟨rfl, _, hv2, rfl⟩)
theorem wT7 (g : Nat) (p : Value) (A : Option Addr) (n c : Nat) : Fn Tryz.prog 203 [ptr g 0] [bldE g p (.slice A n c)] fun u H' => u = iq (c : Nat) ∧ H' = [bldE g p (.slice A n c)] := by
 refine fE 8 Tryz.func203 rfl (fun w0 => aA rfl rfl <| f1K 0 rfl <| aR fun Z hZ => sM rfl rfl <| jA1 ?_)
 refine sFA0 jI1 ?_
 first | refine sL0 0 tyA72 tyS72 ?_
 refine wD8 Tryz.underlying72 rfl rfl <| sAN hZ rfl rfl <| f1K 2 rfl <| aE <| nR10 ⟨rfl, rfl⟩
theorem yS9 (c : UInt8) (hc : c.toNat < 128) : Fn Tryz.prog 201 [i32v c] [] fun u _ => u = iq 1 := by
 refine fE 25 Tryz.func201 rfl (fun w0 => aA rfl rfl <| f1K 0 rfl <| aS (aB <| aR fun Z hZ => sM rfl rfl <| jB0 ?_))
 refine sAN hZ rfl rfl <| f2K 0 3 rfl <| aC0 (fun h1 => ?_) (fun h1 => ?_)
 ·simp at h1; omega
 refine aR fun Z hZ => sM rfl rfl <| jI2 rfl rfl rfl <| sAN hZ rfl rfl <| f2K 0 6 rfl <| aC0 (fun h2 => ?_) (fun h2 => ?_)
 ·refine aR (fun Z hZ => ?_)
  refine sAN hZ rfl rfl ?_
  refine f1K 2 rfl ?_
  refine aE ?_
  repeat (with_reducible (first | refine nTR ?_ | refine nBR ?_))
  exact nR1 rfl rfl rfl
 ·simp at h2; omega
abbrev sitE (r : Nat) (s : List UInt8) (i : Nat) : Ent := .ob r (fun o => o = .stringIter (str s) i)
section
variable {P : Program} {N : Frm} {w0 : World} {Wr : List Nat} {ops : Array Oper} {rest : List Oper} {fr : Fr} {H : Heap} {Z : Fr → Heap → Prop}
variable {d ty : Nat} {pos : String} {after : Array Edge}
theorem vB1 {T : TypeId} {x : Operand} {s : List UInt8} (hT : P.underlying T = some .string) (hx : ev fr x = some (.string (str s))) (hN : bN d N)
  (h : ∀ r, sx P N w0 Wr ops rest ((d, ptr r 0) :: fr) (sitE r s 0 :: H) Z) : sx P N w0 Wr ops (⟨some d, .range T x, ty, pos, after, none⟩ :: rest) fr H Z := by
 refine jI7 (R := fun v H' => ∃ r, v = ptr r 0 ∧ H' = sitE r s 0 :: H) hN (fun a w ha hw => ?_) (fun v H' hR => by obtain ⟨r, rfl, rfl⟩ := hR; exact h r)
 refine ⟨_, w.alloc (.stringIter (str s) 0), _, ?_, ⟨w.heap.size, rfl, rfl⟩, hw.allocOb _ _ rfl⟩
 simp [execOp, ha.eval hx, run_range_string w T (str s) hT, ptr, World.iter]
theorem wY0 (i : Nat) {x : Operand} {r k : Nat} {s : List UInt8} (hx : ev fr x = some (ptr r 0)) (hH : H[i]? = some (sitE r s k)) (hs : ∀ c, s[k]? = some c → c.toNat < 128) (hN : bN d N)
  (h0 : s.length ≤ k → sx P N w0 Wr ops rest ((d, .tuple #[.bool false]) :: fr) H Z)
  (h1 : ∀ c, s[k]? = some c → sx P N w0 Wr ops rest ((d, .tuple #[.bool true, iq (k : Nat), i32v c]) :: fr) (H.set i (sitE r s (k + 1))) Z) :
  sx P N w0 Wr ops (⟨some d, .next x true, ty, pos, after, none⟩ :: rest) fr H Z := by
 refine jI7 (R := fun v H' => (s.length ≤ k ∧ v = .tuple #[.bool false] ∧ H' = H) ∨ ∃ c, s[k]? = some c ∧ v = .tuple #[.bool true, iq (k : Nat), i32v c] ∧ H' = H.set i (sitE r s (k + 1))) hN (fun a w ha hw => ?_) (fun v H' hR => ?_)
 ·obtain ⟨o, hr, ho⟩ := (hw.ents _ (xN hH)).1
  subst ho
  have he : a.eval x = .pointer (some ⟨r, 0, none⟩) := ha.eval hx
  by_cases hk : k < s.length
  ·obtain ⟨c, hc⟩ : ∃ c, s[k]? = some c := ⟨_, xF hk⟩
   obtain ⟨hlt, hg⟩ : ∃ h : k < (str s).size, ((str s)[k]'h).toNat = c.toNat := by
    obtain ⟨_, rfl⟩ := List.getElem?_eq_some_iff.1 hc
    exact ⟨by rw [str_size]; exact hk, rfl⟩
   have hsz := (Array.getElem?_eq_some_iff.1 hr).1
   refine ⟨_, { w with heap := w.heap.setIfInBounds r (.stringIter (str s) (k + 1)) }, _, ?_, .inr ⟨c, hc, rfl, rfl⟩, ?_⟩
   ·simp only [execOp, he, Instr.next, getObj, setObj, lJ, Sem.run, hr, Result.andThen, hlt, if_true, decode_ascii (str s) k hlt (by rw [hg]; exact hs c hc), hg]
    simp [goInt, Sem.run, hr, hsz]
   ·refine hw.turn hH rfl rfl ⟨rfl, rfl, rfl, by simp, fun j _ hj => ?_⟩ ⟨_, ?_, rfl⟩
    ·have : r ≠ j := fun e => hj (by simp [e, Ent.g])
     show (w.heap.setIfInBounds r _)[j]? = _
     rw [Array.getElem?_setIfInBounds_ne this]
    ·show (w.heap.setIfInBounds r _)[r]? = _
     rw [Array.getElem?_setIfInBounds_self_of_lt hsz]
  ·refine ⟨_, w, _, ?_, .inl ⟨by omega, rfl, rfl⟩, hw⟩
   have hlt : ¬ k < (str s).size := by rw [str_size]; exact hk
   simp [execOp, he, Instr.next, getObj, Sem.run, hr, hlt]
 ·rcases hR with ⟨h2, rfl, rfl⟩ | ⟨c, hc, rfl, rfl⟩
  ·exact h0 h2
  ·exact h1 c hc
theorem vB4 (i : Nat) {x : Operand} {r k : Nat} {s : List UInt8} (hx : ev fr x = some (ptr r 0)) (hH : H[i]? = some (sitE r s k)) (hs : ∀ c, s[k]? = some c → c.toNat < 128) (hN : bN d N)
  (h : ∀ (u : Bool) (tl : List Value) (k' : Nat), (u = false → s.length ≤ k) → (u = true → ∃ c, s[k]? = some c ∧ tl = [iq (k : Nat), i32v c] ∧ k' = k + 1) → sx P N w0 Wr ops rest ((d, .tuple (Value.bool u :: tl).toArray) :: fr) (H.set i (sitE r s k')) Z) :
  sx P N w0 Wr ops (⟨some d, .next x true, ty, pos, after, none⟩ :: rest) fr H Z :=
 wY0 i hx hH hs hN (fun h0 => by
  have := h false [] k (fun _ => h0) (fun e => by cases e)
  have e : H.set i (sitE r s k) = H := by
   obtain ⟨hl, he⟩ := List.getElem?_eq_some_iff.1 hH
   rw [← he, List.set_getElem_self]
  rwa [e] at this) (fun c hc => h true [iq (k : Nat), i32v c] (k + 1) (fun e => by cases e) (fun _ => ⟨c, hc, rfl, rfl⟩))
end
theorem wG2 (s : List UInt8) (f : FuncId) (caps : List Value) (St : Nat → Heap) (m : Nat → UInt8) (hs : ∀ b ∈ s, b.toNat < 128) (hl : s.length ≤ 1000) (hm : ∀ j, (m j).toNat < 128) (hW : ∀ j, Wrs (St j))
  (hf : ∀ j c, s[j]? = some c → Fn Tryz.prog f (i32v c :: caps) (St j) fun v H' => v = i32v (m j) ∧ H' = St (j + 1)) :
  Fn Tryz.prog 138 [.func (.func f) #[] caps.toArray, .string (str s)] (St 0) fun v H' => v = .string (str ((List.range s.length).map m)) ∧ H' = St s.length := by
 have hsn : ∀ j, (List.range (j + 1)).map m = (List.range j).map m ++ [m j] := fun j => by rw [List.range_succ, x0]; rfl
 refine fE 85 Tryz.func138 rfl (fun w0 => aA rfl rfl <| f2K 0 1 rfl <| aR (fun Z hZ => sAl tyZ79 rfl (fun g1 => sN (hZ _ _ <| f3K 0 1 5 rfl <| aS <| aR fun Z hZ => sM rfl rfl <| vB1 Tryz.underlying9 rfl rfl (fun r => ?_)))))
 refine sN (hZ _ _ <| f4K 0 1 5 14 rfl ?_)
 refine kI9 (ι := Option (Nat × Value)) (fun o => match o with
   | none => [(0, .func (.func f) #[] caps.toArray), (1, .string (str s)), (5, ptr g1 0)]
   | some (j, _) => [(0, .func (.func f) #[] caps.toArray), (1, .string (str (s.drop (j + 1)))), (5, ptr g1 0)])
  (fun o => match o with | none => bldE g1 (.pointer none) (.slice none 0 0) :: St s.length | some (j, v) => ([bldE g1 (ptr g1 0) v] ++ rowE v 5 1 (bv ((List.range (j + 1)).map m))) ++ St (j + 1))
  (fun o => match o with | none => s = (List.range s.length).map m | some (j, v) => j < s.length ∧ RowOk v (j + 1)) ?_ ?_
 ·refine aB ?_
  refine jC3 (ι := Nat) (fun _ => [(0, .func (.func f) #[] caps.toArray), (1, .string (str s)), (5, ptr g1 0), (14, ptr r 0)]) (fun j => sitE r s j :: bldE g1 (.pointer none) (.slice none 0 0) :: St j)
   (fun j => j ≤ s.length ∧ s.take j = (List.range j).map m) (fun j => s.length - j) 0 ⟨lZ _, by simp⟩ (kR rfl) (hV _) ?_
  rintro j ⟨hj, hje⟩
  refine aR (fun Z hZ => vB4 0 rfl rfl (fun c hc => hs c (xN hc)) rfl (fun u tl k' hu0 hu1 => sX rfl rfl rfl <| sN (hZ _ _ <| f6K 0 1 5 14 15 16 rfl <| aS (aC0 (fun h1 => ?_) (fun h1 => ?_)))))
  ·subst h1
   obtain ⟨c, hc, rfl, rfl⟩ := hu1 rfl
   obtain ⟨hlt, _⟩ := List.getElem?_eq_some_iff.1 hc
   have hc128 := hs c (xN hc)
   have hm128 := hm j
   refine jA7 (sitE r s (j + 1) :: bldE g1 (.pointer none) (.slice none 0 0) :: St j) (hV _) <| aK <| nN <| aB <| aR fun Z hZ => sX rfl rfl rfl <| sX rfl rfl rfl <| sA rfl rfl <| sAN hZ rfl rfl <| f6K 0 1 5 6 7 14 rfl <| aR fun Z hZ => sM rfl rfl <| sM rfl rfl <| kK7 (vs := [i32v c]) (St j) [sitE r s (j + 1), bldE g1 (.pointer none) (.slice none 0 0)] (hf j c hc) rfl rfl (kD [_, _] (St j)) rfl ?_
   rintro v H' ⟨rfl, rfl⟩
   rw [(hW (j + 1)).filter]
   refine jC6 (sitE r s (j + 1) :: bldE g1 (.pointer none) (.slice none 0 0) :: St (j + 1)) (kD (St (j + 1)) [_, _]) <| sAN hZ rfl rfl <| f7K 0 1 5 6 7 8 14 rfl ?_
   by_cases hmc : m j = c
   ·refine aS <| jA0 [(0, .func (.func f) #[] caps.toArray), (1, .string (str s)), (5, ptr g1 0), (14, ptr r 0), (28, .bool true)] (sitE r s (j + 1) :: bldE g1 (.pointer none) (.slice none 0 0) :: St (j + 1)) (fun Z hZ => ?_) ?_
    ·refine sM rfl rfl <| sM rfl rfl <| jB1 ?_
     refine sM rfl rfl <| jB9 25 rfl true (by simp [hmc]) ?_
     refine sOn0 ?_
     refine sM rfl rfl <| sOn0 ?_
     refine jA6 ?_
     refine sP0 ?_
     refine sN (hZ _ _ ?_ ?_)
     ·exact kE rfl (kE rfl (kE rfl (kE rfl (kE (congrArg some (congrArg Value.bool (by simp; omega))) kF))))
     ·exact hV _
    refine aC0 (fun h2 => ?_) (fun h2 => ?_)
    ·refine jB5 ?_
     repeat (with_reducible refine nTE ?_)
     refine nBE ?_
     exact jC2 (j + 1) ⟨hlt, by rw [hsn, ← hje, List.take_add_one, hc, hmc]; rfl⟩ (by omega) (kR rfl) (hV _)
    cases h2
   have hmc2 : ¬ (m j).toNat = c.toNat := fun e => hmc (UInt8.toNat_inj.1 e)
   refine aS <| jA0 [(0, .func (.func f) #[] caps.toArray), (1, .string (str s)), (5, ptr g1 0), (6, iq (j : Nat)), (7, i32v c), (8, i32v (m j)), (14, ptr r 0), (28, .bool false)] (bldE g1 (.pointer none) (.slice none 0 0) :: St (j + 1)) (fun Z hZ => ?_) ?_
   ·refine sM rfl rfl <| sM rfl rfl <| jB1 ?_
    refine sM rfl rfl <| jB9 25 rfl false (by simp; omega) ?_
    refine sO0 ?_
    refine sO0 ?_
    refine sP0 ?_
    refine sN (hZ _ _ ?_ ?_)
    ·exact kR rfl
    ·exact kC 1 rfl
   refine aC0 (fun h2 => ?_) (fun h2 => ?_)
   ·cases h2
   refine aK <| nN <| aA rfl rfl <| f7K 0 1 5 6 7 8 14 rfl <| aS <| aR fun Z hZ => sM rfl rfl <| jB1 ?_
   refine sN (hZ _ _ <| f8K 0 1 5 6 7 8 14 30 rfl <| aC0 (fun h3 => ?_) (fun h3 => ?_))
   ·simp at h3; omega
   refine aG (fun Z hZ => sM rfl rfl <| sCP0 (yS9 c hc128) ?_)
   refine sAN hZ rfl rfl ?_
   refine nF [(0, _), (1, _), (5, _), (6, _), (8, _), (9, _)] (kR rfl) ?_
   refine nN ?_
   refine aR fun Z hZ => sM rfl rfl ?_
   refine jC8 Tryz.underlying9 rfl rfl ?_
   refine jB7 rfl rfl ((s.length + 4 : Nat) : Int) (by rw [lT _ (by omega)]; omega) rfl ?_
   refine jB4 [bldE g1 (.pointer none) (.slice none 0 0)] (St (j + 1)) (yG5 g1 (s.length + 4) (by omega) (by omega)) rfl (hV _) rfl ?_
   rintro v H' ⟨rfl, v1, hv1, rfl⟩
   rw [qJ, jE2]
   refine jC6 (([bldE g1 (ptr g1 0) v1] ++ rowE v1 5 1 (bv [])) ++ St (j + 1)) (hV _) <| sN (hZ _ _ <| f6K 0 1 5 6 8 9 rfl <| aR fun Z hZ => sM rfl rfl <| sM rfl rfl <| jF7 (s.take j) Tryz.underlying9 rfl rfl rfl (by omega) (by omega) (by omega) (by simp) rfl ?_)
   refine jB4 ([bldE g1 (ptr g1 0) v1] ++ rowE v1 5 1 (bv [])) (St (j + 1)) (yM5 g1 _ v1 [] (s.take j) (.inr rfl) hv1 (by rw [xV]; simp; omega)) rfl (hV _) rfl ?_
   rintro v H' ⟨rfl, v2, hv2, rfl⟩
   rw [qJ, jE2, lE]
   rw [lE] at hv2
   refine jC6 (([bldE g1 (ptr g1 0) v2] ++ rowE v2 5 1 (bv (s.take j))) ++ St (j + 1)) (hV _) <| sN (hZ _ _ <| f6K 0 1 5 6 8 9 rfl <| aS <| aR fun Z hZ => sM rfl rfl <| jH7 rfl rfl rfl <| sN (hZ _ _ <| f7K 0 1 5 6 8 9 56 rfl <| aC0 (fun h4 => ?_) (fun h4 => ?_)))
   ·refine aG (fun Z hZ => sM rfl rfl <| jB4 ([bldE g1 (ptr g1 0) v2] ++ rowE v2 5 1 (bv (s.take j))) (St (j + 1)) (wV8 g1 _ v2 (s.take j) (m j) hm128 (.inr rfl) hv2 (by rw [xV]; omega)) rfl (hV _) rfl ?_)
    rintro v H' ⟨rfl, v3, hv3, rfl⟩
    rw [qJ, jE2]
    refine jC6 (([bldE g1 (ptr g1 0) v3] ++ rowE v3 5 1 (bv (s.take j ++ [m j]))) ++ St (j + 1)) (hV _) ?_
    refine sN (hZ _ _ ?_)
    refine nF [(0, _), (1, _), (5, _), (6, _), (9, _)] (kR rfl) ?_
    refine nN ?_
    refine aR fun Z hZ => sM rfl rfl <| sM rfl rfl <| sM rfl rfl ?_
    refine jB7 rfl rfl ((j + 1 : Nat) : Int) (by rw [lT _ (by omega)]; omega) rfl ?_
    refine jF7 (s.drop (j + 1)) Tryz.underlying9 rfl rfl rfl (by omega) (by omega) (by omega) (by simp only [x4]; exact zN (by rw [qF]; omega)) rfl ?_
    refine sAN hZ rfl rfl <| f3K 0 1 5 rfl <| jB5 ?_
    repeat (with_reducible (first | refine nTE ?_ | refine jI5 (by decide) ?_))
    refine nBE <| jJ9 (some (j, v3)) ⟨hlt, by rw [xV, z8 hj] at hv3; exact hv3⟩ (kR rfl) ?_
    show HLe (([bldE g1 (ptr g1 0) v3] ++ rowE v3 5 1 (bv ((List.range (j + 1)).map m))) ++ St (j + 1)) _
    rw [hsn, ← hje]
    exact hV _
   ·simp at h4
  ·subst h1
   have hje2 : j = s.length := by have := hu0 rfl; omega
   subst hje2
   refine jB5 ?_
   repeat (with_reducible refine nTE ?_)
   refine nBE ?_
   exact jJ9 none (by rw [xY] at hje; exact hje) (kR rfl) (kC 1 rfl)
 ·rintro (_ | ⟨j, v⟩) hI
  ·repeat (with_reducible (first | refine nBN ?_ | refine jL4 ?_))
   refine nN <| aS <| aR (fun Z hZ => jB4 [bldE g1 (.pointer none) (.slice none 0 0)] (St s.length) (wT7 g1 _ none 0 0) rfl (hV _) rfl ?_)
   rintro v H' ⟨rfl, rfl⟩
   refine jB1 ?_
   refine sN (hZ _ _ <| f4K 0 1 5 65 rfl <| aC0 (fun h1 => ?_) (fun h1 => ?_))
   ·refine aR (fun Z hZ => ?_)
    refine sM rfl rfl <| sAN hZ rfl rfl ?_
    refine f1K 4 rfl ?_
    refine aE ?_
    repeat (with_reducible refine nTR ?_)
    exact jD9 (St s.length) rfl rfl (kC 1 rfl) ⟨by rw [← hI], rfl⟩
   ·cases h1
  ·repeat (with_reducible (first | refine nBN ?_ | refine jL4 ?_))
   refine nN ?_
   obtain ⟨hlt, hv⟩ := hI
   obtain ⟨A, cp, rfl, hA⟩ := hv.form
   refine jW4 (fun w hw => row_cap hv (fun x hx => xI _ (x7 _ hx)) hw) (fun hcap => aS <| aR (fun Z hZ => jB4 [bldE g1 (ptr g1 0) (.slice A (j + 1) cp)] (rowE (.slice A (j + 1) cp) 5 1 (bv ((List.range (j + 1)).map m)) ++ St (j + 1)) (wT7 g1 _ A (j + 1) cp) rfl (hV _) rfl ?_))
   rintro v H' ⟨rfl, rfl⟩
   refine jB1 ?_
   refine sN (hZ _ _ <| f4K 0 1 5 65 rfl <| aC0 (fun h1 => ?_) (fun h1 => ?_))
   ·simp at h1; omega
   refine aK <| nN ?_
   obtain ⟨q, hq⟩ := xZ9 (s.drop (j + 1))
   have hql : q.length = s.length - (j + 1) := by rw [← hq, qF]
   have hqs : ∀ i, q[i]? = s[j + 1 + i]? := fun i => by rw [← hq, zJ]
   rw [hq]
   refine jA7 (([bldE g1 (ptr g1 0) (.slice A (j + 1) cp)] ++ rowE (.slice A (j + 1) cp) 5 1 (bv ((List.range (j + 1)).map m))) ++ St (j + 1)) (hV _) <| aS <| aR fun Z hZ => sM rfl rfl <| vB1 Tryz.underlying9 rfl rfl (fun r2 => sN (hZ _ _ <| f3K 0 5 68 rfl <| aB ?_))
   refine jC3 (ι := Nat × Value) (fun _ => [(0, .func (.func f) #[] caps.toArray), (5, ptr g1 0), (68, ptr r2 0)]) (fun i => sitE r2 q i.1 :: (([bldE g1 (ptr g1 0) i.2] ++ rowE i.2 5 1 (bv ((List.range (j + 1 + i.1)).map m))) ++ St (j + 1 + i.1)))
    (fun i => i.1 ≤ q.length ∧ RowOk i.2 (j + 1 + i.1)) (fun i => q.length - i.1) (0, .slice A (j + 1) cp) ⟨lZ _, hv⟩ (kR rfl) (hV _) ?_
   rintro ⟨i, v⟩ ⟨hi, hvi⟩
   simp only at hi hvi
   obtain ⟨A2, cp2, rfl, hA2⟩ := hvi.form
   refine aR (fun Z hZ => vB4 0 rfl rfl (fun c hc => hs c (by rw [hqs] at hc; exact xN hc)) rfl (fun u tl k' hu0 hu1 => ?_))
   refine sX rfl rfl rfl <| sN (hZ _ _ <| f5K 0 5 68 69 70 rfl <| aS (aC0 (fun h2 => ?_) (fun h2 => ?_)))
   ·subst h2
    obtain ⟨c, hc, rfl, rfl⟩ := hu1 rfl
    obtain ⟨hlt2, _⟩ := List.getElem?_eq_some_iff.1 hc
    have hm128 := hm (j + 1 + i)
    have hcs : s[j + 1 + i]? = some c := by rw [← hqs, hc]
    have hRl : ((List.range (j + 1 + i)).map m).length = j + 1 + i := by simp
    refine jA7 (sitE r2 q (i + 1) :: (([bldE g1 (ptr g1 0) (.slice A2 (j + 1 + i) cp2)] ++ rowE (.slice A2 (j + 1 + i) cp2) 5 1 (bv ((List.range (j + 1 + i)).map m))) ++ St (j + 1 + i))) (hV _) <| aK <| nN <| aB <| aR fun Z hZ => sX rfl rfl rfl <| sAN hZ rfl rfl <| f4K 0 5 11 68 rfl <| aR fun Z hZ => sM rfl rfl <| sM rfl rfl <| kK7 (vs := [i32v c]) (St (j + 1 + i)) (sitE r2 q (i + 1) :: ([bldE g1 (ptr g1 0) (.slice A2 (j + 1 + i) cp2)] ++ rowE (.slice A2 (j + 1 + i) cp2) 5 1 (bv ((List.range (j + 1 + i)).map m)))) (hf (j + 1 + i) c hcs) rfl rfl (kD (sitE r2 q (i + 1) :: ([bldE g1 (ptr g1 0) (.slice A2 (j + 1 + i) cp2)] ++ rowE (.slice A2 (j + 1 + i) cp2) 5 1 (bv ((List.range (j + 1 + i)).map m)))) (St (j + 1 + i))) rfl ?_
    rintro v H' ⟨rfl, rfl⟩
    rw [(hW (j + 1 + i + 1)).filter]
    refine jC6 (([bldE g1 (ptr g1 0) (.slice A2 (j + 1 + i) cp2)] ++ rowE (.slice A2 (j + 1 + i) cp2) 5 1 (bv ((List.range (j + 1 + i)).map m))) ++ (sitE r2 q (i + 1) :: St (j + 1 + i + 1))) (fun _ _ _ hw => hw.perm (List.perm_append_comm.trans (List.perm_middle.symm.trans ((List.Perm.refl _).trans (by simp))))) ?_
    refine sAN hZ rfl rfl <| f4K 0 5 12 68 rfl <| aR fun Z hZ => sM rfl rfl <| jH7 rfl rfl rfl <| sN (hZ _ _ <| f5K 0 5 12 68 76 rfl <| aC0 (fun h3 => ?_) (fun h3 => ?_))
    ·refine aR (fun Z hZ => sM rfl rfl <| jB0 ?_)
     refine sN (hZ _ _ <| f5K 0 5 12 68 78 rfl <| aC0 (fun h4 => ?_) (fun h4 => ?_))
     ·refine aG (fun Z hZ => sM rfl rfl <| jD0 Tryz.underlying21 Tryz.underlying5 rfl (((m (j + 1 + i)).toNat : Nat) : Int) (IntWalk.u8_in _ (by omega)) rfl ?_)
      refine jB4 ([bldE g1 (ptr g1 0) (.slice A2 (j + 1 + i) cp2)] ++ rowE (.slice A2 (j + 1 + i) cp2) 5 1 (bv ((List.range (j + 1 + i)).map m))) (sitE r2 q (i + 1) :: St (j + 1 + i + 1)) (zL7 g1 _ (.slice A2 (j + 1 + i) cp2) ((List.range (j + 1 + i)).map m) (m (j + 1 + i)) (.inr rfl) (by rw [hRl]; exact hvi) (by rw [hRl]; omega)) rfl (hV _) rfl ?_
      rintro v H' ⟨rfl, v3, hv3, rfl⟩
      rw [qJ, jE2]
      rw [hRl] at hv3
      obtain ⟨A3, cp3, rfl, hA3⟩ := hv3.form
      rw [← hsn]
      refine sN (hZ _ _ ?_)
      refine nF [(0, _), (5, _), (68, _)] (kR rfl) ?_
      repeat (with_reducible refine nBN ?_)
      exact jC2 (i + 1, .slice A3 (j + 1 + i + 1) cp3) ⟨hlt2, hv3⟩ (by simp; omega) (kR rfl) (fun _ _ _ hw => hw.perm List.perm_middle)
     ·simp at h4; omega
    ·simp at h3
   ·subst h2
    have hie : i = q.length := by have := hu0 rfl; omega
    subst hie
    have hn : j + 1 + q.length = s.length := by omega
    have hRl : ((List.range s.length).map m).length = s.length := by simp
    refine jB5 ?_
    repeat (with_reducible refine nTE ?_)
    refine nBE ?_
    refine nN ?_
    rw [hn]
    rw [hn] at hvi
    refine jA7 (([bldE g1 (ptr g1 0) (.slice A2 s.length cp2)] ++ rowE (.slice A2 s.length cp2) 5 1 (bv ((List.range s.length).map m))) ++ St s.length) (kC 1 rfl) <| aR (fun Z hZ => jB4 ([bldE g1 (ptr g1 0) (.slice A2 s.length cp2)] ++ rowE (.slice A2 s.length cp2) 5 1 (bv ((List.range s.length).map m))) (St s.length) (wS8 g1 _ _ ((List.range s.length).map m) (by rw [hRl]; exact hvi) (fun e => by rw [e] at hRl; simp at hRl; omega)) rfl (hV _) rfl ?_)
    rintro v H' rfl
    refine sAN hZ rfl rfl <| f1K 4 rfl <| aE <| jD9 (St s.length) rfl rfl (kA (lX _ _)) ⟨rfl, rfl⟩
end
end Go.Proofs.YteofkgedfjffcaaGreatDoor
