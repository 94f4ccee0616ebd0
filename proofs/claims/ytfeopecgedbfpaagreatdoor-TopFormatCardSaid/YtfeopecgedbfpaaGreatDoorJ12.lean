/- TopFormat: what is pressed is an archive that a plain reader and the audit find as it should be; what is no plan is told. No conditions. -/
import Derived.Test.YtfeopecgedbfpaaGreatDoorJ11
import Derived.Test.YtfeopecgedbfpaaGreatDoorCards
import Derived.Lib.LaidU8
import Derived.ProofKit
import Derived.MakeChecks
import Derived.Test.YtfeopecgedbfpaaGreatDoorTie
import Derived.Lay
import Derived.SevenTiedAt
set_option linter.all false
namespace Go.Proofs.YtfeopecgedbfpaaGreatDoor
namespace V.L
open Go.RowKit
set_option maxRecDepth 100000
theorem yI5 {M : List En} {b : Int} (hr : rowC M = 0) (hs : (jM8 M : Int) ≤ b) (hb : b ≤ 16257) : ∃ S, encQ M = (S, 0) ∧ (S.length : Int) ≤ b := by
 have hz : jM8 M = sumB (jF3 M) := by unfold jM8; rw [if_pos hr]
 rw [hz] at hs
 refine ⟨allB (jF3 M), ?_, hs⟩
 unfold encQ
 rw [if_pos hr, if_neg (by omega)]
theorem yU4 {P : List En} (hE : jF4 P) (hl : P.length < 1000000) : (encQ P).1.length ≤ 10 + 40 * P.length := by
 have h := jT8 (kD1 hE (by omega))
 rw [jO5] at h
 unfold encQ
 split
 ·split
  ·exact xD _
  ·show (allB (jF3 P)).length ≤ _
   omega
 ·exact xD _
theorem vP2 : ∀ ps : List (List En), (∀ P ∈ ps, jF4 P ∧ P.length < 1000000) → (jI0 ps).length ≤ 10 * ps.length + 40 * ps.flatten.length
 | [], _ => by simp [jI0]
 | P :: r, h => by
  have h1 := yU4 (h P lO).1 (h P lO).2
  have h2 := vP2 r (fun Q hQ => h Q (lW _ hQ))
  simp only [jI0, xX, lX, lE, z6] at h2 ⊢
  omega
theorem kS9 {L M : List En} {b : Int} {s : List UInt8} {m : Nat} (hE : jF4 L) (h : jK5 L b = (M, s, m, 0)) :
  jF4 M ∧ M.length ≤ L.length ∧ (∃ S, encQ M = (S, 0) ∧ (S.length : Int) ≤ b) ∧ jQ5 M s = (L, 0) ∧ (m = 0 ↔ s = []) ∧ (M.filter jT5).length = (if 0 < m then M.length else 0) ∧ endQ 0 M * min m 1 = s.length ∧ s.length ≤ 50 * L.length := by
 rcases vD0 L b with ⟨e, he, h1⟩ | ⟨hr, hh, hb1, hb2, h1⟩
 ·rw [h1] at h
  have := congrArg (·.2.2.2) h
  exact absurd this he
 obtain ⟨hq0, hl⟩ := zB2 hr
 rcases h1 with ⟨h1, hs⟩ | ⟨y, hy, hok, h1⟩
 ·rw [h1] at h
  simp only [Prod.mk.injEq] at h
  obtain ⟨rfl, rfl, rfl, _⟩ := h
  have hhl := vY3 L
  rw [hh] at hhl
  refine ⟨hE, xB _, yI5 hr hs hb2, ?_, by simp, ?_, by simp, by simp⟩
  ·unfold jQ5
   rw [if_neg (by simpa using hr), kR8 L [] hh hr]
   rfl
  ·have : ¬ 0 < (L.filter jT5).length := by simpa using hhl.symm
   rw [if_neg (by decide)]
   omega
 ·rw [h1] at h
  simp only [Prod.mk.injEq] at h
  obtain ⟨rfl, rfl, rfl, _⟩ := h
  obtain ⟨hP, hsz⟩ := wI6 hy hE hh hok
  have hpl : (pcs L y).length ≤ L.length := by rw [vL0]; exact yW5 hy
  have hfl := vR4 (L := L) hy
  have hP3 : ∀ P ∈ pcs L y, 0 < P.length ∧ jF4 P ∧ (encQ P).2 = 0 := fun P h => ⟨(hP P h).1, (hP P h).2.1, (hP P h).2.2.1⟩
  have hrow := vQ4 (pcs L y) 0 0 hP3 (by rw [hfl]; exact hq0) (by omega)
  have hrl := kC3 (pcs L y) 0
  have hrc := zB5 hrow (by omega)
  have hL0 : 0 < (pcs L y).length := by
   rcases zK (pcs L y).length with h0 | h0
   ·exfalso
    have hnil : pcs L y = [] := List.length_eq_zero_iff.1 h0
    rw [hnil] at hfl
    have hLn : L = [] := hfl.symm
    subst hLn
    have hs0 : jM8 ([] : List En) = 1 := by
     unfold jM8
     rw [if_pos (by rfl), show jF3 [] = [0] from rfl, sumB, allB, xX, List.flatMap_nil, kU0 (by omega)]
     rfl
    have : jK5 [] b = ([], [], 0, 0) := by
     unfold jK5
     rw [if_neg (by omega), if_neg (by decide), if_neg (by decide), if_pos (by rw [hs0]; omega)]
    rw [this] at h1
    have := congrArg (·.2.2.1) h1
    simp only at this
    omega
   ·exact h0
  have htp : 0 < (jI0 (pcs L y)).length := by
   match hpc : pcs L y, hL0 with
   | P :: r, _ =>
    rw [hpc] at hP3
    have h1 := wO1 (hP3 P lO).2.2
    rw [jI0, xX, lX]
    omega
  refine ⟨kK2 _ 0 (fun P h => (hP P h).2.1) (by omega), by omega, yI5 hrc hsz hb2, ?_, ⟨fun h => by omega, fun h => by rw [h] at htp; simp at htp⟩, ?_, ?_, ?_⟩
  ·unfold jQ5
   rw [if_neg (by simpa using hrc)]
   have := vF0 (pcs L y) [] [] hP (by rw [lD, hfl]; exact hr)
   rw [hfl] at this
   exact this
  ·rw [vQ5, if_pos hy]
  ·have := vQ6 (pcs L y) 0 0 (xB _) hP3 (fun _ _ => trivial) (vQ3 hrow) (by omega) (fun _ => rfl)
   rw [this, show min y 1 = 1 by omega]
   omega
  ·have := vP2 (pcs L y) (fun P h => ⟨(hP P h).2.1, by
    obtain ⟨q, _, hq⟩ := List.mem_map.1 h
    rw [← hq, kX8]
    omega⟩)
   rw [hfl] at this
   omega
end V.L
namespace Y
open Go.RowKit
theorem kY3 (X Q R : List UInt8) (i n : Nat) (hi : X.length = i) (hn : Q.length = n) : ((X ++ (Q ++ R)).drop i).take n = Q := by
 subst hi; subst hn
 rw [List.drop_left, List.take_left]
theorem kZ5 {G : Hdr} (hc : jG0 G = 0) : (encV G).length = 127 := by unfold encV; rw [if_pos hc, kA7]
theorem yB5 (h : Hdr) (hk : h.Ok) (p : P4) (hp : p.Ok) (hc : jG0 (jH8 h p) = 0) (t : List UInt8) : decV (encV (jH8 h p) ++ t) = jH8 h p ∧ decE (encV (jH8 h p) ++ t) = 0 := yC7 (vT3 h hk p hp) hc t
theorem yB6 (h : Hdr) (hk : h.Ok) (p : P4) (hp : p.Ok) (hc : jG0 (jH8 h p) = 0) (t : List UInt8) :
  cutE (encV (jH8 h p) ++ p.all ++ t) = 0 ∧ cutH (encV (jH8 h p) ++ p.all ++ t) = jH8 h p ∧ cutP (encV (jH8 h p) ++ p.all ++ t) = p := by
 have hel := kZ5 hc
 rw [xF]
 obtain ⟨h1, h2⟩ := yB5 h hk p hp hc (p.all ++ t)
 obtain ⟨l, hll⟩ := xZ9 (encV (jH8 h p) ++ (p.all ++ t))
 have hlen : l.length = 127 + (p.a.length + p.b.length + p.c.length + p.d.length) + t.length := by
  rw [← hll]; simp only [lX, P4.all, hel]; omega
 rw [hll] at h1 h2 ⊢
 have hin : ∀ k, k < 4 → inL l k = true := fun k hk4 => by
  unfold inL
  rw [h1, hlen]
  obtain rfl | rfl | rfl | rfl := four hk4 <;> simp [hf, hl, jH8, layH, wA5] <;> omega
 have e := wP0 h2 hin
 have pc : ∀ k, piece l k = (l.drop (hf (jH8 h p) k)).take (hl (jH8 h p) k) := fun k => by unfold piece; rw [h1]
 have q0 : piece l 0 = p.a := by
  rw [pc, ← hll, show encV (jH8 h p) ++ (p.all ++ t) = encV (jH8 h p) ++ (p.a ++ (p.b ++ p.c ++ p.d ++ t)) by simp [P4.all]]
  exact kY3 _ _ _ _ _ hel rfl
 have q1 : piece l 1 = p.b := by
  rw [pc, ← hll, show encV (jH8 h p) ++ (p.all ++ t) = (encV (jH8 h p) ++ p.a) ++ (p.b ++ (p.c ++ p.d ++ t)) by simp [P4.all]]
  exact kY3 _ _ _ _ _ (by rw [lX, hel]; rfl) rfl
 have q2 : piece l 2 = p.c := by
  rw [pc, ← hll, show encV (jH8 h p) ++ (p.all ++ t) = (encV (jH8 h p) ++ p.a ++ p.b) ++ (p.c ++ (p.d ++ t)) by simp [P4.all]]
  exact kY3 _ _ _ _ _ (by simp only [lX, hel]; rfl) rfl
 have q3 : piece l 3 = p.d := by
  rw [pc, ← hll, show encV (jH8 h p) ++ (p.all ++ t) = (encV (jH8 h p) ++ p.a ++ p.b ++ p.c) ++ (p.d ++ t) by simp [P4.all]]
  exact kY3 _ _ _ _ _ (by simp only [lX, hel]; rfl) rfl
 refine ⟨e, by unfold cutH; rw [if_pos e, h1], ?_⟩
 unfold cutP
 rw [if_pos e, q0, q1, q2, q3]
theorem wL3 (h : Hdr) (p : P4) (hp : p.Ok) (hc : jG0 (jH8 h p) = 0) : vE9 (jH8 h p) (((encV (jH8 h p) ++ p.all).length : Nat) : Int) = 0 := by
 have hel := kZ5 hc
 have := hp.a; have := hp.b; have := hp.c; have := hp.d
 have hg : jR1 (secL (jH8 h p)) 127 = some ((127 + p.a.length + p.b.length + p.c.length + p.d.length : Nat) : Int) := by
  show jR1 [(127, p.a.length), (127 + p.a.length, p.b.length), (127 + p.a.length + p.b.length, p.c.length), (127 + p.a.length + p.b.length + p.c.length, p.d.length)] 127 = _
  rw [jR1, if_neg (by omega), l6 _ (by omega), jR1, if_neg (by omega), l6 _ (by omega), jR1, if_neg (by omega), l6 _ (by omega), jR1, if_neg (by omega), l6 _ (by omega), jR1]
  congr 1
 unfold vE9
 rw [if_neg (by simp [hc]), hg]
 simp only
 rw [if_neg]
 simp only [lX, hel, P4.all]
 omega
end Y
section
open Go.RowKit V V.L Y
set_option maxRecDepth 100000
theorem vD1 {L : List En} {b : Int} : ∀ (k z j : Nat), j < k → okQ L b (z * 2 ^ j) = true → (jU0 L b k z).2.2.2 = 0
 | 0, _, _, h, _ => by omega
 | k + 1, z, j, h, ho => by
  rw [jU0]
  split
  ·rfl
  ·rename_i hno
   cases j with
   | zero => rw [Nat.pow_zero, zE] at ho; exact absurd ho hno
   | succ j => exact vD1 k (2 * z) j (by omega) (by rw [show 2 * z * 2 ^ j = z * 2 ^ (j + 1) by rw [qY, qN 2 z, Nat.mul_assoc, qN 2]]; exact ho)
theorem vK1 : ∀ R : List En, (∀ e ∈ R, 0 < e.run) → R.length ≤ (R.flatMap expE).length
 | [], _ => xB _
 | e :: r, h => by
  have h1 := h e lO
  have h2 := vK1 r fun x hx => h x (lW _ hx)
  rw [xX, lX, kD9, lE]
  omega
theorem yG0 {L : List It} (hok : ChOk L) : (prR L).length ≤ L.length := by
 have hw := vV4 hok
 have h1 := vK1 (jL3 L).1 fun e he => (hw.gr.ok e he).1
 rw [hw.exl] at h1
 exact h1
theorem zD0 {R : List En} (h : ∀ e ∈ R, 0 < e.run) : jI2 R = false := by
 unfold jI2
 rw [List.any_eq_false]
 intro e he
 have := h e he
 simp [jT5]
 omega
theorem wW2 (e : En) (he : e.ok) : jM8 [e] ≤ 50 := by
 have h1 : jF4 [e] := fun x hx => by rw [List.mem_singleton.1 hx]; exact he
 have h := jT8 (kD1 h1 (by simp))
 rw [jO5] at h
 unfold jM8 sumB
 simp only [zD] at h
 split <;> omega
theorem vR0 {L : List It} (hok : ChOk L) (hlen : L.length ≤ 100) {b : Nat} (hb : 512 ≤ b ∧ b ≤ 16257) : (prS L b).2.2.2 = 0 := by
 have hw := vV4 hok
 have hR := yG0 hok
 have hE : jF4 (prR L) := hw.ens
 have hrow : rowC (prR L) = 0 := hw.row
 have hp := zD0 (R := prR L) fun e he => (hw.gr.ok e he).1
 unfold prS jK5
 rw [if_neg (by omega), if_neg (by simpa using hrow), if_neg (by rw [hp]; decide)]
 split
 ·rfl
 refine vD1 13 1 7 (by omega) ?_
 rw [show 1 * 2 ^ 7 = 128 from rfl]
 have hfl := vR4 (L := prR L) (z := 128) (by omega)
 have hpl : (pcs (prR L) 128).length ≤ 1 := by rw [vL0]; unfold cntP; omega
 unfold okQ
 rw [xW]
 match hpc : pcs (prR L) 128, hpl with
 | [], _ =>
  refine ⟨rfl, decide_eq_true ?_⟩
  have : jM8 (jI6 0 []) ≤ 10 := by
   have h := jT8 (xs := jF3 []) (fun x hx => by rw [show jF3 [] = [0] from rfl] at hx; rw [List.mem_singleton.1 hx]; decide)
   rw [jO5] at h
   show jM8 [] ≤ 10
   unfold jM8 sumB
   simp only [lG] at h
   split <;> omega
  omega
 | [P], _ =>
  rw [hpc] at hfl
  have hPR : P = prR L := by simpa using hfl
  subst hPR
  have hs := wV7 hE (by omega)
  have henc : (encQ (prR L)).2 = 0 := by unfold encQ; rw [if_pos hrow, if_neg (by omega)]
  refine ⟨by simp [henc], decide_eq_true ?_⟩
  have := wW2 (kC4 0 (prR L)) (kK2 [prR L] 0 (fun P hP => by rw [List.mem_singleton.1 hP]; exact hE) (by simp) _ lO)
  show (jM8 [kC4 0 (prR L)] : Int) ≤ b
  omega
 | _ :: _ :: _, h => simp at h
theorem vZ9 {a b : Nat} (hab : a ≤ b) (hb : b < 6004799503160661) : 0 ≤ jR9 a ∧ jR9 a ≤ jR9 b ∧ jR9 b ≤ 26 := by
 obtain ⟨y, h1, h2, h3, h4⟩ := wA0 hb
 obtain ⟨z, g1, g2, g3, g4⟩ := wA0 (k := a) (by omega)
 rw [h2, g2]
 refine ⟨by omega, ?_, by omega⟩
 rcases xP y z with h | h
 ·exfalso
  have := kS8 (show y + 1 ≤ z by omega)
  omega
 ·omega
theorem z_ok {L : List It} (hok : ChOk L) : 0 ≤ zLo L ∧ zLo L ≤ zHi L ∧ zHi L ≤ 26 := by
 unfold zLo zHi
 by_cases h : L = []
 ·rw [if_pos h, if_pos h]; omega
 rw [if_neg h, if_neg h]
 have hpos : 0 < L.length := List.length_pos_iff.2 h
 have e0 : itAt L 0 = L[0] := by simp [itAt, xC hpos]
 have e1 : itAt L (L.length - 1) = L[L.length - 1] := by simp [itAt, xC (show L.length - 1 < L.length by omega)]
 rw [e0, e1]
 refine vZ9 ?_ (hok.lt _ (uA _))
 rcases Nat.eq_or_lt_of_le (show 1 ≤ L.length by omega) with h1 | h1
 ·simp [← h1]
 ·exact uF (List.pairwise_iff_getElem.1 hok.rise 0 (L.length - 1) hpos (by omega) (by omega))
theorem vL2 {lo hi a b c : Int} (h : (lo ≤ a ∧ a ≤ hi) ∧ (lo ≤ b ∧ b ≤ hi) ∧ (lo ≤ c ∧ c ≤ hi) ∧ a ≤ b) : ¬ jU2 lo hi a b c = true := by
 obtain ⟨⟨h1, h2⟩, ⟨h3, h4⟩, ⟨h5, h6⟩, h7⟩ := h
 simp [jU2, wi, h1, h2, h3, h4, h5, h6, h7]
theorem vT0 {L : List It} (hok : ChOk L) {R : List En} {k : Nat} (hk : k ≤ 5) {q : P4} (hq : q.Ok) : jG0 (jH8 (kJ1 L R k) q) = 0 := by
 obtain ⟨z1, z2, z3⟩ := z_ok hok
 have := hq.a; have := hq.b; have := hq.c; have := hq.d
 have hf : ∀ f l : Nat, f ≤ 100000 → l ≤ 20000 → kD7 f l = true := fun f l h1 h2 => by
  unfold kD7
  rw [l6 _ (by omega)]
  simp
  omega
 unfold jG0
 rw [if_neg, if_neg, if_neg, if_neg, if_neg]
 ·exact vL2 (lo := -900000000) (hi := 900000000) (a := -850511287) (b := 850511287) (c := 0) (by omega)
 ·exact vL2 (lo := -1800000000) (hi := 1800000000) (a := -1800000000) (b := 1800000000) (c := 0) (by omega)
 ·exact vL2 (lo := 0) (hi := 26) (a := zLo L) (b := zHi L) (c := zLo L) (by omega)
 ·show ¬ ((decide (4 < 1) || decide (4 < 1) || decide (5 < k)) = true)
  simp
  omega
 ·simp only [kJ0, jH8, layH, wA5]
  rw [hf _ _ (by omega) (by omega), hf _ _ (by omega) (by omega), hf _ _ (by omega) (by omega), hf _ _ (by omega) (by omega)]
  decide
structure Sm (L : List It) (p : Pn) : Prop where
 ok : ChOk L
 len : L.length ≤ 100
 by_ : jF2 L ≤ 10000
 b : 512 ≤ p.b ∧ p.b ≤ 16257
 k : p.k ≤ 5
 note : vV3 p.note
 nl : p.note.length ≤ 4096
structure PrIs (L : List It) (p : Pn) : Prop where
 ok : PrOk L p
 e : prE L p = 0
 t : prT L p = encV (jH8 (prH L p) (prP L p)) ++ (prP L p).all
 cut : cutE (prT L p) = 0 ∧ cutH (prT L p) = jH8 (prH L p) (prP L p) ∧ cutP (prT L p) = prP L p
 dec : ∃ M n, decQ (prP L p).a = (M, n, 0) ∧ jQ5 M (prP L p).c = (prR L, 0)
 len : (prT L p).length ≤ 60000
def plE (e : En) : Plc := (e.off, e.len)
theorem wS1 (e : En) : Fn Tryz.prog 83 [e.val] [] fun v _ => v = Plc.val (plE e) := by
 refine Fn.enter (N := 8) Tryz.func83 rfl (by kernel_rfl) rfl (fun w0 => ?_)
 refine aR (fun Z hZ => jB5 (fun g1 => ?_))
 refine sAl tyZ172 rfl (fun g2 => sN (hZ _ _ <| f2K 1 2 rfl <| aR (fun Z hZ => sFA0 jH7 ?_)))
 refine sL0 1 tyA25 tyS25 ?_
 refine sFA0 jL8 ?_
 refine sL0 1 tyA78 tyS78 ?_
 refine jD4 tyZ172 tyP172 ?_
 refine sS0 0 tyS172 ?_
 refine sN (hZ _ _ <| f1K 2 rfl <| aE <| jC1 [] rfl (ResOk.cell 0 rfl rfl tyA172 tyS172 rfl) (HLe.sub (lN _)) rfl)
theorem vK9 (p : Plc) (h1 : p.1 ≤ 1099511627776) (h2 : p.2 < 4294967296) : Fn Tryz.prog 84 [Plc.val p] [] fun v _ => v = uq (p.1 + p.2 : Nat) := by
 refine Fn.enter (N := 9) Tryz.func84 rfl (by kernel_rfl) rfl (fun w0 => ?_)
 refine aR (fun Z hZ => jB5 (fun g1 => ?_))
 refine sAN hZ rfl rfl <| f1K 1 rfl <| aR (fun Z hZ => sFA0 kV1 ?_)
 first | refine sL0 0 tyA25 tyS25 ?_
 refine sFA0 wT9 ?_
 first | refine sL0 0 tyA78 tyS78 ?_
 refine jB7 Tryz.underlying78 Tryz.underlying25 rfl ((p.2 : Nat) : Int) (by rw [l6 _ (by omega)]) rfl ?_
 refine jC2 rfl rfl ((p.1 + p.2 : Nat) : Int) (by rw [l6 _ (by omega)]; omega) rfl ?_
 refine sAN hZ rfl rfl <| f1K 2 rfl <| aE <| nR10 rfl
theorem kD4 (ga r : Nat) : Fn Tryz.prog 78 [ptr ga 0, .int .u8 (r : Nat), .bool true] [] fun v _ => v = .tuple #[] := by
 refine Fn.enter (N := 15) Tryz.func78 rfl (by kernel_rfl) rfl (fun w0 => ?_)
 refine aR fun Z hZ => sM rfl rfl <| jI8 rfl rfl <| sN (hZ _ _ <| f3K 0 1 7 rfl <| aC0 (fun h => ?_) (fun h => ?_))
 ·cases h
 ·refine aK <| jH5 [] rfl (HLe.refl _) rfl
abbrev audC (s : List UInt8) (h : Hdr) (gm : Nat) : List Value := .string (str s) :: (h.cells ++ [.map (some gm)])
abbrev audR (ga : Nat) (s : List UInt8) (h : Hdr) (gm : Nat) : Ent := .ro ga 0 (audC s h gm)
theorem ro1 (g o : Nat) (xs : List Value) : Ro [.ro g o xs] := fun e he => by rw [List.mem_singleton.1 he]; rfl
theorem kL2 (ga gm : Nat) (s : List UInt8) (h : Hdr) (a b : Nat) (hs : s.length ≤ 1000000) (hab : a + b ≤ s.length) :
  Fn Tryz.prog 81 [ptr ga 0, .agg #[uq a, uq b]] [audR ga s h gm] fun v _ => v = .string (str ((s.drop a).take b)) := by
 have he := kS4 a b
 rw [show IntKind.u64.wrap ((a : Int) + (b : Int)) = ((a + b : Nat) : Int) by rw [l6 _ (by omega)]; omega] at he
 refine Fn.enter (N := 25) Tryz.func81 rfl (by kernel_rfl) rfl (fun w0 => ?_)
 refine aR (fun Z hZ => jB5 (fun g1 => ?_))
 refine sAN hZ rfl rfl <| f2K 0 3 rfl <| aR fun Z hZ => sM rfl rfl <| jA0 ?_
 refine sFA0 vI1 ?_
 refine jB4 1 rfl rfl 0 rfl tyA9 tyS9 rfl rfl <| jD6 Tryz.underlying9 rfl rfl <| jB7 Tryz.underlying3 Tryz.underlying25 rfl ((s.length : Nat) : Int) (by rw [l6 _ (by omega)]) rfl ?_
 refine sAN hZ rfl rfl <| f3K 0 3 5 rfl <| jD3 _ [(0, true), (1, true), (2, true), (3, true), (4, true), (5, true), (6, true), (7, true), (8, true), (9, true), (10, false), (11, true), (12, true), (13, true)] mixed (by kernel_rfl) (HLe.pick [0, 1] (by simp) (by simp only [pick, l7, qS]; rfl)) (fun Z hZ => ?_)
 refine tw_p rfl <| jA8 ?_
 refine vN <| tw_p rfl <| jE0 rfl rfl <| vN <| tw_p rfl <| jA7 vI1 ?_
 refine vN <| tw_p rfl <| jM1 1 rfl rfl 0 rfl tyA9 tyS9 rfl rfl <| vN <| tw_p rfl <| jA8 ?_
 refine vN <| tw_p rfl <| jA7 jZ1 ?_
 refine vN <| tw_p rfl <| jE6 0 rfl rfl tyA25 tyS25 rfl rfl <| vN <| tw_p rfl <| yG4 rfl rfl ((a : Nat) : Int) (by omega) rfl ?_
 refine vN <| tw_p rfl <| jA8 ?_
 refine vN <| tw_p rfl <| jM3 0 rfl rfl tyA66 tyS66 rfl (by simp only [qS, Value.cells]; rfl) rfl ?_
 refine vN <| tw_g rfl <| sCP0 he ?_
 refine sN ⟨HLe.pick [0, 1] (by simp) rfl, ?_⟩
 refine tw_p rfl <| yG4 rfl rfl ((a + b : Nat) : Int) (by omega) rfl ?_
 refine vN <| tw_p rfl <| jV0 ((s.drop a).take b) Tryz.underlying9 rfl rfl rfl (by omega) (by omega) (by omega) (by simp only [x9]; rw [Nat.add_sub_cancel_left]) rfl ?_
 refine vN <| tw_p rfl <| jE7 rfl rfl <| vN <| jI7 (hZ _ _ <| f1K 4 rfl <| aE <| nR10 rfl)
theorem yF2 (ga : Nat) (p : En) (hp : p.ok) (ho : p.off ≤ 1099511627776) (t : List UInt8) (ht : t.length ≤ 1000000) (hq : (jF9 p t).2 = 0) :
  Fn Tryz.prog 82 [ptr ga 0, p.val, .string (str t)] [] fun u H' => RowOk u (jF9 p t).1.length ∧ H' = rowE u 80 4 (jA1 (jF9 p t).1) := by
 obtain ⟨p1, p2, p3, p4⟩ := hp
 have hend : p.off + p.len ≤ t.length := by
  rcases xP t.length (p.off + p.len) with h | h
  ·unfold jF9 at hq; rw [if_pos h] at hq; cases hq
  ·exact h
 obtain ⟨s, hs⟩ := xZ9 ((t.drop p.off).take p.len)
 have hsl : s.length ≤ 1000000 := by rw [← hs, xS, xY]; omega
 have hD := jY1 s hsl
 obtain ⟨d1, d2, d3, d4⟩ := kG8 s
 obtain ⟨M, hM⟩ := xZ9 ((decQ s).1)
 rw [hM] at hD d1 d2
 have hq' := hq
 unfold jF9 at hq'
 rw [if_neg (by omega), hs, hM] at hq'
 have h0 : M.length ≠ 0 ∧ (atE M 0).id = p.id ∧ (jF9 p t).1 = M := by
  have hpq : jF9 p t = _ := rfl
  unfold jF9 at hpq ⊢
  rw [if_neg (by omega), hs, hM]
  split at hq'
  ·rename_i h; exact absurd hq' h
  split at hq'
  ·cases hq'
  split at hq'
  ·cases hq'
  ·rename_i h1 h2 h3
   rw [if_neg h1, if_neg h2, if_neg h3]
   exact ⟨fun e => h3 (.inl e), Classical.byContradiction fun e => h3 (.inr e), rfl⟩
 obtain ⟨hml, hid, hpe⟩ := h0
 rw [hpe]
 have hmax : M.length ≤ maxLen := by show _ ≤ 9223372036854775807; omega
 have hat := wS1 p
 have hen := vK9 (plE p) ho p3
 simp only [plE] at hat hen
 refine Fn.enter (N := 42) Tryz.func82 rfl (by kernel_rfl) rfl (fun w0 => ?_)
 refine aR (fun Z hZ => jB5 (fun g1 => ?_))
 refine sAN hZ rfl rfl <| f2K 2 4 rfl <| aS <| aR (fun Z hZ => ?_)
 first | refine sLA0 0 tyA80 tyS80 ?_
 refine sCP0 hat ?_
 refine sCP0 hen ?_
 refine sM rfl rfl <| jD6 Tryz.underlying9 rfl rfl <| jB7 Tryz.underlying3 Tryz.underlying25 rfl ((t.length : Nat) : Int) (by rw [l6 _ (by omega)]) rfl ?_
 refine jC4 ?_
 refine sN (hZ _ _ <| f3K 2 4 16 rfl <| aC0 (fun h => ?_) (fun h => ?_))
 ·simp at h; omega
 refine aK <| nN <| jD3 _ [(0, true), (1, true), (2, true), (3, true), (4, false), (5, false), (6, true), (7, false), (8, true), (9, true), (10, true), (11, true), (12, true), (13, true), (14, true)] mixed (by kernel_rfl) (HLe.pick [0] (by simp) (by simp only [pick, l7, qS]; rfl)) (fun Z hZ => ?_)
 refine tw_p rfl <| jA8 ?_
 refine vN <| tw_p rfl <| jA7 jH7 ?_
 refine vN <| tw_p rfl ?_
 first | refine jE6 0 rfl rfl tyA25 tyS25 rfl rfl ?_
 refine vN <| tw_p rfl ?_
 first | refine jM3 0 rfl rfl tyA80 tyS80 rfl (by simp only [qS, Value.cells]; rfl) rfl ?_
 refine vN <| tw_g rfl <| sCP0 hat ?_
 refine sN ⟨HLe.pick [0] (by simp) rfl, ?_⟩
 refine tw_g rfl <| sCP0 hen ?_
 refine sN ⟨HLe.pick [0] (by simp) rfl, ?_⟩
 refine tw_p rfl <| jV0 s Tryz.underlying9 rfl rfl rfl (by omega) (by omega) (by omega) (by rw [← hs]; simp only [x9]; rw [Nat.add_sub_cancel_left]) rfl ?_
 refine vN <| tw_g rfl <| jA5 [] [_] hD rfl (HLe.refl _) rfl ?_
 rintro v H' ⟨u, rfl, hu, rfl⟩
 rw [jF1]
 obtain ⟨gr, c1, rfl⟩ := hu.some (by omega)
 refine jC3 ([_] ++ rowE (.slice (some ⟨gr, 0, none⟩) M.length c1) 80 4 (jA1 M)) (HLe.swap _ _) <| sN ⟨HLe.pick [0] (by simp) rfl, ?_⟩
 refine tw_p rfl <| jA8 ?_
 refine vN <| tw_p rfl <| jF7 rfl rfl rfl <| vN <| tw_p rfl <| jF7 rfl rfl rfl <| vN <| tw_p rfl <| jF7 rfl rfl rfl <| vN ?_
 refine tw_p rfl <| jE7 rfl rfl <| vN <| tw_p rfl <| jE7 rfl rfl <| vN <| tw_p rfl <| jE7 rfl rfl <| vN <| jI7 (hZ _ _ ?_)
 refine f2K 4 7 rfl <| aS <| jE8 [(7, .slice (some ⟨gr, 0, none⟩) M.length c1), (40, .bool false)] ([.own g1 80 p.cells] ++ rowE (.slice (some ⟨gr, 0, none⟩) M.length c1) 80 4 (jA1 M)) mixed (by kernel_rfl) (fun Z hZ => ?_) ?_
 ·refine qM rfl rfl <| wD9 Tryz.underlying58 rfl rfl <| jM6 rfl rfl rfl <| qM rfl rfl <| jL7 32 rfl false (by exact beq_eq_false_iff_ne.2 (by omega)) ?_
  refine jA4 ?_
  refine qM rfl rfl <| jA4 ?_
  refine jG2 0 Tryz.underlying58 tyS80 rfl rfl (by omega) (by simp) rfl ?_
  refine jA4 ?_
  refine qFA0 jK0 ?_
  refine jA4 ?_
  refine kM7 (o := 0) (n := M.length) (size := 4) (xs := jA1 M) 0 rfl rfl (fun w hw => kX3 hu (jG6 M) (fun y hy => x0 _ hy) hw) (by omega) tyA25 tyS25 (by have := wG0 (k := 0) (jW6 (show 0 < M.length by omega)); simpa using this) rfl ?_
  refine jA4 ?_
  refine qFA0 jK0 ?_
  refine jA4 ?_
  first | refine jB6 0 tyA25 tyS25 ?_
  refine jA4 ?_
  refine vP8 rfl rfl rfl <| jE3 rfl rfl rfl <| jF0 (hZ _ _ ?_ ?_)
  ·exact Kn.cons rfl (Kn.cons (congrArg some (congrArg Value.bool (by first | rfl | (simp [hid]; done) | (simp; omega)))) Kn.nil)
  ·exact HLe.refl _
 refine aC0 (fun h4 => ?_) (fun h4 => ?_)
 ·cases h4
 refine aK <| nN <| aR fun Z hZ => sM rfl rfl <| sAN hZ rfl rfl <| f1K 6 rfl <| aE <| jC1 _ rfl rfl (HLe.sub (lP _ _)) ⟨hu, rfl⟩
end
section
open Go.RowKit V Y
set_option maxRecDepth 100000
theorem vJ9 {w : World} {g : Nat} {cs : List Value} (h : ∀ (j : Nat) (u : Value), cs[j]? = some u → w.cell? ⟨g, j, none⟩ = some u) (hne : 0 < cs.length) : Sat w [] [.ro g 0 cs] w := by
 refine ⟨Only.refl _ _, fun e he => ?_, List.pairwise_singleton _ _⟩
 rw [List.mem_singleton.1 he]
 refine ⟨⟨?_, fun j u hu => by rw [lA]; exact h j u hu⟩, fun hw => by cases hw⟩
 have h0 := h 0 _ (xC hne)
 unfold World.cell? at h0
 rcases xP g w.heap.size with hlt | hge
 ·exact hlt
 ·exfalso
  rw [Array.getElem?_eq_none hge] at h0
  cases h0
theorem wU2 {H : Type} {enc : TypeId × Value → H} {P : Program} {w : World} {base : Nat} {sp : Nat → Bool} {held : Bool} {fuel : Nat} {t : TypeId} {ms} {cs : List Value} {x : DataW H × List MemPlace} (ht : P.underlying t = some (.interface ms)) (h : DataW.trod enc P w base sp held fuel t cs = some x) : ∃ v, cs = [v] ∧ ErOk v := by
 cases fuel with
 | zero => simp [DataW.trod] at h
 | succ fuel =>
  match cs, h with
  | [], h => simp [DataW.trod, ht] at h
  | a :: b :: r, h => cases a <;> simp [DataW.trod, ht] at h
  | [v], h =>
   cases v
   case nilIface => exact ⟨_, rfl, .inl rfl⟩
   case iface t p => exact ⟨_, rfl, .inr ⟨t, p, rfl⟩⟩
   all_goals simp [DataW.trod, ht] at h
theorem wM1 {w : World} {n : String} {d : DataW Unit} {g : Nat} (h : Lib.VarReads Tryz.prog w n d) (hg : Tryz.prog.globalNamed n = some g) (ht : (Tryz.prog.globals[g]?).map (·.type) = some 213) : ∃ v, ErOk v ∧ Sat w [] [.ro g 0 [v]] w := by
 obtain ⟨g', t, cs, fuel, p, h1, h2, h3, h4⟩ := h
 obtain rfl := lV (hg.symm.trans h1)
 obtain rfl := lV (ht.symm.trans h2)
 obtain ⟨v, hv, hok⟩ := wU2 Tryz.underlying213 h4
 refine ⟨v, hok, vJ9 (fun j u hu => ?_) (by simp)⟩
 rw [World.var?_cell h1 h3 j, ← qW, hv]
 exact hu
theorem yZ7 {w : World} (hL : laidMetH Tryz.prog Rows.topFormatRow.laid w) : ∃ er es, ErOk er ∧ ErOk es ∧ Sat w [] (TJ er es) w := by
 rw [MakeChecks.laidMetH_plain _ _ _ (by kernel_rfl)] at hL
 have r1 := Lib.laidMet.reads hL (n := "strconv.ErrRange") (d := Rows.laid_strconv_ErrRange) (by simp [Rows.topFormatRow])
 have r2 := Lib.laidMet.reads hL (n := "strconv.ErrSyntax") (d := Rows.laid_strconv_ErrSyntax) (by simp [Rows.topFormatRow])
 have r3 := Lib.laidMet.reads hL (n := "unicode/utf8.acceptRanges") (d := Rows.laid_unicode_utf8_acceptRanges) (by simp [Rows.topFormatRow])
 have r4 := Lib.laidMet.reads hL (n := "unicode/utf8.first") (d := Rows.laid_unicode_utf8_first) (by simp [Rows.topFormatRow])
 obtain ⟨er, he1, s1⟩ := wM1 r1 (g := 4) (by kernel_rfl) (by kernel_rfl)
 obtain ⟨es, he2, s2⟩ := wM1 r2 (g := 3) (by kernel_rfl) (by kernel_rfl)
 rw [show Rows.laid_unicode_utf8_first = Lib.firstData by kernel_rfl] at r4
 rw [show (Rows.laid_unicode_utf8_acceptRanges : DataW Unit) = Lib.acceptData by kernel_rfl] at r3
 refine ⟨er, es, he1, he2, (s1.both s2 (ro1 _ _ _) (ro1 _ _ _)).both (Sat.both ?_ ?_ (ro1 _ _ _) (ro1 _ _ _)) ((ro1 _ _ _).append (ro1 _ _ _)) vZ8⟩
 ·obtain ⟨g, t, cs, fuel, p, h1, h2, h3, h4⟩ := r4
  obtain rfl := lV ((show Tryz.prog.globalNamed "unicode/utf8.first" = some 1 by kernel_rfl).symm.trans h1)
  obtain rfl := lV ((show (Tryz.prog.globals[1]?).map (·.type) = some 331 by kernel_rfl).symm.trans h2)
  have hcs := Lib.cells_of_tab Tryz.underlying331 Tryz.underlying5 (by kernel_rfl) (by kernel_rfl) h4
  refine vJ9 (fun j u hu => ?_) (by simp)
  rw [World.var?_cell h1 h3 j, ← qW, hcs]
  simpa [Lib.firstTab] using hu
 ·obtain ⟨g, t, cs, fuel, p, h1, h2, h3, h4⟩ := r3
  obtain rfl := lV ((show Tryz.prog.globalNamed "unicode/utf8.acceptRanges" = some 2 by kernel_rfl).symm.trans h1)
  obtain rfl := lV ((show (Tryz.prog.globals[2]?).map (·.type) = some 334 by kernel_rfl).symm.trans h2)
  have hc2 : Tryz.prog.cellsOf 333 = 2 := by kernel_rfl
  have hc1 : Tryz.prog.cellsOf 5 = 1 := by kernel_rfl
  refine vJ9 (fun j u hu => ?_) (by simp)
  have hj : j < 32 := by
   have := (List.getElem?_eq_some_iff.1 hu).1
   simpa using this
  rw [xR, List.getElem?_range hj, qA, x5] at hu
  obtain ⟨i, hi⟩ := xZ9 (j / 2)
  obtain ⟨fuel', d, q, hdi, he⟩ := Lib.array_elem Tryz.underlying334 h4 i (by omega)
  simp only [xR, List.getElem?_range (show i < 16 by omega), qA, x5] at hdi
  subst hdi
  rw [hc2] at he
  have hcs := Lib.ints_of_struct Tryz.underlying333 (fun k f hk => by
   match k, hk with
   | 0, hk => simp at hk; subst hk; exact ⟨Tryz.underlying5, rfl, hc1⟩
   | 1, hk => simp at hk; subst hk; exact ⟨Tryz.underlying5, rfl, hc1⟩
   | k + 2, hk => simp at hk) (by rw [hc2]; rfl) he
  have e0 := congrArg (·[0]?) hcs
  have e1 := congrArg (·[1]?) hcs
  simp only [qU, zP] at e0 e1
  rw [World.var?_cell h1 h3 j, ← qW, ← hu]
  by_cases hp : j % 2 = 0
  ·rw [if_pos hp, show j = 2 * i by omega, show 2 * i / 2 = i by omega]
   simpa [qN] using e0
  ·rw [if_neg hp, show j = 2 * i + 1 by omega, show (2 * i + 1) / 2 = i by omega]
   simpa [qN] using e1
end
section
open Go.RowKit V V.L Y
set_option maxRecDepth 100000
structure SmK (L : List It) (p : Pn) : Prop where
 ok : ChOk L
 len : L.length ≤ 100
 by_ : jF2 L ≤ 10000
 b : 512 ≤ p.b ∧ p.b ≤ 16257
 k : p.k ≤ 5
 nl : p.note.length ≤ 4096
structure PrIsK (L : List It) (p : Pn) : Prop where
 ok : PrK L p
 e : prE L p = 0
 t : prT L p = encV (jH8 (prH L p) (prP L p)) ++ (prP L p).all
 cut : cutE (prT L p) = 0 ∧ cutH (prT L p) = jH8 (prH L p) (prP L p) ∧ cutP (prT L p) = prP L p
 dec : ∃ M n, decQ (prP L p).a = (M, n, 0) ∧ jQ5 M (prP L p).c = (prR L, 0)
 len : (prT L p).length ≤ 60000
theorem SmK.pr {L : List It} {p : Pn} (h : SmK L p) : PrIsK L p := by
 have hw := vV4 h.ok
 have hR := yG0 h.ok
 have hE : jF4 (prR L) := hw.ens
 have hs := vR0 h.ok h.len h.b
 have hlen := h.len
 have hby := h.by_
 have hbb := h.b
 have hnl := h.nl
 have hD : (prD L).length ≤ 10000 := by
  have h1 := wB6 L []
  unfold prD
  rw [hw.fl.symm]
  unfold tsS
  simp only [List.flatten_nil, lG] at h1
  omega
 obtain ⟨M, s, m, e, hsp⟩ : ∃ M s m e, prS L p.b = (M, s, m, e) := ⟨_, _, _, _, rfl⟩
 rw [hsp] at hs
 obtain rfl : e = 0 := hs
 obtain ⟨b1, b2, ⟨S, b3, b4⟩, b5, _, _, _, b6⟩ := kS9 hE hsp
 have hP : prP L p = ⟨S, p.note, s, prD L⟩ := by unfold prP; rw [hsp, b3]
 have hPok : (prP L p).Ok := by
  rw [hP]
  exact ⟨by show S.length ≤ 20000; omega, by show p.note.length ≤ 20000; omega, by show s.length ≤ 20000; omega, by show (prD L).length ≤ 20000; omega⟩
 have hPr : PrK L p := ⟨h.ok, h.b, h.k, hPok, by rw [hsp]; exact ⟨by show M.length ≤ 10000; omega, b1⟩, by omega, hE⟩
 have hc : jG0 (jH8 (prH L p) (prP L p)) = 0 := vT0 h.ok (R := prR L) h.k hPok
 have he : prE L p = 0 := by
  unfold prE
  rw [hsp, if_neg (by simp), b3, if_neg (by simp)]
  exact hc
 have ht : prT L p = encV (jH8 (prH L p) (prP L p)) ++ (prP L p).all := by
  unfold prT
  rw [if_pos he]
  unfold vF3
  rw [if_pos hc]
 have hho : (prH L p).Ok := vT1 (by omega) (by omega) h.k
 have hcut := yB6 (prH L p) hho (prP L p) hPok hc []
 rw [lH, ← ht] at hcut
 refine ⟨hPr, he, ht, hcut, ?_, ?_⟩
 ·obtain ⟨c1, c2, c3⟩ := kZ7 (L := M) (by rw [b3])
  have hS : S = allB (jF3 M) := by rw [b3] at c3; exact congrArg Prod.fst c3
  have hd := vT9 b1 c1 [] (by simp; omega)
  rw [lH, ← hS] at hd
  rw [hP]
  exact ⟨M, _, hd, b5⟩
 ·rw [ht, lX, kZ5 hc]
  have := hPok.a; have := hPok.b; have := hPok.c; have := hPok.d
  have hq : (prP L p).all.length = (prP L p).a.length + (prP L p).b.length + (prP L p).c.length + (prP L p).d.length := by simp only [P4.all, lX]
  rw [hq, hP]
  simp only
  omega
theorem PrIsK.rows {L : List It} {p : Pn} (h : PrIsK L p) : nrE (prT L p) = 0 ∧ nrL (prT L p) = prR L ∧ nrT (prT L p) = prD L := by
 obtain ⟨M, n, d1, d2⟩ := h.dec
 obtain ⟨c1, c2, c3⟩ := h.cut
 have he : nrE (prT L p) = 0 := by
  unfold nrE
  rw [if_pos c1, c3, d1, if_pos rfl, d2]
  rfl
 refine ⟨he, ?_, ?_⟩
 ·unfold nrL
  rw [if_pos he, c3, d1, d2]
 ·unfold nrT
  rw [if_pos he, c3]
  rfl
theorem PrIsK.read {L : List It} {p : Pn} (h : PrIsK L p) : rdE (prT L p) = 0 ∧ rdO (prT L p) = L := by
 obtain ⟨h1, h2, h3⟩ := h.rows
 have hb := (vV4 h.ok.ok).back h.ok.ok
 have hb' : mbQ (prR L) (prD L) = (0, L) := hb
 unfold rdE rdO
 rw [if_pos h1, if_pos h1, h2, h3, hb']
 exact ⟨rfl, rfl⟩
def tpL : List It := [⟨0, [120]⟩]
def tpP : Pn := ⟨512, 0, [123, 125]⟩
theorem zG9 : ChOk tpL := ⟨List.pairwise_singleton _ _, fun e he => by rw [List.mem_singleton.1 he]; decide, fun e he => by rw [List.mem_singleton.1 he]; decide, by decide⟩
theorem tp_sm : SmK tpL tpP := ⟨zG9, by decide, by decide, by decide, by decide, by decide⟩
theorem yZ5 : (prT tpL tpP).length = 135 := by kernel_rfl
theorem tp_of : ofQ tpL = 0 ∧ jT0 tpL = tpL := ⟨by decide, rfl⟩
theorem yW2 (A : Option Addr) (c : Nat) (L : List It) (T : Heap) (hA : jH6 A L.length) (hT : 0 < L.length → T = roE A (jA2 L)) (hro : Ro T) (hL : L.length ≤ 100000) (h : ofQ L = 0) :
  Fn Tryz.prog 16 [.slice A L.length c] T fun v H' => ∃ u, v = .tuple #[.agg #[u], iq 0] ∧ RowOk u (jT0 L).length ∧ H' = rowE u 53 2 (jA2 (jT0 L)) :=
 wL6 (yI8 A c L T hA hT hro hL) fun v H' hh => by
  obtain ⟨u, h1, ⟨_, h2, h3⟩ | ⟨h4, _⟩⟩ := hh
  ·exact ⟨u, by rw [h1, h]; rfl, h2, h3⟩
  ·exact absurd h h4
theorem kM0 : Fn Tryz.prog 5 [] [] fun v _ => v = .bool true := by
 have hpr := tp_sm.pr
 have hlen := yZ5
 have hread := hpr.read
 have hplen := hpr.len
 have hpe := hpr.e
 obtain ⟨S, hS⟩ := xZ9 (prT tpL tpP)
 have hof := fun A c T hA hT hro => yW2 A c tpL T hA hT hro (by decide) tp_of.1
 rw [tp_of.2] at hof
 have hps := fun A c T hA hT hro => (by
  have h := vE3 A c tpL T [] hA hT hro Ro.nil tpP hpr.ok (wH7 tpP (by decide) (by decide) zH6)
  rw [lH] at h
  exact h : Fn Tryz.prog 7 [chV A tpL.length c, .agg tpP.cells.toArray] T fun v _ => v = .tuple #[.string (str (prT tpL tpP)), iq (prE tpL tpP)])
 rw [hpe, hS] at hps
 rw [hS] at hread hlen hplen
 have hnr := nread_fn S (by omega)
 rw [hread.1, hread.2] at hnr
 refine Fn.enter (N := 44) Tryz.func5 rfl (by kernel_rfl) rfl (fun w0 => ?_)
 refine aA rfl rfl <| aF [] (Kn.nil) <| aR (fun Z hZ => jD4 tyZ53 tyP53 ?_)
 refine sBS0 Tryz.underlying28 tyS53 tyZ53 (fun g1 => ?_)
 refine jC3 [.ro g1 0 (jA2 tpL)] (HLe.toRo [] []) <| jK1 [] [.ro g1 0 (jA2 tpL)] [.ro g1 0 (jA2 tpL)] (hof (some ⟨g1, 0, none⟩) 1 _ (fun _ => ⟨_, _, rfl⟩) (fun _ => rfl) (Ro.roE (some ⟨g1, 0, none⟩) (jA2 tpL))) rfl (HLe.refl _) (xU _) (Ro.roE (some ⟨g1, 0, none⟩) (jA2 tpL)) rfl ?_
 rintro v H' ⟨u, rfl, hu, rfl⟩
 rw [jF1]
 obtain ⟨ga, ca, rfl⟩ := hu.some (by decide)
 refine jC3 [.ro ga 0 (jA2 tpL)] ((HLe.sub (lS [.ro ga 0 (jA2 tpL)] _)).trans (HLe.rowRo [] _)) <| sM rfl rfl <| sX rfl rfl rfl <| sX rfl rfl rfl <| sAl tyZ30 rfl (fun g2 => sS0 0 tyS30 ?_)
 refine sAN hZ rfl rfl <| f2K 1 2 rfl <| jA6 [.own g2 30 [.slice (some ⟨ga, 0, none⟩) 1 ca], .ro ga 0 (jA2 tpL)] (HLe.refl _) <| aR (fun Z hZ => sLA0 0 tyA30 tyS30 ?_)
 refine jD4 tyZ36 tyP36 ?_
 refine jD1 [.ro ga 0 (jA2 tpL)] (hps (some ⟨ga, 0, none⟩) ca _ (fun _ => ⟨_, _, rfl⟩) (fun _ => rfl) (Ro.roE (some ⟨ga, 0, none⟩) (jA2 tpL))) rfl (lP [_] [_]) (Ro.roE (some ⟨ga, 0, none⟩) (jA2 tpL)) rfl <| sM rfl rfl <| sX rfl rfl rfl <| sX rfl rfl rfl <| sA rfl rfl <| sAN hZ rfl rfl <| f4K 1 2 3 4 rfl <| aR fun Z hZ => sM rfl rfl <| jA5 [] _ hnr rfl (HLe.refl _) rfl ?_
 rintro v H' ⟨u, rfl, hu, rfl⟩
 rw [jF1]
 obtain ⟨gb, cb, rfl⟩ := hu.some (by decide)
 refine jC3 [.ro gb 0 (jA2 tpL), .own g2 30 [.slice (some ⟨ga, 0, none⟩) 1 ca], .ro ga 0 (jA2 tpL)] (HLe.rowRo [] _) <| sM rfl rfl <| sX rfl rfl rfl <| sX rfl rfl rfl <| sAl tyZ30 rfl (fun g3 => sS0 0 tyS30 ?_)
 refine sAN hZ rfl rfl <| f6K 1 2 3 4 5 6 rfl <| jA3 [(0, .bool true)] [] (fun Z hZ => ?_) ?_
 ·refine sM rfl rfl <| jB0 ?_
  refine sM rfl rfl <| jE5 26 rfl true (by first | rfl | (simp [hlen]; done)) ?_
  refine sOn0 ?_
  refine sM rfl rfl <| sOn0 ?_
  refine jB0 ?_
  refine sP rfl rfl rfl <| sM rfl rfl <| jE5 30 rfl true (by first | rfl | (simp [hlen]; done)) ?_
  refine sOn0 ?_
  refine sM rfl rfl <| sOn0 ?_
  refine jD6 Tryz.underlying9 rfl rfl <| sOn0 ?_
  refine jB0 ?_
  refine sP rfl rfl rfl <| sM rfl rfl <| jE5 35 rfl true (by first | rfl | (simp [hlen]; done)) ?_
  refine sOn0 ?_
  refine sM rfl rfl <| sOn0 ?_
  refine jB0 ?_
  refine sP rfl rfl rfl <| sM rfl rfl <| jE5 39 rfl true (by first | rfl | (simp [hlen]; done)) ?_
  refine sOn0 ?_
  refine sLA0 2 tyA30 tyS30 ?_
  refine sOn0 ?_
  refine sLA0 0 tyA30 tyS30 ?_
  refine sOn0 ?_
  refine jO2 ([.ro ga 0 (jA2 tpL)] ++ [.ro gb 0 (jA2 tpL)]) (yC9 (some ⟨ga, 0, none⟩) ca tpL _ (fun _ => ⟨_, _, rfl⟩) (fun _ => rfl) (Ro.roE (some ⟨ga, 0, none⟩) (jA2 tpL)) (by decide) (some ⟨gb, 0, none⟩) cb tpL _ (fun _ => ⟨_, _, rfl⟩) (fun _ => rfl) (Ro.roE (some ⟨gb, 0, none⟩) (jA2 tpL)) (by decide)) rfl (HLe.pick [3, 1] (by simp) rfl) ((Ro.roE (some ⟨ga, 0, none⟩) (jA2 tpL)).append (Ro.roE (some ⟨gb, 0, none⟩) (jA2 tpL))) rfl ?_
  rw [show jP0 tpL tpL = true from by decide]
  refine sP rfl rfl rfl <| sA rfl rfl <| sN (hZ _ _ ?_ ?_)
  ·exact Kn.cons rfl Kn.nil
  ·exact HLe.sub (lN _)
 refine aE <| nR10 rfl
structure SecIs (s : List UInt8) (h : Hdr) (q : P4) : Prop where
 r : h.r0 = 127 ∧ h.r1 = q.a.length
 m : h.m0 = 127 + q.a.length ∧ h.m1 = q.b.length
 l : h.l0 = 127 + q.a.length + q.b.length ∧ h.l1 = q.c.length
 d : h.d0 = 127 + q.a.length + q.b.length + q.c.length ∧ h.d1 = q.d.length
 n : s.length = 127 + q.a.length + q.b.length + q.c.length + q.d.length
 len : s.length ≤ 100000
 ta : (s.drop h.r0).take h.r1 = q.a
 tb : (s.drop h.m0).take h.m1 = q.b
 tc : (s.drop h.l0).take h.l1 = q.c
 td : (s.drop h.d0).take h.d1 = q.d
 laid : vE9 h s.length = 0
 code : h.ic = 1 ∧ h.oc = 1 ∧ h.cl = true
def secB (q : P4) : Nat → Nat
 | 0 => 127 | 1 => 127 + q.a.length | 2 => 127 + q.a.length + q.b.length | 3 => 127 + q.a.length + q.b.length + q.c.length | _ => 127 + q.a.length + q.b.length + q.c.length + q.d.length
theorem yX5 (ga gm : Nat) (s : List UInt8) (h : Hdr) (q : P4) (b : Nat) (hs : SecIs s h q) (hb : h.r1 ≤ b) (hbb : b ≤ 100000) (er es : Value) (he1 : ErOk er) (he2 : ErOk es) (hn : (ntQ q.b).1 = 1 ∧ (ntQ q.b).2.2 = 0) :
  Fn Tryz.prog 31 [ptr ga 0, iq (b : Nat)] ([audR ga s h gm] ++ TJ er es) fun v _ => v = .tuple #[] := by
 obtain ⟨⟨r0, r1⟩, ⟨m0, m1⟩, ⟨l0, l1⟩, ⟨d0, d1⟩, hn1, hlen, ta, tb, tc, td, hlaid, hc1, hc2, hc3⟩ := hs
 have f1 := yB0 h (s.length : Nat)
 rw [hlaid] at f1
 have f2 := fun r => kD4 ga r
 have f3 := kL2 ga gm s h h.m0 h.m1 (by omega) (by omega)
 rw [tb] at f3
 have f4 := vS0 q.b (by omega) er es he1 he2
 obtain ⟨t, nn, e, hq⟩ : ∃ t nn e, ntQ q.b = (t, nn, e) := ⟨_, _, _, rfl⟩
 rw [hq] at f4 hn
 obtain ⟨rfl, rfl⟩ : t = 1 ∧ e = 0 := hn
 have hroA : Ro [audR ga s h gm] := ro1 _ _ _
 refine Fn.enter (N := 133) Tryz.func31 rfl (by kernel_rfl) rfl (fun w0 => ?_)
 refine jA6 (audR ga s h gm :: TJ er es) (HLe.refl _) <| aR fun Z hZ => sM rfl rfl <| jA0 ?_
 refine sFA0 vI1 ?_
 refine jB4 0 rfl rfl 0 rfl tyA9 tyS9 rfl rfl <| jD6 Tryz.underlying9 rfl rfl <| jB7 Tryz.underlying3 Tryz.underlying25 rfl ((s.length : Nat) : Int) (by rw [l6 _ (by omega)]) rfl ?_
 refine sAN hZ rfl rfl <| f3K 0 1 4 rfl <| aR fun Z hZ => sM rfl rfl <| sM rfl rfl <| jA0 ?_
 refine sFA0 jJ9 ?_
 refine jB4 (v := h.val) 0 rfl rfl 1 rfl tyA68 tyS68 rfl rfl <| sM rfl rfl <| sCP0 f1 ?_
 refine jB0 ?_
 refine sCP0 (f2 2) ?_
 refine sN (hZ _ _ <| f3K 0 1 4 rfl <| aR fun Z hZ => sA rfl rfl <| sAN hZ rfl rfl <| f5K 0 1 4 5 6 rfl <| aS <| jC6 mixed (by kernel_rfl) (fun Z hZ => ?_))
 refine qM rfl rfl <| jA9 rfl rfl <| qFA0 jJ9 ?_
 refine qFA0 jZ0 ?_
 refine jG7 0 rfl rfl 1 rfl tyA66 tyS66 rfl rfl <| qM rfl rfl <| jA9 rfl rfl <| qFA0 jJ9 ?_
 refine qFA0 kF3 ?_
 refine jG7 0 rfl rfl 3 rfl tyA66 tyS66 rfl rfl <| qM rfl rfl <| jA9 rfl rfl <| qFA0 jJ9 ?_
 refine qFA0 kF2 ?_
 refine jG7 0 rfl rfl 5 rfl tyA66 tyS66 rfl rfl <| qM rfl rfl <| jA9 rfl rfl <| qFA0 jJ9 ?_
 refine qFA0 kF1 ?_
 refine jG7 0 rfl rfl 7 rfl tyA66 tyS66 rfl rfl <| wE2 tyZ133 Tryz.underlying133 tyS66 rfl rfl (by simp only [qS, Nat.reduceAdd, Value.cells, wrV, Nat.reduceMul, xK]; rfl) rfl ?_
 refine qM rfl rfl <| jF0 (hZ _ _ <| f7K 0 1 4 5 6 49 50 rfl <| aB ?_)
 refine jB9 (ι := Nat) (fun k => [(0, ptr ga 0), (1, iq (b : Nat)), (4, uq s.length), (5, uq (secB q k)), (6, .bool true), (49, .agg h.secs.toArray), (50, iq (k : Nat))]) (fun _ => audR ga s h gm :: TJ er es)
  (fun k => k ≤ 4) (fun k => 4 - k) 0 (by omega) (kR rfl) (HLe.refl _) ?_
 rintro k hk
 refine aR (fun Z hZ => jB2 ?_)
 refine sN (hZ _ _ <| f8K 0 1 4 5 6 49 50 51 rfl <| aS (aC0 (fun h4 => ?_) (fun h4 => ?_)))
 ·have hlt : k < 4 := by simp at h4; omega
  obtain ⟨ln, hrd, hend, hle⟩ : ∃ ln, rdV true 2 h.secs (k * 2) = some (.agg #[uq (secB q k), uq ln]) ∧ secB q (k + 1) = secB q k + ln ∧ secB q k + ln ≤ 100000 := by
   obtain rfl | rfl | rfl | rfl : k = 0 ∨ k = 1 ∨ k = 2 ∨ k = 3 := by omega
   ·exact ⟨q.a.length, by simp only [Hdr.secs, r0, r1]; rfl, rfl, by simp only [secB]; omega⟩
   ·exact ⟨q.b.length, by simp only [Hdr.secs, m0, m1]; rfl, rfl, by simp only [secB]; omega⟩
   ·exact ⟨q.c.length, by simp only [Hdr.secs, l0, l1]; rfl, rfl, by simp only [secB]; omega⟩
   ·exact ⟨q.d.length, by simp only [Hdr.secs, d0, d1]; rfl, rfl, by simp only [secB]; omega⟩
  obtain ⟨bg, hbg⟩ := xZ9 (secB q k)
  rw [hbg] at hrd hend hle ⊢
  have f5 := kS4 bg ln
  rw [show IntKind.u64.wrap ((bg : Int) + (ln : Int)) = ((bg + ln : Nat) : Int) by rw [l6 _ (by omega)]; omega] at f5
  refine aK <| nN <| aS (aB <| aR (fun Z hZ => jQ0 Tryz.underlying133 tyA66 tyS66 rfl rfl (by omega) hrd rfl ?_))
  refine sAl tyZ66 rfl (fun g1 => sS0 0 tyS66 ?_)
  refine sN (hZ _ _ <| f8K 0 1 4 5 6 8 49 50 rfl <| jA3 [(0, ptr ga 0), (1, iq (b : Nat)), (4, uq s.length), (6, .bool true), (8, ptr g1 0), (49, .agg h.secs.toArray), (50, iq (k : Nat))] (.own g1 66 [uq bg, uq ln] :: audR ga s h gm :: TJ er es) (fun Z hZ => ?_) ?_)
  ·refine sM rfl rfl <| sM rfl rfl <| jE5 54 rfl true (by rfl) ?_
   refine sOn0 ?_
   refine sFA0 jZ1 ?_
   refine sOn0 ?_
   refine sL0 0 tyA25 tyS25 ?_
   refine sOn0 ?_
   refine sM rfl rfl <| sOn0 ?_
   refine jB0 ?_
   refine sP rfl rfl rfl <| sA rfl rfl <| sN (hZ _ _ ?_ ?_)
   ·exact Kn.cons rfl (Kn.cons rfl (Kn.cons rfl (Kn.cons (congrArg some (congrArg Value.bool (by simp))) (kR rfl))))
   ·exact HLe.refl _
  refine aG (fun Z hZ => sLA0 0 tyA66 tyS66 ?_)
  refine sCP0 f5 ?_
  refine sAN hZ rfl rfl ?_
  refine nF [(0, _), (1, _), (4, _), (5, _), (6, _), (49, _), (50, _)] (kR rfl) ?_
  refine aG (fun Z hZ => ?_)
  refine jC2 rfl rfl ((k + 1 : Nat) : Int) (by rw [lT _ (by omega)]; omega) rfl ?_
  refine sMN hZ rfl rfl <| nF [(0, _), (1, _), (4, _), (5, _), (6, _), (49, _), (50, _)] (kR rfl) <| jB8 (k + 1) (by omega) (by omega) (Kn.cons rfl (Kn.cons rfl (Kn.cons rfl (Kn.cons (by rw [hend]; rfl) (kR rfl))))) (HLe.drop 1 rfl)
 ·have hk4 : k = 4 := by simp at h4; omega
  subst hk4
  refine jB1 ?_
  repeat refine nTE ?_
  refine nBE <| nN ?_
  have hse : secB q 4 = s.length := by simp only [secB]; omega
  rw [hse]
  refine jA3 [(0, ptr ga 0), (1, iq (b : Nat))] (audR ga s h gm :: TJ er es) (fun Z hZ => ?_) ?_
  ·refine sM rfl rfl <| sM rfl rfl <| sM rfl rfl <| jE5 65 rfl true (by rfl) ?_
   refine sOn0 ?_
   refine sM rfl rfl <| sOn0 ?_
   refine sM rfl rfl <| sOn0 ?_
   refine jB0 ?_
   refine sP rfl rfl rfl ?_
   refine sCP (by simpa using f2 3) rfl rfl ?_
   refine sN (hZ _ _ ?_ ?_)
   ·exact kR rfl
   ·exact HLe.refl _
  refine jA3 [(0, ptr ga 0), (1, iq (b : Nat))] (audR ga s h gm :: TJ er es) (fun Z hZ => ?_) ?_
  ·refine sM rfl rfl <| sM rfl rfl <| jA0 ?_
   refine sFA0 jJ9 ?_
   refine sFA0 kU5 ?_
   refine jB4 0 rfl rfl 13 rfl tyA5 tyS5 rfl rfl <| jB0 ?_
   refine sM rfl rfl <| jE5 78 rfl true (by first | rfl | (simp [hc1]; done)) ?_
   refine sOn0 ?_
   refine sM rfl rfl <| sOn0 ?_
   refine jA0 ?_
   refine sOn0 ?_
   refine sFA0 jJ9 ?_
   refine sOn0 ?_
   refine sFA0 kU4 ?_
   refine sOn0 ?_
   refine jB4 0 rfl rfl 14 rfl tyA5 tyS5 rfl rfl <| sOn0 ?_
   refine jB0 ?_
   refine sP rfl rfl rfl <| sM rfl rfl <| jE5 86 rfl true (by first | rfl | (simp [hc2]; done)) ?_
   refine sOn0 ?_
   refine sM rfl rfl <| sOn0 ?_
   refine jA0 ?_
   refine sOn0 ?_
   refine sFA0 jJ9 ?_
   refine sOn0 ?_
   refine sFA0 vI2 ?_
   refine sOn0 ?_
   refine jB4 0 rfl rfl 12 rfl tyA4 tyS4 rfl rfl ?_
   refine sP rfl rfl rfl ?_
   refine sCP (by simpa [hc1, hc2, hc3] using f2 4) rfl rfl ?_
   refine sN (hZ _ _ ?_ ?_)
   ·exact kR rfl
   ·exact HLe.refl _
  refine aR fun Z hZ => sM rfl rfl <| sM rfl rfl <| jA0 ?_
  refine sFA0 jJ9 ?_
  refine sFA0 kF3 ?_
  refine jB4 0 rfl rfl 3 rfl tyA66 tyS66 rfl rfl <| jD1 [audR ga s h gm] f3 rfl (by repeat (first | exact xU _ | exact lN _ | exact lP _ _ | refine List.Sublist.trans ?_ (lS _ _) | exact qC _ (lN _) | refine zF _ ?_)) hroA rfl ?_
  refine jK1 [] (TJ er es) (audR ga s h gm :: TJ er es) f4 rfl (HLe.refl _) (x4 _ _) (kA9 _ _) rfl ?_
  rintro v H' ⟨⟨x, ⟨y, rfl⟩, rfl⟩, rfl⟩
  refine jC3 (audR ga s h gm :: TJ er es) (HLe.refl _) <| sM rfl rfl <| sX rfl rfl rfl <| sX rfl rfl rfl <| sX rfl rfl rfl <| sA rfl rfl <| sA rfl rfl <| sAN hZ rfl rfl <| f4K 0 1 9 11 rfl <| aR fun Z hZ => sM rfl rfl <| jU9 Tryz.underlying73 rfl rfl <| sM rfl rfl <| sX rfl rfl rfl <| sX rfl rfl rfl <| sA rfl rfl <| sAN hZ rfl rfl <| f4K 0 1 11 13 rfl <| jA3 [(0, ptr ga 0), (1, iq (b : Nat))] (audR ga s h gm :: TJ er es) (fun Z hZ => ?_) ?_
  ·refine sM rfl rfl <| sM rfl rfl <| jB0 ?_
   refine sM rfl rfl <| jE5 114 rfl true (by rfl) ?_
   refine sOn0 ?_
   refine sM rfl rfl <| sP rfl rfl rfl <| sCP0 (by simpa using f2 5) ?_
   refine sN (hZ _ _ ?_ ?_)
   ·exact kR rfl
   ·exact HLe.refl _
  refine jO1 ([]) ([]) ?_ ?_
  ·refine aG (fun Z hZ => sM rfl rfl <| sM rfl rfl <| jO3 rfl rfl rfl <| sM rfl rfl <| jE5 121 rfl true (by simp) ?_)
   refine sOn0 ?_
   refine sM rfl rfl <| sOn0 ?_
   refine jA0 ?_
   refine sOn0 ?_
   refine sFA0 jJ9 ?_
   refine sOn0 ?_
   refine sFA0 jZ0 ?_
   refine sOn0 ?_
   refine sFA0 kU9 ?_
   refine sOn0 ?_
   refine jB4 0 rfl rfl 2 rfl tyA25 tyS25 rfl rfl <| sOn0 ?_
   refine sM rfl rfl <| sOn0 ?_
   refine jB7 Tryz.underlying3 Tryz.underlying25 rfl ((b : Nat) : Int) (by rw [l6 _ (by omega)]) rfl ?_
   refine sOn0 ?_
   refine jN4 rfl rfl rfl ?_
   refine sP rfl rfl rfl ?_
   refine sCP (by simpa [hb] using f2 6) rfl rfl ?_
   refine sN (hZ _ _ (jE4 () trivial ?_ ?_))
   ·exact Kn.nil
   ·exact HLe.sub (lN _)
  exact jH5 [] rfl (HLe.refl _) rfl
theorem keyB : KeyOk Tryz.prog 5 (fun k : Nat => .int .u8 (k : Nat)) where
 eq a b w := by
  simp [go_sem, Op.equal, Op.maxDepth]
  by_cases h : a = b
  ·simp [h]
  ·have : ¬ (a : Int) = b := by omega
   simp [h, this]
 chk e a w := by
  rw [show (10000 : Nat) = 9999 + 1 from rfl, Instr.checkKey]
  simp [run_underlying Tryz.underlying5]
 und := ⟨_, Tryz.underlying5, .inr fun a b => by
  by_cases h : a = b
  ·simp [Instr.sameNow, h]
  ·have : ¬ (a : Int) = b := by omega
   simp [Instr.sameNow, h, this]⟩
 same a := by simp [Instr.sameBits]
theorem wA3 (w : World) : (zeroValue 3).run Tryz.prog w = .ok (iq 0) w := by kernel_rfl
theorem dirP {t : List UInt8} {x : En} (h : (jF9 x t).2 = 0) : (jF9 x t).1.length ≠ 0 ∧ ∀ e ∈ (jF9 x t).1, 0 < e.run := by
 have hp : jI2 (jF9 x t).1 = false ∧ (jF9 x t).1.length ≠ 0 := by
  unfold jF9 at h ⊢
  split at h
  ·cases h
  split at h
  ·rename_i h1; exact absurd h h1
  split at h
  ·cases h
  split at h
  ·cases h
  ·rename_i h1 h2 h3 h4
   rw [if_neg h1, if_neg h2, if_neg h3, if_neg h4]
   exact ⟨by simpa using h3, fun e => h4 (.inl e)⟩
 refine ⟨hp.2, fun e he => ?_⟩
 have := List.any_eq_false.1 hp.1 e he
 simp [jT5] at this
 omega
theorem vO2 (ga gm : Nat) (s : List UInt8) (h : Hdr) (q : P4) (hs : SecIs s h q) (M R : List En) (hr : (decQ q.a).1 = M ∧ (decQ q.a).2.2 = 0) (hj : jQ5 M q.c = (R, 0)) :
  Fn Tryz.prog 32 [ptr ga 0] [BrE gm, audR ga s h gm] fun v H' => ∃ u, v = .tuple #[u, .bool true] ∧ RowOk u R.length ∧ H' = BrE gm :: rowE u 80 4 (jA1 R) := by
 obtain ⟨⟨r0, r1⟩, ⟨m0, m1⟩, ⟨l0, l1⟩, ⟨d0, d1⟩, hn1, hlen, ta, tb, tc, td, hlaid, hc1, hc2, hc3⟩ := hs
 have f1 := kL2 ga gm s h h.r0 h.r1 (by omega) (by omega)
 have f2 := kL2 ga gm s h h.l0 h.l1 (by omega) (by omega)
 rw [ta] at f1
 rw [tc] at f2
 have f3 := jY1 q.a (by omega)
 obtain ⟨d1', d2', _⟩ := kG8 q.a
 rw [hr.1] at d1' d2'
 rw [hr.1, hr.2] at f3
 have f4 := fun r => kD4 ga r
 have hrow : rowC M = 0 := Classical.byContradiction fun e => by
  unfold jQ5 at hj
  rw [if_pos e] at hj
  exact e (congrArg Prod.snd hj)
 obtain ⟨hl, hat⟩ := kX1 hrow d2'
 have hq0 : jP1 q.c [] M = (R, 0) := by unfold jQ5 at hj; rwa [if_neg (by simpa using hrow)] at hj
 obtain ⟨t, ht⟩ := xZ9 (q.c)
 have htl : t.length ≤ 1000000 := by rw [← ht]; omega
 rw [ht] at hq0 f2
 refine Fn.enter (N := 94) Tryz.func32 rfl (by kernel_rfl) rfl (fun w0 => ?_)
 refine aR fun Z hZ => sA rfl rfl <| sAN hZ rfl rfl <| f1K 0 rfl <| aR fun Z hZ => sM rfl rfl <| sM rfl rfl <| jA0 ?_
 refine sFA0 jJ9 ?_
 refine sFA0 jZ0 ?_
 refine jB4 1 rfl rfl 1 rfl tyA66 tyS66 rfl rfl <| jD1 [audR ga s h gm] f1 rfl (by repeat (first | exact xU _ | exact lN _ | exact lP _ _ | refine List.Sublist.trans ?_ (lS _ _) | exact qC _ (lN _) | refine zF _ ?_)) (ro1 _ _ _) rfl ?_
 refine jA5 [] [BrE gm, audR ga s h gm] f3 rfl (HLe.refl _) rfl ?_
 rintro v H' ⟨u, rfl, hu, rfl⟩
 rw [jF1]
 obtain ⟨A, c, rfl, hA, hle⟩ := hu.ro
 refine jC3 ([BrE gm, audR ga s h gm] ++ roE A (jA1 M)) ((HLe.swap (roE A (jA1 M)) [BrE gm, audR ga s h gm]).trans (hle [] [BrE gm, audR ga s h gm] _ _ _)) <| sM rfl rfl <| sX rfl rfl rfl <| sX rfl rfl rfl <| sX rfl rfl rfl <| sA rfl rfl <| sA rfl rfl <| sAN hZ rfl rfl <| f3K 0 4 6 rfl <| aR fun Z hZ => sM rfl rfl <| sM rfl rfl <| jB0 ?_
 refine sCP0 (f4 7) ?_
 refine sN (hZ _ _ <| f2K 0 4 rfl <| aA rfl rfl <| f3K 0 4 7 rfl <| aR fun Z hZ => sM rfl rfl <| sM rfl rfl <| jA0 ?_)
 refine sFA0 jJ9 ?_
 refine sFA0 kF2 ?_
 refine jB4 1 rfl rfl 5 rfl tyA66 tyS66 rfl rfl <| jD1 [audR ga s h gm] f2 rfl (by repeat (first | exact xU _ | exact lN _ | exact lP _ _ | refine List.Sublist.trans ?_ (lS _ _) | exact qC _ (lN _) | refine zF _ ?_)) (ro1 _ _ _) rfl ?_
 refine sAN hZ rfl rfl <| f4K 0 4 7 8 rfl <| aS <| aR fun Z hZ => sM rfl rfl <| jE2 Tryz.underlying58 rfl rfl <| sMN hZ rfl rfl <| f6K 0 7 8 37 38 39 rfl <| aB ?_
 refine jB9 (ι := Nat × Value × List En) (fun i => [(0, ptr ga 0), (7, i.2.1), (8, .string (str t)), (37, .slice A M.length c), (38, iq (M.length : Nat)), (39, iq (i.1 : Nat))]) (fun i => [BrE gm, audR ga s h gm] ++ (roE A (jA1 M) ++ rowE i.2.1 80 4 (jA1 i.2.2)))
  (fun i => i.1 ≤ M.length ∧ RowOk i.2.1 i.2.2.length ∧ i.2.2.length ≤ i.1 * 4096 ∧ jP1 t i.2.2 (M.drop i.1) = (R, 0)) (fun i => M.length - i.1) (0, .slice none 0 0, []) ⟨by simp, RowOk.nil, by simp, hq0⟩ (kR rfl) (by simp [rowE]; exact HLe.refl _) ?_
 rintro ⟨k, v, out⟩ ⟨hk, hv, hol, hq⟩
 simp only at hk hv hol hq
 refine aR (fun Z hZ => jB2 ?_)
 refine sN (hZ _ _ <| f7K 0 7 8 37 38 39 40 rfl <| aS (aC0 (fun h1 => ?_) (fun h1 => ?_)))
 ·have hlt : k < M.length := by simpa using h1
  have hx := jW6 hlt
  have hxo := jW5 d2' k
  have hoff := (hat k hlt).2
  obtain ⟨x, hxe⟩ := xZ9 (atE M k)
  rw [hxe] at hx hxo hoff
  have hdr : M.drop k = x :: M.drop (k + 1) := by rw [qR hlt]; congr 1; exact (List.getElem?_eq_some_iff.1 hx).2
  rw [hdr, jP1] at hq
  obtain ⟨gq, o, rfl⟩ := hA.some (by omega)
  refine aK <| nN <| jJ7 (ι := Value × List En) (fun i => [(0, ptr ga 0), (7, i.1), (8, .string (str t)), (37, .slice (some ⟨gq, o, none⟩) M.length c), (38, iq (M.length : Nat)), (39, iq (k : Nat))]) (fun i => [BrE gm, audR ga s h gm, .ro gq o (jA1 M)] ++ rowE i.1 80 4 (jA1 i.2)) (fun i => RowOk i.1 i.2.length ∧ i.2.length ≤ (k + 1) * 4096 ∧ jP1 t i.2 (M.drop (k + 1)) = (R, 0)) ?_ ?_
  ·refine aB <| jA6 ([BrE gm, audR ga s h gm, .ro gq o (jA1 M)] ++ rowE v 80 4 (jA1 out)) (HLe.refl _) <| aR (fun Z hZ => jB3 (o + k * 4) Tryz.underlying58 tyS80 rfl rfl (by omega) (by simp) rfl ?_)
   refine jB4 2 rfl rfl (k * 4) rfl tyA80 tyS80 (jG4 hx) rfl <| sAl tyZ80 rfl (fun g1 => sS0 0 tyS80 ?_)
   refine sN (hZ _ _ <| f7K 0 7 8 10 37 38 39 rfl <| aS <| aR (fun Z hZ => sFA0 jN0 ?_))
   refine sL0 0 tyA78 tyS78 ?_
   refine jC4 ?_
   refine sN (hZ _ _ <| f8K 0 7 8 10 37 38 39 45 rfl <| aC0 (fun h2 => ?_) (fun h2 => ?_))
   ·have hp : jT5 x = false := by simp at h2; simp [jT5]; omega
    rw [hp, if_neg (by decide)] at hq
    refine aR fun Z hZ => sM rfl rfl <| sLA0 0 tyA80 tyS80 ?_
    refine sBS0 Tryz.underlying58 tyS80 tyZ80 (fun g2 => ?_)
    refine jC9 [_, _, _, _, _] kI4 rfl hv (jG6 out) rfl (fun w hw => jJ3 (i := 0) (xs := x.cells) rfl rfl hw) rfl (by show _ ≤ 9223372036854775807; omega) (by omega) (HLe.refl _) rfl (fun v2 hv2 => ?_)
    rw [show jA1 out ++ x.cells = jA1 (out ++ [x]) from (kO2 _ _).symm]
    refine sAN hZ rfl rfl <| f6K 0 7 8 37 38 39 rfl <| jB1 ?_
    repeat refine nTE ?_
    refine nBE <| jE4 (v2, out ++ [x]) ⟨by simpa using hv2, by simp; omega, hq⟩ (kR rfl) (HLe.drop 2 rfl)
   have hp : jT5 x = true := by simp at h2; simp [jT5]; omega
   rw [hp, if_pos rfl] at hq
   have hpc0 : (jF9 x t).2 = 0 := Classical.byContradiction fun e => by
    rw [if_pos e] at hq
    exact e (congrArg Prod.snd hq)
   rw [if_neg (by simpa using hpc0)] at hq
   have hpc := yF2 ga x hxo hoff t htl hpc0
   obtain ⟨q1, q2⟩ := kC8 x t
   obtain ⟨q3, q4⟩ := dirP hpc0
   obtain ⟨L, hL⟩ := xZ9 ((jF9 x t).1)
   rw [hL] at hpc hq q1 q2 q3 q4
   refine aK <| nN <| aR fun Z hZ => sM rfl rfl <| sLA0 0 tyA80 tyS80 ?_
   refine sM rfl rfl <| jA5 [] (.own g1 80 x.cells :: BrE gm :: audR ga s h gm :: .ro gq o (jA1 M) :: rowE v 80 4 (jA1 out)) hpc rfl (HLe.refl _) rfl ?_
   rintro u H' ⟨hu, rfl⟩
   rw [jF1]
   obtain ⟨g2, c2, rfl⟩ := hu.some (by omega)
   refine jC3 ([BrE gm, audR ga s h gm, .ro gq o (jA1 M), .ro g2 0 (jA1 L)] ++ rowE v 80 4 (jA1 out)) (((HLe.sub ((((xU _).cons _).cons_cons _).append_left [_, _, _])).trans (HLe.comm3 [.ro g2 0 (jA1 L), .own g1 80 x.cells] [_, _, _] _)).trans (HLe.rowRo [] _)) <| sAN hZ rfl rfl <| f7K 0 7 8 11 37 38 39 rfl <| aR fun Z hZ => sM rfl rfl <| sM rfl rfl <| jE2 Tryz.underlying58 rfl rfl <| jC4 ?_
   refine sCP (by simpa [show 0 < L.length by omega] using f4 8) rfl rfl ?_
   refine sN (hZ _ _ <| f7K 0 7 8 11 37 38 39 rfl <| aS <| aR fun Z hZ => sM rfl rfl <| jE2 Tryz.underlying58 rfl rfl <| sMN hZ rfl rfl <| f10K 0 7 8 11 37 38 39 59 60 61 rfl <| aB ?_)
   refine jB9 (ι := Nat) (fun i => [(0, ptr ga 0), (7, v), (8, .string (str t)), (11, .slice (some ⟨g2, 0, none⟩) L.length c2), (37, .slice (some ⟨gq, o, none⟩) M.length c), (38, iq (M.length : Nat)), (39, iq (k : Nat)), (59, .slice (some ⟨g2, 0, none⟩) L.length c2), (60, iq (L.length : Nat)), (61, iq (i : Nat))]) (fun _ => [BrE gm, audR ga s h gm, .ro gq o (jA1 M), .ro g2 0 (jA1 L)] ++ rowE v 80 4 (jA1 out))
    (fun i => i ≤ L.length) (fun i => L.length - i) 0 (xD _) (kR rfl) (HLe.refl _) ?_
   rintro i hi
   refine aR (fun Z hZ => jB2 ?_)
   refine sN (hZ _ _ <| f11K 0 7 8 11 37 38 39 59 60 61 62 rfl <| aS (aC0 (fun h3 => ?_) (fun h3 => ?_)))
   ·have hil : i < L.length := by simpa using h3
    obtain ⟨y, hy⟩ : ∃ y, L[i]? = some y := ⟨_, xC hil⟩
    have hrun := q4 y (xM hy)
    refine aK <| nN <| aS (aB <| aR (fun Z hZ => jB3 (0 + i * 4) Tryz.underlying58 tyS80 rfl rfl (by omega) (by simp) rfl ?_))
    refine jB4 3 rfl rfl (i * 4) rfl tyA80 tyS80 (jG4 hy) rfl <| sAl tyZ80 rfl (fun g3 => sS0 0 tyS80 ?_)
    refine sN (hZ _ _ <| f11K 0 7 8 11 13 37 38 39 59 60 61 rfl <| aG (fun Z hZ => sM rfl rfl <| sFA0 jN0 ?_))
    refine sL0 0 tyA78 tyS78 ?_
    refine jC4 ?_
    refine sCP (by simpa [hrun] using f4 9) rfl rfl ?_
    refine sN (hZ _ _ ?_)
    refine nF [(0, _), (7, _), (8, _), (11, _), (37, _), (38, _), (39, _), (59, _), (60, _), (61, _)] (kR rfl) ?_
    refine aG (fun Z hZ => ?_)
    refine jC2 rfl rfl ((i + 1 : Nat) : Int) (by rw [lT _ (by omega)]; omega) rfl ?_
    refine sMN hZ rfl rfl <| nF [(0, _), (7, _), (8, _), (11, _), (37, _), (38, _), (39, _), (59, _), (60, _), (61, _)] (kR rfl) <| jB8 (i + 1) hil (by omega) (kR rfl) (HLe.drop 1 rfl)
   ·refine jB1 ?_
    repeat refine nTE ?_
    refine nBE <| nN <| aG (fun Z hZ => sM rfl rfl <| sM rfl rfl <| jC9 [_, _, _, _] kI4 rfl hv (jG6 out) rfl (fun w hw => wF9 (.inr ⟨g2, 0, rfl⟩) (fun y hy => xI _ (by rw [List.mem_singleton.1 hy]; simp)) (jG6 L) hw) (kG7 L) (by show _ ≤ 9223372036854775807; omega) (by omega) (HLe.refl _) rfl (fun v2 hv2 => ?_))
    rw [show jA1 out ++ jA1 L = jA1 (out ++ L) from by simp [jA1]]
    refine sAN hZ rfl rfl <| nF [(0, _), (7, _), (8, _), (37, _), (38, _), (39, _)] (kR rfl) ?_
    repeat refine nBN ?_
    exact jE4 (v2, out ++ L) ⟨by simpa using hv2, by simp; omega, hq⟩ (kR rfl) (HLe.mid [_, _, _] [_] _)
  ·rintro ⟨v2, out2⟩ ⟨hv2, hol2, hq2⟩
   refine aG (fun Z hZ => ?_)
   refine jC2 rfl rfl ((k + 1 : Nat) : Int) (by rw [lT _ (by omega)]; omega) rfl ?_
   refine sMN hZ rfl rfl <| nF [(0, _), (7, _), (8, _), (37, _), (38, _), (39, _)] (kR rfl) <| jB8 (k + 1, v2, out2) ⟨by show k + 1 ≤ _; omega, hv2, hol2, hq2⟩ (by simp; omega) (kR rfl) (HLe.refl _)
 ·refine jB1 ?_
  repeat refine nTE ?_
  refine nBE <| nN ?_
  have hke : k = M.length := by simp at h1; omega
  subst hke
  rw [zW, jP1] at hq
  have hR : out = R := by
   split at hq
   ·rename_i h2; exact absurd (congrArg Prod.snd hq) h2
   ·exact congrArg Prod.fst hq
  subst hR
  refine jA6 ([BrE gm, audR ga s h gm] ++ rowE v 80 4 (jA1 out)) (HLe.mid [_, _] _ _) <| jD3 _ [(0, true), (1, true), (2, true), (3, true), (4, true), (5, true), (6, true), (7, true), (8, true), (9, true), (10, true), (11, true), (12, true), (13, true), (14, true), (15, true), (16, true), (17, true), (18, true), (19, true), (20, true)] mixed (by kernel_rfl) (HLe.pick [0, 1] (by simp) (by simp only [pick, l7, lZ]; rfl)) (fun Z hZ => ?_)
  refine tw_p rfl <| jA8 ?_
  refine vN <| tw_p rfl <| jA8 ?_
  refine vN <| tw_p rfl <| jE0 rfl rfl <| vN <| tw_p rfl <| jA7 kL7 ?_
  refine vN <| tw_p rfl <| jM1 1 rfl rfl 25 rfl tyA83 tyS83 rfl rfl <| vN <| tw_p rfl <| jV1 0 keyB Tryz.underlying83 wA3 7 (iq 0) rfl rfl rfl rfl rfl <| vN <| tw_p rfl <| jA8 ?_
  refine vN <| tw_p rfl <| jE0 rfl rfl <| vN <| tw_p rfl <| jA7 kL7 ?_
  refine vN <| tw_p rfl <| jM1 1 rfl rfl 25 rfl tyA83 tyS83 rfl rfl <| vN <| tw_p rfl <| jV1 0 keyB Tryz.underlying83 wA3 8 (iq 0) rfl rfl rfl rfl rfl <| vN <| tw_p rfl <| kH8 rfl rfl _ rfl rfl <| vN ?_
  refine tw_p rfl <| jA8 ?_
  refine vN <| tw_p rfl <| jE0 rfl rfl <| vN <| tw_p rfl <| jA7 kL7 ?_
  refine vN <| tw_p rfl <| jM1 1 rfl rfl 25 rfl tyA83 tyS83 rfl rfl <| vN <| tw_p rfl <| jV1 0 keyB Tryz.underlying83 wA3 9 (iq 0) rfl rfl rfl rfl rfl <| vN <| tw_p rfl <| kH8 rfl rfl _ rfl rfl <| vN ?_
  refine tw_p rfl <| yG5 rfl rfl rfl <| vN <| tw_p rfl <| jE7 rfl rfl <| vN <| tw_p rfl <| jE7 rfl rfl <| vN <| jI7 (hZ _ _ ?_)
  refine f2K 2 3 rfl <| aE <| jD9 (BrE gm :: rowE v 80 4 (jA1 out)) rfl rfl rfl (HLe.sub ((x4 _ _).cons_cons _)) ⟨_, rfl, hv, rfl⟩
def ptx (D : Tx) (p : Plc) : Tx := (D.drop p.1).take p.2
def posP (L : List Plc) : Nat → Nat
 | 0 => 0
 | k + 1 => match L[k]? with | some p => p.1 + p.2 | none => 0
def kY1 (D : Tx) (L : List Plc) : TxM := L.foldl (fun M p => aput M (ptx D p) 1) []
theorem kR3 {D : Tx} {L : List Plc} {k : Nat} {x : Plc} (h : L[k]? = some x) : kY1 D (L.take (k + 1)) = aput (kY1 D (L.take k)) (ptx D x) 1 := by
 obtain ⟨hlt, rfl⟩ := List.getElem?_eq_some_iff.1 h
 unfold kY1
 rw [qB hlt, List.foldl_append, zA, List.foldl_nil]
structure OnceIs (D : Tx) (L : List Plc) : Prop where
 st : ∀ i p, L[i]? = some p → p.1 = posP L i ∧ p.1 + p.2 ≤ D.length ∧ p.2 < 4294967296
 en : posP L L.length = D.length
 nd : (L.map (ptx D)).Nodup
theorem kN5 {D : Tx} {L : List Plc} (h : (L.map (ptx D)).Nodup) : ∀ k, k ≤ L.length → jD8 (kY1 D (L.take k)) = (L.take k).map (ptx D)
 | 0, _ => by simp [kY1, jD8]
 | k + 1, hk => by
  have hx : L[k]? = some L[k] := xC (by omega)
  have ih := kN5 h k (by omega)
  rw [kR3 hx, jT9 _ (by
   rw [ih]
   intro hm
   have h2 : ((L.take (k + 1)).map (ptx D)).Nodup := List.Sublist.nodup ((List.take_sublist _ _).map _) h
   rw [qB (by omega), x8, xN, qJ] at h2
   exact (List.nodup_append.1 h2).2.2 _ hm _ (List.mem_singleton.2 rfl) rfl), ih, qB (by omega), x8]
  rfl
theorem wI5 {D : Tx} {L : List Plc} (h : (L.map (ptx D)).Nodup) {k : Nat} {x : Plc} (hx : L[k]? = some x) : aget (kY1 D (L.take k)) (ptx D x) = none := by
 obtain ⟨hlt, rfl⟩ := List.getElem?_eq_some_iff.1 hx
 rw [kE7, kN5 h k (by omega)]
 intro hm
 have h2 : ((L.take (k + 1)).map (ptx D)).Nodup := List.Sublist.nodup ((List.take_sublist _ _).map _) h
 rw [qB hlt, x8, xN, qJ] at h2
 exact (List.nodup_append.1 h2).2.2 _ hm _ (List.mem_singleton.2 rfl) rfl
theorem wZ0 {D : Tx} {L : List Plc} (h : (L.map (ptx D)).Nodup) : (kY1 D L).length = L.length := by
 have h1 := congrArg List.length (kN5 h L.length (xB _))
 rw [x6] at h1
 simpa [jD8] using h1
theorem wX9 {L : List Plc} {i : Nat} {x : Plc} (h : L[i]? = some x) : rdV true 2 (plcs L) (i * 2) = some x.val := wL7 (f := Plc.cells) (n := 2) (fun _ => rfl) h
theorem yQ5 (ga : Nat) (A : Option Addr) (c : Nat) (D : Tx) (L : List Plc) (hA : jH6 A L.length) (hL : L.length ≤ 1000000) (hD : D.length ≤ 1000000) (hO : OnceIs D L) :
  Fn Tryz.prog 88 [ptr ga 0, .slice A L.length c, .string (str D)] (roE A (plcs L)) fun v H' => v = .tuple #[] := by
 obtain ⟨hst, hen, hnd⟩ := hO
 have f1 := fun r => kD4 ga r
 have hlen := wZ0 hnd
 refine Fn.enter (N := 48) Tryz.func88 rfl (by kernel_rfl) rfl (fun w0 => ?_)
 refine aA rfl rfl <| f4K 0 1 2 6 rfl <| aR (fun Z hZ => jX2 rfl (fun s : Tx => .string (str s)) (fun n : Nat => iq (n : Nat)) (fun gm => sAN hZ rfl rfl <| f5K 0 1 2 6 7 rfl <| aS <| aR fun Z hZ => sM rfl rfl <| jE2 Tryz.underlying174 rfl rfl <| sMN hZ rfl rfl ?_))
 refine f8K 0 1 2 6 7 11 12 13 rfl <| aB ?_
 refine jB9 (ι := Nat) (fun i => [(0, ptr ga 0), (1, .slice A L.length c), (2, .string (str D)), (6, uq (posP L i)), (7, .map (some gm)), (11, .slice A L.length c), (12, iq (L.length : Nat)), (13, iq (i : Nat))]) (fun i => mapE (fun s : Tx => .string (str s)) (fun n : Nat => iq (n : Nat)) gm (kY1 D (L.take i)) :: roE A (plcs L))
  (fun i => i ≤ L.length) (fun i => L.length - i) 0 (by simp) (kR rfl) (HLe.refl _) ?_
 rintro i hi
 refine aR (fun Z hZ => jB2 ?_)
 refine sN (hZ _ _ <| f9K 0 1 2 6 7 11 12 13 14 rfl <| aS (aC0 (fun h1 => ?_) (fun h1 => ?_)))
 ·have hlt : i < L.length := by simpa using h1
  obtain ⟨x, hx⟩ : ∃ x, L[i]? = some x := ⟨_, xC hlt⟩
  obtain ⟨g, o, rfl⟩ := hA (by omega)
  obtain ⟨hxs, hxe, hxl⟩ := hst i x hx
  have hsn := kR3 (D := D) hx
  have hno := wI5 hnd hx
  have hps : posP L (i + 1) = x.1 + x.2 := by simp only [posP, hx]
  have f2 := vK9 x (by omega) hxl
  obtain ⟨M, hM⟩ := xZ9 (kY1 D (L.take i))
  rw [hM] at hsn hno ⊢
  rw [← hxs]
  obtain ⟨s, hs⟩ := xZ9 (ptx D x)
  rw [hs] at hsn hno
  refine jA6 [mapE (fun s : Tx => .string (str s)) (fun n : Nat => iq (n : Nat)) gm M, .ro g o (plcs L)] (HLe.refl _) <| aK <| nN <| aS (aB <| aR (fun Z hZ => jB3 (o + i * 2) Tryz.underlying174 tyS172 rfl rfl (by omega) (by simp) rfl ?_))
  refine jB4 1 rfl rfl (i * 2) rfl tyA172 tyS172 (wX9 hx) rfl <| sAl tyZ172 rfl (fun g1 => sS0 0 tyS172 ?_)
  refine sN (hZ _ _ <| f9K 0 1 2 6 7 9 11 12 13 rfl <| aR fun Z hZ => sM rfl rfl <| sFA0 kV1 ?_)
  refine sL0 0 tyA25 tyS25 ?_
  refine sM rfl rfl <| jB0 ?_
  refine sCP (by simpa using f1 13) rfl rfl ?_
  refine sN (hZ _ _ <| f8K 0 1 2 7 9 11 12 13 rfl <| aR (fun Z hZ => sLA0 0 tyA172 tyS172 ?_))
  refine sCP0 f2 ?_
  refine sAN hZ rfl rfl <| f9K 0 1 2 6 7 9 11 12 13 rfl <| aG (fun Z hZ => sM rfl rfl <| sM rfl rfl <| sFA0 kV1 ?_)
  refine sL0 0 tyA25 tyS25 ?_
  refine sM rfl rfl <| jL9 s Tryz.underlying9 rfl rfl rfl (by omega) (by omega) (by omega) (by rw [← hs, ptx]; simp only [x9]; rw [Nat.add_sub_cancel_left]) rfl ?_
  refine kC1 1 keyT Tryz.underlying236 wA3 s (iq 0) rfl rfl rfl (by rw [hno]; rfl) rfl ?_
  refine jC2 rfl rfl ((1 : Nat) : Int) (by decide) rfl ?_
  refine jU5 1 keyT Tryz.underlying236 s 1 rfl rfl rfl rfl rfl ?_
  refine sN (hZ _ _ ?_)
  refine nF [(0, _), (1, _), (2, _), (6, _), (7, _), (11, _), (12, _), (13, _)] (kR rfl) ?_
  refine aG (fun Z hZ => ?_)
  refine jC2 rfl rfl ((i + 1 : Nat) : Int) (by rw [lT _ (by omega)]; omega) rfl ?_
  refine sMN hZ rfl rfl <| nF [(0, _), (1, _), (2, _), (6, _), (7, _), (11, _), (12, _), (13, _)] (kR rfl) <| jB8 (i + 1) hlt (by omega) (Kn.cons rfl (Kn.cons rfl (Kn.cons rfl (Kn.cons (by rw [hps]; rfl) (kR rfl))))) (by rw [hsn]; exact HLe.drop 1 rfl)
 ·refine jB1 ?_
  repeat refine nTE ?_
  refine nBE <| nN ?_
  have hke : i = L.length := by simp at h1; omega
  subst hke
  rw [x6, hen]
  refine jO1 ([]) ([]) ?_ ?_
  ·refine aG (fun Z hZ => sM rfl rfl <| sM rfl rfl <| sM rfl rfl <| jD6 Tryz.underlying9 rfl rfl <| jB7 Tryz.underlying3 Tryz.underlying25 rfl ((D.length : Nat) : Int) (by rw [l6 _ (by omega)]) rfl ?_)
   refine jB0 ?_
   refine sM rfl rfl <| jE5 40 rfl true (by simp) ?_
   refine sOn0 ?_
   refine sM rfl rfl <| sOn0 ?_
   refine yM3 0 Tryz.underlying236 rfl rfl rfl <| sOn0 ?_
   refine sM rfl rfl <| sOn0 ?_
   refine jE2 Tryz.underlying174 rfl rfl <| sOn0 ?_
   refine jB0 ?_
   refine sP rfl rfl rfl ?_
   refine sCP (by simpa [hlen] using f1 13) rfl rfl ?_
   refine sN (hZ _ _ (jE4 () trivial ?_ ?_))
   ·exact Kn.nil
   ·exact HLe.sub (lN _)
  exact jH5 [] rfl (HLe.refl _) rfl
section
variable {P : Program} {N : Frm} {w0 : World} {Wr : List Nat} {ops : Array Oper} {rest : List Oper} {fr : Fr} {H : Heap} {Z : Fr → Heap → Prop}
variable {d ty : Nat} {pos : String} {after : Array Edge}
theorem wV3 (i : Nat) {dT sT e e' : TypeId} {x y : Operand} {g n c : Nat} {cs : List Value} {l : List UInt8} (hT : P.underlying dT = some (.slice e)) (hz : tySize P e = some 1) (hx : ev fr x = some (.slice (some ⟨g, 0, none⟩) n c)) (hy : ev fr y = some (.string (str l)))
  (hH : H[i]? = some (.own g e' cs)) (hl : cs.length = n) (hn : n ≤ l.length) {H2 : Heap} (hs : H.set i (.own g e' (bv (l.take n))) = H2) (hN : Nat.ble (d + 1) N.n = true)
  (h : sx P N w0 Wr ops rest ((d, iq (n : Nat)) :: fr) H2 Z) : sx P N w0 Wr ops (⟨some d, .call { callee := .builtin .copy, args := #[x, y], argTypes := #[dT, sT] }, ty, pos, after, none⟩ :: rest) fr H Z := by
 refine jL0 (R := fun v H' => v = iq (n : Nat) ∧ H' = H2) hN (fun a w ha hw => ?_) (fun v H' hR => by obtain ⟨rfl, rfl⟩ := hR; exact h)
 have hm := hw.mem hH
 have hbl : (bv (l.take n)).length = n := by rw [jH3, xS]; omega
 obtain ⟨w', h2, h3, h4⟩ := jR6 (P := P) (bv (l.take n)) g 0 0 cs w hm (by omega) (fun u hu => by
  unfold bv at hu
  obtain ⟨b, _, rfl⟩ := List.mem_map.1 hu
  rfl)
 have hcs : cs.take (0 + 0) ++ bv (l.take n) ++ cs.drop (0 + 0 + (bv (l.take n)).length) = bv (l.take n) := by
  rw [hbl, lA, lA, lB, lD, ← hl, zW, lH]
 rw [hcs] at h4
 refine ⟨_, w', _, ?_, ⟨rfl, rfl⟩, hs ▸ hw.turn hH rfl rfl h3 h4⟩
 have hf2 : List.take n (List.map (fun b => Value.int .u8 (b.toNat : Int)) (str l).data.toList) = bv (l.take n) := by rw [jX3, bv, List.map_take]
 have hmin : Nat.min (str l).size n = n := by rw [str_size]; exact Nat.min_eq_right hn
 have e1 : (sizeOf e).run P w = .ok 1 w := jC0 hz
 simp only [execOp, resolve, invoke, builtin, uE, xN, qJ, ha.eval hx, ha.eval hy, lI, l9, lQ, Builtin.copy_]
 simp [run_underlying hT, Builtin.lenOf, Builtin.firstCells, e1, hmin]
 rw [hf2, h2]
 rfl
end
def vI8 (R : List En) (D : Tx) (k : Nat) : Tx × Bool := match R.find? (fun e => kA3 e k) with
 | some e => (ptx D (plE e), true)
 | none => ([], false)
theorem wZ2 (s : List UInt8) (hs : s.length ≤ 100000) (k : Nat) (R : List En) (D : Tx) (h0 : nrE s = 0) (hR : nrL s = R) (hD : nrT s = D) (hE : jF4 R) (hRl : R.length ≤ 100000) (hin : ∀ e ∈ R, e.off + e.len ≤ D.length) :
  Fn Tryz.prog 10 [.string (str s), uq k] [] fun v _ => v = .tuple #[.string (str (vI8 R D k).1), .bool (vI8 R D k).2, iq 0] := by
 have hrows := vS1 s hs
 have hDl : D.length ≤ 100000 := by rw [← hD]; exact zM (wI9 s) hs
 rw [h0, hR, hD] at hrows
 obtain ⟨q, hq⟩ := xZ9 (vI8 R D k)
 rw [hq]
 refine Fn.enter (N := 54) Tryz.func10 rfl (by kernel_rfl) rfl (fun w0 => ?_)
 refine aR fun Z hZ => sA rfl rfl <| sA rfl rfl <| sAN hZ rfl rfl <| f2K 0 1 rfl <| aR fun Z hZ => sM rfl rfl <| jA5 [] [] hrows rfl (HLe.refl _) rfl ?_
 rintro v H' ⟨u, rfl, hu, rfl⟩
 rw [jF1]
 obtain ⟨A, c, rfl, hA, hle⟩ := hu.ro
 refine jC3 (roE A (jA1 R)) ((HLe.sub (lS _ _)).trans (hle [] [] _ _ _)) <| sM rfl rfl <| sX rfl rfl rfl <| sX rfl rfl rfl <| sX rfl rfl rfl <| sA rfl rfl <| sA rfl rfl <| sAN hZ rfl rfl <| f4K 1 7 8 9 rfl <| aS <| aR fun Z hZ => sM rfl rfl <| jC7 ?_
 refine sN (hZ _ _ <| f5K 1 7 8 9 20 rfl <| aC0 (fun h => ?_) (fun h => ?_))
 ·cases h
 refine aK <| nN <| aS <| aR fun Z hZ => sM rfl rfl <| jE2 Tryz.underlying58 rfl rfl <| sMN hZ rfl rfl <| f5K 1 8 22 23 24 rfl <| aB ?_
 refine jB9 (ι := Nat) (fun i => [(1, uq k), (8, .string (str D)), (22, .slice A R.length c), (23, iq (R.length : Nat)), (24, iq (i : Nat))]) (fun _ => roE A (jA1 R))
  (fun i => i ≤ R.length ∧ R.find? (fun e => kA3 e k) = (R.drop i).find? (fun e => kA3 e k)) (fun i => R.length - i) 0 ⟨xD _, rfl⟩ (kR rfl) (HLe.refl _) ?_
 rintro i ⟨hi, hfd⟩
 refine aR (fun Z hZ => jB2 ?_)
 refine sN (hZ _ _ <| f6K 1 8 22 23 24 25 rfl <| aS (aC0 (fun h1 => ?_) (fun h1 => ?_)))
 ·have hlt : i < R.length := by simpa using h1
  obtain ⟨x, hx⟩ : ∃ x, R[i]? = some x := ⟨_, xC hlt⟩
  have hxo := hE x (xM hx)
  have hxi := hin x (xM hx)
  have hxl := hxo.2.2.1
  have hdr : R.drop i = x :: R.drop (i + 1) := by rw [qR hlt]; congr 1; exact (List.getElem?_eq_some_iff.1 hx).2
  rw [hdr, List.find?_cons] at hfd
  obtain ⟨g, o, rfl⟩ := hA.some (by omega)
  have hhas := yR1 x hxo k
  refine aK <| nN <| jJ7 (ι := Unit) (fun _ => [(1, uq k), (8, .string (str D)), (22, .slice (some ⟨g, o, none⟩) R.length c), (23, iq (R.length : Nat)), (24, iq (i : Nat))]) (fun _ => [.ro g o (jA1 R)]) (fun _ => kA3 x k = false) ?_ ?_
  ·refine aB <| jA6 [.ro g o (jA1 R)] (HLe.refl _) <| aR (fun Z hZ => jB3 (o + i * 4) Tryz.underlying58 tyS80 rfl rfl (by omega) (by simp) rfl ?_)
   refine jB4 0 rfl rfl (i * 4) rfl tyA80 tyS80 (jG4 hx) rfl <| sAl tyZ80 rfl (fun g1 => sS0 0 tyS80 ?_)
   refine sN (hZ _ _ <| f6K 1 8 11 22 23 24 rfl <| aS <| aR (fun Z hZ => sLA0 0 tyA80 tyS80 ?_))
   refine sM rfl rfl <| sCP0 hhas ?_
   refine jI8 rfl rfl <| sN (hZ _ _ <| f7K 1 8 11 22 23 24 31 rfl <| aC0 (fun h2 => ?_) (fun h2 => ?_))
   ·have hh : kA3 x k = false := by simpa using h2
    refine jB1 ?_
    repeat refine nTE ?_
    refine nBE <| jE4 () hh (kR rfl) (HLe.drop 1 rfl)
   have hh : kA3 x k = true := by simpa using h2
   rw [hh] at hfd
   have hqe : q = (ptx D (plE x), true) := by rw [← hq]; unfold vI8; rw [hfd]
   subst hqe
   refine aK <| nN <| aS <| aR (fun Z hZ => sFA0 jH7 ?_)
   refine sL0 0 tyA25 tyS25 ?_
   refine sFA0 jL8 ?_
   refine sL0 0 tyA78 tyS78 ?_
   refine jB7 Tryz.underlying78 Tryz.underlying25 rfl ((x.len : Nat) : Int) (by rw [l6 _ (by omega)]) rfl ?_
   refine jC2 rfl rfl ((x.off + x.len : Nat) : Int) (by rw [l6 _ (by omega)]; omega) rfl ?_
   refine sM rfl rfl <| jD6 Tryz.underlying9 rfl rfl <| jB7 Tryz.underlying3 Tryz.underlying25 rfl ((D.length : Nat) : Int) (by rw [l6 _ (by omega)]) rfl ?_
   refine jC4 ?_
   refine sN (hZ _ _ <| f3K 8 11 41 rfl <| aC0 (fun h3 => ?_) (fun h3 => ?_))
   ·simp at h3; omega
   refine aK <| nN <| aR (fun Z hZ => sFA0 jL8 ?_)
   refine sL0 0 tyA78 tyS78 ?_
   refine kH6 (n := x.len) (zs := [.int .u8 0]) (bytes := 1) (size := 1) (z := .int .u8 0) Tryz.underlying44 (by kernel_rfl) rfl rfl rfl rfl (by omega) (by show _ ≤ 9223372036854775807; omega) rfl (fun gs => ?_)
   refine sAN hZ rfl rfl <| f3K 8 11 12 rfl <| aR fun Z hZ => sM rfl rfl <| sM rfl rfl <| sFA0 jH7 ?_
   refine sL0 1 tyA25 tyS25 ?_
   refine jL9 (D.drop x.off) Tryz.underlying9 rfl rfl rfl (by omega) (by omega) (by omega) (by simp only [x9]; exact qZ (by rw [xY]; exact xB _)) rfl ?_
   refine wV3 0 Tryz.underlying44 tyS5 rfl rfl rfl (by simp) (by rw [xY]; omega) rfl rfl ?_
   refine sN (hZ _ _ <| f1K 12 rfl <| aR fun Z hZ => sM rfl rfl <| kM3 (l := (D.drop x.off).take x.len) Tryz.underlying44 Tryz.underlying5 Tryz.underlying9 rfl (fun w hw => jJ3 (i := 0) rfl (by rw [jH3, xS, xY]; omega) hw) rfl ?_)
   refine sA rfl rfl <| sA rfl rfl <| sAN hZ rfl rfl <| f3K 4 5 6 rfl <| aE ?_
   repeat (with_reducible (first | refine nTR ?_ | refine nBR ?_))
   exact jH2 rfl rfl rfl rfl rfl
  ·rintro ⟨⟩ hh
   rw [hh] at hfd
   refine aG (fun Z hZ => ?_)
   refine jC2 rfl rfl ((i + 1 : Nat) : Int) (by rw [lT _ (by omega)]; omega) rfl ?_
   refine sMN hZ rfl rfl <| nF [(1, _), (8, _), (22, _), (23, _), (24, _)] (kR rfl) <| jB8 (i + 1) ⟨hlt, hfd⟩ (by omega) (kR rfl) (HLe.refl _)
 ·refine jB1 ?_
  repeat refine nTE ?_
  refine nBE <| nN ?_
  have hke : i = R.length := by simp at h1; omega
  subst hke
  rw [zW] at hfd
  have hqe : q = ([], false) := by rw [← hq]; unfold vI8; rw [hfd]; rfl
  subst hqe
  refine aR fun Z hZ => sA rfl rfl <| sA rfl rfl <| sAN hZ rfl rfl <| f3K 4 5 6 rfl <| aE <| jH2 rfl rfl rfl rfl rfl
theorem zB9 (a b : Plc) : EqV Tryz.prog 10000 172 (Plc.val a) (Plc.val b) (decide (a = b)) := by
 have h : EqV Tryz.prog 10000 172 (Plc.val a) (Plc.val b) _ := EqV.struct Tryz.underlying172 (by kernel_rfl) (.cons rfl tyA25 tyS25 rfl rfl (EqV.int Tryz.underlying25) (.cons rfl tyA78 tyS78 rfl rfl (EqV.int Tryz.underlying78) .nil))
 have e : decide (a = b) = (((a.1 : Int) == (b.1 : Int)) && (((a.2 : Int) == (b.2 : Int)) && true)) := by
  obtain ⟨a1, a2⟩ := a
  obtain ⟨b1, b2⟩ := b
  rw [lR]
  simp
  omega
 rw [e]
 exact h
theorem wK9 : Program.eqGuardType Tryz.prog Tryz.prog.depth 172 = false := by kernel_rfl
theorem zF8 {a b : Nat} {p q : Plc} (h : (((a : Nat) : Int) != ((b : Nat) : Int)) = false) (k : ¬ (a = b ∧ q = p)) : (!decide (p = q)) = true := by
 simp at h ⊢
 exact fun e => k ⟨by omega, e.symm⟩
theorem yV4 {a b : Nat} (h : a ≤ b) : decide (((a : Nat) : Int) ≤ ((b : Nat) : Int)) = true := decide_eq_true (by omega)
theorem wK7 (ga r : Nat) {b : Bool} (h : b = true) : Fn Tryz.prog 78 [ptr ga 0, .int .u8 (r : Nat), .bool b] [] fun v _ => v = .tuple #[] := h ▸ kD4 ga r
def sumR (L : List En) : Nat := L.foldl (fun n e => n + e.run) 0
theorem vC6 {L : List En} {k : Nat} {x : En} (h : L[k]? = some x) : sumR (L.take (k + 1)) = sumR (L.take k) + x.run := by
 obtain ⟨hlt, rfl⟩ := List.getElem?_eq_some_iff.1 h
 unfold sumR
 rw [qB hlt, List.foldl_append, zA, List.foldl_nil]
theorem wD3 {L : List En} (hE : jF4 L) : ∀ k, k ≤ L.length → sumR (L.take k) ≤ k * 4294967296
 | 0, _ => by simp [sumR]
 | k + 1, hk => by
  have hx : L[k]? = some L[k] := xC (by omega)
  have ih := wD3 hE k (by omega)
  obtain ⟨p1, p2, p3, p4⟩ := hE _ (xM hx)
  rw [vC6 hx]
  omega
structure RowsIs (h : Hdr) (R : List En) (D : Tx) : Prop where
 ok : jF4 R
 may : ∀ e ∈ R, chkE e = 0 ∧ 0 < e.run
 len : R.length ≤ 100000
 dl : D.length ≤ 1000000
 inD : ∀ e ∈ R, e.off + e.len ≤ D.length
 up : ∀ i a b, R[i]? = some a → R[i + 1]? = some b → jK7 a < b.id ∧ ¬ (b.id = jK7 a + 1 ∧ plE a = plE b)
 ad : h.ad = sumR R
 en : h.en = R.length
 co : h.co = (cstM R).length
 z0 : h.z0 = if R = [] then 0 else jR9 (atE R 0).id
 z1 : h.z1 = if R = [] then 0 else jR9 (jK7 (atE R (R.length - 1)))
 once : ∀ L, L.Perm (jD8 (cstM R)) → L.Pairwise (fun a b => ¬ pLt b a) → OnceIs D L
theorem yE6 (ga gm : Nat) (s : List UInt8) (h : Hdr) (q : P4) (hs : SecIs s h q) (A : Option Addr) (c : Nat) (R : List En) (hA : SlOk A R.length) (hR : RowsIs h R q.d) :
  Fn Tryz.prog 33 [ptr ga 0, .slice A R.length c] ([BrE gm, audR ga s h gm] ++ roE A (jA1 R)) fun v H' => v = .tuple #[] ∧ H' = [BrE gm] := by
 obtain ⟨⟨r0, r1⟩, ⟨m0, m1⟩, ⟨l0, l1⟩, ⟨d0, d1⟩, hn1, hlen, ta, tb, tc, td, hlaid, hc1, hc2, hc3⟩ := hs
 obtain ⟨hok, hmay, hRl, hDl, hin, hup, had, hen, hco, hz0, hz1, honce⟩ := hR
 have f1 := kL2 ga gm s h h.d0 h.d1 (by omega) (by omega)
 rw [td] at f1
 obtain ⟨D, hD⟩ := xZ9 (q.d)
 rw [hD] at f1 hDl hin honce
 have f2 := fun r => kD4 ga r
 have hsub := wD3 hok
 refine Fn.enter (N := 161) Tryz.func33 rfl (by kernel_rfl) rfl (fun w0 => ?_)
 refine aR fun Z hZ => sM rfl rfl <| sM rfl rfl <| jA0 ?_
 refine sFA0 jJ9 ?_
 refine sFA0 kF1 ?_
 refine jB4 1 rfl rfl 7 rfl tyA66 tyS66 rfl rfl <| jD1 [audR ga s h gm] f1 rfl (by repeat (first | exact xU _ | exact lN _ | exact lP _ _ | refine List.Sublist.trans ?_ (lS _ _) | exact qC _ (lN _) | refine zF _ ?_)) (ro1 _ _ _) rfl ?_
 refine sAN hZ rfl rfl <| f3K 0 1 4 rfl <| aA rfl rfl <| f4K 0 1 4 5 rfl <| aR (fun Z hZ => kM4 rfl (fun c : Plc => Plc.val c) (fun n : Nat => iq (n : Nat)) (fun gq => sAN hZ rfl rfl <| f5K 0 1 4 5 6 rfl <| aS <| aR fun Z hZ => sM rfl rfl ?_))
 refine jE2 Tryz.underlying58 rfl rfl <| sMN hZ rfl rfl <| f8K 0 1 4 5 6 22 23 24 rfl <| aB ?_
 refine jB9 (ι := Nat) (fun i => [(0, ptr ga 0), (1, .slice A R.length c), (4, .string (str D)), (5, uq (sumR (R.take i))), (6, .map (some gq)), (22, .slice A R.length c), (23, iq (R.length : Nat)), (24, iq (i : Nat))]) (fun i => plcE gq (cstM (R.take i)) :: ([BrE gm, audR ga s h gm] ++ roE A (jA1 R)))
  (fun i => i ≤ R.length) (fun i => R.length - i) 0 (by simp) (kR rfl) (HLe.refl _) ?_
 rintro i hi
 refine aR (fun Z hZ => jB2 ?_)
 refine sN (hZ _ _ <| f9K 0 1 4 5 6 22 23 24 25 rfl <| aS (aC0 (fun h1 => ?_) (fun h1 => ?_)))
 ·have hlt : i < R.length := by simpa using h1
  have hx := jW6 hlt
  obtain ⟨x, hxe⟩ := xZ9 (atE R i)
  rw [hxe] at hx
  obtain ⟨g, o, rfl⟩ := hA.some (by omega)
  have hxo := hok x (xM hx)
  have hxm := hmay x (xM hx)
  have hxi := hin x (xM hx)
  have hsn := kO7 hx
  rw [show cst1 (cstM (R.take i)) x = seeC (cstM (R.take i)) (x.off, x.len) by unfold cst1; rw [if_pos hxm]] at hsn
  have hcl := wP4 R i (by omega) (x.off, x.len)
  have hss := vC6 hx
  have hsl := hsub (i + 1) (by omega)
  rw [hss] at hsl
  obtain ⟨M, hM⟩ := xZ9 (cstM (R.take i))
  rw [hM] at hsn hcl ⊢
  have f3 := wS1 x
  have f4 := vK9 (plE x) (by show x.off ≤ _; omega) hxo.2.2.1
  refine jA6 [plcE gq M, BrE gm, audR ga s h gm, .ro g o (jA1 R)] (HLe.refl _) <| aK <| nN <| aS (aB <| aR fun Z hZ => sM rfl rfl <| jB3 (o + i * 4) Tryz.underlying58 tyS80 rfl rfl (by omega) (by simp) rfl ?_)
  refine jB4 3 rfl rfl (i * 4) rfl tyA80 tyS80 (jG4 hx) rfl <| sAl tyZ80 rfl (fun g1 => sA rfl rfl <| sS0 0 tyS80 ?_)
  refine sN (hZ _ _ <| f10K 0 1 4 5 6 7 8 22 23 24 rfl <| jJ7 (ι := Unit) (fun _ => [(0, ptr ga 0), (1, .slice (some ⟨g, o, none⟩) R.length c), (4, .string (str D)), (5, uq (sumR (R.take i))), (6, .map (some gq)), (8, ptr g1 0), (22, .slice (some ⟨g, o, none⟩) R.length c), (23, iq (R.length : Nat)), (24, iq (i : Nat))]) (fun _ => [.own g1 80 x.cells, plcE gq M, BrE gm, audR ga s h gm, .ro g o (jA1 R)]) (fun _ => True) ?_ ?_)
  ·refine aR (fun Z hZ => sM rfl rfl <| jC4 ?_)
   refine sN (hZ _ _ <| f11K 0 1 4 5 6 7 8 22 23 24 30 rfl <| aC0 (fun h2 => ?_) (fun h2 => ?_))
   ·have hi0 : 0 < i := by simpa using h2
    obtain ⟨j, rfl⟩ : ∃ j, i = j + 1 := ⟨i - 1, by omega⟩
    obtain ⟨y, hy⟩ : ∃ y, R[j]? = some y := ⟨_, xC (by omega)⟩
    have hyo := hok y (xM hy)
    obtain ⟨hu1, hu2⟩ := hup j y x hy hx
    have f5 := kE2 y hyo
    have f6 := wS1 y
    have hll := kY6 hyo
    refine aR fun Z hZ => sM rfl rfl <| sM rfl rfl <| jN3 rfl rfl ((j : Nat) : Int) (by rw [lT _ (by omega)]; omega) rfl ?_
    refine jB3 (o + j * 4) Tryz.underlying58 tyS80 rfl rfl (by omega) (by simp) rfl ?_
    refine jB4 4 rfl rfl (j * 4) rfl tyA80 tyS80 (jG4 hy) rfl <| sCP0 f5 ?_
    refine sAN hZ rfl rfl <| f11K 0 1 4 5 6 7 8 9 22 23 24 rfl <| aR fun Z hZ => sM rfl rfl <| sFA0 jK0 ?_
    refine sL0 0 tyA25 tyS25 ?_
    refine sM rfl rfl <| jC4 ?_
    refine sCP (by simpa [hu1] using f2 10) rfl rfl ?_
    refine sN (hZ _ _ <| f11K 0 1 4 5 6 7 8 9 22 23 24 rfl <| jO1 ([(0, ptr ga 0), (1, .slice (some ⟨g, o, none⟩) R.length c), (4, .string (str D)), (5, uq (sumR (R.take (j + 1)))), (6, .map (some gq)), (8, ptr g1 0), (22, .slice (some ⟨g, o, none⟩) R.length c), (23, iq (R.length : Nat)), (24, iq ((j + 1 : Nat) : Int))]) ([.own g1 80 x.cells, plcE gq M, BrE gm, audR ga s h gm, .ro g o (jA1 R)]) ?_ ?_)
    ·refine kH0 mixed (by kernel_rfl) (fun Z hZ => ?_)
     refine qM rfl rfl <| qFA0 jK0 ?_
     refine jB6 0 tyA25 tyS25 ?_
     refine qM rfl rfl <| vQ0 rfl rfl ((jK7 y + 1 : Nat) : Int) (by rw [l6 _ (by omega)]; omega) rfl ?_
     refine vP8 rfl rfl rfl <| qM rfl rfl <| jL6 49 rfl (fun hb6 => ?_) (fun hb6 => ?_)
     ·refine qO0 ?_
      refine qO0 ?_
      refine qO0 ?_
      refine qO0 ?_
      refine qO0 ?_
      refine qO0 ?_
      refine qO0 ?_
      refine qO0 ?_
      refine qO0 ?_
      refine jE3 rfl rfl rfl <| jH4 (wK7 ga 12 (by first | rfl | exact zF8 hb6 hu2)) rfl rfl ?_
      refine jF0 (hZ _ _ (jE4 () trivial ?_ ?_))
      ·exact kR rfl
      ·exact HLe.refl _
     ·refine jA4 ?_
      refine jP6 0 rfl rfl tyA80 tyS80 rfl (by simp only [qS]; rfl) rfl ?_
      refine jA4 ?_
      refine jH4 f3 rfl rfl <| jA4 ?_
      refine qM rfl rfl <| jA4 ?_
      refine qM rfl rfl <| jA4 ?_
      refine vC9 rfl rfl ((j : Nat) : Int) (by rw [lT _ (by omega)]; omega) rfl ?_
      refine jA4 ?_
      refine jG2 (o + j * 4) Tryz.underlying58 tyS80 rfl rfl (by omega) (by simp) rfl ?_
      refine jA4 ?_
      refine jG7 4 rfl rfl (j * 4) rfl tyA80 tyS80 (jG4 hy) rfl <| jA4 ?_
      refine jH4 f6 rfl rfl <| jA4 ?_
      refine vJ6 (zB9 (plE x) (plE y)) wK9 rfl rfl rfl <| jE3 rfl rfl rfl <| jH4 (wK7 ga 12 (by first | rfl | exact zF8 hb6 hu2)) rfl rfl ?_
      refine jF0 (hZ _ _ (jE4 () trivial ?_ ?_))
      ·exact kR rfl
      ·exact HLe.refl _
    exact jE4 () trivial (kR rfl) (HLe.refl _)
   ·refine aK <| jE4 () trivial (kR rfl) (HLe.refl _)
  rintro ⟨⟩ -
  refine aR fun Z hZ => sM rfl rfl <| sLA0 0 tyA80 tyS80 ?_
  refine sCP0 f3 ?_
  refine sCP0 f4 ?_
  refine sM rfl rfl <| jD6 Tryz.underlying9 rfl rfl <| jB7 Tryz.underlying3 Tryz.underlying25 rfl ((D.length : Nat) : Int) (by rw [l6 _ (by omega)]) rfl ?_
  refine jN4 rfl rfl rfl <| sCP0 (wK7 ga 11 (yV4 hxi)) ?_
  refine sN (hZ _ _ <| f9K 0 1 4 5 6 8 22 23 24 rfl ?_)
  have hget : ((aget M (x.off, x.len)).map fun n : Nat => iq (n : Nat)).getD (iq (0 : Nat)) = iq ((aget M (x.off, x.len)).getD 0 : Nat) := by cases aget M (x.off, x.len) <;> rfl
  unfold seeC at hsn
  obtain ⟨n, hn⟩ := xZ9 ((aget M (x.off, x.len)).getD 0)
  rw [hn] at hget hcl hsn
  refine jR8 (fun _ : Unit => [(0, ptr ga 0), (1, .slice (some ⟨g, o, none⟩) R.length c), (4, .string (str D)), (5, uq (sumR (R.take i))), (6, .map (some gq)), (8, ptr g1 0), (22, .slice (some ⟨g, o, none⟩) R.length c), (23, iq (R.length : Nat)), (24, iq (i : Nat))]) (fun _ => [.own g1 80 x.cells, plcE gq (aput M (x.off, x.len) (n + 1)), BrE gm, audR ga s h gm, .ro g o (jA1 R)]) (fun _ => True) _ [2, 3, 5, 7] (Tr.step (0, true) (Tr.step (1, true) (Tr.step (2, false) (Tr.fork (Tr.step (3, false) (Tr.step (4, true) (Tr.step (5, false) (Tr.step (6, true) (Tr.step (7, false) Tr.nil))))) (Tr.step (5, false) (Tr.step (6, true) (Tr.step (3, false) (Tr.step (4, true) (Tr.step (7, false) Tr.nil))))))))) mixed (by kernel_rfl) (HLe.pick [0] (by simp) (by simp only [pick, l7, qS]; rfl)) ?_ ?_
  ·refine tt_p rfl <| jA8 ?_
   refine vN <| tt_p rfl ?_
   first | refine jM3 0 rfl rfl tyA80 tyS80 rfl (by simp only [qS]; rfl) rfl ?_
   refine vN <| tt_g rfl <| sCP0 f3 ?_
   refine sN ⟨HLe.pick [0] (by simp) rfl, ?_⟩
   refine kV4 ?_ ?_
   ·refine tt_g rfl <| kQ3 1 keyP Tryz.underlying170 kP1 (x.off, x.len) (iq (n : Nat)) rfl rfl rfl hget rfl <| sN ⟨HLe.pick [0] (by simp) rfl, ?_⟩
    refine tt_p rfl <| kH8 rfl rfl ((n + 1 : Nat) : Int) (by rw [lT _ (by omega)]; omega) rfl ?_
    refine vN <| tt_g rfl <| jS8 1 keyP Tryz.underlying170 kP1 (zv := 0) rfl (x.off, x.len) rfl rfl rfl rfl (fun M1 u1 M2 st hk1 hu1 hap => sN ⟨HLe.pick [0] (by simp) rfl, ?_⟩)
    refine tt_p rfl <| jF7 rfl rfl rfl <| vN <| tt_g rfl <| jP4 (v := n + 1) 1 rfl rfl rfl rfl rfl <| sN ⟨HLe.pick [0] (by simp) rfl, ?_⟩
    refine kH4 ?_
    rw [hap]
    exact ⟨(), trivial, kR rfl, HLe.refl _⟩
   ·refine tt_g rfl <| jS8 1 keyP Tryz.underlying170 kP1 (zv := 0) rfl (x.off, x.len) rfl rfl rfl rfl (fun M1 u1 M2 st hk1 hu1 hap => sN ⟨HLe.pick [0] (by simp) rfl, ?_⟩)
    refine tt_p rfl <| jF7 rfl rfl rfl <| vN <| tt_g rfl <| kQ4 1 keyP Tryz.underlying170 kP1 (x.off, x.len) (iq (n : Nat)) rfl rfl rfl hk1 (hu1.trans hget) rfl <| sN ⟨HLe.pick [0] (by simp) rfl, ?_⟩
    refine tt_p rfl <| kH8 rfl rfl ((n + 1 : Nat) : Int) (by rw [lT _ (by omega)]; omega) rfl ?_
    refine vN <| tt_g rfl <| jP4 (v := n + 1) 1 rfl rfl rfl rfl rfl <| sN ⟨HLe.pick [0] (by simp) rfl, ?_⟩
    refine kH4 ?_
    rw [hap]
    exact ⟨(), trivial, kR rfl, HLe.refl _⟩
  rintro ⟨⟩ -
  refine aG (fun Z hZ => sM rfl rfl <| sFA0 jN0 ?_)
  refine sL0 0 tyA78 tyS78 ?_
  refine jB7 Tryz.underlying78 Tryz.underlying25 rfl ((x.run : Nat) : Int) (by rw [l6 _ (by omega)]) rfl ?_
  refine jC2 rfl rfl ((sumR (R.take i) + x.run : Nat) : Int) (by rw [l6 _ (by omega)]; omega) rfl ?_
  refine sAN hZ rfl rfl ?_
  refine nF [(0, _), (1, _), (4, _), (5, _), (6, _), (22, _), (23, _), (24, _)] (kR rfl) ?_
  refine aG (fun Z hZ => ?_)
  refine jC2 rfl rfl ((i + 1 : Nat) : Int) (by rw [lT _ (by omega)]; omega) rfl ?_
  refine sMN hZ rfl rfl <| nF [(0, _), (1, _), (4, _), (5, _), (6, _), (22, _), (23, _), (24, _)] (kR rfl) <| jB8 (i + 1) hlt (by omega) (Kn.cons rfl (Kn.cons rfl (Kn.cons rfl (Kn.cons (by rw [hss]; rfl) (kR rfl))))) (by rw [hsn]; exact HLe.drop 1 rfl)
 ·refine jB1 ?_
  repeat refine nTE ?_
  refine nBE <| nN ?_
  have hke : i = R.length := by simp at h1; omega
  subst hke
  rw [x6, ← had]
  refine yE1 fun es clock hE => ?_
  have hcM : (cstM R).length ≤ 100000 := zM (vN5 R) hRl
  obtain ⟨M, hM⟩ := xZ9 (cstM R)
  rw [hM] at hE hco honce hcM
  refine aR fun Z hZ => sM rfl rfl <| jA5 [] (mapX gq es clock :: ([BrE gm, audR ga s h gm] ++ roE A (jA1 R))) (wY2 gq) rfl (HLe.refl _) rfl ?_
  rintro v H' ⟨gb, rfl, rfl⟩
  refine jC3 ([mapX gq es clock, .ro gb 0 [.map (some gq)]] ++ ([BrE gm, audR ga s h gm] ++ roE A (jA1 R))) ((HLe.toRo [_] _).trans (HLe.comm3 [_] [_] _)) <| jA5 [mapX gq es clock, .ro gb 0 [.map (some gq)]] ([BrE gm, audR ga s h gm] ++ roE A (jA1 R)) (vX0 gb gq es clock M hE hcM) rfl (HLe.refl _) rfl ?_
  rintro v H' ⟨L, hp, hsr, hv, rfl⟩
  rw [zB, jF1]
  obtain ⟨A2, c2, rfl, hA2, hle⟩ := hv.ro
  refine jC3 ([BrE gm, audR ga s h gm] ++ (roE A2 (plcs L) ++ roE A (jA1 R))) ((hle [BrE gm, audR ga s h gm] (roE A (jA1 R)) _ _ _).trans ((HLe.comm3 _ [_, _] _).trans (HLe.sub (List.Sublist.append_right (lS _ _) _)))) <| sAN hZ rfl rfl <| f5K 0 1 4 5 10 rfl ?_
  have hLl : L.length = M.length := by rw [hp.length_eq]; simp [jD8]
  have f7 := yQ5 ga A2 c2 D L hA2.arg (by omega) hDl (honce L hp hsr)
  have hroL := Ro.roE A2 (plcs L)
  refine jJ7 (ι := Unit) (fun _ => [(0, ptr ga 0), (1, .slice A R.length c), (5, uq h.ad), (10, .slice A2 L.length c2)]) (fun _ => [BrE gm, audR ga s h gm] ++ roE A (jA1 R)) (fun _ => True) ?_ ?_
  ·refine aR (fun Z hZ => sM rfl rfl <| jA0 ?_)
   refine sFA0 kL7 ?_
   refine jB4 1 rfl rfl 25 rfl tyA83 tyS83 rfl rfl <| kC1 0 keyB Tryz.underlying83 wA3 11 (iq 0) rfl rfl rfl rfl rfl <| jB0 ?_
   refine sN (hZ _ _ <| f6K 0 1 4 5 10 91 rfl <| aC0 (fun h3 => ?_) (fun h3 => ?_))
   ·refine aG (fun Z hZ => sM rfl rfl <| sM rfl rfl <| sM rfl rfl <| jD1 (roE A2 (plcs L)) f7 rfl ((lS _ _).trans (lP _ _)) hroL rfl <| sN (hZ _ _ <| nF [(0, _), (1, _), (5, _), (10, _)] (kR rfl) <| jE4 () trivial (kR rfl) (HLe.mid [_, _] _ _)))
   ·cases h3
  rintro ⟨⟩ -
  refine jA3 [(0, ptr ga 0), (1, .slice A R.length c)] ([BrE gm, audR ga s h gm] ++ roE A (jA1 R)) (fun Z hZ => ?_) ?_
  ·refine sM rfl rfl <| sM rfl rfl <| jA0 ?_
   refine sFA0 jJ9 ?_
   refine sFA0 vI5 ?_
   refine jB4 1 rfl rfl 9 rfl tyA25 tyS25 rfl rfl <| sM rfl rfl <| jB0 ?_
   refine sM rfl rfl <| jE5 104 rfl true (by first | rfl | (simp []; done)) ?_
   refine sOn0 ?_
   refine sM rfl rfl <| sOn0 ?_
   refine jA0 ?_
   refine sOn0 ?_
   refine sFA0 jJ9 ?_
   refine sOn0 ?_
   refine sFA0 vI4 ?_
   refine sOn0 ?_
   refine jB4 1 rfl rfl 10 rfl tyA25 tyS25 rfl rfl <| sOn0 ?_
   refine sM rfl rfl <| sOn0 ?_
   refine jE2 Tryz.underlying58 rfl rfl <| sOn0 ?_
   refine jB7 Tryz.underlying3 Tryz.underlying25 rfl ((R.length : Nat) : Int) (by rw [l6 _ (by omega)]) rfl ?_
   refine sOn0 ?_
   refine jB0 ?_
   refine sP rfl rfl rfl <| sM rfl rfl <| jE5 115 rfl true (by first | rfl | (simp [hen]; done)) ?_
   refine sOn0 ?_
   refine sM rfl rfl <| sOn0 ?_
   refine jA0 ?_
   refine sOn0 ?_
   refine sFA0 jJ9 ?_
   refine sOn0 ?_
   refine sFA0 vI3 ?_
   refine sOn0 ?_
   refine jB4 1 rfl rfl 11 rfl tyA25 tyS25 rfl rfl <| sOn0 ?_
   refine sM rfl rfl <| sOn0 ?_
   refine jE2 Tryz.underlying174 rfl rfl <| sOn0 ?_
   refine jB7 Tryz.underlying3 Tryz.underlying25 rfl ((L.length : Nat) : Int) (by rw [l6 _ (by omega)]) rfl ?_
   refine sOn0 ?_
   refine jB0 ?_
   refine sP rfl rfl rfl ?_
   refine sCP (by simpa [hen, hco, hLl] using f2 14) rfl rfl ?_
   refine sN (hZ _ _ ?_ ?_)
   ·exact kR rfl
   ·exact HLe.refl _
  refine aR fun Z hZ => sA rfl rfl <| sAN hZ rfl rfl <| f4K 0 1 11 12 rfl <| jJ7 (ι := Unit) (fun _ => [(0, ptr ga 0), (11, iq h.z0), (12, iq h.z1)]) (fun _ => [BrE gm, audR ga s h gm]) (fun _ => True) ?_ ?_
  ·refine aR (fun Z hZ => sM rfl rfl <| jE2 Tryz.underlying58 rfl rfl <| sAN hZ rfl rfl <| f5K 0 1 11 12 13 rfl <| aR fun Z hZ => sM rfl rfl <| jC4 ?_)
   refine sN (hZ _ _ <| f6K 0 1 11 12 13 130 rfl <| aC0 (fun h4 => ?_) (fun h4 => ?_))
   ·have hpos : 0 < R.length := by simpa using h4
    have hne : R ≠ [] := fun e => by rw [e] at hpos; cases hpos
    obtain ⟨g, o, rfl⟩ := hA.some hpos
    obtain ⟨m, hm⟩ : ∃ m, R.length = m + 1 := ⟨R.length - 1, by omega⟩
    have hx0 := jW6 hpos
    have hx1 := jW6 (L := R) (i := m) (by omega)
    rw [if_neg hne] at hz0
    rw [if_neg hne, show R.length - 1 = m by omega] at hz1
    obtain ⟨x, hx⟩ := xZ9 (atE R 0)
    obtain ⟨y, hy⟩ := xZ9 (atE R m)
    rw [hx] at hx0 hz0
    rw [hy] at hx1 hz1
    have hxo := hok x (xM hx0)
    have hyo := hok y (xM hx1)
    have hll := kY6 hyo
    have f8 := kT1 x.id hxo.1
    have f9 := kE2 y hyo
    have f10 := kT1 (jK7 y) (by omega)
    rw [← hz0] at f8
    rw [← hz1] at f10
    rw [hm]
    refine jA6 [BrE gm, audR ga s h gm, .ro g o (jA1 R)] (HLe.refl _) ?_
    have hrd := wG0 (k := 0) hx0
    refine kH0 mixed (by kernel_rfl) (fun Z hZ => ?_)
    refine qM rfl rfl <| jG2 (o + 0) Tryz.underlying58 tyS80 rfl rfl (by omega) (by simp) rfl ?_
    refine qFA0 jK0 ?_
    refine jG7 2 rfl rfl 0 rfl tyA25 tyS25 (by simpa using hrd) rfl ?_
    refine jH4 f8 rfl rfl <| qM rfl rfl <| qM rfl rfl <| vC9 rfl rfl ((m : Nat) : Int) (by rw [lT _ (by omega)]; omega) rfl ?_
    refine jG2 (o + m * 4) Tryz.underlying58 tyS80 rfl rfl (by omega) (by simp) rfl ?_
    refine jG7 2 rfl rfl (m * 4) rfl tyA80 tyS80 (jG4 hx1) rfl <| jH4 f9 rfl rfl <| jH4 f10 rfl rfl <| jC8 rfl rfl <| jC8 rfl rfl <| jF0 (hZ _ _ <| nF [(0, _), (11, _), (12, _)] (kR rfl) <| jE4 () trivial (kR rfl) (HLe.sub (lS [_, _] _)))
   ·have hR0 : R = [] := by simpa using h4
    rw [if_pos hR0] at hz0 hz1
    refine aK <| jE4 () trivial (Kn.cons rfl (Kn.cons (by rw [hz0]; rfl) (Kn.cons (by rw [hz1]; rfl) Kn.nil))) (HLe.sub (lS _ _))
  rintro ⟨⟩ -
  refine jO1 ([]) ([BrE gm]) ?_ ?_
  ·refine aG (fun Z hZ => sM rfl rfl <| sM rfl rfl <| jA0 ?_)
   refine sFA0 jJ9 ?_
   refine sFA0 jS6 ?_
   refine jB4 1 rfl rfl 16 rfl tyA3 tyS3 rfl rfl <| sM rfl rfl <| jB0 ?_
   refine sM rfl rfl <| jE5 151 rfl true (by first | rfl | (simp; done)) ?_
   refine sOn0 ?_
   refine sM rfl rfl <| sOn0 ?_
   refine jA0 ?_
   refine sOn0 ?_
   refine sFA0 jJ9 ?_
   refine sOn0 ?_
   refine sFA0 jW8 ?_
   refine sOn0 ?_
   refine jB4 1 rfl rfl 17 rfl tyA3 tyS3 rfl rfl <| sOn0 ?_
   refine sM rfl rfl <| sOn0 ?_
   refine jB0 ?_
   refine sP rfl rfl rfl ?_
   refine sCP (by simpa using f2 15) rfl rfl ?_
   refine sN (hZ _ _ (jE4 () trivial ?_ ?_))
   ·exact Kn.nil
   ·exact HLe.sub (.cons_cons _ (lN _))
  exact jH5 [BrE gm] rfl (HLe.refl _) ⟨rfl, rfl⟩
theorem HLe.exBr {w0 : World} {Wr : List Nat} {b : Nat} {T : Heap} {w : World} (hw : Sat w0 Wr (BrE b :: T) w) : ∃ clock, Sat w0 Wr (mapX b #[] clock :: T) w := by
 obtain ⟨⟨o, h1, es, clock, rfl, h2, _⟩, h3⟩ := hw.ents _ lO
 have he : es = #[] := by
  have := congrArg List.length h2
  simpa using this
 subst he
 refine ⟨clock, hw.only, fun x hx => ?_, ?_⟩
 ·rcases List.mem_cons.1 hx with rfl | hx
  ·exact ⟨⟨_, h1, rfl⟩, h3⟩
  ·exact hw.ents x (lW _ hx)
 ·have hp := List.pairwise_cons.1 hw.sep
  exact zN (fun x hx => hp.1 x hx) hp.2
theorem yE2 {P : Program} {N : Frm} {w0 : World} {Wr : List Nat} {fr : Fr} {b : Nat} {T : Heap} {c : Code} {Q : Exit → Act → World → Prop} (h : ∀ clock, awp P N w0 Wr c fr (mapX b #[] clock :: T) Q) : awp P N w0 Wr c fr (BrE b :: T) Q :=
 fun a w ha hw => by
  obtain ⟨clock, h2⟩ := HLe.exBr hw
  exact h clock a w ha h2
theorem brP (gm : Nat) (e : Ent) (A T : Heap) : HLe (BrE gm :: e :: A) (BrE gm :: (A ++ (e :: T))) :=
 HLe.trans (b := BrE gm :: (A ++ [e])) (fun _ _ _ hw => hw.perm (z8 _ (qX (l₁ := A) (l₂ := [e])))) (HLe.sub (.cons_cons _ (zS (.cons_cons _ (lN _)) _)))
structure AudIs (s : List UInt8) (b : Nat) : Prop where
 ex : ∃ h q M R, (decE s = 0 ∧ decV s = h) ∧ SecIs s h q ∧ h.r1 ≤ b ∧ ((ntQ q.b).1 = 1 ∧ (ntQ q.b).2.2 = 0) ∧ ((decQ q.a).1 = M ∧ (decQ q.a).2.2 = 0) ∧ jQ5 M q.c = (R, 0) ∧ RowsIs h R q.d
theorem yE3 (s : List UInt8) (b : Nat) (hbb : b ≤ 100000) (er es : Value) (he1 : ErOk er) (he2 : ErOk es) (hA : AudIs s b) :
  Fn Tryz.prog 12 [.string (str s), iq (b : Nat)] (TJ er es) fun v _ => v = .slice none 0 0 := by
 obtain ⟨h, q, M, R, ⟨hd1, hd2⟩, hs, hb, hn, hr, hj, hR⟩ := hA.ex
 have hlen := hs.len
 have f1 := kS0 s (by omega)
 rw [hd1, hd2] at f1
 have hroT := kA9 er es
 refine Fn.enter (N := 44) Tryz.func12 rfl (by kernel_rfl) rfl (fun w0 => ?_)
 refine jA6 (TJ er es) (HLe.refl _) <| aA rfl rfl <| f2K 0 1 rfl <| aR fun Z hZ => sM rfl rfl <| jX2 rfl (fun k : Nat => .int .u8 (k : Nat)) (fun n : Nat => iq (n : Nat)) (fun gm => kW0 (cs := .string (str s) :: (zeroH.cells ++ [.map (some gm)])) tyZ85 tyP85 rfl (by kernel_rfl) rfl rfl ?_)
 refine jB5 (fun g1 => ?_)
 refine sAN hZ rfl rfl <| f3K 0 1 5 rfl <| aR fun Z hZ => sM rfl rfl <| sCP0 f1 ?_
 refine sM rfl rfl <| sX rfl rfl rfl <| sX rfl rfl rfl <| sAl tyZ68 rfl (fun g2 => sS0 0 tyS68 ?_)
 refine sAN hZ rfl rfl <| f4K 1 5 6 7 rfl <| aS <| aR fun Z hZ => sM rfl rfl <| sLA0 0 tyA68 tyS68 ?_
 refine jA0 ?_
 refine sFA0 jJ9 ?_
 refine sS0 1 tyS68 ?_
 refine sN (hZ _ _ <| f3K 1 5 7 rfl <| aR fun Z hZ => sM rfl rfl <| jC7 ?_)
 refine sN (hZ _ _ <| f3K 1 5 24 rfl <| aC0 (fun h4 => ?_) (fun h4 => ?_))
 ·cases h4
 refine aK <| jA6 (BrE gm :: (audR g1 s h gm :: TJ er es)) ((HLe.toRo [_] _).trans ((HLe.comm3 [_] [_] _).trans (HLe.drop 1 rfl))) ?_
 have f2 := yX5 g1 gm s h q b hs hb hbb er es he1 he2 hn
 have f3 := vO2 g1 gm s h q hs M R hr hj
 have hroA : Ro (audR g1 s h gm :: TJ er es) := (kA9 er es).consRo _ _ _
 refine aR fun Z hZ => sM rfl rfl <| sM rfl rfl <| jD1 (audR g1 s h gm :: TJ er es) f2 rfl (x4 _ _) hroA rfl <| sN (hZ _ _ <| f1K 5 rfl <| jJ7 (ι := Unit) (fun _ => [(5, ptr g1 0)]) (fun _ => [BrE gm, audR g1 s h gm]) (fun _ => True) ?_ ?_)
 ·refine aR (fun Z hZ => sM rfl rfl <| jK1 [BrE gm] [audR g1 s h gm] (audR g1 s h gm :: TJ er es) f3 rfl (HLe.refl _) (.cons_cons _ (lN _)) (ro1 _ _ _) rfl ?_)
  rintro v H' ⟨u, rfl, hu, rfl⟩
  rw [show (BrE gm :: rowE u 80 4 (jA1 R)).filter Ent.wr = BrE gm :: rowE u 80 4 (jA1 R) from congrArg _ (jF1 _ _ _ _)]
  obtain ⟨A, c, rfl, hA2, hle⟩ := hu.ro
  refine jC3 (BrE gm :: audR g1 s h gm :: roE A (jA1 R)) ((brP gm (audR g1 s h gm) (roE A (jA1 R)) (TJ er es)).trans (hle [BrE gm] (audR g1 s h gm :: TJ er es) _ _ _)) <| sM rfl rfl <| sX rfl rfl rfl <| sX rfl rfl rfl <| sA rfl rfl <| sAN hZ rfl rfl <| f3K 5 8 9 rfl ?_
  have f4 := yE6 g1 gm s h q hs A c R hA2 hR
  refine aR fun Z hZ => sMN hZ rfl rfl <| f3K 5 8 34 rfl <| aC0 (fun h8 => ?_) (fun h8 => ?_)
  ·refine aG (fun Z hZ => sM rfl rfl <| sM rfl rfl <| jK1 [BrE gm] (audR g1 s h gm :: roE A (jA1 R)) (audR g1 s h gm :: roE A (jA1 R)) f4 rfl (HLe.refl _) (xU _) ((Ro.roE A (jA1 R)).consRo _ _ _) rfl ?_)
   rintro v H' ⟨rfl, rfl⟩
   refine sN (hZ _ _ <| nF [(5, _)] (Kn.cons rfl (Kn.nil)) <| jE4 () trivial (Kn.cons rfl Kn.nil) (HLe.sub (.cons_cons _ (.cons_cons _ (lN _)))))
  ·cases h8
 rintro ⟨⟩ -
 refine yE2 fun clock => aR fun Z hZ => sM rfl rfl <| jA0 ?_
 refine sFA0 kL7 ?_
 refine jB4 1 rfl rfl 25 rfl tyA83 tyS83 rfl rfl <| jA5 [] [mapX gm #[] clock] (yD8 gm) rfl (HLe.sub (.cons_cons _ (lN _))) rfl ?_
 rintro v H' ⟨gb, rfl, rfl⟩
 refine jC3 ([mapX gm #[] clock, .ro gb 0 [.map (some gm)]]) ((HLe.toRo [_] _).trans (HLe.comm3 [_] [_] _)) <| jA5 [mapX gm #[] clock, .ro gb 0 [.map (some gm)]] [] (vZ0 gb gm clock) rfl (HLe.refl _) rfl ?_
 rintro v H' rfl
 refine sAN hZ rfl rfl <| f1K 4 rfl <| aE <| jC1 [] rfl rfl (HLe.sub (lN _)) rfl
theorem wR9 {ts : List Tx} (hn : ts.Nodup) {i : Nat} {t : Tx} (h : ts[i]? = some t) : addC ts t = ((ts.take i).flatten.length, t.length) := by
 unfold addC
 rw [vF6 ts 0 i t hn h]
 simp
def kA0 (ts : List Tx) : List Plc := ts.map (addC ts)
theorem vK6 {ts : List Tx} (hn : ts.Nodup) {i : Nat} {p : Plc} (h : (kA0 ts)[i]? = some p) : ∃ t, ts[i]? = some t ∧ p = ((ts.take i).flatten.length, t.length) := by
 unfold kA0 at h
 rw [xR] at h
 cases ht : ts[i]? with
 | none => rw [ht] at h; cases h
 | some t =>
  rw [ht] at h
  injection h with h
  exact ⟨t, rfl, by rw [← h, wR9 hn ht]⟩
theorem vI9 {ts : List Tx} {i : Nat} {t : Tx} (h : ts[i]? = some t) : (ts.take (i + 1)).flatten.length = (ts.take i).flatten.length + t.length := by
 obtain ⟨hlt, rfl⟩ := List.getElem?_eq_some_iff.1 h
 rw [qB hlt, List.flatten_append, lX]
 simp
theorem wB7 {ts : List Tx} {i j : Nat} (h : i ≤ j) : (ts.take i).flatten.length ≤ (ts.take j).flatten.length := by
 have h1 := List.take_append_drop i (ts.take j)
 rw [List.take_take, uP h] at h1
 have h2 := congrArg (fun l : List Tx => l.flatten.length) h1
 simp only [List.flatten_append, lX] at h2
 omega
theorem vR1 {ts : List Tx} (hn : ts.Nodup) : ∀ i, i ≤ ts.length → posP (kA0 ts) i = (ts.take i).flatten.length
 | 0, _ => by simp [posP]
 | k + 1, h => by
  have hx : ts[k]? = some ts[k] := xC (by omega)
  have hp : (kA0 ts)[k]? = some (addC ts ts[k]) := by unfold kA0; rw [xR, hx]; rfl
  rw [posP, hp, vI9 hx, wR9 hn hx]
theorem wX8 (ts : List Tx) : (kA0 ts).length = ts.length := by simp [kA0]
theorem wH4 {ts : List Tx} (h : TsOk ts) (hD : ts.flatten.length ≤ 1000000) : OnceIs ts.flatten (kA0 ts) := by
 refine ⟨fun i p hp => ?_, ?_, ?_⟩
 ·obtain ⟨t, ht, rfl⟩ := vK6 h.nd hp
  have hi := (List.getElem?_eq_some_iff.1 ht).1
  have h1 := vI9 ht
  have h2 := wB7 (ts := ts) (i := i + 1) (j := ts.length) (by omega)
  rw [x6] at h2
  refine ⟨(vR1 h.nd i (by omega)).symm, ?_, ?_⟩
  ·show (ts.take i).flatten.length + t.length ≤ _
   omega
  ·show t.length < _
   omega
 ·rw [wX8, vR1 h.nd _ (xB _), x6]
 ·have : (kA0 ts).map (ptx ts.flatten) = ts := by
   unfold kA0
   rw [uJ]
   refine (List.map_congr_left fun t ht => ?_).trans (List.map_id ts)
   exact (kE8 h.nd ht).1
  rw [this]
  exact h.nd
theorem yP4 {ts : List Tx} (h : TsOk ts) : (kA0 ts).Pairwise (fun a b => ¬ pLt b a) := by
 rw [zO]
 intro i j hi hj hij
 obtain ⟨t, ht, e1⟩ := vK6 h.nd (xC hi)
 obtain ⟨u, hu, e2⟩ := vK6 h.nd (xC hj)
 rw [e1, e2]
 have h1 := vI9 ht
 have h2 := wB7 (ts := ts) (i := i + 1) (j := j) (by omega)
 have h3 := List.length_pos_iff.2 (h.ne t (xM ht))
 unfold pLt
 simp only
 omega
theorem yP5 {ts : List Tx} (h : TsOk ts) : (kA0 ts).Nodup := by
 unfold kA0
 refine List.pairwise_map.2 (h.nd.imp_of_mem fun {a b} ha hb hne e => hne ?_)
 rw [← (kE8 h.nd ha).1, ← (kE8 h.nd hb).1, e]
theorem yK4 {C : List It} {R : List En} {D : List UInt8} (h : WhOk C R D) : (jD8 (cstM R)).Perm (kA0 (tsS C)) := by
 obtain ⟨h1, h2⟩ := kK8 R [] uB
 refine (List.perm_ext_iff_of_nodup h1 (yP5 h.ts)).2 fun k => ?_
 rw [h2]
 constructor
 ·rintro (h3 | ⟨e, he, _, h3⟩)
  ·simp [jD8] at h3
  ·obtain ⟨x, hx, h4, h5, _⟩ := h.ent he
   refine List.mem_map.2 ⟨x.tx, (h.tm _).2 ⟨x, hx, rfl⟩, ?_⟩
   rw [← h3, ← h4, ← h5]
 ·intro hk
  obtain ⟨t, ht, h3⟩ := List.mem_map.1 hk
  obtain ⟨x, hx, rfl⟩ := (h.tm t).1 ht
  obtain ⟨e, he, _, _, _, h4, h5⟩ := h.it hx
  have := h.gr.ok e he
  exact .inr ⟨e, he, ⟨this.2.1, this.1⟩, by rw [← h3, ← h4, ← h5]⟩
theorem wY6 {a b : Plc} (h1 : ¬ pLt b a) (h2 : ¬ pLt a b) : a = b := by
 obtain ⟨a1, a2⟩ := a
 obtain ⟨b1, b2⟩ := b
 unfold pLt at h1 h2
 simp only at h1 h2
 have h3 : a1 = b1 := by omega
 have h4 : a2 = b2 := by omega
 rw [h3, h4]
theorem yK5 {C : List It} {R : List En} {D : List UInt8} (h : WhOk C R D) (hD : D.length ≤ 1000000) (L : List Plc) (hp : L.Perm (jD8 (cstM R))) (hs : L.Pairwise (fun a b => ¬ pLt b a)) : OnceIs D L := by
 have e : L = kA0 (tsS C) := List.Perm.eq_of_pairwise (le := fun a b => ¬ pLt b a) (fun a b _ _ h1 h2 => wY6 h1 h2) hs (yP4 h.ts) (hp.trans (yK4 h))
 rw [e, ← h.fl]
 exact wH4 h.ts (by rw [h.fl]; exact hD)
theorem wD4 : ∀ (R : List En) (n : Nat), R.foldl (fun n e => n + e.run) n = n + (R.flatMap expE).length
 | [], n => by simp
 | e :: r, n => by
  rw [zA, wD4 r, xX, lX, kD9]
  omega
theorem yC3 {e : En} {r : List En} (h : 0 < e.run) : (((e :: r).flatMap expE)[0]?).map En.id = some e.id := by
 obtain ⟨k, hk⟩ : ∃ k, e.run = k + 1 := ⟨e.run - 1, by omega⟩
 rw [xX]
 unfold expE
 rw [hk, List.range_succ_eq_map]
 simp
theorem yU3 {X : List En} {e : En} (h : 0 < e.run) : (((X ++ [e]).flatMap expE)[((X ++ [e]).flatMap expE).length - 1]?).map En.id = some (e.id + e.run - 1) := by
 obtain ⟨k, hk⟩ : ∃ k, e.run = k + 1 := ⟨e.run - 1, by omega⟩
 have h1 : (X ++ [e]).flatMap expE = X.flatMap expE ++ expE e := by simp
 have h2 := kD9 e
 rw [h1, lX, qQ (by omega), h2, hk]
 rw [show (X.flatMap expE).length + (k + 1) - 1 - (X.flatMap expE).length = k by omega]
 unfold expE
 rw [xR, List.getElem?_range (by omega)]
 simp
theorem wh_z {C : List It} {R : List En} {D : List UInt8} (h : WhOk C R D) : (zLo C = if R = [] then 0 else jR9 (atE R 0).id) ∧ (zHi C = if R = [] then 0 else jR9 (jK7 (atE R (R.length - 1)))) := by
 have hex := h.gr.ex
 have hlen := h.exl
 by_cases hR : R = []
 ·have hC : C = [] := by
   rw [hR] at hlen
   exact qT (by simpa using hlen.symm)
  subst hC
  rw [if_pos hR, if_pos hR]
  exact ⟨rfl, rfl⟩
 have hmap : ∀ i, ((R.flatMap expE)[i]?).map En.id = (C[i]?).map It.id := fun i => by
  rw [hex]
  unfold jY5
  rw [xR, Option.map_map]
  rfl
 have hCne : C ≠ [] := fun e => by
  obtain ⟨e0, r, hr⟩ : ∃ e0 r, R = e0 :: r := by cases R with | nil => exact absurd rfl hR | cons a b => exact ⟨a, b, rfl⟩
  have h1 := vK1 R fun e he => (h.gr.ok e he).1
  rw [hlen, e, hr] at h1
  simp at h1
 have hid : ∀ i (v : Nat), (C[i]?).map It.id = some v → (itAt C i).id = v := fun i v hv => by
  unfold itAt
  cases hc : C[i]? with
  | none => rw [hc] at hv; cases hv
  | some x => rw [hc] at hv; injection hv
 unfold zLo zHi
 rw [if_neg hCne, if_neg hCne, if_neg hR, if_neg hR]
 constructor
 ·obtain ⟨e0, r, hr⟩ : ∃ e0 r, R = e0 :: r := by cases R with | nil => exact absurd rfl hR | cons a b => exact ⟨a, b, rfl⟩
  have h1 := yC3 (e := e0) (r := r) (h.gr.ok e0 (by rw [hr]; exact lO)).1
  rw [← hr, hmap] at h1
  rw [hid 0 _ h1, hr]
  rfl
 ·obtain ⟨X, a, hXa⟩ := vE8 R hR
  obtain ⟨a1, a2, a3⟩ := h.gr.ok a (by rw [hXa]; simp)
  have h1 := yU3 (X := X) (e := a) a1
  rw [← hXa, hlen, hmap] at h1
  have h2 : atE R (R.length - 1) = a := by
   rw [hXa]
   unfold atE
   simp
  rw [hid _ _ h1, ← vL9 a2 a1, h2]
theorem SmK.aud {L : List It} {p : Pn} (h : SmK L p) (hn : (ntQ p.note).1 = 1 ∧ (ntQ p.note).2.2 = 0) : AudIs (prT L p) p.b := by
 have hp := h.pr
 obtain ⟨M, n, hd1, hd2⟩ := hp.dec
 obtain ⟨hc1, hc2, hc3⟩ := hp.cut
 have hw : WhOk L (prR L) (prD L) := vV4 h.ok
 have hq := hp.ok.parts
 have hb := h.b
 have hlen := hp.len
 have hchk : jG0 (jH8 (prH L p) (prP L p)) = 0 := vT0 h.ok (R := prR L) h.k hq
 have hde : decE (prT L p) = 0 := by
  unfold cutE at hc1
  split at hc1
  ·assumption
  ·exact hc1
 have hdv : decV (prT L p) = jH8 (prH L p) (prP L p) := by
  unfold cutH at hc2
  rwa [if_pos hc1] at hc2
 have hpc : ∀ k, piece (prT L p) k = ((prT L p).drop (hf (jH8 (prH L p) (prP L p)) k)).take (hl (jH8 (prH L p) (prP L p)) k) := fun k => by unfold piece; rw [hdv]
 have hcp := hc3
 unfold cutP at hcp
 rw [if_pos hc1] at hcp
 have hlaid := wL3 (prH L p) (prP L p) hq hchk
 rw [← hp.t] at hlaid
 have htl : (prT L p).length = 127 + (prP L p).a.length + (prP L p).b.length + (prP L p).c.length + (prP L p).d.length := by
  rw [hp.t, lX, kZ5 hchk]
  simp only [P4.all, lX]
  omega
 have hD : (prD L).length ≤ 1000000 := by
  have := hq.d
  have e : (prP L p).d = prD L := rfl
  rw [e] at this
  omega
 obtain ⟨z1, z2⟩ := wh_z hw
 refine ⟨jH8 (prH L p) (prP L p), prP L p, M, prR L, ⟨hde, hdv⟩, ⟨⟨rfl, rfl⟩, ⟨rfl, rfl⟩, ⟨rfl, rfl⟩, ⟨rfl, rfl⟩, htl, by omega, ?_, ?_, ?_, ?_, hlaid, rfl, rfl, rfl⟩, ?_, hn, ⟨by rw [hd1], by rw [hd1]⟩, hd2, ?_⟩
 ·exact (hpc 0).symm.trans (congrArg P4.a hcp)
 ·exact (hpc 1).symm.trans (congrArg P4.b hcp)
 ·exact (hpc 2).symm.trans (congrArg P4.c hcp)
 ·exact (hpc 3).symm.trans (congrArg P4.d hcp)
 ·have hs := vR0 h.ok h.len h.b
  obtain ⟨M2, s, m, e, hsp⟩ : ∃ M s m e, prS L p.b = (M, s, m, e) := ⟨_, _, _, _, rfl⟩
  rw [hsp] at hs
  obtain rfl : e = 0 := hs
  obtain ⟨_, _, ⟨S, b3, b4⟩, _⟩ := kS9 hw.ens hsp
  have : (prP L p).a = S := by unfold prP; rw [hsp, b3]
  show (prP L p).a.length ≤ _
  rw [this]
  omega
 ·have hno := hw.no
  refine ⟨hw.ens, fun e he => ⟨(hw.gr.ok e he).2.1, (hw.gr.ok e he).1⟩, by omega, hD, fun e he => (hw.nxt he).1, fun i a b ha hb2 => ?_, ?_, rfl, rfl, z1, z2, yK5 hw hD⟩
  ·obtain ⟨g1, g2⟩ := hw.gr.sep i a b ha hb2
   refine ⟨g1, fun ⟨e1, e2⟩ => ?_⟩
   unfold oneQ at g2
   rw [decide_eq_false_iff_not] at g2
   unfold plE at e2
   injection e2 with e3 e4
   exact g2 ⟨e1, e3.symm, e4.symm⟩
  ·show L.length = sumR (prR L)
   unfold sumR
   rw [wD4, lA, hw.exl]
end
section
open Go.RowKit V V.L Y
theorem wF7 {k : Nat} : ∀ {L : List It}, (∀ x ∈ L, x.id ≠ k) → rGet k L = none
 | [], _ => rfl
 | e :: r, h => by
  rw [rGet, if_neg (h e lO)]
  exact wF7 fun x hx => h x (lW _ hx)
theorem wF6 {k : Nat} : ∀ {L : List It} {x : It}, Rise L → x ∈ L → x.id = k → rGet k L = some x.tx
 | [], _, _, h, _ => by cases h
 | e :: r, x, hr, h, hk => by
  obtain ⟨h1, h2⟩ := List.pairwise_cons.1 hr
  rw [rGet]
  rcases List.mem_cons.1 h with rfl | h
  ·rw [if_pos hk]
  ·have := h1 x h
   rw [if_neg (by omega)]
   exact wF6 h2 h hk
theorem yK3 {C : List It} {R : List En} {D : List UInt8} (h : WhOk C R D) (hr : Rise C) (k : Nat) : vI8 R D k = ((rGet k C).getD [], (rGet k C).isSome) := by
 unfold vI8
 cases hf : R.find? (fun e => kA3 e k) with
 | none =>
  have hn := List.find?_eq_none.1 hf
  rw [wF7 fun x hx hk => by
   obtain ⟨e, he, j, hj, hjk, _⟩ := h.it hx
   refine hn e he <| (vS7 ⟨(h.gr.ok e he).1, (h.gr.ok e he).2.1⟩ k).2 ⟨_, expE_mem.2 ⟨j, hj, rfl⟩, ?_⟩
   show e.id + j = k
   omega]
  rfl
 | some e =>
  have he := List.mem_of_find?_eq_some hf
  have hm := List.find?_some hf
  obtain ⟨u, hu, huk⟩ := (vS7 ⟨(h.gr.ok e he).1, (h.gr.ok e he).2.1⟩ k).1 hm
  have hu2 : u ∈ jY5 C := by rw [← h.gr.ex]; exact List.mem_flatMap.2 ⟨e, he, hu⟩
  obtain ⟨x, hx, rfl⟩ := List.mem_map.1 hu2
  obtain ⟨j, hj, hje⟩ := expE_mem.1 hu
  have h1 := (h.pos hx).1
  have e1 : (addC (tsS C) x.tx).1 = e.off := congrArg En.off hje
  have e2 : (addC (tsS C) x.tx).2 = e.len := congrArg En.len hje
  rw [e1, e2] at h1
  rw [wF6 hr hx huk]
  show (ptx D (e.off, e.len), true) = _
  unfold ptx
  rw [h1]
  rfl
end
section
open Go.RowKit V V.L Y
set_option maxRecDepth 100000
section
variable {N : Frm} {w0 : World} {Wr : List Nat} {ops : Array Oper} {fr : Fr} {H : Heap} {Z : Fr → Heap → Prop}
theorem wU6 {l : List Oper} {v : Value} {n : Nat} {t : TypeId} {size : Nat} {ys : List Value} (frf : Value → Fr) (hv : RowOk v n) (h : ∀ A' c', SlIn A' n c' → sx Tryz.prog N w0 Wr ops l (frf (.slice A' n c')) (H ++ roE A' ys) Z) :
  sx Tryz.prog N w0 Wr ops l (frf v) (rowE v t size ys ++ H) Z := by
 obtain ⟨A1, c1, rfl, h1, hle⟩ := hv.ro
 refine kF6 (fun w hw => row_cap hv (fun x hx => xI _ hx) hw) (fun hc => jC3 (H ++ roE A1 ys) ((HLe.swap _ _).trans (hle [] H t size ys)) (h A1 c1 ⟨h1, hc.1, kK1 hv⟩))
end
theorem vW6 (L : List It) : jP0 L L = true := sameI_iff.2 rfl
theorem subF (T A B C : Heap) : (T ++ (B ++ C)).Sublist ((T ++ (A ++ B)) ++ C) := by
 rw [xF, xF]
 exact zS (lP A _) T
theorem wY7 (L : List It) : (ownQ L).length ≤ L.length := by
 have h : ∀ (L acc : List It), ChOk acc → (L.foldl (fun acc e => Go.Proofs.YtfeopecgedbfpaaGreatDoor.putQ e.id e.tx acc) acc).length ≤ acc.length + L.length := by
  intro L
  induction L with
  | nil => exact fun _ _ => xB _
  | cons e r ih =>
   intro acc h
   have h1 := ih _ (h.putQ e.id e.tx)
   have h2 : (Go.Proofs.YtfeopecgedbfpaaGreatDoor.putQ e.id e.tx acc).length ≤ acc.length + 1 := by
    unfold Go.Proofs.YtfeopecgedbfpaaGreatDoor.putQ
    split
    ·rw [wG5 h.rise]; split <;> omega
    ·omega
   rw [zA, lE]
   omega
 have := h L [] ChOk.nil
 simpa [ownQ] using this
theorem vV6 (A : Option Addr) (c : Nat) (L : List It) (T : Heap) (hA : jH6 A L.length) (hT : 0 < L.length → T = roE A (jA2 L)) (hro : Ro T) (hL : L.length ≤ maxLen) (hE : yX8 L)
  (b : Int) (k : Nat) (s : List UInt8) (hs : s.length ≤ maxLen) (id : Nat) (er es : Value) (he1 : ErOk er) (he2 : ErOk es) :
  Fn Tryz.prog 3 [.slice A L.length c, .agg (plV b k s).toArray, uq id] (T ++ TJ er es) fun v _ => v = .bool true := by
 have o1 := yQ2 A c L T hA hT hro hL hE 80 4000 (by decide) (by decide)
 have hroJ := kA9 er es
 refine Fn.enter (N := 108) Tryz.func3 rfl (by kernel_rfl) rfl (fun w0 => ?_)
 refine aR (fun Z hZ => jB5 (fun g1 => ?_))
 refine sAN hZ rfl rfl <| f3K 0 2 4 rfl ?_
 by_cases hov : (4000 < jF2 L ∨ 80 < L.length) ∨ 1000 < s.length
 ·skip
  refine aS <| jA3 [(25, .bool true)] [] (fun Z hZ => ?_) ?_
  ·refine sM rfl rfl <| jD1 T o1 rfl ((lS T _).trans (x4 _ _)) hro rfl <| sM rfl rfl <| jD0 20 rfl (fun hb2 => ?_) (fun hb2 => ?_)
   ·refine sO0 ?_
    refine sO0 ?_
    refine sO0 ?_
    refine sO0 ?_
    refine sP rfl rfl rfl <| sN (hZ _ _ ?_ ?_)
    ·exact Kn.cons (congrArg some (congrArg Value.bool (by first | (simp at *; done) | (simp at *; omega)))) Kn.nil
    ·exact HLe.sub (lN _)
   ·refine sOn0 ?_
    refine sFA0 wB3 ?_
    refine sOn0 ?_
    first | refine sL0 0 tyA9 tyS9 ?_
    refine sOn0 ?_
    refine jD6 Tryz.underlying9 rfl rfl <| sOn0 ?_
    refine jC4 ?_
    refine sP rfl rfl rfl <| sN (hZ _ _ ?_ ?_)
    ·exact Kn.cons (congrArg some (congrArg Value.bool (by first | (simp at *; done) | (simp at *; omega)))) Kn.nil
    ·exact HLe.sub (lN _)
  refine aC0 (fun h => ?_) (fun h => ?_)
  ·refine aR (fun Z hZ => sCP0 kM0 ?_)
   refine sAN hZ rfl rfl <| f1K 6 rfl <| aE ?_
   repeat refine nTR ?_
   exact nR10 rfl
  ·cases h
 have n1 : jF2 L ≤ 4000 ∧ L.length ≤ 80 ∧ s.length ≤ 1000 := by omega
 refine aS <| jA3 [(0, .slice A L.length c), (2, uq id), (4, ptr g1 0), (25, .bool false)] (.own g1 24 (plV b k s) :: (T ++ TJ er es)) (fun Z hZ => ?_) ?_
 ·refine sM rfl rfl <| jD1 T o1 rfl ((lS T _).trans (x4 _ _)) hro rfl <| sM rfl rfl <| jD0 20 rfl (fun hb2 => ?_) (fun hb2 => ?_)
  ·refine sO0 ?_
   refine sO0 ?_
   refine sO0 ?_
   refine sO0 ?_
   refine sP rfl rfl rfl <| sN (hZ _ _ ?_ ?_)
   ·exact Kn.cons rfl (Kn.cons rfl (Kn.cons rfl (Kn.cons (congrArg some (congrArg Value.bool (by first | (simp at *; done) | (simp at *; omega)))) Kn.nil)))
   ·exact HLe.refl _
  ·refine sOn0 ?_
   refine sFA0 wB3 ?_
   refine sOn0 ?_
   first | refine sL0 0 tyA9 tyS9 ?_
   refine sOn0 ?_
   refine jD6 Tryz.underlying9 rfl rfl <| sOn0 ?_
   refine jC4 ?_
   refine sP rfl rfl rfl <| sN (hZ _ _ ?_ ?_)
   ·exact Kn.cons rfl (Kn.cons rfl (Kn.cons rfl (Kn.cons (congrArg some (congrArg Value.bool (by first | (simp at *; done) | (simp at *; omega)))) Kn.nil)))
   ·exact HLe.refl _
 refine aC0 (fun h => ?_) (fun h => ?_)
 ·cases h
 refine aK <| nN ?_
 have hok := wI1 L
 have hql : (ownQ L).length ≤ 80 := zM (wY7 L) n1.2.1
 have hqb : jF2 (ownQ L) ≤ 4000 := zM (wH9 L) n1.1
 refine aR fun Z hZ => sM rfl rfl <| yL9 L T hA hT hro ((lS T _).trans (x4 _ _)) (by omega) rfl rfl (fun A1 c1 A2 c2 hA1 hA2 => ?_)
 refine sM rfl rfl <| sX rfl rfl rfl <| sX rfl rfl rfl <| sAl tyZ30 rfl (fun g2 => sS0 0 tyS30 ?_)
 refine sAN hZ rfl rfl <| f4K 2 4 7 8 rfl ?_
 obtain ⟨O, hO⟩ := xZ9 (ownQ L)
 rw [hO] at hok hA1 hA2 hql hqb ⊢
 refine jA6 ([.own g2 30 [.slice A1 O.length c1], .own g1 24 (plV b k s)] ++ (TJ er es ++ (roE A1 (jA2 O) ++ roE A2 (jA2 O)))) (HLe.sub (.cons_cons _ (by simp only [lL, xF]; exact .cons_cons _ (lP T _)))) ?_
 have hpc := vX1 b k s (by omega) er es he1 he2
 have hroA := Ro.roE A1 (jA2 O)
 by_cases hch : chkP b k s ≠ 0
 ·obtain ⟨e, he⟩ := xZ9 (chkP b k s)
  rw [he] at hpc hch
  have hpe := wH2 A1 c1 O.length (TJ er es) hroJ b k s e hch hpc
  have hee : (e == e) = true := by simp
  refine aR (fun Z hZ => sLA0 0 tyA30 tyS30 ?_)
  refine sLA0 1 tyA24 tyS24 ?_
  refine jD1 (TJ er es) hpe rfl ((lS (TJ er es) _).trans (lP [_, _] _)) hroJ rfl <| sM rfl rfl <| sX rfl rfl rfl <| sX rfl rfl rfl <| sA rfl rfl <| sAN hZ rfl rfl <| f5K 2 4 8 9 10 rfl <| aS <| aR fun Z hZ => sM rfl rfl <| jC7 ?_
  refine sN (hZ _ _ <| f6K 2 4 8 9 10 39 rfl <| aC0 (fun h5 => ?_) (fun h5 => ?_))
  ·skip
   refine jA3 [(6, .bool true)] [] (fun Z hZ => ?_) ?_
   ·refine sM rfl rfl <| jU4 rfl rfl rfl <| sM rfl rfl <| jE5 42 rfl true (by first | rfl | exact hee | (simp; done)) ?_
    refine sOn0 ?_
    refine sLA0 1 tyA24 tyS24 ?_
    refine sOn0 ?_
    refine jD1 (TJ er es) hpc rfl ((lS (TJ er es) _).trans (lP [_, _] _)) hroJ rfl <| sOn0 ?_
    refine sM rfl rfl <| sOn0 ?_
    refine jB0 ?_
    refine sP rfl rfl rfl <| sM rfl rfl <| jE5 48 rfl true (by first | rfl | exact hee | (simp; done)) ?_
    refine sOn0 ?_
    refine sCP0 kM0 ?_
    refine sP rfl rfl rfl <| sA rfl rfl <| sN (hZ _ _ ?_ ?_)
    ·exact Kn.cons rfl Kn.nil
    ·exact HLe.sub (lN _)
   refine aE ?_
   repeat refine nTR ?_
   exact nR10 rfl
  ·exact absurd (by simpa using h5) hch
 have hch0 : chkP b k s = 0 := by simpa using hch
 obtain ⟨hb, hk, hn⟩ : (512 ≤ b ∧ b ≤ 16257) ∧ k ≤ 5 ∧ ((ntQ s).1 = 1 ∧ (ntQ s).2.2 = 0) := by
  unfold chkP at hch0
  by_cases h1 : b < 512 ∨ 16257 < b
  ·rw [if_pos h1] at hch0; cases hch0
  rw [if_neg h1] at hch0
  by_cases h2 : 5 < k
  ·rw [if_pos h2] at hch0; cases hch0
  rw [if_neg h2] at hch0
  by_cases h3 : (ntQ s).2.2 ≠ 0
  ·rw [if_pos h3] at hch0; omega
  rw [if_neg h3] at hch0
  by_cases h4 : (ntQ s).1 = 1
  ·exact ⟨by omega, by omega, h4, by omega⟩
  ·rw [if_neg h4] at hch0; cases hch0
 obtain ⟨m, rfl⟩ : ∃ m : Nat, b = m := ⟨b.toNat, by omega⟩
 obtain ⟨p, hp⟩ : ∃ p : Pn, p = ⟨m, k, s⟩ := ⟨_, rfl⟩
 have hsm : SmK O p := by
  subst hp
  exact ⟨hok, by omega, by omega, ⟨by show 512 ≤ m; omega, by show m ≤ 16257; omega⟩, hk, by show s.length ≤ 4096; omega⟩
 have hpr := hsm.pr
 have haud := hsm.aud (by subst hp; exact hn)
 rw [hch0] at hpc
 have hpcp : p.cells = plV m k s := by subst hp; rfl
 have hpb : p.b = m := by subst hp; rfl
 have hps := vE3 A1 c1 O (roE A1 (jA2 O)) (TJ er es) hA1.arg (fun _ => rfl) (Ro.roE _ _) hroJ p hpr.ok (by rw [hpcp]; exact hpc)
 obtain ⟨r1, r2⟩ := hpr.read
 obtain ⟨q1, q2, q3⟩ := hpr.rows
 have hsl := hpr.len
 have hw : WhOk O (prR O) (prD O) := vV4 hok
 obtain ⟨S, hS⟩ := xZ9 (prT O p)
 rw [hpr.e, hpcp, hS] at hps
 rw [hS] at r1 r2 q1 q2 q3 hsl haud
 rw [hpb] at haud
 have f2 := V.nread_fn S (by omega)
 rw [r1, r2] at f2
 have f3 := wZ2 S (by omega) id (prR O) (prD O) q1 q2 q3 hw.ens (by have := hw.no; omega) (fun e he => (hw.nxt he).1)
 rw [yK3 hw hok.rise id] at f3
 have f4 := wF5 A2 c2 O (roE A2 (jA2 O)) hA2.arg (fun _ => rfl) (by omega) id
 obtain ⟨tx, htx⟩ := xZ9 ((rGet id O).getD [])
 obtain ⟨ok, hokv⟩ := xZ9 ((rGet id O).isSome)
 rw [htx, hokv] at f3 f4
 have f5 := yE3 S m (by omega) er es he1 he2 haud
 clear hsm hpr haud hw hp
 refine aR (fun Z hZ => sLA0 0 tyA30 tyS30 ?_)
 refine sLA0 1 tyA24 tyS24 ?_
 refine jO2 (roE A1 (jA2 O) ++ TJ er es) hps rfl (HLe.two ((lS (roE A1 (jA2 O)) _).trans ((lP (TJ er es) _).trans (lP [_, _] _))) ((lS (TJ er es) _).trans (lP [_, _] _)) hroJ) ((Ro.roE _ _).append hroJ) rfl <| sM rfl rfl <| sX rfl rfl rfl <| sX rfl rfl rfl <| sA rfl rfl <| sAN hZ rfl rfl <| f5K 2 4 8 9 10 rfl <| aS <| aR fun Z hZ => sM rfl rfl <| jC7 ?_
 refine sN (hZ _ _ <| f6K 2 4 8 9 10 39 rfl <| aC0 (fun h5 => ?_) (fun h5 => ?_))
 ·cases h5
 refine aK <| nN <| aR fun Z hZ => sM rfl rfl <| jA5 [] _ f2 rfl (HLe.refl _) rfl ?_
 rintro v H' ⟨u, rfl, hu, rfl⟩
 rw [jF1]
 refine wU6 (fun u => (_, Value.tuple #[.agg #[u], iq 0]) :: _) hu (fun A6 c6 hA6 => sM rfl rfl <| sX rfl rfl rfl <| sX rfl rfl rfl <| sAl tyZ30 rfl (fun g3 => sS0 0 tyS30 ?_))
 refine sAN hZ rfl rfl <| f6K 2 4 8 9 11 12 rfl <| jA6 ([.own g3 30 [.slice A6 O.length c6], .own g2 30 [.slice A1 O.length c1], .own g1 24 (plV m k s)] ++ (TJ er es ++ (roE A2 (jA2 O) ++ roE A6 (jA2 O)))) (HLe.sub (.cons_cons _ (.cons_cons _ (.cons_cons _ (subF (TJ er es) (roE A1 (jA2 O)) (roE A2 (jA2 O)) (roE A6 (jA2 O))))))) <| aR fun Z hZ => sM rfl rfl <| sM rfl rfl <| sCP0 f3 ?_
 refine sM rfl rfl <| sX rfl rfl rfl <| sX rfl rfl rfl <| sX rfl rfl rfl <| sA rfl rfl <| sA rfl rfl <| sAN hZ rfl rfl <| f9K 2 4 8 9 11 12 13 14 15 rfl <| aR fun Z hZ => sM rfl rfl <| sM rfl rfl <| jD1 (roE A2 (jA2 O)) f4 rfl ((lS (roE A2 (jA2 O)) _).trans ((lP (TJ er es) _).trans (lP [_, _, _] _))) (Ro.roE _ _) rfl <| sM rfl rfl <| sX rfl rfl rfl <| sX rfl rfl rfl <| sA rfl rfl <| sAN hZ rfl rfl <| f10K 4 8 9 11 12 13 14 15 16 17 rfl ?_
 have hss := vW6 O
 have e1 : (tx == tx) = true := by simp
 have e2 : (ok == ok) = true := by simp
 refine jA3 [(6, .bool true)] [] (fun Z hZ => ?_) ?_
 ·refine sM rfl rfl <| sFA0 yL6 ?_
  refine sL0 2 tyA3 tyS3 ?_
  refine jD1 (TJ er es) f5 rfl ((lS (TJ er es) _).trans (lP [_, _, _] _)) hroJ rfl <| jE2 Tryz.underlying44 rfl rfl <| jB0 ?_
  refine sM rfl rfl <| jE5 75 rfl true (by first | rfl | exact hss | exact e1 | exact e2 | (simp; done)) ?_
  refine sOn0 ?_
  refine sM rfl rfl <| sOn0 ?_
  refine jB0 ?_
  refine sP rfl rfl rfl <| sM rfl rfl <| jE5 79 rfl true (by first | rfl | exact hss | exact e1 | exact e2 | (simp; done)) ?_
  refine sOn0 ?_
  refine sLA0 0 tyA30 tyS30 ?_
  refine sOn0 ?_
  refine wC4 O hA6 (((lP (roE A2 (jA2 O)) _).trans (lP (TJ er es) _)).trans (lP [_, _, _] _)) (by omega) rfl rfl (fun A7 c7 hA7 => ?_)
  refine sOn0 ?_
  refine wC5 O hA7 (by repeat (first | exact xU _ | exact lN _ | exact lP _ _ | refine List.Sublist.trans ?_ (lS _ _) | exact qC _ (lN _) | refine zF _ ?_)) (by omega) rfl rfl (fun A8 c8 hA8 => ?_)
  refine sOn0 ?_
  refine sM rfl rfl <| sOn0 ?_
  refine wC1 O O hA8 hA2 (by repeat (first | exact xU _ | exact lN _ | exact lP _ _ | refine List.Sublist.trans ?_ (lS _ _) | exact qC _ (lN _) | refine zF _ ?_)) (((lS (roE A2 (jA2 O)) (roE A6 (jA2 O))).trans (lP (TJ er es) _)).trans ((lP [_, _, _] _).trans ((lS _ _).trans (lS _ _)))) (by show _ ≤ 9223372036854775807; omega) (by show _ ≤ 9223372036854775807; omega) rfl rfl ?_
  refine sP rfl rfl rfl <| sM rfl rfl <| jE5 86 rfl true (by first | rfl | exact hss | exact e1 | exact e2 | (simp; done)) ?_
  refine sOn0 ?_
  refine sM rfl rfl <| sOn0 ?_
  refine jB0 ?_
  refine sP rfl rfl rfl <| sM rfl rfl <| jE5 90 rfl true (by first | rfl | exact hss | exact e1 | exact e2 | (simp; done)) ?_
  refine sOn0 ?_
  refine sM rfl rfl <| sOn0 ?_
  refine sM rfl rfl <| sOn0 ?_
  refine jU4 rfl rfl rfl <| sP rfl rfl rfl <| sM rfl rfl <| jE5 95 rfl true (by first | rfl | exact hss | exact e1 | exact e2 | (simp; done)) ?_
  refine sOn0 ?_
  refine sM rfl rfl <| sOn0 ?_
  refine sM rfl rfl <| sOn0 ?_
  refine yM7 Tryz.underlying4 rfl rfl rfl <| sP rfl rfl rfl <| sM rfl rfl <| jE5 100 rfl true (by first | rfl | exact hss | exact e1 | exact e2 | (simp; done)) ?_
  refine sOn0 ?_
  refine sLA0 2 tyA24 tyS24 ?_
  refine sOn0 ?_
  refine jD1 (TJ er es) hpc rfl ((lS (TJ er es) _).trans ((lP [_, _, _] _).trans ((lS _ _).trans (lS _ _)))) hroJ rfl <| sOn0 ?_
  refine jB0 ?_
  refine sP rfl rfl rfl <| sM rfl rfl <| jE5 105 rfl true (by first | rfl | exact hss | exact e1 | exact e2 | (simp; done)) ?_
  refine sOn0 ?_
  refine sCP0 kM0 ?_
  refine sP rfl rfl rfl <| sA rfl rfl <| sN (hZ _ _ ?_ ?_)
  ·exact Kn.cons rfl Kn.nil
  ·exact HLe.sub (lN _)
 refine aE <| nR10 rfl
theorem vL7 : leaves Tryz.prog 5 24 = some [.int .i64, .int .u8, .string] := by kernel_rfl
theorem wI3 {H : Type} {enc : TypeId × Value → H} {w : World} {base b0 : Nat} {spare : Nat → Bool} {held : Bool} {r : Reach} {v : Value} {d : DataW H} {p : List MemPlace}
  (hv : Value.okWide Tryz.prog w r b0 24 v) (h : DataW.Trod enc Tryz.prog w base spare held 24 v d p) : ∃ (b : Int) (k : Nat) (s : List UInt8), s.length ≤ maxLen ∧ v = .agg (plV b k s).toArray := by
 obtain ⟨cs, rfl, a⟩ := vL3 5 Tryz.underlying24 vL7 hv h
 obtain ⟨b, c, rfl, _, a1⟩ := wR3 a
 obtain ⟨k, c, rfl, _, a2⟩ := yF1 a1
 obtain ⟨s, c, rfl, hs, a3⟩ := vH6 a2
 cases a3
 exact ⟨b, k, s, hs, rfl⟩
theorem TopFormat_read {H : Type} {enc : TypeId × Value → H} (w : World) {base : Nat} {v0 v1 v2 : Value} {d0 d1 d2 : DataW H} {p0 p1 p2 : List MemPlace}
  (hL : laidMetH Tryz.prog Rows.topFormatRow.laid w)
  (k0 : Value.okWide Tryz.prog w .any base 22 v0) (h0 : DataW.Trod enc Tryz.prog w 0 (fun _ => true) true 22 v0 d0 p0)
  (k1 : Value.okWide Tryz.prog w .any base 24 v1) (h1 : DataW.Trod enc Tryz.prog w 0 (fun _ => true) true 24 v1 d1 p1)
  (k2 : Value.okWide Tryz.prog w .any base 25 v2) (h2 : DataW.Trod enc Tryz.prog w 0 (fun _ => true) true 25 v2 d2 p2) :
  Calls Tryz.prog 3 #[v0, v1, v2] w fun e w' => e = .returned (.bool true) ∧ Bel w w' := by
 obtain ⟨er, es, he1, he2, hS2⟩ := yZ7 hL
 obtain ⟨A, c, L, T, rfl, hA, hLn, hE, hT, hro, hS, _⟩ := wY9 k0 h0
 obtain ⟨b, k, s, hs, rfl⟩ := wI3 k1 h1
 obtain ⟨m, rfl, _, _, hm⟩ := ChangeShapes.open_int Tryz.underlying25 k2 h2
 have hm' : 0 ≤ m ∧ m ≤ 18446744073709551615 := by simpa [Lit.wf, IntKind.min, IntKind.max, IntKind.signed, IntKind.bits] using hm
 obtain ⟨n, rfl⟩ : ∃ n : Nat, m = n := ⟨m.toNat, by omega⟩
 exact wU5 (hro.append (kA9 er es)) (hS.both hS2 hro (kA9 er es)) (vV6 A c L T hA hT hro hLn hE b k s hs n er es he1 he2)
namespace topFormat
open Go.ChangeShapes Go.WideShapes Go.ChangeAt Go.RowKit
theorem own : ownKnob Tryz.prog.godebug = none := by kernel_rfl
theorem vM0 : laidOutB Tryz.prog = true := by kernel_rfl
set_option maxRecDepth 100000 in
theorem zD2 (os : Os) (started : os.Started) (H : Type) (enc : TypeId × Value → H) :
  ReturnsInHanded {} Tryz.checked os 3 .any (fun w args => (Rows.topFormatSpec.pre enc Tryz.prog Tryz.f3 [] false w args ∧ laidMetH Tryz.prog Rows.topFormatRow.laid w) ∧ sizedMet enc Tryz.prog Tryz.f3 (OpenSpec.ofChange Rows.topFormatSpec) false w args)
   (Rows.topFormatSpec.post enc Tryz.prog Tryz.f3 false true false false) := by
 refine returnsInHanded_of_change_and (C := Tryz.checked) (X := fun w _ => laidMetH Tryz.prog Rows.topFormatRow.laid w) (fun _ _ _ hh h => h.of_heap hh) own started (by kernel_rfl) Tryz.func3
  (ChangeSpec.witness_shaped (enc := enc) (C := Tryz.checked) (os := os) (X := fun w _ => laidMetH Tryz.prog Rows.topFormatRow.laid w) false (World.laidAll Tryz.prog os Rows.topFormatRow.laid) #[.slice none 0 0, .agg #[.int .i64 0, .int .u8 0, .string ⟨#[]⟩], .int .u64 0] 8 (World.laidAll_os _ _ _)
   (World.shaped_of_ZipB (by kernel_rfl) (by kernel_rfl)) (by kernel_rfl) (by kernel_rfl) (by kernel_rfl)
   (by rw [MakeChecks.laidMetH_plain _ _ _ (by kernel_rfl)]; exact laidMet_laidAll _ (by kernel_rfl) (by kernel_rfl))) ?_
 intro W base args ds gs before hval0 hW _ _ hL _
 have hval : ∀ (j : Nat) t v, Tryz.f3.params[j]? = some t → args[j]? = some v → Value.okWide Tryz.prog W .any base t v := hval0
 have hW' := hW
 obtain ⟨p, q, hA0, hV, rfl, hfz, hnd⟩ := hW
 have hA : DataW.TrodAll enc Tryz.prog W 0 (fun _ => true) true Tryz.f3.params.toList args.toList ds p := hA0
 rw [Tryz.params3] at hA hval
 obtain ⟨v0, vs0, d0, ds0, p0, q0, hargs, rfl, rfl, h0, r0⟩ := trodAll_cons hA
 obtain ⟨v1, vs1, d1, ds1, p1, q1, rfl, rfl, rfl, h1, r1⟩ := trodAll_cons r0
 obtain ⟨v2, vs2, d2, ds2, p2, q2, rfl, rfl, rfl, h2, r2⟩ := trodAll_cons r1
 obtain ⟨rfl, rfl, rfl⟩ := trodAll_nil r2
 obtain rfl : args = #[v0, v1, v2] := by cases args; simp_all
 obtain ⟨rfl, rfl⟩ := trodVars_none hV
 have lt0 : ∀ x ∈ p0, x.block < W.heap.size := by obtain ⟨m, hm⟩ := h0; exact DataW.trod_lt m _ _ _ hm
 have lt1 : ∀ x ∈ p1, x.block < W.heap.size := by obtain ⟨m, hm⟩ := h1; exact DataW.trod_lt m _ _ _ hm
 have lt2 : ∀ x ∈ p2, x.block < W.heap.size := by obtain ⟨m, hm⟩ := h2; exact DataW.trod_lt m _ _ _ hm
 refine (TopFormat_read W hL (hval 0 22 v0 rfl rfl) h0 (hval 1 24 v1 rfl rfl) h1 (hval 2 25 v2 rfl rfl) h2).mono fun e W' ⟨he, bel0⟩ => ?_
 have bel : Below W.heap.size W W' := bel0
 subst he
 exact ⟨_, rfl, _, _, _, [], _, [], hW', trodAll_mk1 (shut_bool Tryz.underlying4 _), (trodAll_cons_mk (Below.trod vM0 (by kernel_rfl) (of_decide_eq_true (by kernel_rfl)) h0 bel lt0) (trodAll_cons_mk (Below.trod vM0 (by kernel_rfl) (of_decide_eq_true (by kernel_rfl)) h1 bel lt1) (trodAll_cons_mk (Below.trod vM0 (by kernel_rfl) (of_decide_eq_true (by kernel_rfl)) h2 bel lt2) trodAll_mk0))), rfl, bel.frame _, fun h => by cases h⟩
theorem over : Rows.topFormatRow.holds Tryz.pinned (OpenSpec.ofChange Rows.topFormatSpec) :=
 OpenClaim.holds_of_wide 3 Tryz.f3 rfl rfl rfl rfl rfl rfl rfl ⟨rfl, rfl, rfl, rfl, rfl⟩ rfl rfl rfl rfl rfl (by kernel_rfl) Tryz.func3 (by kernel_rfl)
  (of_decide_eq_true (by kernel_rfl)) (by unfold Func.isWrapper; first | (rw [if_pos (by decide +kernel)]; kernel_rfl) | (rw [if_neg (by decide +kernel)]; exact ⟨rfl, rfl⟩))
  (fun os started H enc _ => zD2 os started H enc)
theorem proved : Rows.TopFormatCardSaid :=
 Claim7.holds_tied_plain_at .later [] [.data, .data, .data, .data, .sentinel, .sentinel, .pinned] true (true, "15a9b1f416df73eea0254ef9e30f766e04ba825584003012e5eed079c6ac909b") true over (fun _ h => by cases h) (by kernel_rfl) (fun _ h => by cases h) topFormat_row_tie rfl ⟨rfl, rfl⟩ (by kernel_rfl) rfl
  (fun f fn hf hfn => by
   obtain rfl : f = 3 := lV ((show Tryz.prog.funcNamed "gazetteer/gazetteertop.TopFormat" = some 3 by kernel_rfl).symm.trans hf) |>.symm
   obtain rfl : fn = Tryz.f3 := (lV (Tryz.func3.symm.trans hfn)).symm
   exact ⟨by kernel_rfl, fun j t ht => by
    rw [Tryz.params3] at ht
    have hm : t ∈ [22, 24, 25] := by simpa using Array.mem_of_getElem? ht
    have hall : ([22, 24, 25].all fun u => !Tryz.prog.wantsStandIn u) = true := by kernel_rfl
    exact (show Tryz.prog.wantsStandIn t = false by simpa using List.all_eq_true.1 hall t hm)⟩)
  (by kernel_rfl)
#print axioms proved
end topFormat
end
end Go.Proofs.YtfeopecgedbfpaaGreatDoor
