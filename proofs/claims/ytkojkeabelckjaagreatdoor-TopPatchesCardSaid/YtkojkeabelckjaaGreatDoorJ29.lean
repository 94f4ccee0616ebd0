/- Walks and plain laws for this claim (texts Lf15, Lf18, Ly8, Nt5, SxIf, Nt6, Bd1, Bd2, Nt7, SxFO, joined). Each theorem states its own conditions. -/
import Derived.Test.YtkojkeabelckjaaGreatDoorJ28
import Derived.Test.YtkojkeabelckjaaGreatDoorJ24
import Derived.Test.YtkojkeabelckjaaGreatDoorJ23
import Derived.Test.YtkojkeabelckjaaGreatDoorJ19
import Derived.Test.YtkojkeabelckjaaGreatDoorJ07
import Derived.Test.YtkojkeabelckjaaGreatDoorJ05
import Derived.Test.YtkojkeabelckjaaGreatDoorJ06
import Derived.Test.YtkojkeabelckjaaGreatDoorJ12
import Derived.Test.YtkojkeabelckjaaGreatDoorJ08
import Derived.Test.YtkojkeabelckjaaGreatDoorJ21
import Derived.Shelf.Strings.Builder1
import Derived.Lib.UnsafeStr

section
set_option linter.all false
namespace Go.Proofs.YtkojkeabelckjaaGreatDoor.V.L
open Go.RowKit
theorem rowC_q {L : List En} (h : rowC L = 0) : rowQ 0 L = 0 ∧ L.length ≤ 4096 := by
 unfold rowC at h
 split at h
 ·cases h
 ·exact ⟨h, by omega⟩
theorem q_rowC {L : List En} (h : rowQ 0 L = 0) (hl : L.length ≤ 4096) : rowC L = 0 := by
 unfold rowC
 rw [if_neg (by omega), h]
theorem splitG_cases {L : List En} {b : Int} : ∀ (k z : Nat), 0 < z → splitG L b k z = ([], [], 0, 15) ∨ ∃ y, 0 < y ∧ okQ L b y = true ∧ splitG L b k z = (jH8 0 (pcs L y), jH3 (pcs L y), y, 0)
 | 0, _, _ => .inl rfl
 | k + 1, z, hz => by
  rw [splitG]
  by_cases h : okQ L b z = true
  ·rw [if_pos h]
   exact .inr ⟨z, hz, h, rfl⟩
  ·rw [if_neg h]
   exact splitG_cases k (2 * z) (by omega)
theorem splitQ_cases (L : List En) (b : Int) : (∃ e, e ≠ 0 ∧ splitQ L b = ([], [], 0, e)) ∨
  (rowC L = 0 ∧ jH9 L = false ∧ 1 ≤ b ∧ b ≤ 16257 ∧ ((splitQ L b = (L, [], 0, 0) ∧ (sizeQ L : Int) ≤ b) ∨ ∃ y, 0 < y ∧ okQ L b y = true ∧ splitQ L b = (jH8 0 (pcs L y), jH3 (pcs L y), y, 0))) := by
 unfold splitQ
 by_cases h1 : b < 1 ∨ 16257 < b
 ·rw [if_pos h1]; exact .inl ⟨2, by decide, rfl⟩
 rw [if_neg h1]
 by_cases h2 : rowC L ≠ 0
 ·rw [if_pos h2]; exact .inl ⟨_, h2, rfl⟩
 rw [if_neg h2]
 by_cases h3 : jH9 L = true
 ·rw [if_pos h3]; exact .inl ⟨14, by decide, rfl⟩
 rw [if_neg h3]
 have h2' : rowC L = 0 := by omega
 have h3' : jH9 L = false := by simpa using h3
 by_cases h4 : (sizeQ L : Int) ≤ b
 ·rw [if_pos h4]
  exact .inr ⟨h2', h3', by omega, by omega, .inl ⟨rfl, h4⟩⟩
 rw [if_neg h4]
 rcases splitG_cases (L := L) (b := b) 13 1 (by omega) with h | ⟨y, hy, ho, h⟩
 ·rw [h]; exact .inl ⟨15, by decide, rfl⟩
 ·exact .inr ⟨h2', h3', by omega, by omega, .inr ⟨y, hy, ho, h⟩⟩
theorem okQ_facts {L : List En} {b : Int} {y : Nat} (hy : 0 < y) (hE : jF2 L) (hh : jH9 L = false) (h : okQ L b y = true) : (∀ P ∈ pcs L y, 0 < P.length ∧ jF2 P ∧ (encQ P).2 = 0 ∧ jH9 P = false) ∧ (sizeQ (jH8 0 (pcs L y)) : Int) ≤ b := by
 unfold okQ at h
 rw [Bool.and_eq_true, List.all_eq_true, decide_eq_true_eq] at h
 refine ⟨fun P hP => ⟨pcs_pos hy hP, fun e he => hE e (pcs_mem hP e he), by simpa using h.1 P hP, ?_⟩, h.2⟩
 rw [jH9, List.any_eq_false] at hh ⊢
 exact fun e he => hh e (pcs_mem hP e he)
end Go.Proofs.YtkojkeabelckjaaGreatDoor.V.L
end

section
set_option linter.all false
namespace Go.Proofs.YtkojkeabelckjaaGreatDoor.V.L
open Go.RowKit
set_option maxRecDepth 100000
theorem enc_of {M : List En} {b : Int} (hr : rowC M = 0) (hs : (sizeQ M : Int) ≤ b) (hb : b ≤ 16257) : ∃ S, encQ M = (S, 0) ∧ (S.length : Int) ≤ b := by
 have hz : sizeQ M = sumB (jE2 M) := by unfold sizeQ; rw [if_pos hr]
 rw [hz] at hs
 refine ⟨allB (jE2 M), ?_, hs⟩
 unfold encQ
 rw [if_pos hr, if_neg (by omega)]
theorem encQ_sm {P : List En} (hE : jF2 P) (hl : P.length < 1000000) : (encQ P).1.length ≤ 10 + 40 * P.length := by
 have h := allB_len (numsQ_lt hE (by omega))
 rw [numsQ_len] at h
 unfold encQ
 split
 ·split
  ·exact Nat.zero_le _
  ·show (allB (jE2 P)).length ≤ _
   omega
 ·exact Nat.zero_le _
theorem textP_sm : ∀ ps : List (List En), (∀ P ∈ ps, jF2 P ∧ P.length < 1000000) → (jH3 ps).length ≤ 10 * ps.length + 40 * ps.flatten.length
 | [], _ => by simp [jH3]
 | P :: r, h => by
  have h1 := encQ_sm (h P List.mem_cons_self).1 (h P List.mem_cons_self).2
  have h2 := textP_sm r (fun Q hQ => h Q (List.mem_cons_of_mem _ hQ))
  simp only [jH3, List.flatMap_cons, List.length_append, List.length_cons, List.flatten_cons] at h2 ⊢
  omega
theorem back_facts {L M : List En} {b : Int} {s : List UInt8} {m : Nat} (hE : jF2 L) (h : splitQ L b = (M, s, m, 0)) :
  jF2 M ∧ M.length ≤ L.length ∧ (∃ S, encQ M = (S, 0) ∧ (S.length : Int) ≤ b) ∧ joinQ M s = (L, 0) ∧ (m = 0 ↔ s = []) ∧ (M.filter isPtr).length = (if 0 < m then M.length else 0) ∧ endQ 0 M * min m 1 = s.length ∧ s.length ≤ 50 * L.length := by
 rcases splitQ_cases L b with ⟨e, he, h1⟩ | ⟨hr, hh, hb1, hb2, h1⟩
 ·rw [h1] at h
  have := congrArg (·.2.2.2) h
  exact absurd this he
 obtain ⟨hq0, hl⟩ := rowC_q hr
 rcases h1 with ⟨h1, hs⟩ | ⟨y, hy, hok, h1⟩
 ·rw [h1] at h
  simp only [Prod.mk.injEq] at h
  obtain ⟨rfl, rfl, rfl, _⟩ := h
  have hhl := hasPtr_len L
  rw [hh] at hhl
  refine ⟨hE, Nat.le_refl _, enc_of hr hs hb2, ?_, by simp, ?_, by simp, by simp⟩
  ·unfold joinQ
   rw [if_neg (by simpa using hr), join_plain L [] hh hr]
   rfl
  ·have : ¬ 0 < (L.filter isPtr).length := by simpa using hhl.symm
   rw [if_neg (by decide)]
   omega
 ·rw [h1] at h
  simp only [Prod.mk.injEq] at h
  obtain ⟨rfl, rfl, rfl, _⟩ := h
  obtain ⟨hP, hsz⟩ := okQ_facts hy hE hh hok
  have hpl : (pcs L y).length ≤ L.length := by rw [pcs_len]; exact cntP_le hy
  have hfl := pcs_flat (L := L) hy
  have hP3 : ∀ P ∈ pcs L y, 0 < P.length ∧ jF2 P ∧ (encQ P).2 = 0 := fun P h => ⟨(hP P h).1, (hP P h).2.1, (hP P h).2.2.1⟩
  have hrow := root_row (pcs L y) 0 0 hP3 (by rw [hfl]; exact hq0) (by omega)
  have hrl := rootR_len (pcs L y) 0
  have hrc := q_rowC hrow (by omega)
  have hL0 : 0 < (pcs L y).length := by
   rcases Nat.eq_zero_or_pos (pcs L y).length with h0 | h0
   ·exfalso
    have hnil : pcs L y = [] := List.length_eq_zero_iff.1 h0
    rw [hnil] at hfl
    have hLn : L = [] := hfl.symm
    subst hLn
    have hs0 : sizeQ ([] : List En) = 1 := by
     unfold sizeQ
     rw [if_pos (by rfl), show jE2 [] = [0] from rfl, sumB, allB, List.flatMap_cons, List.flatMap_nil, vb_lt (by omega)]
     rfl
    have : splitQ [] b = ([], [], 0, 0) := by
     unfold splitQ
     rw [if_neg (by omega), if_neg (by decide), if_neg (by decide), if_pos (by rw [hs0]; omega)]
    rw [this] at h1
    have := congrArg (·.2.2.1) h1
    simp only at this
    omega
   ·exact h0
  have htp : 0 < (jH3 (pcs L y)).length := by
   match hpc : pcs L y, hL0 with
   | P :: r, _ =>
    rw [hpc] at hP3
    have h1 := enc_pos (hP3 P List.mem_cons_self).2.2
    rw [jH3, List.flatMap_cons, List.length_append]
    omega
  refine ⟨rootR_ok _ 0 (fun P h => (hP P h).2.1) (by omega), by omega, enc_of hrc hsz hb2, ?_, ⟨fun h => by omega, fun h => by rw [h] at htp; simp at htp⟩, ?_, ?_, ?_⟩
  ·unfold joinQ
   rw [if_neg (by simpa using hrc)]
   have := join_root (pcs L y) [] [] hP (by rw [List.nil_append, hfl]; exact hr)
   rw [hfl] at this
   exact this
  ·rw [root_ptr, if_pos hy]
  ·have := root_end (pcs L y) 0 0 (Nat.le_refl _) hP3 (fun _ _ => trivial) (rowQ_chk hrow) (by omega) (fun _ => rfl)
   rw [this, show min y 1 = 1 by omega]
   omega
  ·have := textP_sm (pcs L y) (fun P h => ⟨(hP P h).2.1, by
    obtain ⟨q, _, hq⟩ := List.mem_map.1 h
    rw [← hq, pcL_len]
    omega⟩)
   rw [hfl] at this
   omega
end Go.Proofs.YtkojkeabelckjaaGreatDoor.V.L
end

section
set_option linter.all false
namespace Go.Proofs.YtkojkeabelckjaaGreatDoor.Y
open Go.RowKit
theorem mid_cut (X Q R : List UInt8) (i n : Nat) (hi : X.length = i) (hn : Q.length = n) : ((X ++ (Q ++ R)).drop i).take n = Q := by
 subst hi; subst hn
 rw [List.drop_left, List.take_left]
theorem enc_len {G : Hdr} (hc : jG3 G = 0) : (encV G).length = 127 := by unfold encV; rw [if_pos hc, enc5_length]
theorem glue_dec (h : Hdr) (hk : h.Ok) (p : P4) (hp : p.Ok) (hc : jG3 (glueH h p) = 0) (t : List UInt8) : decV (encV (glueH h p) ++ t) = glueH h p ∧ decE (encV (glueH h p) ++ t) = 0 := decV_enc (glueH_ok h hk p hp) hc t
theorem glue_cut (h : Hdr) (hk : h.Ok) (p : P4) (hp : p.Ok) (hc : jG3 (glueH h p) = 0) (t : List UInt8) :
  cutE (encV (glueH h p) ++ p.all ++ t) = 0 ∧ cutH (encV (glueH h p) ++ p.all ++ t) = glueH h p ∧ cutP (encV (glueH h p) ++ p.all ++ t) = p := by
 have hel := enc_len hc
 rw [List.append_assoc]
 obtain ⟨h1, h2⟩ := glue_dec h hk p hp hc (p.all ++ t)
 obtain ⟨l, hll⟩ : ∃ l, encV (glueH h p) ++ (p.all ++ t) = l := ⟨_, rfl⟩
 have hlen : l.length = 127 + (p.a.length + p.b.length + p.c.length + p.d.length) + t.length := by
  rw [← hll]; simp only [List.length_append, P4.all, hel]; omega
 rw [hll] at h1 h2 ⊢
 have hin : ∀ k, k < 4 → inL l k = true := fun k hk4 => by
  unfold inL
  rw [h1, hlen]
  obtain rfl | rfl | rfl | rfl := four hk4 <;> simp [hf, hl, glueH, layH, withH] <;> omega
 have e := cut_yes h2 hin
 have pc : ∀ k, piece l k = (l.drop (hf (glueH h p) k)).take (hl (glueH h p) k) := fun k => by unfold piece; rw [h1]
 have q0 : piece l 0 = p.a := by
  rw [pc, ← hll, show encV (glueH h p) ++ (p.all ++ t) = encV (glueH h p) ++ (p.a ++ (p.b ++ p.c ++ p.d ++ t)) by simp [P4.all]]
  exact mid_cut _ _ _ _ _ hel rfl
 have q1 : piece l 1 = p.b := by
  rw [pc, ← hll, show encV (glueH h p) ++ (p.all ++ t) = (encV (glueH h p) ++ p.a) ++ (p.b ++ (p.c ++ p.d ++ t)) by simp [P4.all]]
  exact mid_cut _ _ _ _ _ (by rw [List.length_append, hel]; rfl) rfl
 have q2 : piece l 2 = p.c := by
  rw [pc, ← hll, show encV (glueH h p) ++ (p.all ++ t) = (encV (glueH h p) ++ p.a ++ p.b) ++ (p.c ++ (p.d ++ t)) by simp [P4.all]]
  exact mid_cut _ _ _ _ _ (by simp only [List.length_append, hel]; rfl) rfl
 have q3 : piece l 3 = p.d := by
  rw [pc, ← hll, show encV (glueH h p) ++ (p.all ++ t) = (encV (glueH h p) ++ p.a ++ p.b ++ p.c) ++ (p.d ++ t) by simp [P4.all]]
  exact mid_cut _ _ _ _ _ (by simp only [List.length_append, hel]; rfl) rfl
 refine ⟨e, by unfold cutH; rw [if_pos e, h1], ?_⟩
 unfold cutP
 rw [if_pos e, q0, q1, q2, q3]
end Go.Proofs.YtkojkeabelckjaaGreatDoor.Y
end

section
set_option linter.all false
namespace Go.Proofs.YtkojkeabelckjaaGreatDoor
open Go.RowKit Go.Proofs.YtkojkeabelckjaaGreatDoor.V Go.Proofs.YtkojkeabelckjaaGreatDoor.V.L Go.Proofs.YtkojkeabelckjaaGreatDoor.Y
set_option maxRecDepth 100000
theorem splitG_ok {L : List En} {b : Int} : ∀ (k z j : Nat), j < k → okQ L b (z * 2 ^ j) = true → (splitG L b k z).2.2.2 = 0
 | 0, _, _, h, _ => by omega
 | k + 1, z, j, h, ho => by
  rw [splitG]
  split
  ·rfl
  ·rename_i hno
   cases j with
   | zero => rw [Nat.pow_zero, Nat.mul_one] at ho; exact absurd ho hno
   | succ j => exact splitG_ok k (2 * z) j (by omega) (by rw [show 2 * z * 2 ^ j = z * 2 ^ (j + 1) by rw [Nat.pow_succ, Nat.mul_comm 2 z, Nat.mul_assoc, Nat.mul_comm 2]]; exact ho)
theorem run_len : ∀ R : List En, (∀ e ∈ R, 0 < e.run) → R.length ≤ (R.flatMap expE).length
 | [], _ => Nat.le_refl _
 | e :: r, h => by
  have h1 := h e List.mem_cons_self
  have h2 := run_len r fun x hx => h x (List.mem_cons_of_mem _ hx)
  rw [List.flatMap_cons, List.length_append, expE_len, List.length_cons]
  omega
theorem wh_len {L : List It} (hok : ChOk L) : (prR L).length ≤ L.length := by
 have hw := wh_ok hok
 have h1 := run_len (rowsS L).1 fun e he => (hw.gr.ok e he).1
 rw [hw.exl] at h1
 exact h1
theorem no_ptr {R : List En} (h : ∀ e ∈ R, 0 < e.run) : jH9 R = false := by
 unfold jH9
 rw [List.any_eq_false]
 intro e he
 have := h e he
 simp [isPtr]
 omega
theorem size_one (e : En) (he : e.ok) : sizeQ [e] ≤ 50 := by
 have h1 : jF2 [e] := fun x hx => by rw [List.mem_singleton.1 hx]; exact he
 have h := allB_len (numsQ_lt h1 (by simp))
 rw [numsQ_len] at h
 unfold sizeQ sumB
 simp only [List.length_singleton] at h
 split <;> omega
theorem pr_split {L : List It} (hok : ChOk L) (hlen : L.length ≤ 100) {b : Nat} (hb : 512 ≤ b ∧ b ≤ 16257) : (prS L b).2.2.2 = 0 := by
 have hw := wh_ok hok
 have hR := wh_len hok
 have hE : jF2 (prR L) := hw.ens
 have hrow : rowC (prR L) = 0 := hw.row
 have hp := no_ptr (R := prR L) fun e he => (hw.gr.ok e he).1
 unfold prS splitQ
 rw [if_neg (by omega), if_neg (by simpa using hrow), if_neg (by rw [hp]; decide)]
 split
 ·rfl
 refine splitG_ok 13 1 7 (by omega) ?_
 rw [show 1 * 2 ^ 7 = 128 from rfl]
 have hfl := pcs_flat (L := prR L) (z := 128) (by omega)
 have hpl : (pcs (prR L) 128).length ≤ 1 := by rw [pcs_len]; unfold cntP; omega
 unfold okQ
 rw [Bool.and_eq_true]
 match hpc : pcs (prR L) 128, hpl with
 | [], _ =>
  refine ⟨rfl, decide_eq_true ?_⟩
  have : sizeQ (jH8 0 []) ≤ 10 := by
   have h := allB_len (xs := jE2 []) (fun x hx => by rw [show jE2 [] = [0] from rfl] at hx; rw [List.mem_singleton.1 hx]; decide)
   rw [numsQ_len] at h
   show sizeQ [] ≤ 10
   unfold sizeQ sumB
   simp only [List.length_nil] at h
   split <;> omega
  omega
 | [P], _ =>
  rw [hpc] at hfl
  have hPR : P = prR L := by simpa using hfl
  subst hPR
  have hs := sumB_300 hE (by omega)
  have henc : (encQ (prR L)).2 = 0 := by unfold encQ; rw [if_pos hrow, if_neg (by omega)]
  refine ⟨by simp [henc], decide_eq_true ?_⟩
  have := size_one (rootE 0 (prR L)) (rootR_ok [prR L] 0 (fun P hP => by rw [List.mem_singleton.1 hP]; exact hE) (by simp) _ List.mem_cons_self)
  show (sizeQ [rootE 0 (prR L)] : Int) ≤ b
  omega
 | _ :: _ :: _, h => simp at h
theorem zoom_mono {a b : Nat} (hab : a ≤ b) (hb : b < 6004799503160661) : 0 ≤ zoomQ a ∧ zoomQ a ≤ zoomQ b ∧ zoomQ b ≤ 26 := by
 obtain ⟨y, h1, h2, h3, h4⟩ := zoom_ex hb
 obtain ⟨z, g1, g2, g3, g4⟩ := zoom_ex (k := a) (by omega)
 rw [h2, g2]
 refine ⟨by omega, ?_, by omega⟩
 rcases Nat.lt_or_ge y z with h | h
 ·exfalso
  have := base4_mono (show y + 1 ≤ z by omega)
  omega
 ·omega
theorem z_ok {L : List It} (hok : ChOk L) : 0 ≤ zLo L ∧ zLo L ≤ zHi L ∧ zHi L ≤ 26 := by
 unfold zLo zHi
 by_cases h : L = []
 ·rw [if_pos h, if_pos h]; omega
 rw [if_neg h, if_neg h]
 have hpos : 0 < L.length := List.length_pos_iff.2 h
 have e0 : itAt L 0 = L[0] := by simp [itAt, List.getElem?_eq_getElem hpos]
 have e1 : itAt L (L.length - 1) = L[L.length - 1] := by simp [itAt, List.getElem?_eq_getElem (show L.length - 1 < L.length by omega)]
 rw [e0, e1]
 refine zoom_mono ?_ (hok.lt _ (List.getElem_mem _))
 rcases Nat.eq_or_lt_of_le (show 1 ≤ L.length by omega) with h1 | h1
 ·simp [← h1]
 ·exact Nat.le_of_lt (List.pairwise_iff_getElem.1 hok.rise 0 (L.length - 1) hpos (by omega) (by omega))
theorem pair_no {lo hi a b c : Int} (h : (lo ≤ a ∧ a ≤ hi) ∧ (lo ≤ b ∧ b ≤ hi) ∧ (lo ≤ c ∧ c ≤ hi) ∧ a ≤ b) : ¬ pairV lo hi a b c = true := by
 obtain ⟨⟨h1, h2⟩, ⟨h3, h4⟩, ⟨h5, h6⟩, h7⟩ := h
 simp [pairV, wi, h1, h2, h3, h4, h5, h6, h7]
theorem head_chk {L : List It} (hok : ChOk L) {R : List En} {k : Nat} (hk : k ≤ 5) {q : P4} (hq : q.Ok) : jG3 (glueH (headQ L R k) q) = 0 := by
 obtain ⟨z1, z2, z3⟩ := z_ok hok
 have := hq.a; have := hq.b; have := hq.c; have := hq.d
 have hf : ∀ f l : Nat, f ≤ 100000 → l ≤ 20000 → fitsV f l = true := fun f l h1 h2 => by
  unfold fitsV
  rw [IntWalk.u64_in _ (by omega)]
  simp
  omega
 unfold jG3
 rw [if_neg, if_neg, if_neg, if_neg, if_neg]
 ·exact pair_no (lo := -900000000) (hi := 900000000) (a := -850511287) (b := 850511287) (c := 0) (by omega)
 ·exact pair_no (lo := -1800000000) (hi := 1800000000) (a := -1800000000) (b := 1800000000) (c := 0) (by omega)
 ·exact pair_no (lo := 0) (hi := 26) (a := zLo L) (b := zHi L) (c := zLo L) (by omega)
 ·show ¬ ((decide (4 < 1) || decide (4 < 1) || decide (5 < k)) = true)
  simp
  omega
 ·simp only [secsV, glueH, layH, withH]
  rw [hf _ _ (by omega) (by omega), hf _ _ (by omega) (by omega), hf _ _ (by omega) (by omega), hf _ _ (by omega) (by omega)]
  decide
structure Sm (L : List It) (p : Pn) : Prop where
 ok : ChOk L
 len : L.length ≤ 100
 by_ : jD8 L ≤ 10000
 b : 512 ≤ p.b ∧ p.b ≤ 16257
 k : p.k ≤ 5
 note : NoteOk p.note
 nl : p.note.length ≤ 4096
structure PrIs (L : List It) (p : Pn) : Prop where
 ok : PrOk L p
 e : prE L p = 0
 t : prT L p = encV (glueH (prH L p) (prP L p)) ++ (prP L p).all
 cut : cutE (prT L p) = 0 ∧ cutH (prT L p) = glueH (prH L p) (prP L p) ∧ cutP (prT L p) = prP L p
 dec : ∃ M n, decQ (prP L p).a = (M, n, 0) ∧ joinQ M (prP L p).c = (prR L, 0)
 len : (prT L p).length ≤ 60000
theorem Sm.pr {L : List It} {p : Pn} (h : Sm L p) : PrIs L p := by
 have hw := wh_ok h.ok
 have hR := wh_len h.ok
 have hE : jF2 (prR L) := hw.ens
 have hs := pr_split h.ok h.len h.b
 have hlen := h.len
 have hby := h.by_
 have hbb := h.b
 have hnl := h.nl
 have hD : (prD L).length ≤ 10000 := by
  have h1 := tsS_fl6 L []
  unfold prD
  rw [hw.fl.symm]
  unfold tsS
  simp only [List.flatten_nil, List.length_nil] at h1
  omega
 obtain ⟨M, s, m, e, hsp⟩ : ∃ M s m e, prS L p.b = (M, s, m, e) := ⟨_, _, _, _, rfl⟩
 rw [hsp] at hs
 obtain rfl : e = 0 := hs
 obtain ⟨b1, b2, ⟨S, b3, b4⟩, b5, _, _, _, b6⟩ := back_facts hE hsp
 have hP : prP L p = ⟨S, p.note, s, prD L⟩ := by unfold prP; rw [hsp, b3]
 have hPok : (prP L p).Ok := by
  rw [hP]
  exact ⟨by show S.length ≤ 20000; omega, by show p.note.length ≤ 20000; omega, by show s.length ≤ 20000; omega, by show (prD L).length ≤ 20000; omega⟩
 have hPr : PrOk L p := ⟨h.ok, h.b, h.k, h.note, hPok, by rw [hsp]; exact ⟨by show M.length ≤ 10000; omega, b1⟩, by omega, hE⟩
 have hc : jG3 (glueH (prH L p) (prP L p)) = 0 := head_chk h.ok (R := prR L) h.k hPok
 have he : prE L p = 0 := by
  unfold prE
  rw [hsp, if_neg (by simp), b3, if_neg (by simp)]
  exact hc
 have ht : prT L p = encV (glueH (prH L p) (prP L p)) ++ (prP L p).all := by
  unfold prT
  rw [if_pos he]
  unfold glueS
  rw [if_pos hc]
 have hho : (prH L p).Ok := headQ_ok (by omega) (by omega) h.k
 have hcut := glue_cut (prH L p) hho (prP L p) hPok hc []
 rw [List.append_nil, ← ht] at hcut
 refine ⟨hPr, he, ht, hcut, ?_, ?_⟩
 ·obtain ⟨c1, c2, c3⟩ := encQ_ok (L := M) (by rw [b3])
  have hS : S = allB (jE2 M) := by rw [b3] at c3; exact congrArg Prod.fst c3
  have hd := decQ_enc b1 c1 [] (by simp; omega)
  rw [List.append_nil, ← hS] at hd
  rw [hP]
  exact ⟨M, _, hd, b5⟩
 ·rw [ht, List.length_append, enc_len hc]
  have := hPok.a; have := hPok.b; have := hPok.c; have := hPok.d
  have hq : (prP L p).all.length = (prP L p).a.length + (prP L p).b.length + (prP L p).c.length + (prP L p).d.length := by simp only [P4.all, List.length_append]
  rw [hq, hP]
  simp only
  omega
theorem PrIs.rows {L : List It} {p : Pn} (h : PrIs L p) : nrE (prT L p) = 0 ∧ nrL (prT L p) = prR L ∧ nrT (prT L p) = prD L := by
 obtain ⟨M, n, d1, d2⟩ := h.dec
 obtain ⟨c1, c2, c3⟩ := h.cut
 have he : nrE (prT L p) = 0 := by
  unfold nrE
  rw [if_pos c1, c3, d1, if_pos rfl, d2]
  rfl
 refine ⟨he, ?_, ?_⟩
 ·unfold nrL
  rw [if_pos he, c3, d1, d2]
 ·unfold nrT
  rw [if_pos he, c3]
  rfl
theorem PrIs.read {L : List It} {p : Pn} (h : PrIs L p) : rdE (prT L p) = 0 ∧ rdO (prT L p) = L := by
 obtain ⟨h1, h2, h3⟩ := h.rows
 have hb := (wh_ok h.ok.ok).back h.ok.ok
 have hb' : mbQ (prR L) (prD L) = (0, L) := hb
 unfold rdE rdO
 rw [if_pos h1, if_pos h1, h2, h3, hb']
 exact ⟨rfl, rfl⟩
end Go.Proofs.YtkojkeabelckjaaGreatDoor
end

section
set_option linter.all false
namespace Go.Proofs.YtkojkeabelckjaaGreatDoor
open Go.RowKit
theorem fn_imp {P : Program} {f : FuncId} {vs : List Value} {H : Heap} {R R' : Value → Heap → Prop} (h : Fn P f vs H R) (hm : ∀ v H', R v H' → R' v H') : Fn P f vs H R' :=
 ⟨h.1, fun w hw => (h.2 w hw).mono fun e w' he => by
  obtain ⟨v, H', h1, h2, h3⟩ := he
  exact ⟨v, H', h1, hm v H' h2, h3⟩⟩
section
variable {P : Program} {N : Frm} {w0 : World} {Wr : List Nat} {ops : Array Oper} {rest : List Oper} {fr : Fr} {H : Heap} {Z : Fr → Heap → Prop}
variable {d ty : Nat} {pos : String} {after : Array Edge}
end
end Go.Proofs.YtkojkeabelckjaaGreatDoor
end

section
set_option linter.all false
namespace Go.Proofs.YtkojkeabelckjaaGreatDoor
open Go.RowKit Go.Proofs.YtkojkeabelckjaaGreatDoor.V Go.Proofs.YtkojkeabelckjaaGreatDoor.V.L Go.Proofs.YtkojkeabelckjaaGreatDoor.Y
set_option maxRecDepth 100000
def tpL : List It := [⟨0, [120]⟩]
def tpP : Pn := ⟨512, 0, [123, 125]⟩
theorem tp_ok : ChOk tpL := ⟨List.pairwise_singleton _ _, fun e he => by rw [List.mem_singleton.1 he]; decide, fun e he => by rw [List.mem_singleton.1 he]; decide, by decide⟩
theorem tp_sm : Sm tpL tpP := ⟨tp_ok, by decide, by decide, by decide, by decide, note0, by decide⟩
theorem tp_len : (prT tpL tpP).length = 135 := by kernel_rfl
theorem tp_of : ofQ tpL = 0 ∧ sortI tpL = tpL := ⟨by decide, rfl⟩
theorem cof_yes (A : Option Addr) (c : Nat) (L : List It) (T : Heap) (hA : jH1 A L.length) (hT : 0 < L.length → T = roE A (jA0 L)) (hro : Ro T) (hL : L.length ≤ 100000) (h : ofQ L = 0) :
  Fn Tryz.prog 16 [.slice A L.length c] T fun v H' => ∃ u, v = .tuple #[.agg #[u], iq 0] ∧ RowOk u (sortI L).length ∧ H' = rowE u 62 2 (jA0 (sortI L)) :=
 fn_imp (cof_fn A c L T hA hT hro hL) fun v H' hh => by
  obtain ⟨u, h1, ⟨_, h2, h3⟩ | ⟨h4, _⟩⟩ := hh
  ·exact ⟨u, by rw [h1, h]; rfl, h2, h3⟩
  ·exact absurd h h4
theorem tawake_fn : Fn Tryz.prog 6 [] [] fun v _ => v = .bool true := by
 have hpr := tp_sm.pr
 have hlen := tp_len
 have hread := hpr.read
 have hplen := hpr.len
 have hpe := hpr.e
 obtain ⟨S, hS⟩ : ∃ S, prT tpL tpP = S := ⟨_, rfl⟩
 have hof := fun A c T hA hT hro => cof_yes A c tpL T hA hT hro (by decide) tp_of.1
 rw [tp_of.2] at hof
 have hps := fun A c T hA hT hro => press_fn A c tpL T hA hT hro tpP hpr.ok
 rw [hpe, hS] at hps
 rw [hS] at hread hlen hplen
 have hnr := nread_fn S (by omega)
 rw [hread.1, hread.2] at hnr
 refine Fn.enter (N := 44) Tryz.func6 rfl (by kernel_rfl) rfl (fun w0 => ?_)
 refine aR fun Z hZ => sA rfl rfl <| sN (hZ _ _ ?_)
 refine aF [] (Kn.nil) ?_
 refine aR (fun Z hZ => ?_)
 refine jD1 tyZ62 tyP62 rfl rfl (by simp only [qS, Nat.reduceAdd, Value.cells, wrV]; rfl) rfl ?_
 refine sBS Tryz.underlying25 tyS62 tyZ62 rfl rfl rfl rfl (by simp only [qS, Nat.reduceAdd, Value.cells, wrV, Nat.reduceMul, Nat.zero_mul]; rfl) rfl (fun g1 => ?_)
 refine jC1 [.ro g1 0 (jA0 tpL)] (HLe.toRo [] []) ?_
 refine sx_callA [] [.ro g1 0 (jA0 tpL)] [.ro g1 0 (jA0 tpL)] (hof (some ⟨g1, 0, none⟩) 1 _ (fun _ => ⟨_, _, rfl⟩) (fun _ => rfl) (Ro.roE (some ⟨g1, 0, none⟩) (jA0 tpL))) rfl (HLe.refl _) (List.Sublist.refl _) (Ro.roE (some ⟨g1, 0, none⟩) (jA0 tpL)) rfl ?_
 rintro v H' ⟨u, rfl, hu, rfl⟩
 rw [jE4]
 obtain ⟨ga, ca, rfl⟩ := hu.some (by decide)
 refine jC1 [.ro ga 0 (jA0 tpL)] ((HLe.sub (List.sublist_append_left [.ro ga 0 (jA0 tpL)] _)).trans (HLe.rowRo [] _)) ?_
 refine sM rfl rfl <| sX rfl rfl rfl <| sX rfl rfl rfl ?_
 refine sAl tyZ27 rfl (fun g2 => ?_)
 refine sS 0 rfl rfl rfl tyS27 (by simp only [Value.cells]; rfl) rfl rfl rfl (by simp only [qS, wrV]; rfl) (by simp only [List.set_cons_zero]; rfl) ?_
 refine sA rfl rfl <| sN (hZ _ _ ?_)
 refine aF [(1, _), (2, _)] (kR rfl) ?_
 refine jA8 [.own g2 27 [.slice (some ⟨ga, 0, none⟩) 1 ca], .ro ga 0 (jA0 tpL)] (HLe.refl _) ?_
 refine aR (fun Z hZ => ?_)
 refine sLA 0 rfl rfl tyA27 tyS27 rfl (by simp only [qS]; rfl) rfl ?_
 refine jD1 tyZ31 tyP31 rfl rfl (by simp only [qS, Nat.reduceAdd, Value.cells, wrV]; rfl) rfl ?_
 refine jD6 [.ro ga 0 (jA0 tpL)] (hps (some ⟨ga, 0, none⟩) ca _ (fun _ => ⟨_, _, rfl⟩) (fun _ => rfl) (Ro.roE (some ⟨ga, 0, none⟩) (jA0 tpL))) rfl (List.sublist_append_right [_] [_]) (Ro.roE (some ⟨ga, 0, none⟩) (jA0 tpL)) rfl ?_
 refine sM rfl rfl <| sX rfl rfl rfl <| sX rfl rfl rfl <| sA rfl rfl <| sA rfl rfl <| sN (hZ _ _ ?_)
 refine aF [(1, _), (2, _), (3, _), (4, _)] (kR rfl) ?_
 refine aR fun Z hZ => sM rfl rfl ?_
 refine jD3 [] _ hnr rfl (HLe.refl _) rfl ?_
 rintro v H' ⟨u, rfl, hu, rfl⟩
 rw [jE4]
 obtain ⟨gb, cb, rfl⟩ := hu.some (by decide)
 refine jC1 [.ro gb 0 (jA0 tpL), .own g2 27 [.slice (some ⟨ga, 0, none⟩) 1 ca], .ro ga 0 (jA0 tpL)] (HLe.rowRo [] _) ?_
 refine sM rfl rfl <| sX rfl rfl rfl <| sX rfl rfl rfl ?_
 refine sAl tyZ27 rfl (fun g3 => ?_)
 refine sS 0 rfl rfl rfl tyS27 (by simp only [Value.cells]; rfl) rfl rfl rfl (by simp only [qS, wrV]; rfl) (by simp only [List.set_cons_zero]; rfl) ?_
 refine sA rfl rfl <| sN (hZ _ _ ?_)
 refine aF [(1, _), (2, _), (3, _), (4, _), (5, _), (6, _)] (kR rfl) ?_
 refine jA7 [(0, .bool true)] [] (fun Z hZ => ?_) ?_
 ·refine sM rfl rfl ?_
  refine jC8 rfl rfl rfl ?_
  refine sM rfl rfl ?_
  refine jF8 26 rfl true (by first | rfl | (simp [hlen]; done)) ?_
  refine sOn rfl rfl rfl ?_
  refine sM rfl rfl ?_
  refine sOn rfl rfl rfl ?_
  refine jC8 rfl rfl rfl ?_
  refine sP rfl rfl rfl <| sM rfl rfl ?_
  refine jF8 30 rfl true (by first | rfl | (simp [hlen]; done)) ?_
  refine sOn rfl rfl rfl ?_
  refine sM rfl rfl ?_
  refine sOn rfl rfl rfl ?_
  refine jF0 Tryz.underlying9 rfl rfl ?_
  refine sOn rfl rfl rfl ?_
  refine jC8 rfl rfl rfl ?_
  refine sP rfl rfl rfl <| sM rfl rfl ?_
  refine jF8 35 rfl true (by first | rfl | (simp [hlen]; done)) ?_
  refine sOn rfl rfl rfl ?_
  refine sM rfl rfl ?_
  refine sOn rfl rfl rfl ?_
  refine jC8 rfl rfl rfl ?_
  refine sP rfl rfl rfl <| sM rfl rfl ?_
  refine jF8 39 rfl true (by first | rfl | (simp [hlen]; done)) ?_
  refine sOn rfl rfl rfl ?_
  refine sLA 2 rfl rfl tyA27 tyS27 rfl (by simp only [qS]; rfl) rfl ?_
  refine sOn rfl rfl rfl ?_
  refine sLA 0 rfl rfl tyA27 tyS27 rfl (by simp only [qS]; rfl) rfl ?_
  refine sOn rfl rfl rfl ?_
  refine sx_callV ([.ro ga 0 (jA0 tpL)] ++ [.ro gb 0 (jA0 tpL)]) (csame_fn (some ⟨ga, 0, none⟩) ca tpL _ (fun _ => ⟨_, _, rfl⟩) (fun _ => rfl) (Ro.roE (some ⟨ga, 0, none⟩) (jA0 tpL)) (by decide) (some ⟨gb, 0, none⟩) cb tpL _ (fun _ => ⟨_, _, rfl⟩) (fun _ => rfl) (Ro.roE (some ⟨gb, 0, none⟩) (jA0 tpL)) (by decide)) rfl (HLe.pick [3, 1] (by simp) rfl) ((Ro.roE (some ⟨ga, 0, none⟩) (jA0 tpL)).append (Ro.roE (some ⟨gb, 0, none⟩) (jA0 tpL))) rfl ?_
  rw [show sameI tpL tpL = true from by decide]
  refine sP rfl rfl rfl <| sA rfl rfl ?_
  refine sN (hZ _ _ ?_ ?_)
  ·exact Kn.cons rfl Kn.nil
  ·exact HLe.sub (List.nil_sublist _)
 refine aE ?_
 exact nR1 rfl rfl rfl
end Go.Proofs.YtkojkeabelckjaaGreatDoor
end

section
set_option linter.all false
namespace Go.Proofs.YtkojkeabelckjaaGreatDoor
open Go.RowKit
set_option maxRecDepth 100000
def cck_rho : Go.Shelf.Ren := ⟨fun n => match n with | 0 => 0 | 1 => 1 | 2 => 2 | 99 => 152 | 103 => 173 | 119 => 225 | 120 => 224 | 125 => 81 | 128 => 129 | 129 => 130 | 137 => 131 | 150 => 175 | 151 => 211 | 152 => 213 | 153 => 203 | 156 => 62 | 160 => 174 | 161 => 172 | 165 => 104 | 166 => 105 | 168 => 190 | 169 => 106 | 171 => 230 | 172 => 176 | 197 => 191 | 205 => 229 | 206 => 184 | 210 => 199 | 217 => 164 | 224 => 226 | 225 => 227 | 226 => 214 | 227 => 196 | 228 => 210 | 231 => 195 | 232 => 200 | 233 => 197 | 234 => 201 | 235 => 198 | 236 => 202 | 240 => 149 | 241 => 150 | 242 => 208 | 243 => 234 | 244 => 204 | 245 => 205 | 246 => 235 | 247 => 215 | 260 => 209 | 266 => 188 | 271 => 212 | 276 => 182 | 277 => 183 | 278 => 223 | 279 => 216 | 280 => 217 | 281 => 218 | 282 => 219 | 283 => 236 | 284 => 237 | 285 => 238 | 286 => 239 | 287 => 228 | 316 => 141 | 317 => 240 | 318 => 241 | 319 => 242 | 320 => 243 | 321 => 232 | 322 => 233 | 329 => 160 | 330 => 161 | 337 => 244 | 338 => 245 | 347 => 246 | 348 => 247 | 349 => 248 | 350 => 249 | 351 => 250 | 352 => 251 | 353 => 252 | 354 => 253 | 355 => 254 | 356 => 255 | 357 => 256 | 358 => 257 | 359 => 258 | 360 => 259 | 361 => 260 | 362 => 265 | 363 => 269 | 364 => 267 | 365 => 268 | 366 => 270 | 367 => 280 | _ => 0, fun n => match n with | 0 => 0 | 1 => 1 | 2 => 2 | 3 => 3 | 4 => 4 | 5 => 5 | 6 => 6 | 7 => 7 | 8 => 8 | 9 => 9 | 10 => 10 | 11 => 11 | 12 => 12 | 13 => 13 | 14 => 14 | 15 => 15 | 16 => 16 | 17 => 17 | 18 => 18 | 19 => 19 | 20 => 20 | 21 => 21 | 22 => 256 | 23 => 283 | 24 => 103 | 25 => 284 | 27 => 312 | 28 => 247 | 31 => 147 | 37 => 132 | 40 => 332 | 41 => 282 | 46 => 48 | 47 => 172 | 51 => 112 | 52 => 243 | 53 => 45 | 54 => 193 | 55 => 244 | 63 => 317 | 64 => 318 | 67 => 146 | 69 => 190 | 70 => 203 | 71 => 204 | 72 => 205 | 73 => 206 | 74 => 207 | 75 => 208 | 76 => 209 | 77 => 210 | 79 => 301 | 80 => 126 | 81 => 148 | 83 => 338 | 84 => 346 | 85 => 320 | 86 => 321 | 99 => 288 | 104 => 342 | 105 => 302 | 106 => 303 | 108 => 337 | 111 => 289 | 114 => 164 | 115 => 306 | 116 => 307 | 117 => 308 | 118 => 309 | 119 => 328 | 122 => 305 | 123 => 310 | 124 => 311 | 126 => 316 | 127 => 254 | 128 => 313 | 131 => 101 | 137 => 329 | 138 => 330 | 139 => 331 | 143 => 343 | 144 => 344 | 145 => 345 | 148 => 232 | 164 => 290 | 165 => 291 | 166 => 292 | 167 => 319 | 168 => 322 | 169 => 323 | 170 => 324 | 171 => 347 | 172 => 348 | 173 => 349 | 174 => 350 | 175 => 333 | 176 => 334 | 182 => 237 | 183 => 238 | 203 => 339 | 209 => 335 | 210 => 336 | 211 => 351 | 212 => 352 | 213 => 353 | 214 => 341 | 218 => 268 | 219 => 269 | 220 => 218 | 222 => 271 | 228 => 296 | 229 => 297 | 232 => 354 | 233 => 355 | 238 => 356 | 239 => 357 | 240 => 358 | 241 => 359 | 242 => 360 | 243 => 361 | 244 => 362 | 245 => 363 | 246 => 364 | 247 => 365 | 248 => 366 | 249 => 367 | _ => 0, fun n => match n with | 1 => 0 | 3 => 1 | 4 => 2 | 15 => 3 | 16 => 4 | 17 => 5 | 18 => 6 | 19 => 7 | _ => 0⟩
theorem cck0 : Lays.n240 Tryz.prog cck_rho where
 mixed := by kernel_rfl
 f240 := by kernel_rfl
 f276 := by kernel_rfl
 t0 := by kernel_rfl
 a0 := fun w => by kernel_rfl
 z0 := fun w => by kernel_rfl
 v0 := fun w => by kernel_rfl
 t4 := by kernel_rfl
 a4 := fun w => by kernel_rfl
 z4 := fun w => by kernel_rfl
 v4 := fun w => by kernel_rfl
 t9 := by kernel_rfl
 a9 := fun w => by kernel_rfl
 z9 := fun w => by kernel_rfl
 v9 := fun w => by kernel_rfl
 t20 := by kernel_rfl
 a20 := fun w => by kernel_rfl
 z20 := fun w => by kernel_rfl
 v20 := fun w => by kernel_rfl
 t70 := by kernel_rfl
 a70 := fun w => by kernel_rfl
 z70 := fun w => by kernel_rfl
 v70 := fun w => by kernel_rfl
 t72 := by kernel_rfl
 a72 := fun w => by kernel_rfl
 z72 := fun w => by kernel_rfl
 v72 := fun w => by kernel_rfl
 t164 := by kernel_rfl
 a164 := fun w => by kernel_rfl
 z164 := fun w => by kernel_rfl
 v164 := fun w => by kernel_rfl
theorem cck1 : Builder.X72 Tryz.prog cck_rho where
 sizeBuilder := by kernel_rfl
 liesBuilder := by kernel_rfl
theorem enter_cck : Enters Tryz.prog 149 := Enters.mk Tryz.func149 (by kernel_rfl) (by kernel_rfl)
abbrev bldE (g : Nat) (p v : Value) : Ent := .own g 205 [p, v]
theorem cck_fn (g : Nat) (p v : Value) (hp : p = .pointer none ∨ p = ptr g 0) : Fn Tryz.prog 149 [ptr g 0] [bldE g p v] fun u H' => u = .tuple #[] ∧ H' = [bldE g (ptr g 0) v] :=
 ⟨enter_cck, fun w hw => by
  have hm : w.heap[g]? = some (.cells [p, v].toArray 205 (0, 0)) := hw.mem (i := 0) (e := bldE g p v) rfl
  rcases hp with rfl | rfl
  ·refine (Any.Builder_copyCheck_fresh cck0 cck1 g w (by simp [World.cell?, hm]) (by simp [World.shape?, hm]; rfl) (by simp [World.frozen?, hm])).mono ?_
   rintro e w' ⟨rfl, rfl⟩
   exact ⟨_, _, rfl, ⟨rfl, rfl⟩, hw.turn (i := 0) rfl rfl (e' := bldE g (ptr g 0) v) rfl (Only.setCell w g 0 _) (Ent.setCell hm 0 (ptr g 0))⟩
  ·refine (Any.Builder_copyCheck_used cck0 cck1 g w (by simp [World.cell?, hm, ptr])).mono ?_
   rintro e w' ⟨rfl, rfl⟩
   exact ⟨_, _, rfl, ⟨rfl, rfl⟩, hw⟩⟩
section
variable {P : Program} {N : Frm} {w0 : World} {Wr : List Nat} {ops : Array Oper} {rest : List Oper} {fr : Fr} {H : Heap} {Z : Fr → Heap → Prop}
variable {d ty : Nat} {pos : String} {after : Array Edge}
theorem sx_sliceData {t : TypeId} {x : Operand} {b : Addr} {n c : Nat} (hx : ev fr x = some (.slice (some b) n c)) (hc : c ≠ 0) (hN : Nat.ble (d + 1) N.n = true)
  (h : sx P N w0 Wr ops rest ((d, .pointer (some b)) :: fr) H Z) : sx P N w0 Wr ops (⟨some d, .call { callee := .builtin .unsafeSliceData, args := #[x], argTypes := #[t] }, ty, pos, after, none⟩ :: rest) fr H Z :=
 jE3 _ hN (fun a w ha _ => by
  have := ha.eval hx
  simp [execOp, resolve, invoke, builtin, this, Sem.run_bind, Lib.run_unsafeSliceData_row (P := P) w _ _ _ _ _ hc]) h
theorem sx_sliceDataN {t : TypeId} {x : Operand} (hx : ev fr x = some (.slice none 0 0)) (hN : Nat.ble (d + 1) N.n = true)
  (h : sx P N w0 Wr ops rest ((d, .pointer none) :: fr) H Z) : sx P N w0 Wr ops (⟨some d, .call { callee := .builtin .unsafeSliceData, args := #[x], argTypes := #[t] }, ty, pos, after, none⟩ :: rest) fr H Z :=
 jE3 _ hN (fun a w ha _ => by
  have := ha.eval hx
  have hd : (Builtin.unsafeSliceData_ #[t] ty #[.slice none 0 0]).run P w = .ok (.pointer none) w := rfl
  simp [execOp, resolve, invoke, builtin, this, Sem.run_bind, hd]) h
theorem sx_unsafeStringN {t i : TypeId} {x y : Operand} {p : Option Addr} (hx : ev fr x = some (.pointer p)) (hy : ev fr y = some (iq 0)) (hN : Nat.ble (d + 1) N.n = true)
  (h : sx P N w0 Wr ops rest ((d, .string (str [])) :: fr) H Z) : sx P N w0 Wr ops (⟨some d, .call { callee := .builtin .unsafeString, args := #[x, y], argTypes := #[t, i] }, ty, pos, after, none⟩ :: rest) fr H Z :=
 jE3 _ hN (fun a w ha _ => by
  have h1 := ha.eval hx
  have h2 := ha.eval hy
  simp only [execOp, resolve, List.map_toArray, List.map_cons, List.map_nil, h1, h2, Sem.run_bind, Sem.run_pure, Result.andThen_ok, invoke, builtin, Lib.run_unsafeString_none]
  rfl) h
theorem sx_unsafeString (i : Nat) {t it e : TypeId} {x y : Operand} {g n c : Nat} {l : List UInt8} (ht : P.underlying t = some (.pointer e)) (hc : P.cellsOf e = 1) (hx : ev fr x = some (ptr g 0)) (hy : ev fr y = some (iq (n : Nat))) (hH : H[i]? = some (.ob g (RowP e 1 n c (bv l)))) (h0 : l ≠ []) (hn : n = l.length) (hN : Nat.ble (d + 1) N.n = true)
  (h : sx P N w0 Wr ops rest ((d, .string (str l)) :: fr) (H.set i (.ro g 0 (bv l))) Z) : sx P N w0 Wr ops (⟨some d, .call { callee := .builtin .unsafeString, args := #[x, y], argTypes := #[t, it] }, ty, pos, after, none⟩ :: rest) fr H Z := by
 subst hn
 refine sx_make (R := fun v H' => v = .string (str l) ∧ H' = H.set i (.ro g 0 (bv l))) hN (fun a w ha hw => ?_) (fun v H' hR => by obtain ⟨rfl, rfl⟩ := hR; exact h)
 obtain ⟨ob, h1, cur, rfl, h2, h3, h4, h5, h6⟩ := hw.mem hH
 have h1' : w.heap[g]? = some (.cells cur e (0, 0)) := h1
 have had : ∀ j : Nat, (⟨g, 0, none⟩ : Addr).add j = ⟨g, j, none⟩ := fun j => by unfold Addr.add; split <;> simp_all
 have hcell : ∀ j x, l[j]? = some x → w.cell? ((⟨g, 0, none⟩ : Addr).add j) = some (.int .u8 x.toNat) := fun j x hj => by
  have hu : (bv l)[j]? = some (.int .u8 (x.toNat : Int)) := by simp [bv, hj]
  rw [← h5, List.getElem?_take] at hu
  split at hu
  ·rw [had j, cell_of_row w g j cur e (0, 0) h1']
   simpa using hu
  ·cases hu
 have hrun := Lib.run_unsafeString_row (P := P) w t it ty e ht hc g cur.size (by simp [World.shape?, h1']) l h0 (by omega) (by unfold maxLen at h3; omega) hcell
 refine ⟨_, w.freeze ⟨g, 0, none⟩ l.length, _, ?_, ⟨rfl, rfl⟩, hw.turn hH rfl (e' := .ro g 0 (bv l)) rfl ?_ ?_⟩
 ·simp only [execOp, resolve, List.map_toArray, List.map_cons, List.map_nil, ha.eval hx, ha.eval hy, Sem.run_bind, Sem.run_pure, Result.andThen_ok, invoke, builtin, ptr, hrun]
  rfl
 ·refine ⟨by simp [World.freeze, h0], by simp [World.freeze, h0], by simp [World.freeze, h0], by simp [World.freeze, h0], fun k _ hk => ?_⟩
  have hk' : g ≠ k := fun e => hk (by simp [Ent.g, e])
  simp [World.freeze, h0, Array.getElem?_modify, hk']
 ·have hl : g < w.heap.size := (Array.getElem?_eq_some_iff.1 h1').1
  refine ⟨by simpa [World.freeze, h0, Ent.g] using hl, fun j u hu => ?_⟩
  have hj : l[j]?.isSome := by
   simp only [bv, List.getElem?_map, Option.map_eq_some_iff] at hu
   obtain ⟨x, hx, _⟩ := hu
   rw [hx]; rfl
  obtain ⟨x, hx'⟩ := Option.isSome_iff_exists.1 hj
  have hux : u = .int .u8 (x.toNat : Int) := by simpa [bv, hx'] using hu.symm
  have hc2 := hcell j x hx'
  rw [had j] at hc2
  rw [Nat.zero_add, hux, ← hc2]
  simp [World.freeze, h0, World.cell?, Array.getElem?_modify, h1']
end
abbrev i32v (c : UInt8) : Value := .int .i32 (c.toNat : Int)
theorem arune_fn (v : Value) (n : Nat) (l : List UInt8) (c : UInt8) (hc : c.toNat < 128) (hv : RowOk v n) (hn : n = l.length) (hl : l.length ≤ 1000000) :
  Fn Tryz.prog 208 [v, i32v c] (rowE v 5 1 (bv l)) fun u H' => RowOk u (n + 1) ∧ H' = rowE u 5 1 (bv (l ++ [c])) := by
 refine Fn.enter (N := 16) Tryz.func208 rfl (by kernel_rfl) rfl (fun w0 => ?_)
 refine aR fun Z hZ => sA rfl rfl <| sN (hZ _ _ ?_)
 refine aF [(0, _), (1, _)] (kR rfl) ?_
 refine aS ?_
 refine jA7 [(0, v), (1, i32v c), (7, .bool true)] (rowE v 5 1 (bv l)) (fun Z hZ => ?_) ?_
 ·refine sM rfl rfl ?_
  refine jC2 Tryz.underlying21 Tryz.underlying112 rfl ((c.toNat : Nat) : Int) (IntWalk.u32_in _ (by omega)) rfl ?_
  refine sx_leq rfl rfl rfl ?_
  refine sN (hZ _ _ ?_ ?_)
  ·exact Kn.cons rfl (Kn.cons rfl (Kn.cons (congrArg some (congrArg Value.bool (by simp; omega))) Kn.nil))
  ·exact HLe.refl _
 refine aC rfl (fun h => ?_) (fun h => ?_)
 ·refine aR (fun Z hZ => ?_)
  refine sM rfl rfl <| sM rfl rfl ?_
  refine jC2 Tryz.underlying21 Tryz.underlying5 rfl ((c.toNat : Nat) : Int) (IntWalk.u8_in _ (by omega)) rfl ?_
  refine sBS Tryz.underlying132 tyS5 tyZ5 rfl rfl rfl rfl (by simp only [qS, Value.cells, wrV, jG9, List.replicate_succ, List.replicate_zero, Nat.reduceMul, Nat.zero_mul]; rfl) rfl (fun g1 => ?_)
  refine jD2 [_] elemU8 rfl hv (by rw [bv_length, hn, Nat.mul_one]) rfl (fun w hw => rd_own (i := 0) (n := 1) (xs := bv [c]) rfl rfl hw) rfl (by show _ ≤ 9223372036854775807; omega) (by omega) (HLe.refl _) rfl (fun v2 hv2 => ?_)
  refine sA rfl rfl <| sN (hZ _ _ ?_)
  refine aF [(4, _)] (Kn.cons rfl (Kn.nil)) ?_
  refine aE ?_
  repeat (with_reducible refine nTR ?_)
  exact jD4 (rowE v2 5 1 (bv l ++ bv [c])) rfl rfl (HLe.sub (List.sublist_append_right [_] _)) ⟨hv2, by rw [bv_append]⟩
 ·cases h
theorem decr_fn (s : List UInt8) (c : UInt8) (hs : s[0]? = some c) (hc : c.toNat < 128) : Fn Tryz.prog 191 [.string (str s)] [] fun v _ => v = .tuple #[i32v c, iq 1] := by
 obtain ⟨hl, hg⟩ := List.getElem?_eq_some_iff.1 hs
 have hne : s ≠ [] := fun h => by rw [h] at hs; cases hs
 refine Fn.enter (N := 19) Tryz.func191 rfl (by kernel_rfl) rfl (fun w0 => ?_)
 refine aR fun Z hZ => sA rfl rfl <| sA rfl rfl <| sN (hZ _ _ ?_)
 refine aF [(0, _)] (Kn.cons rfl (Kn.nil)) ?_
 refine aS ?_
 refine jA7 [(0, .string (str s)), (10, .bool true)] [] (fun Z hZ => ?_) ?_
 ·refine sM rfl rfl ?_
  refine sx_sneq rfl rfl rfl ?_
  refine sM rfl rfl ?_
  refine jF8 6 rfl true (by simp [hne]) ?_
  refine sOn rfl rfl rfl ?_
  refine sM rfl rfl ?_
  refine sOn rfl rfl rfl ?_
  refine sx_indexS Tryz.underlying9 rfl rfl (by omega) (by simpa using hs) rfl ?_
  refine sOn rfl rfl rfl ?_
  refine jC4 rfl rfl rfl ?_
  refine sP rfl rfl rfl ?_
  refine sN (hZ _ _ ?_ ?_)
  ·exact Kn.cons rfl (Kn.cons (congrArg some (congrArg Value.bool (by simp; omega))) Kn.nil)
  ·exact HLe.refl _
 refine aC rfl (fun h => ?_) (fun h => ?_)
 ·refine aR (fun Z hZ => ?_)
  refine sM rfl rfl ?_
  refine sx_indexS Tryz.underlying9 rfl rfl (by omega) (by simpa using hs) rfl ?_
  refine jC2 Tryz.underlying5 Tryz.underlying21 rfl ((c.toNat : Nat) : Int) (IntWalk.i32_in _ (by omega)) rfl ?_
  refine sA rfl rfl <| sA rfl rfl <| sN (hZ _ _ ?_)
  refine aF [(2, _), (3, _)] (kR rfl) ?_
  refine aE ?_
  repeat (with_reducible refine nTR ?_)
  exact jF9 rfl rfl rfl rfl
 ·cases h
theorem wrune_fn (g : Nat) (p v : Value) (l : List UInt8) (c : UInt8) (hc : c.toNat < 128) (hp : p = .pointer none ∨ p = ptr g 0) (hv : RowOk v l.length) (hl : l.length ≤ 1000000) :
  Fn Tryz.prog 190 [ptr g 0, i32v c] ([bldE g p v] ++ rowE v 5 1 (bv l)) fun u H' => u = .tuple #[iq 1, .nilIface] ∧ ∃ v', RowOk v' (l.length + 1) ∧ H' = [bldE g (ptr g 0) v'] ++ rowE v' 5 1 (bv (l ++ [c])) := by
 obtain ⟨A, cp, rfl, hA⟩ := hv.form
 refine Fn.enter (N := 30) Tryz.func190 rfl (by kernel_rfl) rfl (fun w0 => ?_)
 refine aR fun Z hZ => sA rfl rfl <| sA rfl rfl <| sN (hZ _ _ ?_)
 refine aF [(0, _), (1, _)] (kR rfl) ?_
 refine aR fun Z hZ => sM rfl rfl ?_
 refine jD3 [bldE g p (.slice A l.length cp)] (rowE (.slice A l.length cp) 5 1 (bv l)) (cck_fn g p _ hp) rfl (HLe.refl _) rfl ?_
 rintro v H' ⟨rfl, rfl⟩
 refine sN (hZ _ _ ?_)
 refine aF [(0, _), (1, _)] (kR rfl) ?_
 refine aR fun Z hZ => sM rfl rfl ?_
 refine jA5 rfl rfl ?_
 refine sFA rfl tyF205_1 (by simp only [Nat.zero_add]; rfl) rfl ?_
 first | refine sL 0 rfl rfl tyA132 tyS132 rfl rfl ?_
 refine jD9 Tryz.underlying132 rfl rfl ?_
 refine sA rfl rfl <| sN (hZ _ _ ?_)
 refine aF [(0, _), (1, _), (6, _)] (kR rfl) ?_
 refine aR fun Z hZ => sM rfl rfl <| sM rfl rfl ?_
 refine jA5 rfl rfl ?_
 refine sFA rfl tyF205_1 (by simp only [Nat.zero_add]; rfl) rfl ?_
 first | refine sL 0 rfl rfl tyA132 tyS132 rfl rfl ?_
 refine sM rfl rfl ?_
 refine jD3 (rowE (.slice A l.length cp) 5 1 (bv l)) [bldE g (ptr g 0) (.slice A l.length cp)] (arune_fn _ _ l c hc hv rfl hl) rfl (HLe.swap _ _) rfl ?_
 rintro v2 H' ⟨hv2, rfl⟩
 rw [jE4]
 obtain ⟨A2, cp2, rfl, hA2⟩ := hv2.form
 refine jC1 ([bldE g (ptr g 0) (.slice A l.length cp)] ++ rowE (.slice A2 (l.length + 1) cp2) 5 1 (bv (l ++ [c]))) (HLe.swap _ _) ?_
 refine jA5 rfl rfl ?_
 refine sFA rfl tyF205_1 (by simp only [Nat.zero_add]; rfl) rfl ?_
 first | refine sS1 0 rfl rfl rfl tyS132 rfl rfl (by simp only [qS]; rfl) rfl ?_
 refine sN (hZ _ _ ?_)
 refine aF [(0, _), (6, _)] (kR rfl) ?_
 refine aR fun Z hZ => sM rfl rfl ?_
 refine jA5 rfl rfl ?_
 refine sFA rfl tyF205_1 (by simp only [Nat.zero_add]; rfl) rfl ?_
 first | refine sL 0 rfl rfl tyA132 tyS132 rfl rfl ?_
 refine jD9 Tryz.underlying132 rfl rfl ?_
 refine sM rfl rfl ?_
 refine sx_sub rfl rfl _ rfl rfl ?_
 refine sA rfl rfl <| sA rfl rfl <| sN (hZ _ _ ?_)
 refine aF [(4, _), (5, _)] (kR rfl) ?_
 refine aE ?_
 exact jB4 ([bldE g (ptr g 0) (.slice A2 (l.length + 1) cp2)] ++ rowE (.slice A2 (l.length + 1) cp2) 5 1 (bv (l ++ [c]))) rfl rfl rfl (HLe.refl _) ⟨by rw [show IntKind.i64.wrap (((l.length + 1 : Nat) : Int) - ((l.length : Nat) : Int)) = 1 by rw [IntWalk.i64_in _ (by omega)]; omega], _, hv2, rfl⟩
theorem bstr_fn (g : Nat) (p v : Value) (l : List UInt8) (hv : RowOk v l.length) (h0 : l = [] → v = .slice none 0 0) :
  Fn Tryz.prog 106 [ptr g 0] ([bldE g p v] ++ rowE v 5 1 (bv l)) fun u _ => u = .string (str l) := by
 refine Fn.enter (N := 14) Tryz.func106 rfl (by kernel_rfl) rfl (fun w0 => ?_)
 refine aR fun Z hZ => sA rfl rfl <| sN (hZ _ _ ?_)
 refine aF [(0, _)] (Kn.cons rfl (Kn.nil)) ?_
 rcases hv with ⟨rfl, hl0⟩ | ⟨g', cp, rfl⟩
 ·have hl : l = [] := List.length_eq_zero_iff.1 hl0
  subst hl
  refine jD0 _ [(0, true), (1, true), (2, true), (3, true), (4, false), (5, true), (6, true), (7, true), (8, true), (9, true), (10, false), (11, true)] mixed (by kernel_rfl) (HLe.pick [0] (by simp) (by simp only [pick, List.filterMap_cons, List.filterMap_nil]; rfl)) (fun Z hZ => ?_)
  refine tw_p rfl ?_
  refine jA3 rfl rfl ?_
  refine vN ?_
  refine tw_p rfl ?_
  refine jF6 rfl rfl ?_
  refine vN ?_
  refine tw_p rfl ?_
  refine jA2 rfl tyF205_1 (by simp only [Nat.zero_add]; rfl) rfl ?_
  refine vN ?_
  refine tw_p rfl ?_
  first | refine jE6 0 rfl rfl tyA132 tyS132 rfl rfl ?_
  refine vN ?_
  refine tw_g rfl ?_
  refine sx_sliceDataN rfl rfl ?_
  refine sN ⟨HLe.pick [0] (by simp) rfl, ?_⟩
  refine tw_p rfl ?_
  refine jA3 rfl rfl ?_
  refine vN ?_
  refine tw_p rfl ?_
  refine jF6 rfl rfl ?_
  refine vN ?_
  refine tw_p rfl ?_
  refine jA2 rfl tyF205_1 (by simp only [Nat.zero_add]; rfl) rfl ?_
  refine vN ?_
  refine tw_p rfl ?_
  first | refine jE6 0 rfl rfl tyA132 tyS132 rfl rfl ?_
  refine vN ?_
  refine tw_p rfl ?_
  refine sv_len Tryz.underlying132 rfl rfl ?_
  refine vN ?_
  refine tw_g rfl ?_
  refine sx_unsafeStringN rfl rfl rfl ?_
  refine sN ⟨HLe.pick [0] (by simp) rfl, ?_⟩
  refine tw_p rfl ?_
  refine jD7 rfl rfl ?_
  refine vN ?_
  refine jH2 (hZ _ _ ?_)
  refine aF [(2, _)] (Kn.cons rfl (Kn.nil)) ?_
  refine aE ?_
  exact nR1 rfl rfl rfl
 ·have hl : l ≠ [] := fun h => by cases h0 h
  refine awp_pure (fun w hw => row_cap (RowOk.mk g' l.length cp) (fun x hx => List.mem_append_right _ hx) hw) (fun hcap => ?_)
  have hpos : 0 < l.length := List.length_pos_iff.2 hl
  refine jD0 _ [(0, true), (1, true), (2, true), (3, true), (4, false), (5, true), (6, true), (7, true), (8, true), (9, true), (10, false), (11, true)] mixed (by kernel_rfl) (HLe.pick [0] (by simp) (by simp only [pick, List.filterMap_cons, List.filterMap_nil]; rfl)) (fun Z hZ => ?_)
  refine tw_p rfl ?_
  refine jA3 rfl rfl ?_
  refine vN ?_
  refine tw_p rfl ?_
  refine jF6 rfl rfl ?_
  refine vN ?_
  refine tw_p rfl ?_
  refine jA2 rfl tyF205_1 (by simp only [Nat.zero_add]; rfl) rfl ?_
  refine vN ?_
  refine tw_p rfl ?_
  first | refine jE6 0 rfl rfl tyA132 tyS132 rfl rfl ?_
  refine vN ?_
  refine tw_g rfl ?_
  refine sx_sliceData rfl (by have := hcap.1; omega) rfl ?_
  refine sN ⟨HLe.pick [0] (by simp) rfl, ?_⟩
  refine tw_p rfl ?_
  refine jA3 rfl rfl ?_
  refine vN ?_
  refine tw_p rfl ?_
  refine jF6 rfl rfl ?_
  refine vN ?_
  refine tw_p rfl ?_
  refine jA2 rfl tyF205_1 (by simp only [Nat.zero_add]; rfl) rfl ?_
  refine vN ?_
  refine tw_p rfl ?_
  first | refine jE6 0 rfl rfl tyA132 tyS132 rfl rfl ?_
  refine vN ?_
  refine tw_p rfl ?_
  refine sv_len Tryz.underlying132 rfl rfl ?_
  refine vN ?_
  refine tw_g rfl ?_
  refine sx_unsafeString 1 Tryz.underlying254 (by kernel_rfl) rfl rfl rfl hl rfl rfl ?_
  refine sN ⟨HLe.pick [0] (by simp) rfl, ?_⟩
  refine tw_p rfl ?_
  refine jD7 rfl rfl ?_
  refine vN ?_
  refine jH2 (hZ _ _ ?_)
  refine aF [(2, _)] (Kn.cons rfl (Kn.nil)) ?_
  refine aE ?_
  exact nR1 rfl rfl rfl
def plC8 (c : UInt8) : Prop := 32 ≤ c.toNat ∧ c.toNat < 128 ∧ c ≠ 34 ∧ c ≠ 92
theorem take_snoc {s : List UInt8} {a k : Nat} {c : UInt8} (h : s[a + k]? = some c) : (s.drop a).take (k + 1) = (s.drop a).take k ++ [c] := by
 rw [List.take_add_one, List.getElem?_drop, h]
 rfl
theorem jtake_fn (s : List UInt8) (a n : Nat) (hs : s.length ≤ 1000000) (ha : s[a]? = some 34) (hp : ∀ j, j < n → ∃ c, s[a + 1 + j]? = some c ∧ plC8 c) (hb : s[a + 1 + n]? = some 34) :
  Fn Tryz.prog 165 [.string (str s), iq (a : Nat)] [] fun v _ => v = .tuple #[.string (str ((s.drop (a + 1)).take n)), iq ((a + n + 2 : Nat) : Nat), iq 0] := by
 have hla : a < s.length := (List.getElem?_eq_some_iff.1 ha).1
 have hlb : a + 1 + n < s.length := (List.getElem?_eq_some_iff.1 hb).1
 refine Fn.enter (N := 98) Tryz.func165 rfl (by kernel_rfl) rfl (fun w0 => ?_)
 refine aR fun Z hZ => sA rfl rfl <| sA rfl rfl <| sA rfl rfl <| sN (hZ _ _ ?_)
 refine aF [(0, _), (1, _)] (kR rfl) ?_
 refine aS (aB ?_)
 refine jA7 [(0, .string (str s)), (1, iq (a : Nat)), (14, .bool false)] [] (fun Z hZ => ?_) ?_
 ·refine sM rfl rfl ?_
  refine jC4 rfl rfl rfl ?_
  refine sM rfl rfl ?_
  refine jF8 17 rfl false (by first | (simp; done) | (simp; omega)) ?_
  refine sOn rfl rfl rfl ?_
  refine sM rfl rfl ?_
  refine sOn rfl rfl rfl ?_
  refine sM rfl rfl ?_
  refine sOn rfl rfl rfl ?_
  refine jF0 Tryz.underlying9 rfl rfl ?_
  refine sOn rfl rfl rfl ?_
  refine jF3 rfl rfl rfl ?_
  refine sP rfl rfl rfl <| sA rfl rfl ?_
  refine sN (hZ _ _ ?_ ?_)
  ·exact Kn.cons rfl (Kn.cons rfl (Kn.cons (congrArg some (congrArg Value.bool (by simp; omega))) Kn.nil))
  ·exact HLe.refl _
 refine aC rfl (fun h => ?_) (fun h => ?_)
 ·cases h
 refine aR fun Z hZ => sM rfl rfl <| sM rfl rfl ?_
 refine jF0 Tryz.underlying9 rfl rfl ?_
 refine jC8 rfl rfl rfl ?_
 refine sA rfl rfl <| sN (hZ _ _ ?_)
 refine aF [(0, _), (1, _), (23, _)] (kR rfl) ?_
 refine aC rfl (fun h => ?_) (fun h => ?_)
 ·simp at h; omega
 refine aR fun Z hZ => sM rfl rfl <| sM rfl rfl ?_
 refine sx_indexS Tryz.underlying9 rfl rfl (by omega) (by simpa using ha) rfl ?_
 refine jE5 rfl rfl rfl ?_
 refine sA rfl rfl <| sN (hZ _ _ ?_)
 refine aF [(0, _), (1, _), (29, _)] (kR rfl) ?_
 refine aC rfl (fun h => ?_) (fun h => ?_)
 ·cases h
 refine aK ?_
 repeat (with_reducible refine nBN ?_)
 with_reducible refine nN ?_
 refine aR (fun Z hZ => ?_)
 refine sAl tyZ205 rfl (fun g1 => ?_)
 refine sN (hZ _ _ ?_)
 refine aF [(0, _), (1, _), (7, _)] (kR rfl) ?_
 refine aS ?_
 refine aR fun Z hZ => sM rfl rfl ?_
 refine jB8 rfl rfl ((a + 1 : Nat) : Int) (by rw [IntWalk.i64_in _ (by omega)]; omega) rfl ?_
 refine sA rfl rfl <| sN (hZ _ _ ?_)
 refine aF [(0, _), (7, _), (8, _)] (kR rfl) ?_
 refine aB ?_
 refine jB6 (ι := Nat × Value × Value) (fun i => [(0, .string (str s)), (7, ptr g1 0), (8, iq ((a + 1 + i.1 : Nat) : Nat))]) (fun i => [bldE g1 i.2.1 i.2.2] ++ rowE i.2.2 5 1 (bv ((s.drop (a + 1)).take i.1)))
  (fun i => i.1 ≤ n ∧ (i.2.1 = .pointer none ∨ i.2.1 = ptr g1 0) ∧ RowOk i.2.2 i.1 ∧ (i.1 = 0 → i.2.2 = .slice none 0 0)) (fun i => n - i.1) (0, .pointer none, .slice none 0 0) ⟨Nat.zero_le _, .inl rfl, RowOk.nil, fun _ => rfl⟩ (kR rfl) (HLe.refl _) ?_
 rintro ⟨k, p, v⟩ ⟨hk, hpp, hv, h0⟩
 simp only at hk hpp hv h0
 have hlk : ((s.drop (a + 1)).take k).length = k := by rw [List.length_take, List.length_drop]; omega
 refine jA8 ([bldE g1 p v] ++ rowE v 5 1 (bv ((s.drop (a + 1)).take k))) (HLe.refl _) ?_
 refine aS ?_
 refine aR fun Z hZ => sM rfl rfl <| sM rfl rfl ?_
 refine jF0 Tryz.underlying9 rfl rfl ?_
 refine jC4 rfl rfl rfl ?_
 refine sN (hZ _ _ ?_)
 refine aF [(0, _), (7, _), (8, _), (40, _)] (kR rfl) ?_
 refine aC rfl (fun h => ?_) (fun h => ?_)
 ·refine aK ?_
  with_reducible refine nN ?_
  refine aB ?_
  rcases Nat.eq_or_lt_of_le hk with rfl | hkn
  ·refine aR (fun Z hZ => ?_)
   refine sM rfl rfl <| sM rfl rfl ?_
   refine sx_indexS Tryz.underlying9 rfl rfl (by omega) (by rw [Int.toNat_natCast]; exact hb) rfl ?_
   refine sN (hZ _ _ ?_)
   refine aF [(0, _), (7, _), (8, _), (43, _)] (kR rfl) ?_
   refine aB ?_
   refine aR (fun Z hZ => ?_)
   refine jC8 rfl rfl rfl ?_
   refine sA rfl rfl <| sN (hZ _ _ ?_)
   refine aF [(0, _), (7, _), (8, _), (43, _), (67, _)] (kR rfl) ?_
   refine aC rfl (fun h1 => ?_) (fun h1 => ?_)
   ·refine aR (fun Z hZ => ?_)
    refine jD3 ([bldE g1 p v] ++ rowE v 5 1 (bv ((s.drop (a + 1)).take k))) [] (bstr_fn g1 p v _ (by rw [hlk]; exact hv) (fun hnil => h0 (by rw [← hlk, hnil]; rfl))) rfl (by rw [List.append_nil]; exact HLe.refl _) rfl ?_
    rintro v H' rfl
    refine sM rfl rfl ?_
    refine jB8 rfl rfl ((a + k + 2 : Nat) : Int) (by rw [IntWalk.i64_in _ (by omega)]; omega) rfl ?_
    refine sA rfl rfl <| sA rfl rfl <| sA rfl rfl <| sN (hZ _ _ ?_)
    refine aF [(4, _), (5, _), (6, _)] (kR rfl) ?_
    refine aE ?_
    repeat (with_reducible (first | refine nTR ?_ | refine nBR ?_))
    exact jH5 [] rfl rfl rfl rfl (HLe.sub (List.nil_sublist _)) rfl
   ·cases h1
  ·obtain ⟨c, hc, hpl⟩ := hp k hkn
   obtain ⟨q1, q2, q3, q4⟩ := hpl
   have hn1 : (c.toNat : Int) ≠ 34 := fun h => q3 (UInt8.toNat_inj.1 (show c.toNat = 34 by omega))
   have hn2 : (c.toNat : Int) ≠ 92 := fun h => q4 (UInt8.toNat_inj.1 (show c.toNat = 92 by omega))
   refine aR fun Z hZ => sM rfl rfl <| sM rfl rfl ?_
   refine sx_indexS Tryz.underlying9 rfl rfl (by omega) (by rw [Int.toNat_natCast]; exact hc) rfl ?_
   refine sN (hZ _ _ ?_)
   refine aF [(0, _), (7, _), (8, _), (43, _)] (kR rfl) ?_
   refine aB ?_
   refine aR (fun Z hZ => ?_)
   refine jC8 rfl rfl rfl ?_
   refine sA rfl rfl <| sN (hZ _ _ ?_)
   refine aF [(0, _), (7, _), (8, _), (43, _), (67, _)] (kR rfl) ?_
   refine aC rfl (fun h1 => ?_) (fun h1 => ?_)
   ·simp at h1; omega
   refine aR (fun Z hZ => ?_)
   refine jC8 rfl rfl rfl ?_
   refine sA rfl rfl <| sN (hZ _ _ ?_)
   refine aF [(0, _), (7, _), (8, _), (72, _)] (kR rfl) ?_
   refine aC rfl (fun h2 => ?_) (fun h2 => ?_)
   ·simp at h2; omega
   refine aR fun Z hZ => sM rfl rfl <| sM rfl rfl ?_
   refine sx_sliceS (s.drop (a + 1 + k)) Tryz.underlying9 rfl rfl rfl (by omega) (by omega) (by omega) (by rw [Int.toNat_natCast, Int.toNat_natCast]; exact List.take_of_length_le (by rw [List.length_drop]; omega)) rfl ?_
   refine sCP (decr_fn _ c (by rw [List.getElem?_drop]; exact hc) q2) rfl rfl ?_
   refine sM rfl rfl <| sX rfl rfl rfl <| sX rfl rfl rfl <| sA rfl rfl <| sA rfl rfl <| sN (hZ _ _ ?_)
   refine aF [(0, _), (7, _), (8, _), (12, _), (13, _)] (kR rfl) ?_
   refine aS ?_
   refine jA7 [(0, .string (str s)), (7, ptr g1 0), (8, iq ((a + 1 + k : Nat) : Nat)), (12, i32v c), (13, iq 1), (60, .bool false)] ([bldE g1 p v] ++ rowE v 5 1 (bv ((s.drop (a + 1)).take k))) (fun Z hZ => ?_) ?_
   ·refine sM rfl rfl ?_
    refine jC8 rfl rfl rfl ?_
    refine sM rfl rfl ?_
    refine jF8 53 rfl false (by simp; omega) ?_
    refine sO rfl rfl rfl rfl rfl ?_
    refine sO rfl rfl rfl rfl rfl ?_
    refine sP rfl rfl rfl <| sM rfl rfl ?_
    refine sOn rfl rfl rfl ?_
    refine sM rfl rfl ?_
    refine sOn rfl rfl rfl ?_
    refine jC4 rfl rfl rfl ?_
    refine sP rfl rfl rfl ?_
    refine sN (hZ _ _ ?_ ?_)
    ·exact Kn.cons rfl (Kn.cons rfl (Kn.cons rfl (Kn.cons rfl (Kn.cons rfl (Kn.cons (congrArg some (congrArg Value.bool (by simp; omega))) Kn.nil)))))
    ·exact HLe.refl _
   refine aC rfl (fun h3 => ?_) (fun h3 => ?_)
   ·cases h3
   refine aK ?_
   with_reducible refine nN ?_
   refine aR fun Z hZ => sM rfl rfl ?_
   refine jD3 ([bldE g1 p v] ++ rowE v 5 1 (bv ((s.drop (a + 1)).take k))) [] (wrune_fn g1 p v _ c q2 hpp (by rw [hlk]; exact hv) (by rw [hlk]; omega)) rfl (by rw [List.append_nil]; exact HLe.refl _) rfl ?_
   rintro v H' ⟨rfl, v2, hv2, rfl⟩
   refine sN (hZ _ _ ?_)
   refine aF [(0, _), (7, _), (8, _), (13, _)] (kR rfl) ?_
   refine aG (fun Z hZ => ?_)
   refine sM rfl rfl <| sM rfl rfl ?_
   refine jB8 rfl rfl ((a + 1 + (k + 1) : Nat) : Int) (by rw [IntWalk.i64_in _ (by omega)]; omega) rfl ?_
   refine sA rfl rfl <| sN (hZ _ _ ?_)
   refine nF [(0, _), (7, _), (8, _)] (kR rfl) ?_
   rw [hlk] at hv2
   repeat (with_reducible refine nBN ?_)
   exact jB5 (k + 1, ptr g1 0, v2) ⟨hkn, .inr rfl, hv2, fun h => by cases h⟩ (by show n - (k + 1) < n - k; omega) (kR rfl) (by rw [take_snoc hc, List.filter_append, rowE_wr, List.append_nil]; exact HLe.refl _)
 ·simp at h; omega
end Go.Proofs.YtkojkeabelckjaaGreatDoor
end

section
set_option linter.all false
namespace Go.Proofs.YtkojkeabelckjaaGreatDoor
open Go.RowKit
theorem sx_callFO {P : Program} {N : Frm} {w0 : World} {Wr : List Nat} {ops : Array Oper} {rest : List Oper} {fr : Fr} {H : Heap} {Z : Fr → Heap → Prop} {ty : Nat} {pos : String} {after : Array Edge}
  {f : FuncId} {caps : List Value} {x : Operand} {xs : List Operand} {vs : List Value} {ts : Array TypeId} {dst : Option Nat} {R : Value → Heap → Prop} (Hc K : Heap) (hc : Fn P f (vs ++ caps) Hc R) (hf : ev fr x = some (.func (.func f) #[] caps.toArray)) (hx : evs fr xs = some vs) (hH : HLe (Hc ++ K) H) (hN : dstB N dst = true)
  (h : ∀ v H', R v H' → sx P N w0 Wr ops rest (match dst with | some d => (d, v) :: fr | none => fr) (H'.filter Ent.wr ++ K) Z) :
  sx P N w0 Wr ops (⟨dst, .call { callee := .value x, args := xs.toArray, argTypes := ts }, ty, pos, after, none⟩ :: rest) fr H Z :=
 sx_callFW (R := fun v H2 => ∃ H', R v H' ∧ H2 = H'.filter Ent.wr ++ K) hc.1 hf hx hN (fun w hw => by
  have hw' := hH _ _ _ hw
  have hpre : Sat w (wrs Hc) Hc w := by
   have hsub := hw'.sub (List.sublist_append_left Hc K)
   exact ⟨Only.refl _ _, fun e he => ⟨(hsub.ents e he).1, fun h => .inl (mem_wrs.2 ⟨e, he, h, rfl⟩)⟩, hsub.sep⟩
  exact (hc.2 w hpre).mono fun e w' he => by
   obtain ⟨v, H', h1, h2, h3⟩ := he
   exact ⟨v, _, h1, ⟨H', h2, rfl⟩, hw'.callA (U := []) Ro.nil (by rw [List.append_nil]; exact h3)⟩) (fun v H2 hR => by obtain ⟨H', hR, rfl⟩ := hR; exact h v H' hR)
end Go.Proofs.YtkojkeabelckjaaGreatDoor
end
