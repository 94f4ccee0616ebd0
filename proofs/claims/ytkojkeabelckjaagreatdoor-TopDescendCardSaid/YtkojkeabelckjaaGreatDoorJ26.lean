/- Walks and plain laws for this claim (texts Lf18, Ly8, Nt5, Nt6, Gmk1, Gmk2, joined). Each theorem states its own conditions. -/
import Derived.Test.YtkojkeabelckjaaGreatDoorJ25
import Derived.Test.YtkojkeabelckjaaGreatDoorJ24
import Derived.Test.YtkojkeabelckjaaGreatDoorJ19
import Derived.Test.YtkojkeabelckjaaGreatDoorJ06
import Derived.Test.YtkojkeabelckjaaGreatDoorJ12

section
set_option linter.all false
namespace Go.Proofs.YtkojkeabelckjaaGreatDoor.V.L
open Go.RowKit
set_option maxRecDepth 100000
theorem enc_of {M : List En} {b : Int} (hr : rowC M = 0) (hs : (sizeQ M : Int) ≤ b) (hb : b ≤ 16257) : ∃ S, encQ M = (S, 0) ∧ (S.length : Int) ≤ b := by
  have hz : sizeQ M = sumB (jD3 M) := by unfold sizeQ; rw [if_pos hr]
  rw [hz] at hs
  refine ⟨allB (jD3 M), ?_, hs⟩
  unfold encQ
  rw [if_pos hr, if_neg (by omega)]
theorem encQ_sm {P : List En} (hE : jD6 P) (hl : P.length < 1000000) : (encQ P).1.length ≤ 10 + 40 * P.length := by
  have h := allB_len (numsQ_lt hE (by omega))
  rw [numsQ_len] at h
  unfold encQ
  split
  · split
    · exact Nat.zero_le _
    · show (allB (jD3 P)).length ≤ _
      omega
  · exact Nat.zero_le _
theorem textP_sm : ∀ ps : List (List En), (∀ P ∈ ps, jD6 P ∧ P.length < 1000000) → (jF7 ps).length ≤ 10 * ps.length + 40 * ps.flatten.length
  | [], _ => by simp [jF7]
  | P :: r, h => by
    have h1 := encQ_sm (h P List.mem_cons_self).1 (h P List.mem_cons_self).2
    have h2 := textP_sm r (fun Q hQ => h Q (List.mem_cons_of_mem _ hQ))
    simp only [jF7, List.flatMap_cons, List.length_append, List.length_cons, List.flatten_cons] at h2 ⊢
    omega
theorem back_facts {L M : List En} {b : Int} {s : List UInt8} {m : Nat} (hE : jD6 L) (h : jH0 L b = (M, s, m, 0)) :
    jD6 M ∧ M.length ≤ L.length ∧ (∃ S, encQ M = (S, 0) ∧ (S.length : Int) ≤ b) ∧ jH4 M s = (L, 0) ∧ (m = 0 ↔ s = []) ∧ (M.filter isPtr).length = (if 0 < m then M.length else 0) ∧ endQ 0 M * min m 1 = s.length ∧ s.length ≤ 50 * L.length := by
  rcases splitQ_cases L b with ⟨e, he, h1⟩ | ⟨hr, hh, hb1, hb2, h1⟩
  · rw [h1] at h
    have := congrArg (·.2.2.2) h
    exact absurd this he
  obtain ⟨hq0, hl⟩ := rowC_q hr
  rcases h1 with ⟨h1, hs⟩ | ⟨y, hy, hok, h1⟩
  · rw [h1] at h
    simp only [Prod.mk.injEq] at h
    obtain ⟨rfl, rfl, rfl, _⟩ := h
    have hhl := hasPtr_len L
    rw [hh] at hhl
    refine ⟨hE, Nat.le_refl _, enc_of hr hs hb2, ?_, by simp, ?_, by simp, by simp⟩
    · unfold jH4
      rw [if_neg (by simpa using hr), join_plain L [] hh hr]
      rfl
    · have : ¬ 0 < (L.filter isPtr).length := by simpa using hhl.symm
      rw [if_neg (by decide)]
      omega
  · rw [h1] at h
    simp only [Prod.mk.injEq] at h
    obtain ⟨rfl, rfl, rfl, _⟩ := h
    obtain ⟨hP, hsz⟩ := okQ_facts hy hE hh hok
    have hpl : (pcs L y).length ≤ L.length := by rw [pcs_len]; exact cntP_le hy
    have hfl := pcs_flat (L := L) hy
    have hP3 : ∀ P ∈ pcs L y, 0 < P.length ∧ jD6 P ∧ (encQ P).2 = 0 := fun P h => ⟨(hP P h).1, (hP P h).2.1, (hP P h).2.2.1⟩
    have hrow := root_row (pcs L y) 0 0 hP3 (by rw [hfl]; exact hq0) (by omega)
    have hrl := rootR_len (pcs L y) 0
    have hrc := q_rowC hrow (by omega)
    have hL0 : 0 < (pcs L y).length := by
      rcases Nat.eq_zero_or_pos (pcs L y).length with h0 | h0
      · exfalso
        have hnil : pcs L y = [] := List.length_eq_zero_iff.1 h0
        rw [hnil] at hfl
        have hLn : L = [] := hfl.symm
        subst hLn
        have hs0 : sizeQ ([] : List En) = 1 := by
          unfold sizeQ
          rw [if_pos (by rfl), show jD3 [] = [0] from rfl, sumB, allB, List.flatMap_cons, List.flatMap_nil, vb_lt (by omega)]
          rfl
        have : jH0 [] b = ([], [], 0, 0) := by
          unfold jH0
          rw [if_neg (by omega), if_neg (by decide), if_neg (by decide), if_pos (by rw [hs0]; omega)]
        rw [this] at h1
        have := congrArg (·.2.2.1) h1
        simp only at this
        omega
      · exact h0
    have htp : 0 < (jF7 (pcs L y)).length := by
      match hpc : pcs L y, hL0 with
      | P :: r, _ =>
        rw [hpc] at hP3
        have h1 := enc_pos (hP3 P List.mem_cons_self).2.2
        rw [jF7, List.flatMap_cons, List.length_append]
        omega
    refine ⟨rootR_ok _ 0 (fun P h => (hP P h).2.1) (by omega), by omega, enc_of hrc hsz hb2, ?_, ⟨fun h => by omega, fun h => by rw [h] at htp; simp at htp⟩, ?_, ?_, ?_⟩
    · unfold jH4
      rw [if_neg (by simpa using hrc)]
      have := join_root (pcs L y) [] [] hP (by rw [List.nil_append, hfl]; exact hr)
      rw [hfl] at this
      exact this
    · rw [root_ptr, if_pos hy]
    · have := root_end (pcs L y) 0 0 (Nat.le_refl _) hP3 (fun _ _ => trivial) (rowQ_chk hrow) (by omega) (fun _ => rfl)
      rw [this, show min y 1 = 1 by omega]
      omega
    · have := textP_sm (pcs L y) (fun P h => ⟨(hP P h).2.1, by
        obtain ⟨q, _, hq⟩ := List.mem_map.1 h
        rw [← hq, pcL_len]
        omega⟩)
      rw [hfl] at this
      omega
end Go.Proofs.YtkojkeabelckjaaGreatDoor.V.L
end

section
set_option linter.all false
namespace Go.Proofs.YtkojkeabelckjaaGreatDoor.Y
open Go.RowKit
theorem mid_cut (X Q R : List UInt8) (i n : Nat) (hi : X.length = i) (hn : Q.length = n) : ((X ++ (Q ++ R)).drop i).take n = Q := by
  subst hi; subst hn
  rw [List.drop_left, List.take_left]
theorem enc_len {G : Hdr} (hc : jE9 G = 0) : (encV G).length = 127 := by unfold encV; rw [if_pos hc, enc5_length]
theorem glue_dec (h : Hdr) (hk : h.Ok) (p : P4) (hp : p.Ok) (hc : jE9 (glueH h p) = 0) (t : List UInt8) : decV (encV (glueH h p) ++ t) = glueH h p ∧ decE (encV (glueH h p) ++ t) = 0 := decV_enc (glueH_ok h hk p hp) hc t
theorem glue_cut (h : Hdr) (hk : h.Ok) (p : P4) (hp : p.Ok) (hc : jE9 (glueH h p) = 0) (t : List UInt8) :
    cutE (encV (glueH h p) ++ p.all ++ t) = 0 ∧ cutH (encV (glueH h p) ++ p.all ++ t) = glueH h p ∧ cutP (encV (glueH h p) ++ p.all ++ t) = p := by
  have hel := enc_len hc
  rw [List.append_assoc]
  obtain ⟨h1, h2⟩ := glue_dec h hk p hp hc (p.all ++ t)
  obtain ⟨l, hll⟩ : ∃ l, encV (glueH h p) ++ (p.all ++ t) = l := ⟨_, rfl⟩
  have hlen : l.length = 127 + (p.a.length + p.b.length + p.c.length + p.d.length) + t.length := by
    rw [← hll]; simp only [List.length_append, P4.all, hel]; omega
  rw [hll] at h1 h2 ⊢
  have hin : ∀ k, k < 4 → inL l k = true := fun k hk4 => by
    unfold inL
    rw [h1, hlen]
    obtain rfl | rfl | rfl | rfl := four hk4 <;> simp [hf, hl, glueH, layH, withH] <;> omega
  have e := cut_yes h2 hin
  have pc : ∀ k, piece l k = (l.drop (hf (glueH h p) k)).take (hl (glueH h p) k) := fun k => by unfold piece; rw [h1]
  have q0 : piece l 0 = p.a := by
    rw [pc, ← hll, show encV (glueH h p) ++ (p.all ++ t) = encV (glueH h p) ++ (p.a ++ (p.b ++ p.c ++ p.d ++ t)) by simp [P4.all]]
    exact mid_cut _ _ _ _ _ hel rfl
  have q1 : piece l 1 = p.b := by
    rw [pc, ← hll, show encV (glueH h p) ++ (p.all ++ t) = (encV (glueH h p) ++ p.a) ++ (p.b ++ (p.c ++ p.d ++ t)) by simp [P4.all]]
    exact mid_cut _ _ _ _ _ (by rw [List.length_append, hel]; rfl) rfl
  have q2 : piece l 2 = p.c := by
    rw [pc, ← hll, show encV (glueH h p) ++ (p.all ++ t) = (encV (glueH h p) ++ p.a ++ p.b) ++ (p.c ++ (p.d ++ t)) by simp [P4.all]]
    exact mid_cut _ _ _ _ _ (by simp only [List.length_append, hel]; rfl) rfl
  have q3 : piece l 3 = p.d := by
    rw [pc, ← hll, show encV (glueH h p) ++ (p.all ++ t) = (encV (glueH h p) ++ p.a ++ p.b ++ p.c) ++ (p.d ++ t) by simp [P4.all]]
    exact mid_cut _ _ _ _ _ (by simp only [List.length_append, hel]; rfl) rfl
  refine ⟨e, by unfold cutH; rw [if_pos e, h1], ?_⟩
  unfold cutP
  rw [if_pos e, q0, q1, q2, q3]
end Go.Proofs.YtkojkeabelckjaaGreatDoor.Y
end

section
set_option linter.all false
namespace Go.Proofs.YtkojkeabelckjaaGreatDoor
open Go.RowKit Go.Proofs.YtkojkeabelckjaaGreatDoor.V Go.Proofs.YtkojkeabelckjaaGreatDoor.V.L Go.Proofs.YtkojkeabelckjaaGreatDoor.Y
set_option maxRecDepth 100000
theorem splitG_ok {L : List En} {b : Int} : ∀ (k z j : Nat), j < k → okQ L b (z * 2 ^ j) = true → (splitG L b k z).2.2.2 = 0
  | 0, _, _, h, _ => by omega
  | k + 1, z, j, h, ho => by
    rw [splitG]
    split
    · rfl
    · rename_i hno
      cases j with
      | zero => rw [Nat.pow_zero, Nat.mul_one] at ho; exact absurd ho hno
      | succ j => exact splitG_ok k (2 * z) j (by omega) (by rw [show 2 * z * 2 ^ j = z * 2 ^ (j + 1) by rw [Nat.pow_succ, Nat.mul_comm 2 z, Nat.mul_assoc, Nat.mul_comm 2]]; exact ho)
theorem run_len : ∀ R : List En, (∀ e ∈ R, 0 < e.run) → R.length ≤ (R.flatMap expE).length
  | [], _ => Nat.le_refl _
  | e :: r, h => by
    have h1 := h e List.mem_cons_self
    have h2 := run_len r fun x hx => h x (List.mem_cons_of_mem _ hx)
    rw [List.flatMap_cons, List.length_append, expE_len, List.length_cons]
    omega
theorem wh_len {L : List It} (hok : ChOk L) : (prR L).length ≤ L.length := by
  have hw := wh_ok hok
  have h1 := run_len (rowsS L).1 fun e he => (hw.gr.ok e he).1
  rw [hw.exl] at h1
  exact h1
theorem no_ptr {R : List En} (h : ∀ e ∈ R, 0 < e.run) : jG1 R = false := by
  unfold jG1
  rw [List.any_eq_false]
  intro e he
  have := h e he
  simp [isPtr]
  omega
theorem size_one (e : En) (he : e.ok) : sizeQ [e] ≤ 50 := by
  have h1 : jD6 [e] := fun x hx => by rw [List.mem_singleton.1 hx]; exact he
  have h := allB_len (numsQ_lt h1 (by simp))
  rw [numsQ_len] at h
  unfold sizeQ sumB
  simp only [List.length_singleton] at h
  split <;> omega
theorem pr_split {L : List It} (hok : ChOk L) (hlen : L.length ≤ 100) {b : Nat} (hb : 512 ≤ b ∧ b ≤ 16257) : (prS L b).2.2.2 = 0 := by
  have hw := wh_ok hok
  have hR := wh_len hok
  have hE : jD6 (prR L) := hw.ens
  have hrow : rowC (prR L) = 0 := hw.row
  have hp := no_ptr (R := prR L) fun e he => (hw.gr.ok e he).1
  unfold prS jH0
  rw [if_neg (by omega), if_neg (by simpa using hrow), if_neg (by rw [hp]; decide)]
  split
  · rfl
  refine splitG_ok 13 1 7 (by omega) ?_
  rw [show 1 * 2 ^ 7 = 128 from rfl]
  have hfl := pcs_flat (L := prR L) (z := 128) (by omega)
  have hpl : (pcs (prR L) 128).length ≤ 1 := by rw [pcs_len]; unfold cntP; omega
  unfold okQ
  rw [Bool.and_eq_true]
  match hpc : pcs (prR L) 128, hpl with
  | [], _ =>
    refine ⟨rfl, decide_eq_true ?_⟩
    have : sizeQ (jF9 0 []) ≤ 10 := by
      have h := allB_len (xs := jD3 []) (fun x hx => by rw [show jD3 [] = [0] from rfl] at hx; rw [List.mem_singleton.1 hx]; decide)
      rw [numsQ_len] at h
      show sizeQ [] ≤ 10
      unfold sizeQ sumB
      simp only [List.length_nil] at h
      split <;> omega
    omega
  | [P], _ =>
    rw [hpc] at hfl
    have hPR : P = prR L := by simpa using hfl
    subst hPR
    have hs := sumB_300 hE (by omega)
    have henc : (encQ (prR L)).2 = 0 := by unfold encQ; rw [if_pos hrow, if_neg (by omega)]
    refine ⟨by simp [henc], decide_eq_true ?_⟩
    have := size_one (rootE 0 (prR L)) (rootR_ok [prR L] 0 (fun P hP => by rw [List.mem_singleton.1 hP]; exact hE) (by simp) _ List.mem_cons_self)
    show (sizeQ [rootE 0 (prR L)] : Int) ≤ b
    omega
  | _ :: _ :: _, h => simp at h
theorem zoom_mono {a b : Nat} (hab : a ≤ b) (hb : b < 6004799503160661) : 0 ≤ zoomQ a ∧ zoomQ a ≤ zoomQ b ∧ zoomQ b ≤ 26 := by
  obtain ⟨y, h1, h2, h3, h4⟩ := zoom_ex hb
  obtain ⟨z, g1, g2, g3, g4⟩ := zoom_ex (k := a) (by omega)
  rw [h2, g2]
  refine ⟨by omega, ?_, by omega⟩
  rcases Nat.lt_or_ge y z with h | h
  · exfalso
    have := base4_mono (show y + 1 ≤ z by omega)
    omega
  · omega
theorem z_ok {L : List It} (hok : ChOk L) : 0 ≤ zLo L ∧ zLo L ≤ zHi L ∧ zHi L ≤ 26 := by
  unfold zLo zHi
  by_cases h : L = []
  · rw [if_pos h, if_pos h]; omega
  rw [if_neg h, if_neg h]
  have hpos : 0 < L.length := List.length_pos_iff.2 h
  have e0 : itAt L 0 = L[0] := by simp [itAt, List.getElem?_eq_getElem hpos]
  have e1 : itAt L (L.length - 1) = L[L.length - 1] := by simp [itAt, List.getElem?_eq_getElem (show L.length - 1 < L.length by omega)]
  rw [e0, e1]
  refine zoom_mono ?_ (hok.lt _ (List.getElem_mem _))
  rcases Nat.eq_or_lt_of_le (show 1 ≤ L.length by omega) with h1 | h1
  · simp [← h1]
  · exact Nat.le_of_lt (List.pairwise_iff_getElem.1 hok.rise 0 (L.length - 1) hpos (by omega) (by omega))
theorem pair_no {lo hi a b c : Int} (h : (lo ≤ a ∧ a ≤ hi) ∧ (lo ≤ b ∧ b ≤ hi) ∧ (lo ≤ c ∧ c ≤ hi) ∧ a ≤ b) : ¬ pairV lo hi a b c = true := by
  obtain ⟨⟨h1, h2⟩, ⟨h3, h4⟩, ⟨h5, h6⟩, h7⟩ := h
  simp [pairV, wi, h1, h2, h3, h4, h5, h6, h7]
theorem head_chk {L : List It} (hok : ChOk L) {R : List En} {k : Nat} (hk : k ≤ 5) {q : P4} (hq : q.Ok) : jE9 (glueH (headQ L R k) q) = 0 := by
  obtain ⟨z1, z2, z3⟩ := z_ok hok
  have := hq.a; have := hq.b; have := hq.c; have := hq.d
  have hf : ∀ f l : Nat, f ≤ 100000 → l ≤ 20000 → fitsV f l = true := fun f l h1 h2 => by
    unfold fitsV
    rw [IntWalk.u64_in _ (by omega)]
    simp
    omega
  unfold jE9
  rw [if_neg, if_neg, if_neg, if_neg, if_neg]
  · exact pair_no (lo := -900000000) (hi := 900000000) (a := -850511287) (b := 850511287) (c := 0) (by omega)
  · exact pair_no (lo := -1800000000) (hi := 1800000000) (a := -1800000000) (b := 1800000000) (c := 0) (by omega)
  · exact pair_no (lo := 0) (hi := 26) (a := zLo L) (b := zHi L) (c := zLo L) (by omega)
  · show ¬ ((decide (4 < 1) || decide (4 < 1) || decide (5 < k)) = true)
    simp
    omega
  · simp only [secsV, glueH, layH, withH]
    rw [hf _ _ (by omega) (by omega), hf _ _ (by omega) (by omega), hf _ _ (by omega) (by omega), hf _ _ (by omega) (by omega)]
    decide
structure Sm (L : List It) (p : Pn) : Prop where
  ok : ChOk L
  len : L.length ≤ 100
  by_ : cBytes L ≤ 10000
  b : 512 ≤ p.b ∧ p.b ≤ 16257
  k : p.k ≤ 5
  note : NoteOk p.note
  nl : p.note.length ≤ 4096
structure PrIs (L : List It) (p : Pn) : Prop where
  ok : PrOk L p
  e : prE L p = 0
  t : prT L p = encV (glueH (prH L p) (prP L p)) ++ (prP L p).all
  cut : cutE (prT L p) = 0 ∧ cutH (prT L p) = glueH (prH L p) (prP L p) ∧ cutP (prT L p) = prP L p
  dec : ∃ M n, decQ (prP L p).a = (M, n, 0) ∧ jH4 M (prP L p).c = (prR L, 0)
  len : (prT L p).length ≤ 60000
theorem Sm.pr {L : List It} {p : Pn} (h : Sm L p) : PrIs L p := by
  have hw := wh_ok h.ok
  have hR := wh_len h.ok
  have hE : jD6 (prR L) := hw.ens
  have hs := pr_split h.ok h.len h.b
  have hlen := h.len
  have hby := h.by_
  have hbb := h.b
  have hnl := h.nl
  have hD : (prD L).length ≤ 10000 := by
    have h1 := tsS_fl6 L []
    unfold prD
    rw [hw.fl.symm]
    unfold tsS
    simp only [List.flatten_nil, List.length_nil] at h1
    omega
  obtain ⟨M, s, m, e, hsp⟩ : ∃ M s m e, prS L p.b = (M, s, m, e) := ⟨_, _, _, _, rfl⟩
  rw [hsp] at hs
  obtain rfl : e = 0 := hs
  obtain ⟨b1, b2, ⟨S, b3, b4⟩, b5, _, _, _, b6⟩ := back_facts hE hsp
  have hP : prP L p = ⟨S, p.note, s, prD L⟩ := by unfold prP; rw [hsp, b3]
  have hPok : (prP L p).Ok := by
    rw [hP]
    exact ⟨by show S.length ≤ 20000; omega, by show p.note.length ≤ 20000; omega, by show s.length ≤ 20000; omega, by show (prD L).length ≤ 20000; omega⟩
  have hPr : PrOk L p := ⟨h.ok, h.b, h.k, h.note, hPok, by rw [hsp]; exact ⟨by show M.length ≤ 10000; omega, b1⟩, by omega, hE⟩
  have hc : jE9 (glueH (prH L p) (prP L p)) = 0 := head_chk h.ok (R := prR L) h.k hPok
  have he : prE L p = 0 := by
    unfold prE
    rw [hsp, if_neg (by simp), b3, if_neg (by simp)]
    exact hc
  have ht : prT L p = encV (glueH (prH L p) (prP L p)) ++ (prP L p).all := by
    unfold prT
    rw [if_pos he]
    unfold glueS
    rw [if_pos hc]
  have hho : (prH L p).Ok := headQ_ok (by omega) (by omega) h.k
  have hcut := glue_cut (prH L p) hho (prP L p) hPok hc []
  rw [List.append_nil, ← ht] at hcut
  refine ⟨hPr, he, ht, hcut, ?_, ?_⟩
  · obtain ⟨c1, c2, c3⟩ := encQ_ok (L := M) (by rw [b3])
    have hS : S = allB (jD3 M) := by rw [b3] at c3; exact congrArg Prod.fst c3
    have hd := decQ_enc b1 c1 [] (by simp; omega)
    rw [List.append_nil, ← hS] at hd
    rw [hP]
    exact ⟨M, _, hd, b5⟩
  · rw [ht, List.length_append, enc_len hc]
    have := hPok.a; have := hPok.b; have := hPok.c; have := hPok.d
    have hq : (prP L p).all.length = (prP L p).a.length + (prP L p).b.length + (prP L p).c.length + (prP L p).d.length := by simp only [P4.all, List.length_append]
    rw [hq, hP]
    simp only
    omega
theorem PrIs.rows {L : List It} {p : Pn} (h : PrIs L p) : nrE (prT L p) = 0 ∧ nrL (prT L p) = prR L ∧ nrT (prT L p) = prD L := by
  obtain ⟨M, n, d1, d2⟩ := h.dec
  obtain ⟨c1, c2, c3⟩ := h.cut
  have he : nrE (prT L p) = 0 := by
    unfold nrE
    rw [if_pos c1, c3, d1, if_pos rfl, d2]
    rfl
  refine ⟨he, ?_, ?_⟩
  · unfold nrL
    rw [if_pos he, c3, d1, d2]
  · unfold nrT
    rw [if_pos he, c3]
    rfl
theorem PrIs.read {L : List It} {p : Pn} (h : PrIs L p) : rdE (prT L p) = 0 ∧ rdO (prT L p) = L := by
  obtain ⟨h1, h2, h3⟩ := h.rows
  have hb := (wh_ok h.ok.ok).back h.ok.ok
  have hb' : mbQ (prR L) (prD L) = (0, L) := hb
  unfold rdE rdO
  rw [if_pos h1, if_pos h1, h2, h3, hb']
  exact ⟨rfl, rfl⟩
def tpL : List It := [⟨0, [120]⟩]
def tpP : Pn := ⟨512, 0, [123, 125]⟩
theorem tp_ok : ChOk tpL := ⟨List.pairwise_singleton _ _, fun e he => by rw [List.mem_singleton.1 he]; decide, fun e he => by rw [List.mem_singleton.1 he]; decide, by decide⟩
theorem tp_sm : Sm tpL tpP := ⟨tp_ok, by decide, by decide, by decide, by decide, note0, by decide⟩
theorem tp_len : (prT tpL tpP).length = 135 := by kernel_rfl
theorem tp_of : ofQ tpL = 0 ∧ sortI tpL = tpL := ⟨by decide, rfl⟩
theorem fn_imp {P : Program} {f : FuncId} {vs : List Value} {H : Heap} {R R' : Value → Heap → Prop} (h : Fn P f vs H R) (hm : ∀ v H', R v H' → R' v H') : Fn P f vs H R' :=
  ⟨h.1, fun w hw => (h.2 w hw).mono fun e w' he => by
    obtain ⟨v, H', h1, h2, h3⟩ := he
    exact ⟨v, H', h1, hm v H' h2, h3⟩⟩
theorem cof_yes (A : Option Addr) (c : Nat) (L : List It) (T : Heap) (hA : ArgOk A L.length) (hT : 0 < L.length → T = roE A (jB0 L)) (hro : Ro T) (hL : L.length ≤ 100000) (h : ofQ L = 0) :
    Fn Tryz.prog 16 [.slice A L.length c] T fun v H' => ∃ u, v = .tuple #[.agg #[u], iq 0] ∧ RowOk u (sortI L).length ∧ H' = rowE u 62 2 (jB0 (sortI L)) :=
  fn_imp (cof_fn A c L T hA hT hro hL) fun v H' hh => by
    obtain ⟨u, h1, ⟨_, h2, h3⟩ | ⟨h4, _⟩⟩ := hh
    · exact ⟨u, by rw [h1, h]; rfl, h2, h3⟩
    · exact absurd h h4
theorem tawake_fn : Fn Tryz.prog 6 [] [] fun v _ => v = .bool true := by
  have hpr := tp_sm.pr
  have hlen := tp_len
  have hread := hpr.read
  have hplen := hpr.len
  have hpe := hpr.e
  obtain ⟨S, hS⟩ : ∃ S, prT tpL tpP = S := ⟨_, rfl⟩
  have hof := fun A c T hA hT hro => cof_yes A c tpL T hA hT hro (by decide) tp_of.1
  rw [tp_of.2] at hof
  have hps := fun A c T hA hT hro => press_fn A c tpL T hA hT hro tpP hpr.ok
  rw [hpe, hS] at hps
  rw [hS] at hread hlen hplen
  have hnr := nread_fn S (by omega)
  rw [hread.1, hread.2] at hnr
  refine Fn.enter (N := 44) Tryz.func6 rfl (by kernel_rfl) rfl (fun w0 => ?_)
  refine aR fun Z hZ => sA rfl rfl <| sN (hZ _ _ ?_)
  refine aF [] (Kn.nil) ?_
  refine aR (fun Z hZ => ?_)
  refine jB3 tyZ62 tyP62 rfl rfl (by simp only [List.take_succ_cons, List.take_zero, List.drop_succ_cons, List.drop_zero, List.cons_append, List.nil_append, List.append_nil, List.length_cons, List.length_nil, Nat.reduceAdd, Nat.zero_add, Value.cells, wrV]; rfl) rfl ?_
  refine sBS Tryz.underlying25 tyS62 tyZ62 rfl rfl rfl rfl (by simp only [List.take_zero, List.cons_append, List.nil_append, List.length_cons, List.length_nil, Nat.reduceAdd, Nat.zero_add, Value.cells, wrV, Nat.reduceMul, Nat.zero_mul]; rfl) rfl (fun g1 => ?_)
  refine jE0 [.ro g1 0 (jB0 tpL)] (HLe.toRo [] []) ?_
  refine sx_callA [] [.ro g1 0 (jB0 tpL)] [.ro g1 0 (jB0 tpL)] (hof (some ⟨g1, 0, none⟩) 1 _ (fun _ => ⟨_, _, rfl⟩) (fun _ => rfl) (Ro.roE (some ⟨g1, 0, none⟩) (jB0 tpL))) rfl (HLe.refl _) (List.Sublist.refl _) (Ro.roE (some ⟨g1, 0, none⟩) (jB0 tpL)) rfl ?_
  rintro v H' ⟨u, rfl, hu, rfl⟩
  rw [jF8]
  obtain ⟨ga, ca, rfl⟩ := hu.some (by decide)
  refine jE0 [.ro ga 0 (jB0 tpL)] ((HLe.sub (List.sublist_append_left [.ro ga 0 (jB0 tpL)] _)).trans (HLe.rowRo [] _)) ?_
  refine sM rfl rfl <| sX rfl rfl rfl <| sX rfl rfl rfl ?_
  refine sAl tyZ27 rfl (fun g2 => ?_)
  refine sS 0 rfl rfl rfl tyS27 (by simp only [Value.cells]; rfl) rfl rfl rfl (by simp only [List.take_zero, List.drop_succ_cons, List.drop_zero, List.nil_append, List.append_nil, List.length_cons, List.length_nil, Nat.zero_add, wrV]; rfl) (by simp only [List.set_cons_zero]; rfl) ?_
  refine sA rfl rfl <| sN (hZ _ _ ?_)
  refine aF [(1, _), (2, _)] (Kn.cons rfl (Kn.cons rfl (Kn.nil))) ?_
  refine jB5 [.own g2 27 [.slice (some ⟨ga, 0, none⟩) 1 ca], .ro ga 0 (jB0 tpL)] (HLe.refl _) ?_
  refine aR (fun Z hZ => ?_)
  refine sLA 0 rfl rfl tyA27 tyS27 rfl (by simp only [List.take_succ_cons, List.take_zero, List.drop_zero]; rfl) rfl ?_
  refine jB3 tyZ31 tyP31 rfl rfl (by simp only [List.take_succ_cons, List.take_zero, List.drop_succ_cons, List.drop_zero, List.cons_append, List.nil_append, List.append_nil, List.length_cons, List.length_nil, Nat.reduceAdd, Nat.zero_add, Value.cells, wrV]; rfl) rfl ?_
  refine jF4 [.ro ga 0 (jB0 tpL)] (hps (some ⟨ga, 0, none⟩) ca _ (fun _ => ⟨_, _, rfl⟩) (fun _ => rfl) (Ro.roE (some ⟨ga, 0, none⟩) (jB0 tpL))) rfl (List.sublist_append_right [_] [_]) (Ro.roE (some ⟨ga, 0, none⟩) (jB0 tpL)) rfl ?_
  refine sM rfl rfl <| sX rfl rfl rfl <| sX rfl rfl rfl <| sA rfl rfl <| sA rfl rfl <| sN (hZ _ _ ?_)
  refine aF [(1, _), (2, _), (3, _), (4, _)] (Kn.cons rfl (Kn.cons rfl (Kn.cons rfl (Kn.cons rfl (Kn.nil))))) ?_
  refine aR fun Z hZ => sM rfl rfl ?_
  refine jD9 [] _ hnr rfl (HLe.refl _) rfl ?_
  rintro v H' ⟨u, rfl, hu, rfl⟩
  rw [jF8]
  obtain ⟨gb, cb, rfl⟩ := hu.some (by decide)
  refine jE0 [.ro gb 0 (jB0 tpL), .own g2 27 [.slice (some ⟨ga, 0, none⟩) 1 ca], .ro ga 0 (jB0 tpL)] (HLe.rowRo [] _) ?_
  refine sM rfl rfl <| sX rfl rfl rfl <| sX rfl rfl rfl ?_
  refine sAl tyZ27 rfl (fun g3 => ?_)
  refine sS 0 rfl rfl rfl tyS27 (by simp only [Value.cells]; rfl) rfl rfl rfl (by simp only [List.take_zero, List.drop_succ_cons, List.drop_zero, List.nil_append, List.append_nil, List.length_cons, List.length_nil, Nat.zero_add, wrV]; rfl) (by simp only [List.set_cons_zero]; rfl) ?_
  refine sA rfl rfl <| sN (hZ _ _ ?_)
  refine aF [(1, _), (2, _), (3, _), (4, _), (5, _), (6, _)] (Kn.cons rfl (Kn.cons rfl (Kn.cons rfl (Kn.cons rfl (Kn.cons rfl (Kn.cons rfl (Kn.nil))))))) ?_
  refine jA1 [(0, .bool true)] [] (fun Z hZ => ?_) ?_
  · refine sM rfl rfl ?_
    refine jD7 rfl rfl rfl ?_
    refine sM rfl rfl ?_
    refine sx_force 26 rfl true (by first | rfl | (simp [hlen]; done)) ?_
    refine sOn rfl rfl rfl ?_
    refine sM rfl rfl ?_
    refine sOn rfl rfl rfl ?_
    refine jD7 rfl rfl rfl ?_
    refine sP rfl rfl rfl <| sM rfl rfl ?_
    refine sx_force 30 rfl true (by first | rfl | (simp [hlen]; done)) ?_
    refine sOn rfl rfl rfl ?_
    refine sM rfl rfl ?_
    refine sOn rfl rfl rfl ?_
    refine jF3 Tryz.underlying9 rfl rfl ?_
    refine sOn rfl rfl rfl ?_
    refine jD7 rfl rfl rfl ?_
    refine sP rfl rfl rfl <| sM rfl rfl ?_
    refine sx_force 35 rfl true (by first | rfl | (simp [hlen]; done)) ?_
    refine sOn rfl rfl rfl ?_
    refine sM rfl rfl ?_
    refine sOn rfl rfl rfl ?_
    refine jD7 rfl rfl rfl ?_
    refine sP rfl rfl rfl <| sM rfl rfl ?_
    refine sx_force 39 rfl true (by first | rfl | (simp [hlen]; done)) ?_
    refine sOn rfl rfl rfl ?_
    refine sLA 2 rfl rfl tyA27 tyS27 rfl (by simp only [List.take_succ_cons, List.take_zero, List.drop_zero]; rfl) rfl ?_
    refine sOn rfl rfl rfl ?_
    refine sLA 0 rfl rfl tyA27 tyS27 rfl (by simp only [List.take_succ_cons, List.take_zero, List.drop_zero]; rfl) rfl ?_
    refine sOn rfl rfl rfl ?_
    refine sx_callV ([.ro ga 0 (jB0 tpL)] ++ [.ro gb 0 (jB0 tpL)]) (csame_fn (some ⟨ga, 0, none⟩) ca tpL _ (fun _ => ⟨_, _, rfl⟩) (fun _ => rfl) (Ro.roE (some ⟨ga, 0, none⟩) (jB0 tpL)) (by decide) (some ⟨gb, 0, none⟩) cb tpL _ (fun _ => ⟨_, _, rfl⟩) (fun _ => rfl) (Ro.roE (some ⟨gb, 0, none⟩) (jB0 tpL)) (by decide)) rfl (HLe.pick [3, 1] (by simp) rfl) ((Ro.roE (some ⟨ga, 0, none⟩) (jB0 tpL)).append (Ro.roE (some ⟨gb, 0, none⟩) (jB0 tpL))) rfl ?_
    rw [show sameI tpL tpL = true from by decide]
    refine sP rfl rfl rfl <| sA rfl rfl ?_
    refine sN (hZ _ _ ?_ ?_)
    · exact Kn.cons rfl Kn.nil
    · exact HLe.sub (List.nil_sublist _)
  refine aE ?_
  exact nR1 rfl rfl rfl
end Go.Proofs.YtkojkeabelckjaaGreatDoor
end

section
set_option linter.all false
namespace Go.Proofs.YtkojkeabelckjaaGreatDoor
open Go.RowKit
structure Sp where
  a : Nat
  b : Nat
abbrev Sp.has (s : Sp) (k : Nat) : Prop := s.a ≤ k ∧ k ≤ s.b
def inS (L : List Sp) (k : Nat) : Prop := ∃ s ∈ L, s.has k
instance (L : List Sp) (k : Nat) : Decidable (inS L k) := by unfold inS; infer_instance
structure Plain (L : List Sp) : Prop where
  gap : L.Pairwise fun s t => s.b + 1 < t.a
  ok : ∀ s ∈ L, s.a ≤ s.b
theorem inS_nil (k : Nat) : ¬ inS [] k := fun ⟨_, h, _⟩ => by cases h
theorem inS_cons {s : Sp} {L : List Sp} {k : Nat} : inS (s :: L) k ↔ s.has k ∨ inS L k := by
  constructor
  · rintro ⟨t, ht, h⟩
    rcases List.mem_cons.1 ht with rfl | ht
    · exact .inl h
    · exact .inr ⟨t, ht, h⟩
  · rintro (h | ⟨t, ht, h⟩)
    · exact ⟨s, List.mem_cons_self, h⟩
    · exact ⟨t, List.mem_cons_of_mem _ ht, h⟩
theorem inS_app {L M : List Sp} {k : Nat} : inS (L ++ M) k ↔ inS L k ∨ inS M k := by
  constructor
  · rintro ⟨t, ht, h⟩
    rcases List.mem_append.1 ht with ht | ht
    · exact .inl ⟨t, ht, h⟩
    · exact .inr ⟨t, ht, h⟩
  · rintro (⟨t, ht, h⟩ | ⟨t, ht, h⟩)
    · exact ⟨t, List.mem_append_left _ ht, h⟩
    · exact ⟨t, List.mem_append_right _ ht, h⟩
theorem inS_one {s : Sp} {k : Nat} : inS [s] k ↔ s.has k := by
  rw [inS_cons]
  exact ⟨fun h => h.elim id fun h => absurd h (inS_nil k), .inl⟩
theorem Plain.nil : Plain [] := ⟨List.Pairwise.nil, fun _ h => by cases h⟩
theorem Plain.tail {s : Sp} {L : List Sp} (h : Plain (s :: L)) : Plain L := ⟨(List.pairwise_cons.1 h.gap).2, fun t ht => h.ok t (List.mem_cons_of_mem _ ht)⟩
theorem Plain.head {s : Sp} {L : List Sp} (h : Plain (s :: L)) : s.a ≤ s.b ∧ ∀ t ∈ L, s.b + 1 < t.a := ⟨h.ok s List.mem_cons_self, (List.pairwise_cons.1 h.gap).1⟩
theorem Plain.one {s : Sp} (h : s.a ≤ s.b) : Plain [s] := ⟨List.pairwise_singleton _ _, fun t ht => by rw [List.mem_singleton.1 ht]; exact h⟩
theorem Plain.app {L M : List Sp} (h : Plain L) (k : Plain M) (hg : ∀ s ∈ L, ∀ t ∈ M, s.b + 1 < t.a) : Plain (L ++ M) :=
  ⟨List.pairwise_append.2 ⟨h.gap, k.gap, hg⟩, fun s hs => (List.mem_append.1 hs).elim (h.ok s) (k.ok s)⟩
theorem Plain.sub {L M : List Sp} (h : Plain L) (hs : M.Sublist L) : Plain M := ⟨h.gap.sublist hs, fun s hm => h.ok s (hs.subset hm)⟩
theorem plain_ext : ∀ {L M : List Sp}, Plain L → Plain M → (∀ k, inS L k ↔ inS M k) → L = M
  | [], [], _, _, _ => rfl
  | [], t :: q, _, hM, h => absurd ((h t.a).2 (inS_cons.2 (.inl ⟨Nat.le_refl _, hM.head.1⟩))) (inS_nil _)
  | s :: r, [], hL, _, h => absurd ((h s.a).1 (inS_cons.2 (.inl ⟨Nat.le_refl _, hL.head.1⟩))) (inS_nil _)
  | s :: r, t :: q, hL, hM, h => by
    obtain ⟨s1, s2⟩ := hL.head
    obtain ⟨t1, t2⟩ := hM.head
    have low : ∀ {x : Sp} {l : List Sp} {k : Nat}, x.a ≤ x.b → (∀ u ∈ l, x.b + 1 < u.a) → inS (x :: l) k → x.a ≤ k := fun hx hl hk => by
      rcases inS_cons.1 hk with hk | ⟨u, hu, hk⟩
      · exact hk.1
      · have := hl u hu; omega
    have ea : s.a = t.a := by
      have h1 := low t1 t2 ((h s.a).1 (inS_cons.2 (.inl ⟨Nat.le_refl _, s1⟩)))
      have h2 := low s1 s2 ((h t.a).2 (inS_cons.2 (.inl ⟨Nat.le_refl _, t1⟩)))
      omega
    have nxt : ∀ {x : Sp} {l : List Sp}, (∀ u ∈ l, x.b + 1 < u.a) → ¬ inS (x :: l) (x.b + 1) := fun hl hk => by
      rcases inS_cons.1 hk with hk | ⟨u, hu, hk⟩
      · have := hk.2; omega
      · have := hl u hu; omega
    have eb : s.b = t.b := by
      rcases Nat.lt_trichotomy s.b t.b with hlt | he | hgt
      · exact absurd ((h (s.b + 1)).2 (inS_cons.2 (.inl ⟨by omega, by omega⟩))) (nxt s2)
      · exact he
      · exact absurd ((h (t.b + 1)).1 (inS_cons.2 (.inl ⟨by omega, by omega⟩))) (nxt t2)
    have e : s = t := by cases s; cases t; simp only at ea eb; subst ea; subst eb; rfl
    subst e
    congr 1
    refine plain_ext hL.tail hM.tail fun k => ?_
    have up : ∀ {l : List Sp}, (∀ u ∈ l, s.b + 1 < u.a) → (inS l k ↔ inS (s :: l) k ∧ s.b < k) := fun hl => by
      constructor
      · rintro ⟨u, hu, hk⟩
        have := hl u hu
        exact ⟨inS_cons.2 (.inr ⟨u, hu, hk⟩), by omega⟩
      · rintro ⟨hk, hlt⟩
        rcases inS_cons.1 hk with hk | hk
        · omega
        · exact hk
    rw [up s2, up t2, h k]
def jH4 (L : List Sp) (s : Sp) : List Sp :=
  match L[L.length - 1]? with
  | some t => if s.a ≤ t.b + 1 then L.set (L.length - 1) { t with b := max t.b s.b } else L ++ [s]
  | none => L ++ [s]
theorem joinQ_snoc (X : List Sp) (t s : Sp) : jH4 (X ++ [t]) s = if s.a ≤ t.b + 1 then X ++ [{ t with b := max t.b s.b }] else X ++ [t] ++ [s] := by
  have hl : (X ++ [t]).length - 1 = X.length := by simp
  have hg : (X ++ [t])[(X ++ [t]).length - 1]? = some t := by rw [hl]; simp
  unfold jH4
  rw [hg, hl]
  simp only
  split
  · rw [List.set_append_right _ _ (Nat.le_refl _), Nat.sub_self]; rfl
  · rfl
theorem joinQ_nil (s : Sp) : jH4 [] s = [s] := rfl
theorem joinQ_ok {L : List Sp} (h : Plain L) {s : Sp} (hs : s.a ≤ s.b) (ha : ∀ t ∈ L, t.a ≤ s.a) :
    Plain (jH4 L s) ∧ (∀ k, inS (jH4 L s) k ↔ inS L k ∨ s.has k) ∧ (∀ t ∈ jH4 L s, t.a ≤ s.a) := by
  by_cases h0 : L = []
  · subst h0
    exact ⟨Plain.one hs, fun k => by rw [joinQ_nil, inS_one]; exact ⟨.inr, fun h => h.elim (fun h => absurd h (inS_nil k)) id⟩, fun t ht => by rw [List.mem_singleton.1 ht]; exact Nat.le_refl _⟩
  · obtain ⟨X, t, rfl⟩ : ∃ X a, L = X ++ [a] := ⟨L.dropLast, L.getLast h0, (List.dropLast_concat_getLast h0).symm⟩
    have ht := ha t (by simp)
    have hto := h.ok t (by simp)
    have hX : Plain X := h.sub (List.sublist_append_left _ _)
    have hg := (List.pairwise_append.1 h.gap).2.2
    rw [joinQ_snoc]
    split
    · rename_i hj
      refine ⟨hX.app (Plain.one (by show t.a ≤ max t.b s.b; omega)) (fun u hu v hv => by rw [List.mem_singleton.1 hv]; exact hg u hu t (by simp)), fun k => ?_, fun u hu => ?_⟩
      · rw [inS_app, inS_app, inS_one, inS_one]
        constructor
        · rintro (h1 | ⟨h1, h2⟩)
          · exact .inl (.inl h1)
          · have h2 : k ≤ max t.b s.b := h2
            have h1 : t.a ≤ k := h1
            by_cases hk : k ≤ t.b
            · exact .inl (.inr ⟨h1, hk⟩)
            · exact .inr ⟨by omega, by omega⟩
        · rintro ((h1 | ⟨h1, h2⟩) | ⟨h1, h2⟩)
          · exact .inl h1
          · exact .inr ⟨h1, by show k ≤ max t.b s.b; omega⟩
          · exact .inr ⟨by show t.a ≤ k; omega, by show k ≤ max t.b s.b; omega⟩
      · rcases List.mem_append.1 hu with hu | hu
        · exact ha u (List.mem_append_left _ hu)
        · rw [List.mem_singleton.1 hu]; exact ht
    · rename_i hj
      refine ⟨h.app (Plain.one hs) (fun u hu v hv => ?_), fun k => by rw [inS_app, inS_one], fun u hu => ?_⟩
      · rw [List.mem_singleton.1 hv]
        rcases List.mem_append.1 hu with hu | hu
        · have := hg u hu t (by simp); omega
        · rw [List.mem_singleton.1 hu]; omega
      · rcases List.mem_append.1 hu with hu | hu
        · exact ha u hu
        · rw [List.mem_singleton.1 hu]; exact Nat.le_refl _
def BelowS (n : Nat) (L : List Sp) : Prop := ∀ s ∈ L, s.b < n
theorem below_in {n : Nat} {L : List Sp} (h : Plain L) : BelowS n L ↔ ∀ k, inS L k → k < n := by
  constructor
  · rintro hb k ⟨s, hs, hk⟩
    have := hb s hs; omega
  · intro hk s hs
    exact hk s.b ⟨s, hs, h.ok s hs, Nat.le_refl _⟩
end Go.Proofs.YtkojkeabelckjaaGreatDoor
namespace Go.Proofs.YtkojkeabelckjaaGreatDoor
open Go.RowKit
structure InvN (L : List Sp) (st : Nat × List Sp) : Prop where
  pl : Plain st.2
  lt : ∀ t ∈ st.2, t.b + 1 < st.1
  is_ : ∀ k, inS st.2 k ↔ k < st.1 ∧ ¬ inS L k
  le : ∀ s ∈ L, s.b < st.1
def totalQ (L : List Sp) : Nat := (L.map fun s => s.b + 1 - s.a).sum
end Go.Proofs.YtkojkeabelckjaaGreatDoor
namespace Go.Proofs.YtkojkeabelckjaaGreatDoor
open Go.RowKit
def hp : Nat → Nat → Nat → Nat
  | 0, _, _ => 0
  | z + 1, x, y =>
    if x < 2 ^ z then (if y < 2 ^ z then hp z y x else 4 ^ z + hp z x (y - 2 ^ z))
    else (if y < 2 ^ z then 3 * 4 ^ z + hp z (2 ^ z - 1 - y) (2 ^ z - 1 - (x - 2 ^ z)) else 2 * 4 ^ z + hp z (x - 2 ^ z) (y - 2 ^ z))
def pt : Nat → Nat → Nat × Nat
  | 0, _ => (0, 0)
  | z + 1, d =>
    if d / 4 ^ z = 0 then ((pt z (d % 4 ^ z)).2, (pt z (d % 4 ^ z)).1)
    else if d / 4 ^ z = 1 then ((pt z (d % 4 ^ z)).1, (pt z (d % 4 ^ z)).2 + 2 ^ z)
    else if d / 4 ^ z = 2 then ((pt z (d % 4 ^ z)).1 + 2 ^ z, (pt z (d % 4 ^ z)).2 + 2 ^ z)
    else (2 ^ z - 1 - (pt z (d % 4 ^ z)).2 + 2 ^ z, 2 ^ z - 1 - (pt z (d % 4 ^ z)).1)
theorem jG3 (z : Nat) : 0 < 2 ^ z := Nat.pow_pos (by decide)
theorem pow4_pos (z : Nat) : 0 < 4 ^ z := Nat.pow_pos (by decide)
theorem pow4_sq (z : Nat) : 4 ^ z = 2 ^ z * 2 ^ z := by rw [← Nat.mul_pow]
theorem hp_lt : ∀ (z x y : Nat), x < 2 ^ z → y < 2 ^ z → hp z x y < 4 ^ z
  | 0, _, _, _, _ => Nat.one_pos
  | z + 1, x, y, hx, hy => by
    have hq := pow4_pos z
    rw [Nat.pow_succ] at hx hy ⊢
    rw [hp]
    split
    · split
      · have := hp_lt z y x (by assumption) (by assumption); omega
      · have := hp_lt z x (y - 2 ^ z) (by assumption) (by omega); omega
    · split
      · have := hp_lt z (2 ^ z - 1 - y) (2 ^ z - 1 - (x - 2 ^ z)) (by omega) (by omega); omega
      · have := hp_lt z (x - 2 ^ z) (y - 2 ^ z) (by omega) (by omega); omega
theorem pt_lt : ∀ (z d : Nat), d < 4 ^ z → (pt z d).1 < 2 ^ z ∧ (pt z d).2 < 2 ^ z
  | 0, _, _ => ⟨Nat.one_pos, Nat.one_pos⟩
  | z + 1, d, hd => by
    have hm := pt_lt z (d % 4 ^ z) (Nat.mod_lt _ (pow4_pos z))
    rw [Nat.pow_succ 2 z]
    rw [pt]
    split
    · exact ⟨by show (pt z _).2 < _; omega, by show (pt z _).1 < _; omega⟩
    · split
      · exact ⟨by show (pt z _).1 < _; omega, by show (pt z _).2 + 2 ^ z < _; omega⟩
      · split
        · exact ⟨by show (pt z _).1 + 2 ^ z < _; omega, by show (pt z _).2 + 2 ^ z < _; omega⟩
        · exact ⟨by show 2 ^ z - 1 - (pt z _).2 + 2 ^ z < _; omega, by show 2 ^ z - 1 - (pt z _).1 < _; omega⟩
theorem quo_mod (q d k : Nat) (hq : 0 < q) (h : d / q = k) : d = k * q + d % q := by
  have := Nat.div_add_mod d q
  rw [h, Nat.mul_comm] at this
  exact this.symm
theorem div_is {q k m : Nat} (hm : m < q) : (k * q + m) / q = k ∧ (k * q + m) % q = m := by
  have hq : 0 < q := by omega
  rw [Nat.add_comm, Nat.add_mul_div_right _ _ hq, Nat.div_eq_of_lt hm, Nat.add_mul_mod_self_right, Nat.mod_eq_of_lt hm]
  exact ⟨Nat.zero_add _, rfl⟩
theorem hp_pt : ∀ (z d : Nat), d < 4 ^ z → hp z (pt z d).1 (pt z d).2 = d
  | 0, d, hd => by
    have : d = 0 := by simp at hd; omega
    subst this
    rfl
  | z + 1, d, hd => by
    have hq := pow4_pos z
    have hh := jG3 z
    have hml := Nat.mod_lt d hq
    have ih := hp_pt z (d % 4 ^ z) hml
    obtain ⟨h1, h2⟩ := pt_lt z (d % 4 ^ z) hml
    rw [Nat.pow_succ] at hd
    rw [pt]
    obtain ⟨p, hp0⟩ : ∃ p, pt z (d % 4 ^ z) = p := ⟨_, rfl⟩
    rw [hp0] at ih h1 h2 ⊢
    obtain ⟨a, b⟩ := p
    simp only at ih h1 h2
    split
    · rename_i h
      have := quo_mod _ d _ hq h
      show hp (z + 1) b a = d
      rw [hp, if_pos h2, if_pos h1, ih]
      omega
    · split
      · rename_i h
        have := quo_mod _ d _ hq h
        show hp (z + 1) a (b + 2 ^ z) = d
        rw [hp, if_pos h1, if_neg (by omega), Nat.add_sub_cancel, ih]
        omega
      · split
        · rename_i h
          have := quo_mod _ d _ hq h
          show hp (z + 1) (a + 2 ^ z) (b + 2 ^ z) = d
          rw [hp, if_neg (by omega), if_neg (by omega), Nat.add_sub_cancel, Nat.add_sub_cancel, ih]
          omega
        · rename_i n0 n1 n2
          have h3 : d / 4 ^ z = 3 := by
            have h4 : d / 4 ^ z < 4 := Nat.div_lt_of_lt_mul hd
            generalize d / 4 ^ z = t at n0 n1 n2 h4
            omega
          have := quo_mod _ d _ hq h3
          show hp (z + 1) (2 ^ z - 1 - b + 2 ^ z) (2 ^ z - 1 - a) = d
          rw [hp, if_neg (by omega), if_pos (by omega), Nat.add_sub_cancel, show 2 ^ z - 1 - (2 ^ z - 1 - a) = a by omega, show 2 ^ z - 1 - (2 ^ z - 1 - b) = b by omega, ih]
          omega
theorem pt_hp : ∀ (z x y : Nat), x < 2 ^ z → y < 2 ^ z → pt z (hp z x y) = (x, y)
  | 0, x, y, hx, hy => by
    have : x = 0 := by simp at hx; omega
    have : y = 0 := by simp at hy; omega
    subst x; subst y
    rfl
  | z + 1, x, y, hx, hy => by
    have hh := jG3 z
    rw [Nat.pow_succ] at hx hy
    rw [hp]
    by_cases h1 : x < 2 ^ z <;> by_cases h2 : y < 2 ^ z
    · rw [if_pos h1, if_pos h2]
      have hl := hp_lt z y x h2 h1
      have ih := pt_hp z y x h2 h1
      have hd := div_is (k := 0) hl
      rw [Nat.zero_mul, Nat.zero_add] at hd
      rw [pt, hd.1, hd.2, if_pos rfl, ih]
    · rw [if_pos h1, if_neg h2]
      have hl := hp_lt z x (y - 2 ^ z) h1 (by omega)
      have ih := pt_hp z x (y - 2 ^ z) h1 (by omega)
      have hd := div_is (k := 1) hl
      rw [Nat.one_mul] at hd
      rw [pt, hd.1, hd.2, if_neg (by decide), if_pos rfl, ih]
      show (x, y - 2 ^ z + 2 ^ z) = _
      congr 1
      omega
    · rw [if_neg h1, if_pos h2]
      have hl := hp_lt z (2 ^ z - 1 - y) (2 ^ z - 1 - (x - 2 ^ z)) (by omega) (by omega)
      have ih := pt_hp z (2 ^ z - 1 - y) (2 ^ z - 1 - (x - 2 ^ z)) (by omega) (by omega)
      have hd := div_is (k := 3) hl
      rw [pt, hd.1, hd.2, if_neg (by decide), if_neg (by decide), if_neg (by decide), ih]
      show (2 ^ z - 1 - (2 ^ z - 1 - (x - 2 ^ z)) + 2 ^ z, 2 ^ z - 1 - (2 ^ z - 1 - y)) = _
      congr 1 <;> omega
    · rw [if_neg h1, if_neg h2]
      have hl := hp_lt z (x - 2 ^ z) (y - 2 ^ z) (by omega) (by omega)
      have ih := pt_hp z (x - 2 ^ z) (y - 2 ^ z) (by omega) (by omega)
      have hd := div_is (k := 2) hl
      rw [pt, hd.1, hd.2, if_neg (by decide), if_neg (by decide), if_pos rfl, ih]
      show (x - 2 ^ z + 2 ^ z, y - 2 ^ z + 2 ^ z) = _
      congr 1 <;> omega
theorem hp_inj {z x y u v : Nat} (hx : x < 2 ^ z) (hy : y < 2 ^ z) (hu : u < 2 ^ z) (hv : v < 2 ^ z) (h : hp z x y = hp z u v) : x = u ∧ y = v := by
  have := pt_hp z x y hx hy
  rw [h, pt_hp z u v hu hv] at this
  injection this with a b
  exact ⟨a.symm, b.symm⟩
theorem hp_up : ∀ (z x y : Nat), x < 2 ^ (z + 1) → y < 2 ^ (z + 1) → hp z (x / 2) (y / 2) = hp (z + 1) x y / 4
  | 0, x, y, hx, hy => by
    have := hp_lt 1 x y hx hy
    have e : hp 0 (x / 2) (y / 2) = 0 := rfl
    rw [e]
    rw [Nat.pow_one] at this
    show 0 = hp 1 x y / 4
    omega
  | z + 1, x, y, hx, hy => by
    have hh := jG3 z
    have hq := pow4_pos z
    rw [hp, hp]
    rw [Nat.pow_succ 2 (z + 1)] at hx hy
    have e2 : 2 ^ (z + 1) = 2 * 2 ^ z := by rw [Nat.pow_succ]; omega
    have e4 : 4 ^ (z + 1) = 4 * 4 ^ z := by rw [Nat.pow_succ]; omega
    by_cases h1 : x < 2 ^ (z + 1) <;> by_cases h2 : y < 2 ^ (z + 1)
    · rw [if_pos h1, if_pos h2, if_pos (by omega), if_pos (by omega)]
      exact hp_up z y x h2 h1
    · rw [if_pos h1, if_neg h2, if_pos (by omega), if_neg (by omega), e4]
      have := hp_up z x (y - 2 ^ (z + 1)) h1 (by omega)
      rw [show (y - 2 ^ (z + 1)) / 2 = y / 2 - 2 ^ z by omega] at this
      rw [this]
      omega
    · rw [if_neg h1, if_pos h2, if_neg (by omega), if_pos (by omega), e4]
      have := hp_up z (2 ^ (z + 1) - 1 - y) (2 ^ (z + 1) - 1 - (x - 2 ^ (z + 1))) (by omega) (by omega)
      rw [show (2 ^ (z + 1) - 1 - y) / 2 = 2 ^ z - 1 - y / 2 by omega, show (2 ^ (z + 1) - 1 - (x - 2 ^ (z + 1))) / 2 = 2 ^ z - 1 - (x / 2 - 2 ^ z) by omega] at this
      rw [this]
      omega
    · rw [if_neg h1, if_neg h2, if_neg (by omega), if_neg (by omega), e4]
      have := hp_up z (x - 2 ^ (z + 1)) (y - 2 ^ (z + 1)) (by omega) (by omega)
      rw [show (x - 2 ^ (z + 1)) / 2 = x / 2 - 2 ^ z by omega, show (y - 2 ^ (z + 1)) / 2 = y / 2 - 2 ^ z by omega] at this
      rw [this]
      omega
theorem hp_lift : ∀ (n z x y : Nat), x < 2 ^ (z + n) → y < 2 ^ (z + n) → hp z (x / 2 ^ n) (y / 2 ^ n) = hp (z + n) x y / 4 ^ n
  | 0, z, x, y, _, _ => by simp
  | n + 1, z, x, y, hx, hy => by
    have h1 := hp_up (z + n) x y hx hy
    have e2 : 2 ^ (z + (n + 1)) = 2 * 2 ^ (z + n) := by rw [← Nat.add_assoc, Nat.pow_succ]; omega
    have h2 := hp_lift n z (x / 2) (y / 2) (by omega) (by omega)
    rw [h1, Nat.div_div_eq_div_mul, Nat.div_div_eq_div_mul, Nat.div_div_eq_div_mul] at h2
    rw [show 2 ^ (n + 1) = 2 * 2 ^ n by rw [Nat.pow_succ]; omega, show 4 ^ (n + 1) = 4 * 4 ^ n by rw [Nat.pow_succ]; omega]
    exact h2
end Go.Proofs.YtkojkeabelckjaaGreatDoor
namespace Go.Proofs.YtkojkeabelckjaaGreatDoor
open Go.RowKit
def zN (k : Nat) : Nat := (zoomQ k).toNat
theorem zN_at {k z : Nat} (hz : z ≤ 26) (h1 : jB8 z ≤ k) (h2 : k < jB8 (z + 1)) : zN k = z := by
  unfold zN
  rw [zoom_at hz h1 h2]
  rfl
theorem zN_ex {k : Nat} (h : k < 6004799503160661) : zN k ≤ 26 ∧ zoomQ k = (zN k : Int) ∧ jB8 (zN k) ≤ k ∧ k < jB8 (zN k + 1) := by
  obtain ⟨z, h1, h2, h3, h4⟩ := zoom_ex h
  have : zN k = z := by unfold zN; rw [h2]; rfl
  rw [this]
  exact ⟨h1, h2, h3, h4⟩
theorem base4_lt {z d : Nat} (hz : z ≤ 26) (hd : d < 4 ^ z) : jB8 z + d < 6004799503160661 := by
  have h1 : jB8 (z + 1) ≤ jB8 27 := base4_mono (by omega)
  rw [base4_27] at h1
  have h2 : jB8 (z + 1) = jB8 z + 4 ^ z := rfl
  omega
theorem zN_is {z d : Nat} (hz : z ≤ 26) (hd : d < 4 ^ z) : zN (jB8 z + d) = z := zN_at hz (Nat.le_add_right _ _) (by have h2 : jB8 (z + 1) = jB8 z + 4 ^ z := rfl; omega)
end Go.Proofs.YtkojkeabelckjaaGreatDoor
namespace Go.Proofs.YtkojkeabelckjaaGreatDoor
open Go.RowKit
theorem pow2_le26 {z : Nat} (h : z ≤ 26) : 2 ^ z ≤ 67108864 := Nat.pow_le_pow_right (n := 2) (by decide) h
def jH8 (z x y : Int) : Int := if z < 0 ∨ 26 < z then 2 else if x < 0 ∨ ((2 ^ z.toNat : Nat) : Int) ≤ x ∨ y < 0 ∨ ((2 ^ z.toNat : Nat) : Int) ≤ y then 8 else 0
def placeV (z x y : Int) : Nat := if jH8 z x y = 0 then hp z.toNat x.toNat y.toNat else 0
theorem place_e2 {z : Int} (h : z < 0 ∨ 26 < z) (x y : Int) : jH8 z x y = 2 ∧ placeV z x y = 0 := by
  have h1 : jH8 z x y = 2 := if_pos h
  exact ⟨h1, by unfold placeV; rw [h1]; rfl⟩
theorem place_e8 {z : Nat} (h : z ≤ 26) {x y : Int} (hx : x < 0 ∨ ((2 ^ z : Nat) : Int) ≤ x ∨ y < 0 ∨ ((2 ^ z : Nat) : Int) ≤ y) : jH8 z x y = 8 ∧ placeV z x y = 0 := by
  have h1 : jH8 z x y = 8 := by unfold jH8; rw [if_neg (by omega), Int.toNat_natCast, if_pos hx]
  exact ⟨h1, by unfold placeV; rw [h1]; rfl⟩
theorem place_e0 {z x y : Nat} (h : z ≤ 26) (hx : x < 2 ^ z) (hy : y < 2 ^ z) : jH8 z x y = 0 ∧ placeV z x y = hp z x y := by
  have h1 : jH8 z x y = 0 := by
    unfold jH8
    rw [if_neg (by omega), if_neg]
    rw [Int.toNat_natCast]
    omega
  exact ⟨h1, by unfold placeV; rw [h1, if_pos rfl]; rfl⟩
theorem place_ways (z x y : Int) : (z < 0 ∨ 26 < z) ∨ (∃ n : Nat, z = n ∧ n ≤ 26 ∧ (x < 0 ∨ ((2 ^ n : Nat) : Int) ≤ x ∨ y < 0 ∨ ((2 ^ n : Nat) : Int) ≤ y)) ∨ ∃ n a b : Nat, z = n ∧ x = a ∧ y = b ∧ n ≤ 26 ∧ a < 2 ^ n ∧ b < 2 ^ n := by
  by_cases hz : z < 0 ∨ 26 < z
  · exact .inl hz
  obtain ⟨n, rfl⟩ := Int.eq_ofNat_of_zero_le (show 0 ≤ z by omega)
  by_cases hx : x < 0 ∨ ((2 ^ n : Nat) : Int) ≤ x ∨ y < 0 ∨ ((2 ^ n : Nat) : Int) ≤ y
  · exact .inr (.inl ⟨n, rfl, by omega, hx⟩)
  obtain ⟨a, rfl⟩ := Int.eq_ofNat_of_zero_le (show 0 ≤ x by omega)
  obtain ⟨b, rfl⟩ := Int.eq_ofNat_of_zero_le (show 0 ≤ y by omega)
  exact .inr (.inr ⟨n, a, b, rfl, rfl, rfl, by omega, by omega, by omega⟩)
end Go.Proofs.YtkojkeabelckjaaGreatDoor
namespace Go.Proofs.YtkojkeabelckjaaGreatDoor
open Go.RowKit
abbrev tcells (z x y : Int) : List Value := [iq z, iq x, iq y]
abbrev tval (z x y : Int) : Value := .agg (tcells z x y).toArray
def idV (z x y : Int) : Nat := if jH8 z x y = 0 then jB8 z.toNat + placeV z x y else 0
theorem id_no {z x y : Int} (h : jH8 z x y ≠ 0) : idV z x y = 0 := if_neg h
theorem id_0 {z x y : Nat} (h : z ≤ 26) (hx : x < 2 ^ z) (hy : y < 2 ^ z) : idV z x y = jB8 z + hp z x y := by
  obtain ⟨h1, h2⟩ := place_e0 h hx hy
  unfold idV
  rw [if_pos h1, h2]
  rfl
theorem id_lt {z x y : Nat} (h : z ≤ 26) (hx : x < 2 ^ z) (hy : y < 2 ^ z) : jB8 z + hp z x y < 6004799503160661 := base4_lt h (hp_lt z x y hx hy)
end Go.Proofs.YtkojkeabelckjaaGreatDoor
namespace Go.Proofs.YtkojkeabelckjaaGreatDoor
open Go.RowKit
set_option maxRecDepth 100000
theorem tbase_fn (z : Nat) (hz : z ≤ 27) : Fn Tryz.prog 32 [iq (z : Nat)] [] fun v _ => v = uq (jB8 z) := by
  have h1 := base4_eq z
  have h2 : jB8 z ≤ jB8 27 := base4_mono hz
  rw [base4_27] at h2
  have h4 : (2 : Nat) ^ (2 * z) = 4 ^ z := by rw [Nat.pow_mul]
  have hi : ((2 : Int) ^ (2 * z)) = ((4 ^ z : Nat) : Int) := by rw [← h4]; norm_cast
  obtain ⟨p, hp⟩ : ∃ p : Nat, 4 ^ z = p := ⟨_, rfl⟩
  obtain ⟨b, hb⟩ : ∃ b : Nat, jB8 z = b := ⟨_, rfl⟩
  rw [hp] at h1 hi
  rw [hb] at h1 h2 ⊢
  refine Fn.enter (N := 8) Tryz.func32 rfl (by kernel_rfl) rfl (fun w0 => ?_)
  refine aR fun Z hZ => sA rfl rfl <| sN (hZ _ _ ?_)
  refine aF [(0, _)] (Kn.cons rfl (Kn.nil)) ?_
  refine aR fun Z hZ => sM rfl rfl ?_
  refine sx_mul rfl rfl ((2 * z : Nat) : Int) (by rw [IntWalk.i64_in _ (by omega)]; omega) rfl ?_
  refine sx_shl rfl rfl (by omega) ((p : Nat) : Int) (by rw [Int.toNat_natCast, show min (2 * z) IntKind.u64.bits = 2 * z from Nat.min_eq_left (by show 2 * z ≤ 64; omega), Int.one_mul, hi, IntWalk.u64_in _ (by omega)]) rfl ?_
  refine jG4 rfl rfl ((p - 1 : Nat) : Int) (by rw [IntWalk.u64_in _ (by omega)]; omega) rfl ?_
  refine sx_quo rfl rfl (by decide) ((b : Nat) : Int) (by rw [Int.tdiv_eq_ediv_of_nonneg (by omega), IntWalk.u64_in _ (by omega)]; omega) rfl ?_
  refine sA rfl rfl <| sN (hZ _ _ ?_)
  refine aF [(2, _)] (Kn.cons rfl (Kn.nil)) ?_
  refine aE ?_
  repeat (with_reducible (first | refine nTR ?_ | refine nBR ?_ | refine jC0 ?_))
  exact nR1 rfl rfl rfl
end Go.Proofs.YtkojkeabelckjaaGreatDoor
end
