/- Plain: what is found in a root and its leaf is what is found in the row. No conditions. -/
import Derived.Test.YtodclhiggafkbaaLf16
namespace Go.Proofs.Ytodclhiggafkbaa
open Go.RowKit
set_option linter.unusedVariables false
set_option linter.unusedSimpArgs false
theorem rootR_at : ∀ (ps : List (List En)) (t i : Nat) (P : List En), ps[i]? = some P → (rootR t ps)[i]? = some (rootE (t + (textP (ps.take i)).length) P)
  | [], _, i, _, h => by simp at h
  | Q :: r, t, 0, P, h => by
    obtain rfl : Q = P := by simpa using h
    simp [rootR, textP]
  | Q :: r, t, i + 1, P, h => by
    have h1 := rootR_at r (t + (encQ Q).1.length) i P (by simpa using h)
    rw [rootR, List.getElem?_cons_succ, h1, List.take_succ_cons]
    simp only [textP, List.flatMap_cons, List.length_append]
    rw [Nat.add_assoc]
theorem textP_split {ps : List (List En)} {i : Nat} {P : List En} (h : ps[i]? = some P) : textP ps = textP (ps.take i) ++ ((encQ P).1 ++ textP (ps.drop (i + 1))) := by
  obtain ⟨h1, h2⟩ := List.getElem?_eq_some_iff.1 h
  have : ps = ps.take i ++ (P :: ps.drop (i + 1)) := by
    rw [← h2, ← List.drop_eq_getElem_cons h1, List.take_append_drop]
  conv => lhs; rw [this]
  simp only [textP, List.flatMap_append, List.flatMap_cons]
theorem atE_pc {L : List En} {y i j : Nat} (h : j < (pcL L y i).length) : atE (pcL L y i) j = atE L (i * y + j) := by
  have hl := pcL_len L y i
  have h1 : (pcL L y i)[j]? = L[i * y + j]? := by
    rw [pcL, List.getElem?_take_of_lt (by omega), List.getElem?_drop]
  have h2 := atE_at h
  rw [h1, atE_at (L := L) (i := i * y + j) (by omega)] at h2
  exact (Option.some.inj h2).symm
theorem find_root {L : List En} {b : Int} {y k : Nat} (hE : EnsOk L) (hr : rowC L = 0) (hh : hasPtr L = false) (hy : 0 < y) (hok : okQ L b y = true) :
    EnsOk (rootR 0 (pcs L y)) ∧ rowC (rootR 0 (pcs L y)) = 0 ∧ (leQ k (rootR 0 (pcs L y)) = 0 → findQ (rootR 0 (pcs L y)) k = (zeroEn, false) ∧ findQ L k = (zeroEn, false)) ∧
    ∀ i, leQ k (rootR 0 (pcs L y)) = i + 1 → ∃ P t, findQ (rootR 0 (pcs L y)) k = (rootE t P, true) ∧ EnsOk P ∧ P.length ≤ y ∧ P.length ≤ L.length ∧ findQ P k = findQ L k ∧ t + (encQ P).1.length ≤ (textP (pcs L y)).length ∧
      ∃ q, decQ (((textP (pcs L y)).drop t).take (encQ P).1.length) = (P, q, 0) := by
  obtain ⟨hP, _⟩ := okQ_facts hy hE hh hok
  obtain ⟨hq0, hl⟩ := rowC_q hr
  have hpl : (pcs L y).length ≤ L.length := by rw [pcs_len]; exact cntP_le hy
  have hP3 : ∀ P ∈ pcs L y, 0 < P.length ∧ EnsOk P ∧ (encQ P).2 = 0 := fun P h => ⟨(hP P h).1, (hP P h).2.1, (hP P h).2.2.1⟩
  have hrow := root_row (pcs L y) 0 0 hP3 (by rw [pcs_flat hy]; exact hq0) (by omega)
  have hrl := rootR_len (pcs L y) 0
  have hrc := q_rowC hrow (by omega)
  have hRE : EnsOk (rootR 0 (pcs L y)) := rootR_ok _ 0 (fun P h => (hP P h).2.1) (by omega)
  -- the heads
  have hhead : ∀ j, j < cntP L.length y → (atE (rootR 0 (pcs L y)) j).id = (atE L (j * y)).id := fun j hj => by
    have h1 := rootR_at (pcs L y) 0 j _ (pcs_at hj)
    rw [atE_at (by rw [hrl, pcs_len]; exact hj)] at h1
    rw [Option.some.inj h1]
    show (atE (pcL L y j) 0).id = _
    have hjy := (cntP_iff hy).1 hj
    rw [atE_pc (by rw [pcL_len]; omega)]
    rfl
  obtain ⟨a1, a2, a3⟩ := leQ_facts k (rootR 0 (pcs L y))
  obtain ⟨b1, b2, b3⟩ := leQ_facts k L
  rw [hrl, pcs_len] at a1 a3
  refine ⟨hRE, hrc, fun h0 => ?_, fun i hi => ?_⟩
  · have e1 : findQ (rootR 0 (pcs L y)) k = (zeroEn, false) := by unfold findQ; rw [if_neg (by simpa using hrc), if_pos h0]
    refine ⟨e1, ?_⟩
    have hz : leQ k L = 0 := by
      rcases Nat.eq_zero_or_pos L.length with hL | hL
      · omega
      · have hc : 0 < cntP L.length y := (cntP_iff hy).2 (by omega)
        rw [h0] at a3
        have h1 := a3 hc
        rw [hhead 0 hc, Nat.zero_mul] at h1
        rcases Nat.eq_zero_or_pos (leQ k L) with h2 | h2
        · exact h2
        · have := b2 0 h2
          omega
    unfold findQ
    rw [if_neg (by simpa using hr), if_pos hz]
  · have hic : i < cntP L.length y := by omega
    have hiy := (cntP_iff hy).1 hic
    obtain ⟨P, hPe⟩ : ∃ P, pcL L y i = P := ⟨_, rfl⟩
    have hPat := pcs_at (L := L) hic
    rw [hPe] at hPat
    have hPm := List.mem_of_getElem? hPat
    obtain ⟨p1, p2, p3⟩ := hP3 P hPm
    have hPl : P.length = min y (L.length - i * y) := by rw [← hPe, pcL_len]
    have hPa : ∀ j, j < P.length → atE P j = atE L (i * y + j) := fun j hj => by rw [← hPe] at hj ⊢; exact atE_pc hj
    obtain ⟨hrcP, hszP, hencP⟩ := encQ_ok p3
    have hroot := rootR_at (pcs L y) 0 i P hPat
    rw [atE_at (by rw [hrl, pcs_len]; exact hic)] at hroot
    have hroot := Option.some.inj hroot
    obtain ⟨t, ht⟩ : ∃ t, 0 + (textP ((pcs L y).take i)).length = t := ⟨_, rfl⟩
    rw [ht] at hroot
    have hts := textP_split hPat
    have htl : (textP (pcs L y)).length = t + ((encQ P).1.length + (textP ((pcs L y).drop (i + 1))).length) := by rw [hts, List.length_append, List.length_append]; omega
    have hS : ((textP (pcs L y)).drop t).take (encQ P).1.length = (encQ P).1 := by
      rw [hts, List.drop_left' (by omega), List.take_left]
    have hd := decQ_enc p2 hrcP [] (by simpa using hszP)
    rw [List.append_nil, if_neg (by decide)] at hd
    have hlo : i * y < leQ k L := by
      rcases Nat.lt_or_ge (i * y) (leQ k L) with h | h
      · exact h
      · exfalso
        have h1 := b3 (by omega)
        have h2 := ids_le hr hE (i * y) (leQ k L) h hiy
        have h3 := a2 i (by omega)
        rw [hhead i hic] at h3
        omega
    have hhi : leQ k L ≤ i * y + P.length := by
      rcases Nat.lt_or_ge (i * y + P.length) (leQ k L) with h | h
      · exfalso
        have hy2 : P.length = y := by omega
        have hc1 : i + 1 < cntP L.length y := (cntP_iff hy).2 (by rw [Nat.succ_mul]; omega)
        have h1 := a3 (by omega)
        rw [hi, hhead (i + 1) hc1] at h1
        have h2 := b2 ((i + 1) * y) (by rw [Nat.succ_mul]; omega)
        omega
      · exact h
    have hle : leQ k P = leQ k L - i * y := leQ_eq k P _ (by omega) (fun j hj => by rw [hPa j (by omega)]; exact b2 _ (by omega)) (fun hl => by
      rw [hPa _ hl, show i * y + (leQ k L - i * y) = leQ k L by omega]
      exact b3 (by omega))
    refine ⟨P, t, ?_, p2, by omega, by omega, ?_, by omega, ?_⟩
    · unfold findQ
      rw [if_neg (by simpa using hrc), if_neg (by omega), hi, Nat.add_sub_cancel, hroot, if_neg (by rintro ⟨h, _⟩; exact absurd h (Nat.lt_irrefl 0))]
    · have hx : atE P (leQ k P - 1) = atE L (leQ k L - 1) := by rw [hPa _ (by omega), hle, show i * y + (leQ k L - i * y - 1) = leQ k L - 1 by omega]
      have f1 : findQ P k = if 0 < (atE L (leQ k L - 1)).run ∧ hasQ (atE L (leQ k L - 1)) k = false then (zeroEn, false) else (atE L (leQ k L - 1), true) := by
        unfold findQ
        rw [if_neg (by simpa using hrcP), if_neg (by omega), hx]
      have f2 : findQ L k = if 0 < (atE L (leQ k L - 1)).run ∧ hasQ (atE L (leQ k L - 1)) k = false then (zeroEn, false) else (atE L (leQ k L - 1), true) := by
        unfold findQ
        rw [if_neg (by simpa using hr), if_neg (by omega)]
      exact f1.trans f2.symm
    · rw [hS, hencP]
      exact ⟨_, hd⟩
end Go.Proofs.Ytodclhiggafkbaa
