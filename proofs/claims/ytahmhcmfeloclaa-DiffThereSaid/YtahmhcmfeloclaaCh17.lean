/- Plain facts of charts, for the laws. No conditions. -/
import Derived.Test.YtahmhcmfeloclaaCh16
namespace Go.Proofs.Ytahmhcmfeloclaa
open Go.RowKit
set_option linter.unusedVariables false
set_option linter.unusedSimpArgs false
theorem get_at {L : List It} (hr : Rise L) {i : Nat} (hi : i < L.length) : cHas (itAt L i).id L = true ∧ cGet (itAt L i).id L = (itAt L i).tx := by
  have h := cLo_eq (itAt L i).id L i (Nat.le_of_lt hi) (fun j hj => rise_lt hr hj hi) (fun _ => Nat.le_refl _)
  have h1 : cHas (itAt L i).id L = true := by
    unfold cHas
    rw [h]
    simp [hi]
  refine ⟨h1, ?_⟩
  unfold cGet
  rw [h1, h]
  rfl
theorem ofE_zero : ∀ (M : List It) (seen : List Nat), (seen ++ idsI M).Nodup → seen.length + M.length ≤ 2048 → (∀ e ∈ M, e.id < 6004799503160661 ∧ e.tx ≠ [] ∧ e.tx.length ≤ 65536) → ofE seen M = 0
  | [], _, _, _, _ => rfl
  | e :: r, seen, hn, hl, hg => by
    have h1 := hg e List.mem_cons_self
    have h2 : e.id ∉ seen := fun hm => by
      have := List.nodup_append.1 hn
      exact this.2.2 e.id hm e.id (by simp [idsI]) rfl
    have h3 : ¬ 2048 ≤ seen.length := by simp at hl; omega
    have hw : wrongQ e.id e.tx (decide (2048 ≤ seen.length)) = 0 := by
      unfold wrongQ
      rw [if_neg (by omega), if_neg h1.2.1, if_neg (by omega), decide_eq_false h3]
      rfl
    rw [ofE, if_neg h2, hw, if_neg (by simp)]
    refine ofE_zero r (seen ++ [e.id]) (by simpa [idsI] using hn) (by simp at hl ⊢; omega) fun x hx => hg x (List.mem_cons_of_mem _ hx)
theorem of_perm {O M : List It} (hO : ChOk O) (hp : M.Perm O) : ofQ M = 0 ∧ ofL M = O := by
  have hn : (idsI O).Nodup := by
    unfold idsI
    have := hO.rise
    exact (List.pairwise_map.2 (this.imp fun h => Nat.ne_of_lt h))
  have hnM : (idsI M).Nodup := (hp.map fun e : It => e.id).nodup_iff.2 hn
  have h0 : ofQ M = 0 := ofE_zero M [] (by simpa using hnM) (by have := hp.length_eq; have := hO.len; simp; omega) fun e he => by
    have hm := hp.mem_iff.1 he
    exact ⟨hO.lt e hm, hO.tx e hm⟩
  refine ⟨h0, ?_⟩
  unfold ofL
  rw [if_pos h0]
  exact (sort_is hnM hp.symm (hO.rise.imp fun h => Nat.le_of_lt h)).symm
theorem put_zero {k : Nat} {s : List UInt8} {L : List It} (h : putE k s L = 0) : k < 6004799503160661 ∧ s ≠ [] ∧ s.length ≤ 65536 := by
  unfold putE wrongQ at h
  repeat' split at h
  all_goals first | omega | skip
  rename_i h1 h2 h3 h4
  exact ⟨by omega, h2, by omega⟩
theorem put_get {L : List It} (hr : Rise L) {k : Nat} {s : List UInt8} (h : putE k s L = 0) : cHas k (putQ k s L) = true ∧ cGet k (putQ k s L) = s := by
  rw [putQ_new h]
  obtain ⟨X, Y, hh, ⟨t, rfl⟩ | rfl⟩ := it_half hr k
  · rw [hh.put1, hh.has1, hh.get1]; exact ⟨rfl, rfl⟩
  · rw [hh.put0, hh.has1, hh.get1]; exact ⟨rfl, rfl⟩
theorem put_del {L : List It} (hr : Rise L) {k : Nat} {s : List UInt8} (h : putE k s L = 0) : cDel k (putQ k s L) = cDel k L := by
  rw [putQ_new h]
  obtain ⟨X, Y, hh, ⟨t, rfl⟩ | rfl⟩ := it_half hr k
  · rw [hh.put1, hh.del1, hh.del1]
  · rw [hh.put0, hh.del1, hh.del0]
theorem chas_mem {L : List It} (hr : Rise L) (k : Nat) : cHas k L = decide (k ∈ idsI L) := by rw [(get_eq hr k).1, rget_mem]
theorem put_bytesE {L : List It} (hr : Rise L) {k : Nat} {t s : List UInt8} (hm : ⟨k, s⟩ ∈ L) : cBytes (cPut k t L) + s.length = cBytes L + t.length := by
  obtain ⟨X, Y, h, ⟨s', rfl⟩ | rfl⟩ := it_half hr k
  · have hs : s' = s := by
      rcases List.mem_append.1 hm with hm | hm
      · exact absurd rfl (h.ne.1 _ hm)
      · rcases List.mem_cons.1 hm with hm | hm
        · injection hm with _ e; exact e.symm
        · exact absurd rfl (h.ne.2 _ hm)
    subst hs
    rw [h.put1]; simp [cBytes]; omega
  · exfalso
    rcases List.mem_append.1 hm with hm | hm
    · exact h.ne.1 _ hm rfl
    · exact h.ne.2 _ hm rfl
/-- As many tiles as there may be. -/
def bigL (n : Nat) : List It := (List.range n).map fun i => ⟨3 * i, [116]⟩
theorem bigL_len (n : Nat) : (bigL n).length = n := by simp [bigL]
theorem bigL_snoc (n : Nat) : bigL (n + 1) = bigL n ++ [⟨3 * n, [116]⟩] := by simp [bigL, List.range_succ]
theorem bigL_bytes (n : Nat) : cBytes (bigL n) = n := by
  induction n with
  | zero => rfl
  | succ n ih =>
    rw [bigL_snoc]
    simp only [cBytes, List.map_append, List.sum_append] at ih ⊢
    rw [ih]
    simp
theorem bigL_ok (n : Nat) (h : n ≤ 2048) : ChOk (bigL n) := by
  refine ⟨?_, fun e he => ?_, fun e he => ?_, by rw [bigL_len]; exact h⟩
  · unfold Rise bigL
    refine List.pairwise_map.2 ((List.pairwise_lt_range).imp fun h => ?_)
    show 3 * _ < 3 * _
    omega
  · obtain ⟨i, hi, rfl⟩ := List.mem_map.1 he
    have := List.mem_range.1 hi
    show 3 * i < _
    omega
  · obtain ⟨i, hi, rfl⟩ := List.mem_map.1 he
    exact ⟨by simp, by simp⟩
theorem bigL_of : ofQ (bigL 2048) = 0 ∧ ofL (bigL 2048) = bigL 2048 := of_perm (bigL_ok 2048 (Nat.le_refl _)) (List.Perm.refl _)
theorem bigL_put0 (b : Nat) (hb : b < 65536) (t : List UInt8) (h1 : t ≠ []) (h2 : t.length ≤ 65536) : putE (3 * b + 1) t (bigL 2048) = 7 := by
  have hr := (bigL_ok 2048 (Nat.le_refl _)).rise
  have hf : fullQ (3 * b + 1) (bigL 2048) = true := by
    unfold fullQ
    rw [chas_mem hr, bigL_len, decide_eq_false (p := 3 * b + 1 ∈ idsI (bigL 2048))]
    · rfl
    · intro h
      simp only [idsI, bigL, List.map_map, List.mem_map, List.mem_range, Function.comp] at h
      obtain ⟨i, _, h⟩ := h
      omega
  unfold putE wrongQ
  rw [if_neg (by omega), if_neg h1, if_neg (by omega), if_pos hf]
theorem bigL_put1 (b : Nat) (hb : b < 2048) (t : List UInt8) (h1 : t ≠ []) (h2 : t.length ≤ 65536) : putE (3 * b) t (bigL 2048) = 0 ∧ (putQ (3 * b) t (bigL 2048)).length = 2048 ∧ cBytes (putQ (3 * b) t (bigL 2048)) = 2047 + t.length := by
  have hr := (bigL_ok 2048 (Nat.le_refl _)).rise
  have hm : (⟨3 * b, [116]⟩ : It) ∈ bigL 2048 := List.mem_map.2 ⟨b, List.mem_range.2 hb, rfl⟩
  have hh : cHas (3 * b) (bigL 2048) = true := by
    rw [chas_mem hr]
    exact decide_eq_true (List.mem_map.2 ⟨_, hm, rfl⟩)
  have h0 : putE (3 * b) t (bigL 2048) = 0 := by
    unfold putE wrongQ fullQ
    rw [if_neg (by omega), if_neg h1, if_neg (by omega), hh, if_neg (by simp)]
  have h3 := put_bytesE (t := t) hr hm
  rw [bigL_bytes] at h3
  refine ⟨h0, ?_, ?_⟩
  · rw [putQ_new h0, put_len hr, hh, bigL_len]
    rfl
  · rw [putQ_new h0]
    simp at h3
    omega
theorem one_put (k : Nat) (hk : k < 2048) (t : List UInt8) (ht : t.length = 65536) : putE k t [] = 0 ∧ cBytes (putQ k t []) = 65536 := by
  have h0 : putE k t [] = 0 := by
    unfold putE wrongQ
    rw [if_neg (by omega), if_neg (by intro h; rw [h] at ht; simp at ht), if_neg (by omega), if_neg (by simp [fullQ])]
  refine ⟨h0, ?_⟩
  rw [putQ_new h0]
  simp [cPut, cLo, cHas, cBytes, ht]
theorem one_long (k : Nat) (hk : k < 2048) (t : List UInt8) (ht : t.length = 65537) : putE k t [] = 5 := by
  unfold putE wrongQ
  rw [if_neg (by omega), if_neg (by intro h; rw [h] at ht; simp at ht), if_pos (by omega)]
end Go.Proofs.Ytahmhcmfeloclaa
