/- The contents of a chart, counted; the entries that have an identifier, counted: plain laws. The key of texts. -/
import Derived.Test.YtffahimbmpddpaaMp4
namespace Go.Proofs.Ytffahimbmpddpaa.V
open Go.RowKit
set_option linter.unusedVariables false
set_option linter.unusedSimpArgs false
theorem str_beq (a b : Tx) : (str a == str b) = decide (a = b) := by
  have e : (str a == str b) = (a.toArray == b.toArray) := rfl
  rw [e, Bool.eq_iff_iff, beq_iff_eq, decide_eq_true_iff]
  exact ⟨fun h => by simpa using h, fun h => by rw [h]⟩
theorem tx_beq (a b : Tx) : (a == b) = decide (a = b) := by rw [Bool.eq_iff_iff, decide_eq_true_iff, beq_iff_eq]
theorem keyT : KeyOk Try.prog 9 (fun s : Tx => .string (str s)) where
  eq a b w := by
    simp [go_sem, Op.equal, Op.maxDepth, run_underlying Try.underlying9, str_toL, tx_beq]
  chk e a w := by
    rw [show (10000 : Nat) = 9999 + 1 from rfl, Instr.checkKey]
    simp [run_underlying Try.underlying9]
  und := ⟨_, Try.underlying9, .inr fun a b => by simp [Instr.sameNow, str_beq]⟩
  same a := by simp [Instr.sameBits, str_beq]
abbrev TxM := List (Tx × Nat)
def tally (M : TxM) (x : It) : TxM := aput M x.tx ((aget M x.tx).getD 0 + 1)
def tallyM (C : List It) : TxM := C.foldl tally []
theorem tally_snoc {C : List It} {k : Nat} {x : It} (h : C[k]? = some x) : tallyM (C.take (k + 1)) = tally (tallyM (C.take k)) x := by
  obtain ⟨hlt, rfl⟩ := List.getElem?_eq_some_iff.1 h
  unfold tallyM
  rw [List.take_succ_eq_append_getElem hlt, List.foldl_append, List.foldl_cons, List.foldl_nil]
theorem tally_keys (M : TxM) (x : It) : akeys (tally M x) = addT (akeys M) x.tx := by
  unfold tally addT
  split
  · rename_i h
    rw [akeys_put_in _ h]
  · rename_i h
    rw [akeys_put_out _ h]
theorem tallyM_keys : ∀ (C : List It) (M : TxM), akeys (C.foldl tally M) = C.foldl (fun ts x => addT ts x.tx) (akeys M)
  | [], M => rfl
  | x :: r, M => by rw [List.foldl_cons, List.foldl_cons, tallyM_keys r, tally_keys]
theorem tallyM_is (C : List It) : akeys (tallyM C) = tsS C := tallyM_keys C []
theorem tallyM_len (C : List It) : (tallyM C).length = (tsS C).length := by rw [← tallyM_is]; simp [akeys]
theorem tally_le : ∀ (C : List It) (i : Nat), i ≤ C.length → ∀ k n, aget (tallyM (C.take i)) k = some n → 1 ≤ n ∧ n ≤ i
  | C, 0, _, k, n, h => by simp [tallyM, aget] at h
  | C, i + 1, hi, k, n, h => by
    have hx : C[i]? = some C[i] := List.getElem?_eq_getElem (by omega)
    have ih := tally_le C i (by omega)
    rw [tally_snoc hx] at h
    unfold tally at h
    rw [aget_put] at h
    split at h
    · injection h with h
      subst h
      cases hg : aget (tallyM (C.take i)) C[i].tx with
      | none => simp
      | some m =>
        have := ih _ _ hg
        simp only [Option.getD_some]
        omega
    · have := ih _ _ h
      omega
theorem tally_get {C : List It} {i : Nat} (hi : i ≤ C.length) (t : Tx) : ∃ n, (aget (tallyM (C.take i)) t).getD 0 = n ∧ n ≤ i ∧ (n = 0 ↔ t ∉ tsS (C.take i)) := by
  have h1 := aget_none (M := tallyM (C.take i)) (k := t)
  rw [tallyM_is] at h1
  cases h : aget (tallyM (C.take i)) t with
  | none =>
    rw [h] at h1
    exact ⟨0, rfl, Nat.zero_le _, fun _ => h1.1 rfl, fun _ => rfl⟩
  | some n =>
    obtain ⟨a, b⟩ := tally_le C i hi t n h
    rw [h] at h1
    refine ⟨n, rfl, b, fun e => absurd e (by omega), fun hn => ?_⟩
    have := h1.2 hn
    cases this
/-- How many entries have an identifier. -/
def hasN (L : List En) (k : Nat) : Nat := (L.filter fun e => mhasQ e k).length
theorem hasN_snoc {L : List En} {i : Nat} {x : En} (h : L[i]? = some x) (k : Nat) : hasN (L.take (i + 1)) k = hasN (L.take i) k + if mhasQ x k then 1 else 0 := by
  obtain ⟨hlt, rfl⟩ := List.getElem?_eq_some_iff.1 h
  unfold hasN
  rw [List.take_succ_eq_append_getElem hlt, List.filter_append, List.length_append]
  congr 1
  by_cases hm : mhasQ L[i] k = true
  · simp [hm]
  · simp [hm]
theorem hasN_le (L : List En) (k : Nat) : hasN L k ≤ L.length := List.length_filter_le _ _
theorem mhas_exp {e : En} (h : 0 < e.run ∧ chkE e = 0) (k : Nat) : mhasQ e k = true ↔ ∃ u ∈ expE e, u.id = k := by
  have hl := last_is h.2 h.1
  unfold mhasQ
  rw [decide_eq_true_iff]
  constructor
  · rintro ⟨h1, h2, h3, h4⟩
    exact ⟨_, expE_mem.2 ⟨k - e.id, by omega, rfl⟩, by show e.id + (k - e.id) = k; omega⟩
  · rintro ⟨u, hu, rfl⟩
    obtain ⟨j, hj, rfl⟩ := expE_mem.1 hu
    exact ⟨h.2, h.1, by show e.id ≤ e.id + j; omega, by show e.id + j ≤ _; omega⟩
theorem hasN_gr (k : Nat) : ∀ (R : List En), (∀ e ∈ R, 0 < e.run ∧ chkE e = 0) → (R.flatMap expE).Pairwise (fun a b => a.id < b.id) → hasN R k = if ∃ u ∈ R.flatMap expE, u.id = k then 1 else 0
  | [], _, _ => by simp [hasN]
  | e :: r, h1, hp => by
    rw [List.flatMap_cons] at hp ⊢
    obtain ⟨p1, p2, p3⟩ := List.pairwise_append.1 hp
    have ih := hasN_gr k r (fun e he => h1 e (List.mem_cons_of_mem _ he)) p2
    have hm := mhas_exp (h1 e List.mem_cons_self) k
    have hcons : hasN (e :: r) k = (if mhasQ e k = true then 1 else 0) + hasN r k := by
      unfold hasN
      by_cases hq : mhasQ e k = true
      · simp [hq]; omega
      · simp [hq]
    rw [hcons]
    by_cases hq : mhasQ e k = true
    · obtain ⟨u, hu, huk⟩ := hm.1 hq
      have h0 : hasN r k = 0 := by
        rw [ih, if_neg]
        rintro ⟨v, hv, hvk⟩
        have := p3 u hu v hv
        omega
      rw [if_pos hq, h0, if_pos ⟨u, List.mem_append_left _ hu, huk⟩]
    · rw [if_neg hq, ih, Nat.zero_add]
      by_cases hr : ∃ u ∈ r.flatMap expE, u.id = k
      · obtain ⟨u, hu, huk⟩ := hr
        rw [if_pos ⟨u, hu, huk⟩, if_pos ⟨u, List.mem_append_right _ hu, huk⟩]
      · rw [if_neg hr, if_neg]
        rintro ⟨u, hu, huk⟩
        rcases List.mem_append.1 hu with hu | hu
        · exact hq (hm.2 ⟨u, hu, huk⟩)
        · exact hr ⟨u, hu, huk⟩
theorem WhOk.has {C : List It} {R : List En} {D : List UInt8} (h : WhOk C R D) (hok : ChOk C) (k : Nat) : hasN R k = if cHas k C = true then 1 else 0 := by
  have hp : (R.flatMap expE).Pairwise (fun a b => a.id < b.id) := by
    rw [h.gr.ex]
    exact List.pairwise_map.2 hok.rise
  rw [hasN_gr k R (fun e he => ⟨(h.gr.ok e he).1, (h.gr.ok e he).2.1⟩) hp, h.gr.ex, chas_mem hok.rise]
  have : (∃ u ∈ unitsQ C, u.id = k) ↔ k ∈ idsI C := by
    unfold unitsQ idsI
    constructor
    · rintro ⟨u, hu, rfl⟩
      obtain ⟨x, hx, rfl⟩ := List.mem_map.1 hu
      exact List.mem_map.2 ⟨x, hx, rfl⟩
    · intro hk
      obtain ⟨x, hx, rfl⟩ := List.mem_map.1 hk
      exact ⟨_, List.mem_map.2 ⟨x, hx, rfl⟩, rfl⟩
  by_cases hk : k ∈ idsI C
  · rw [if_pos (this.2 hk), if_pos (decide_eq_true hk)]
  · rw [if_neg (fun hc => hk (this.1 hc)), if_neg (by simpa using hk)]
theorem tsS_fl6 : ∀ (C : List It) (ts : List Tx), (C.foldl (fun ts x => addT ts x.tx) ts).flatten.length ≤ ts.flatten.length + cBytes C
  | [], ts => by simp [cBytes]
  | x :: r, ts => by
    rw [List.foldl_cons]
    have h1 := tsS_fl6 r (addT ts x.tx)
    have h2 := (addT_fl ts x.tx).2
    have h3 : cBytes (x :: r) = x.tx.length + cBytes r := by simp [cBytes]
    omega
theorem own_bytes (L : List It) : cBytes (ownQ L) ≤ cBytes L := by
  have : ∀ (L acc : List It), ChOk acc → cBytes (L.foldl (fun acc e => putQ e.id e.tx acc) acc) ≤ cBytes acc + cBytes L := by
    intro L
    induction L with
    | nil => intro acc _; simp [cBytes]
    | cons x r ih =>
      intro acc h
      rw [List.foldl_cons]
      have h1 := ih _ (h.putQ x.id x.tx)
      have h2 : cBytes (putQ x.id x.tx acc) ≤ cBytes acc + x.tx.length := by
        unfold putQ
        split
        · exact put_bytes h.rise _ _
        · omega
      have h3 : cBytes (x :: r) = x.tx.length + cBytes r := by simp [cBytes]
      omega
  have := this L [] ChOk.nil
  simpa [ownQ, cBytes] using this
end Go.Proofs.Ytffahimbmpddpaa.V
