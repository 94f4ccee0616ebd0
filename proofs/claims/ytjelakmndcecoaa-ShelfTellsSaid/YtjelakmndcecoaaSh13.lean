/- What a shelf tells, plain: each key's text is the last directory that was kept by it. No program in sight. No conditions. -/
import Derived.Test.YtjelakmndcecoaaSh11
namespace Go.Proofs.Ytjelakmndcecoaa
open Go.RowKit
set_option linter.unusedVariables false
set_option linter.unusedSimpArgs false
set_option maxRecDepth 100000
/-- The call keeps a directory by the key. -/
def Hit (k : Ky) (y : Opn) : Prop := (decQ y.v).2.2 = 0 ∧ y.k = k
def HitB (k : Ky) (y : Opn) : Bool := decide ((decQ y.v).2.2 = 0) && keq y.k k
theorem hitB_iff {k : Ky} {y : Opn} : HitB k y = true ↔ Hit k y := by simp [HitB, Hit, keq]
theorem hitB_of {k : Ky} {z : Opn} {e : Nat} (h : (decQ z.v).2.2 = e) : HitB k z = (decide (e = 0) && keq z.k k) := by rw [HitB, h]
/-- The last call that keeps by the key is this one. -/
def LastAt (P : List Opn) (i : Nat) (k : Ky) (n : Nat) : Prop := n < i ∧ (∃ y, P[n]? = some y ∧ Hit k y) ∧ ∀ m y, n < m → m < i → P[m]? = some y → ¬ Hit k y
def Said (P : List Opn) (i : Nat) (X : List Item) : Prop := ∀ x ∈ X, ∃ n y, LastAt P i x.1 n ∧ P[n]? = some y ∧ y.v = x.2
theorem Said.nil (P : List Opn) (i : Nat) : Said P i [] := fun x h => by cases h
theorem Said.get {P : List Opn} {i : Nat} {X : List Item} (h : Said P i X) (k : Ky) : Said P i (rGetL X k) := fun x hx => by
  unfold rGetL at hx
  cases hk : hasK X k with
  | false => rw [hk] at hx; exact h x hx
  | true =>
    rw [hk, if_pos rfl] at hx
    rcases List.mem_append.1 hx with hx | hx
    · exact h x (List.mem_filter.1 hx).1
    · rw [List.mem_singleton.1 hx]
      obtain ⟨z, hz, he⟩ := List.any_eq_true.1 hk
      unfold valK
      cases hf : X.find? fun x => decide (x.1 = k) with
      | none => exact absurd he (List.find?_eq_none.1 hf z hz)
      | some z =>
        have h1 := List.find?_some hf
        have h2 := h z (List.mem_of_find?_eq_some hf)
        have h3 : z.1 = k := by simpa using h1
        rw [h3] at h2
        exact h2
theorem Said.has {P : List Opn} {i : Nat} {X : List Item} (h : Said P i X) {k : Ky} (hk : hasK X k = true) : ∃ n y, LastAt P i k n ∧ P[n]? = some y ∧ y.v = valK X k := by
  have h1 : (k, valK X k) ∈ rGetL X k := by
    unfold rGetL
    rw [if_pos hk]
    exact List.mem_append_right _ (List.mem_singleton.2 rfl)
  exact h.get k _ h1
theorem LastAt.more {P : List Opn} {i n : Nat} {k : Ky} {x : Opn} (h : LastAt P i k n) (hx : P[i]? = some x) (hn : ¬ Hit k x) : LastAt P (i + 1) k n := by
  refine ⟨Nat.lt_succ_of_lt h.1, h.2.1, fun m y h1 h2 h3 => ?_⟩
  rcases Nat.lt_or_ge m i with h4 | h4
  · exact h.2.2 m y h1 h4 h3
  · obtain rfl : m = i := by omega
    rw [hx] at h3
    rw [← Option.some.inj h3]
    exact hn
theorem Said.keep {P : List Opn} {i most : Nat} {X : List Item} (h : Said P i X) {x : Opn} (hx : P[i]? = some x) : Said P (i + 1) (keepX most X x.k x.v) := fun z hz => by
  have hit : (decQ x.v).2.2 = 0 → LastAt P (i + 1) x.k i := fun h0 => ⟨Nat.lt_succ_self i, ⟨x, hx, h0, rfl⟩, fun m y h1 h2 => by omega⟩
  unfold keepX at hz
  by_cases h0 : (decQ x.v).2.2 = 0
  · rw [if_pos h0] at hz
    have hm : z ∈ rDrop X x.k ++ [(x.k, x.v)] := by
      unfold rPutL at hz
      split at hz
      · exact hz
      · exact List.mem_of_mem_tail hz
    rcases List.mem_append.1 hm with hm | hm
    · obtain ⟨h1, h2⟩ := List.mem_filter.1 hm
      have h3 : z.1 ≠ x.k := by simpa using h2
      obtain ⟨n, y, h4, h5, h6⟩ := h z h1
      exact ⟨n, y, h4.more hx (fun hh => h3 hh.2.symm), h5, h6⟩
    · rw [List.mem_singleton.1 hm]
      exact ⟨i, x, hit h0, hx, rfl⟩
  · rw [if_neg h0] at hz
    obtain ⟨n, y, h4, h5, h6⟩ := h z hz
    exact ⟨n, y, h4.more hx (fun hh => h0 hh.1), h5, h6⟩
/-- What the inner loop has found: -1, or the last one so far. -/
def Found (P : List Opn) (k : Ky) (j : Nat) (la : Int) : Prop := (la = -1 ∧ ∀ m y, m < j → P[m]? = some y → ¬ Hit k y) ∨ ∃ n : Nat, la = n ∧ LastAt P j k n
theorem Found.zero (P : List Opn) (k : Ky) : Found P k 0 (-1) := .inl ⟨rfl, fun m y h => by omega⟩
theorem Found.hit {P : List Opn} {k : Ky} {j : Nat} {x : Opn} (hx : P[j]? = some x) (h : Hit k x) : Found P k (j + 1) (j : Nat) :=
  .inr ⟨j, rfl, Nat.lt_succ_self j, ⟨x, hx, h⟩, fun m y h1 h2 => by omega⟩
theorem Found.miss {P : List Opn} {k : Ky} {j : Nat} {la : Int} {x : Opn} (f : Found P k j la) (hx : P[j]? = some x) (h : ¬ Hit k x) : Found P k (j + 1) la := by
  rcases f with ⟨h1, h2⟩ | ⟨n, h1, h2⟩
  · refine .inl ⟨h1, fun m y h3 h4 => ?_⟩
    rcases Nat.lt_or_ge m j with h5 | h5
    · exact h2 m y h5 h4
    · obtain rfl : m = j := by omega
      rw [hx] at h4
      rw [← Option.some.inj h4]
      exact h
  · exact .inr ⟨n, h1, h2.more hx h⟩
theorem LastAt.one {P : List Opn} {i n m : Nat} {k : Ky} (h : LastAt P i k n) (g : LastAt P i k m) : n = m := by
  obtain ⟨y, h1, h2⟩ := h.2.1
  obtain ⟨z, g1, g2⟩ := g.2.1
  rcases Nat.lt_trichotomy n m with hh | hh | hh
  · exact absurd g2 (h.2.2 m z hh g.1 g1)
  · exact hh
  · exact absurd h2 (g.2.2 n y hh h.1 h1)
theorem Found.last {P : List Opn} {k : Ky} {i n : Nat} {la : Int} (f : Found P k i la) (h : LastAt P i k n) : la = (n : Nat) := by
  rcases f with ⟨_, h2⟩ | ⟨m, h1, h2⟩
  · obtain ⟨y, h3, h4⟩ := h.2.1
    exact absurd h4 (h2 n y h.1 h3)
  · rw [h1, h2.one h]
theorem fn_mono {P : Program} {f : FuncId} {vs : List Value} {H : Heap} {R R' : Value → Heap → Prop} (h : Fn P f vs H R) (hm : ∀ v H', R v H' → R' v H') : Fn P f vs H R' :=
  ⟨h.1, fun w hw => (h.2 w hw).mono fun e w' he => by
    obtain ⟨v, H', h1, h2, h3⟩ := he
    exact ⟨v, H', h1, hm v H' h2, h3⟩⟩
theorem keepX_len {most : Nat} {X : List Item} {k : Ky} {t : List UInt8} (h : (decQ t).2.2 ≠ 0) : keepX most X k t = X := by
  unfold keepX
  rw [if_neg h]
theorem tells_le1 {W1 T1 : Heap} (h : Turn W1 T1) {A1 : Option Addr} {n c : Nat} {xs : List Value} (hle : ∀ (X Y : Heap) (t : TypeId) (size : Nat) (xs : List Value), HLe (X ++ (roE A1 xs ++ Y)) (X ++ (rowE (.slice A1 n c) t size xs ++ Y))) (S G T : Heap) (t : TypeId) (size : Nat) :
    HLe (S ++ (G ++ (roE A1 xs ++ (T1 ++ T)))) (S ++ (G ++ (rowE (.slice A1 n c) t size xs ++ (W1 ++ T)))) := by
  have h1 := hle (S ++ G) (W1 ++ T) t size xs
  have h2 := h.2 (S ++ (G ++ roE A1 xs)) T
  simp only [List.append_assoc] at h1 h2
  exact h2.trans h1
theorem tells_le2 (R S G T : Heap) : HLe (S ++ (G ++ (R ++ T))) (R ++ (S ++ (G ++ T))) := fun _ _ _ hw => hw.perm (by
  have h1 := List.perm_append_comm_assoc R (S ++ G) T
  simp only [List.append_assoc] at h1 ⊢
  exact h1)
end Go.Proofs.Ytjelakmndcecoaa
