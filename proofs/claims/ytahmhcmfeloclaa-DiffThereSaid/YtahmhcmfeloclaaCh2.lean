/- The walks of package chart: where an item stands, what is told of it. Conditions: the lists are not too long. -/
import Derived.Test.YtahmhcmfeloclaaCh1
import Derived.Test.YtahmhcmfeloclaaSxP
namespace Go.Proofs.Ytahmhcmfeloclaa
open Go.RowKit
set_option linter.unusedVariables false
set_option linter.unusedSimpArgs false
/-- How many items stand ahead of an identifier. -/
def cLo (k : Nat) : List It → Nat
  | [] => 0
  | e :: r => if e.id < k then cLo k r + 1 else 0
def itAt (L : List It) (i : Nat) : It := (L[i]?).getD ⟨0, []⟩
theorem itAt_at {L : List It} {i : Nat} (h : i < L.length) : L[i]? = some (itAt L i) := by simp [itAt, List.getElem?_eq_getElem h]
/-- Identifiers rise. -/
def Rise (L : List It) : Prop := L.Pairwise (fun a b => a.id < b.id)
theorem rise_lt {L : List It} (h : Rise L) {i j : Nat} (hij : i < j) (hj : j < L.length) : (itAt L i).id < (itAt L j).id := by
  have := List.pairwise_iff_getElem.1 h i j (by omega) hj hij
  simpa [itAt, List.getElem?_eq_getElem hj, List.getElem?_eq_getElem (show i < L.length by omega)] using this
theorem cLo_eq (k : Nat) : ∀ (L : List It) (p : Nat), p ≤ L.length → (∀ i, i < p → (itAt L i).id < k) → (p < L.length → k ≤ (itAt L p).id) → cLo k L = p
  | [], p, hp, _, _ => by simp at hp; rw [hp]; rfl
  | e :: r, 0, _, _, h => by
    have h1 : k ≤ e.id := h (by simp)
    rw [cLo, if_neg (by omega)]
  | e :: r, p + 1, hp, h1, h2 => by
    have e1 : ∀ j, itAt (e :: r) (j + 1) = itAt r j := fun j => by simp [itAt]
    have h3 : e.id < k := h1 0 (by omega)
    rw [cLo, if_pos h3, cLo_eq k r p (by simpa using hp) (fun i hi => by rw [← e1]; exact h1 (i + 1) (by omega)) (fun hl => by rw [← e1]; exact h2 (by simpa using hl))]
theorem cLo_facts (k : Nat) : ∀ (L : List It), cLo k L ≤ L.length ∧ (∀ i, i < cLo k L → (itAt L i).id < k) ∧ (cLo k L < L.length → k ≤ (itAt L (cLo k L)).id)
  | [] => ⟨Nat.le_refl _, fun i hi => by simp [cLo] at hi, fun h => by simp at h⟩
  | e :: r => by
    obtain ⟨h1, h2, h3⟩ := cLo_facts k r
    have e1 : ∀ j, itAt (e :: r) (j + 1) = itAt r j := fun j => by simp [itAt]
    rw [cLo]
    by_cases h : e.id < k
    · rw [if_pos h]
      refine ⟨by simpa using h1, fun i hi => ?_, fun hl => ?_⟩
      · cases i with
        | zero => exact h
        | succ i => rw [e1]; exact h2 i (by omega)
      · rw [e1]; exact h3 (by simpa using hl)
    · rw [if_neg h]
      exact ⟨Nat.zero_le _, fun i hi => by omega, fun _ => by show k ≤ e.id; omega⟩
/-- Whether an item of the identifier is there. -/
def cHas (k : Nat) (L : List It) : Bool := decide (cLo k L < L.length ∧ (itAt L (cLo k L)).id = k)
theorem cmpQ_lt {a b : Nat} : cmpQ a b < 0 ↔ a < b := by
  unfold cmpQ
  repeat' split
  all_goals omega
theorem cmpQ_eq {a b : Nat} : cmpQ a b = 0 ↔ a = b := by
  unfold cmpQ
  repeat' split
  all_goals omega
theorem bs_fn (A : Option Addr) (c : Nat) (L : List It) (T : Heap) (hA : ArgOk A L.length) (hT : 0 < L.length → T = roE A (icells L)) (hL : L.length ≤ 1000000) (hr : Rise L) (k : Nat) :
    Fn Try.prog 42 [.slice A L.length c, uq k, .func (.func 43) #[] #[]] T fun v _ => v = .tuple #[iq (cLo k L), .bool (cHas k L)] := by
  refine Fn.enter (N := 49) Try.func42 rfl (by kernel_rfl) rfl (fun w0 => ?_)

  refine awp_seq_region (fun Z hZ => ?_)
  refine sx_assign rfl rfl ?_
  refine sx_assign rfl rfl ?_
  refine sx_nil (hZ _ _ ?_)
  refine awp_forget [(0, _), (1, _), (2, _)] (Kn.cons rfl (Kn.cons rfl (Kn.cons rfl (Kn.nil)))) ?_
  refine awp_seq_region (fun Z hZ => ?_)
  refine sx_move rfl rfl ?_
  first | refine sx_len Try.underlying27 rfl rfl ?_ | refine sx_lenS Try.underlying27 rfl rfl ?_
  refine sx_assign rfl rfl ?_
  refine sx_nil (hZ _ _ ?_)
  refine awp_forget [(0, _), (1, _), (2, _), (8, _)] (Kn.cons rfl (Kn.cons rfl (Kn.cons rfl (Kn.cons rfl (Kn.nil))))) ?_
  refine awp_seq_region (fun Z hZ => ?_)
  refine sx_move rfl rfl ?_
  refine sx_assign rfl rfl ?_
  refine sx_assign rfl rfl ?_
  refine sx_nil (hZ _ _ ?_)
  refine awp_forget [(0, _), (1, _), (2, _), (8, _), (9, _), (10, _)] (Kn.cons rfl (Kn.cons rfl (Kn.cons rfl (Kn.cons rfl (Kn.cons rfl (Kn.cons rfl (Kn.nil))))))) ?_
  refine awp_cut (ι := Unit) (fun _ => [(0, .slice A L.length c), (1, uq k), (2, .func (.func 43) #[] #[]), (8, iq (L.length : Nat)), (9, iq (cLo k L : Nat))]) (fun _ => T) (fun _ => True) ?_ ?_
  · refine awp_block ?_
    refine awp_loop (ι := Nat × Nat) (fun i => [(0, .slice A L.length c), (1, uq k), (2, .func (.func 43) #[] #[]), (8, iq (L.length : Nat)), (9, iq (i.1 : Nat)), (10, iq (i.2 : Nat))]) (fun _ => T)
      (fun i => i.1 ≤ i.2 ∧ i.2 ≤ L.length ∧ (∀ j, j < i.1 → (itAt L j).id < k) ∧ (i.2 < L.length → k ≤ (itAt L i.2).id)) (fun i => i.2 - i.1) (0, L.length) ⟨by simp, by simp, fun j hj => by omega, fun h => by omega⟩ (Kn.cons rfl (Kn.cons rfl (Kn.cons rfl (Kn.cons rfl (Kn.cons rfl (Kn.cons rfl Kn.nil)))))) (HLe.refl _) ?_
    rintro ⟨p, q⟩ ⟨h1, h2, h3, h4⟩
    simp only at h1 h2 h3 h4
    refine awp_seq ?_
    refine awp_seq_region (fun Z hZ => ?_)
    refine sx_move rfl rfl ?_
    refine sx_move rfl rfl ?_
    first | refine sx_lss rfl rfl rfl ?_ | refine sx_slss rfl rfl rfl ?_
    refine sx_nil (hZ _ _ ?_)
    refine awp_forget [(0, _), (1, _), (2, _), (8, _), (9, _), (10, _), (17, _)] (Kn.cons rfl (Kn.cons rfl (Kn.cons rfl (Kn.cons rfl (Kn.cons rfl (Kn.cons rfl (Kn.cons rfl (Kn.nil)))))))) ?_
    first | refine awp_cond rfl (fun h => ?_) (fun h => ?_) | refine awp_seq (awp_cond rfl (fun h => ?_) (fun h => ?_))
    · have hlt : p < q := by simpa using h
      obtain ⟨m, hm⟩ : ∃ m, (p + q) / 2 = m := ⟨_, rfl⟩
      have hx := itAt_at (L := L) (i := m) (by omega)
      obtain ⟨g, o, rfl⟩ := hA (by omega)
      obtain rfl := hT (by omega)
      refine awp_skip ?_
      repeat (with_reducible (first | refine nx_block_normal ?_ | refine nx_scope_normal ?_))
      with_reducible first | refine nx_normal ?_ | refine nx_normalM ?_
      refine awp_block ?_

      refine awp_seq_region (fun Z hZ => ?_)
      refine sx_move rfl rfl ?_
      refine sx_move rfl rfl ?_
      refine sx_add rfl rfl ((p + q : Nat) : Int) (by rw [IntWalk.i64_in _ (by omega)]; omega) rfl ?_
      refine sx_conv Try.underlying3 Try.underlying87 rfl ((p + q : Nat) : Int) (by rw [IntWalk.u64_in _ (by omega)]) rfl ?_
      refine sx_shr rfl rfl (by decide) ((m : Nat) : Int) (by show ((p + q : Nat) : Int).fdiv 2 = _; rw [Int.fdiv_eq_ediv_of_nonneg _ (by omega)]; omega) rfl ?_
      refine sx_conv Try.underlying87 Try.underlying3 rfl ((m : Nat) : Int) (by rw [IntWalk.i64_in _ (by omega)]) rfl ?_
      refine sx_assign rfl rfl ?_
      refine sx_nil (hZ _ _ ?_)
      refine awp_forget [(0, _), (1, _), (2, _), (8, _), (9, _), (10, _), (11, _)] (Kn.cons rfl (Kn.cons rfl (Kn.cons rfl (Kn.cons rfl (Kn.cons rfl (Kn.cons rfl (Kn.cons rfl (Kn.nil)))))))) ?_
      refine awp_seq_region (fun Z hZ => ?_)
      refine sx_move rfl rfl ?_
      refine sx_move rfl rfl ?_
      refine sx_move rfl rfl ?_
      refine sx_indexAddr (o + m * 2) Try.underlying27 tyS60 rfl rfl (by omega) (by simp) rfl ?_
      refine sx_loadRo 0 rfl rfl (m * 2) rfl tyA60 tyS60 (icells_all hx) rfl ?_
      refine sx_move rfl rfl ?_
      refine sx_callFV (caps := []) (vs := [(itAt L m).val, uq k]) [] (pl1_fn (itAt L m) k) rfl rfl (HLe.sub (List.nil_sublist _)) Ro.nil rfl ?_
      first | refine sx_lss rfl rfl rfl ?_ | refine sx_slss rfl rfl rfl ?_
      refine sx_nil (hZ _ _ ?_)
      refine awp_forget [(0, _), (1, _), (2, _), (8, _), (9, _), (10, _), (11, _), (31, _)] (Kn.cons rfl (Kn.cons rfl (Kn.cons rfl (Kn.cons rfl (Kn.cons rfl (Kn.cons rfl (Kn.cons rfl (Kn.cons rfl (Kn.nil))))))))) ?_
      first | refine awp_cond rfl (fun h5 => ?_) (fun h5 => ?_) | refine awp_seq (awp_cond rfl (fun h5 => ?_) (fun h5 => ?_))
      · have hle : (itAt L m).id < k := cmpQ_lt.1 (by simpa using h5)
        refine awp_region (fun Z hZ => ?_)
        refine sx_move rfl rfl ?_
        refine sx_add rfl rfl ((m + 1 : Nat) : Int) (by rw [IntWalk.i64_in _ (by omega)]; omega) rfl ?_
        refine sx_assign rfl rfl ?_
        refine sx_nil (hZ _ _ ?_)
        refine nx_forget [(0, _), (1, _), (2, _), (8, _), (9, _), (10, _)] (Kn.cons rfl (Kn.cons rfl (Kn.cons rfl (Kn.cons rfl (Kn.cons rfl (Kn.cons rfl (Kn.nil))))))) ?_
        repeat (with_reducible refine nx_block_normal ?_)
        refine nx_round (m + 1, q) ⟨by show m + 1 ≤ q; omega, h2, fun j hj => ?_, h4⟩ (by show q - (m + 1) < q - p; omega) (Kn.cons rfl (Kn.cons rfl (Kn.cons rfl (Kn.cons rfl (Kn.cons rfl (Kn.cons rfl Kn.nil)))))) (HLe.refl _)
        rcases Nat.lt_or_ge j m with hjm | hjm
        · have := rise_lt hr hjm (by omega)
          omega
        · obtain rfl : j = m := by simp only at hj; omega
          exact hle
      · have hgt : k ≤ (itAt L m).id := by
          have : ¬ cmpQ (itAt L m).id k < 0 := by simpa using h5
          rw [cmpQ_lt] at this
          omega
        refine awp_region (fun Z hZ => ?_)
        refine sx_move rfl rfl ?_
        refine sx_assign rfl rfl ?_
        refine sx_nil (hZ _ _ ?_)
        refine nx_forget [(0, _), (1, _), (2, _), (8, _), (9, _), (10, _)] (Kn.cons rfl (Kn.cons rfl (Kn.cons rfl (Kn.cons rfl (Kn.cons rfl (Kn.cons rfl (Kn.nil))))))) ?_
        repeat (with_reducible refine nx_block_normal ?_)
        exact nx_round (p, m) ⟨by show p ≤ m; omega, by show m ≤ _; omega, h3, fun _ => hgt⟩ (by show m - p < q - p; omega) (Kn.cons rfl (Kn.cons rfl (Kn.cons rfl (Kn.cons rfl (Kn.cons rfl (Kn.cons rfl Kn.nil)))))) (HLe.refl _)
    · have hge : p = q := by simp at h; omega
      subst hge
      have := cLo_eq k L p h2 h3 h4
      refine awp_exit ?_
      repeat (with_reducible (first | refine nx_then_exit ?_ | refine nx_block_other (by decide) ?_ | refine nx_scope_exit ?_))
      with_reducible refine nx_block_exit ?_
      repeat (with_reducible (first | refine nx_block_normal ?_ | refine nx_scope_normal ?_))
      exact nx_cut () trivial (Kn.cons rfl (Kn.cons rfl (Kn.cons rfl (Kn.cons rfl (Kn.cons (by rw [this]; rfl) Kn.nil))))) (HLe.refl _)
  rintro ⟨⟩ -
  obtain ⟨f1, f2, f3⟩ := cLo_facts k L
  obtain ⟨p, hp⟩ : ∃ p, cLo k L = p := ⟨_, rfl⟩
  have hv : cHas k L = decide (p < L.length ∧ (itAt L p).id = k) := by unfold cHas; rw [hp]
  rw [hv, hp]
  by_cases hlt : p < L.length
  · have hx := itAt_at hlt
    obtain ⟨g, o, rfl⟩ := hA (by omega)
    obtain rfl := hT (by omega)

    refine awp_seq_meet [(6, iq (p : Nat)), (7, .bool (decide (p < L.length ∧ (itAt L p).id = k)))] [] (fun Z hZ => ?_) ?_
    · refine sx_move rfl rfl ?_
      refine sx_move rfl rfl ?_
      refine sx_move rfl rfl ?_
      first | refine sx_lss rfl rfl rfl ?_ | refine sx_slss rfl rfl rfl ?_
      refine sx_move rfl rfl ?_
      refine sx_force 39 rfl true (by simpa using hlt) ?_
      refine sx_on rfl rfl rfl ?_
      refine sx_move rfl rfl ?_
      refine sx_on rfl rfl rfl ?_
      refine sx_move rfl rfl ?_
      refine sx_on rfl rfl rfl ?_
      refine sx_move rfl rfl ?_
      refine sx_on rfl rfl rfl ?_
      refine sx_indexAddr (o + p * 2) Try.underlying27 tyS60 rfl rfl (by omega) (by simp) rfl ?_
      refine sx_on rfl rfl rfl ?_
      refine sx_loadRo 0 rfl rfl (p * 2) rfl tyA60 tyS60 (icells_all hx) rfl ?_
      refine sx_on rfl rfl rfl ?_
      refine sx_move rfl rfl ?_
      refine sx_on rfl rfl rfl ?_
      refine sx_callFV (caps := []) (vs := [(itAt L p).val, uq k]) [] (pl1_fn (itAt L p) k) rfl rfl (HLe.sub (List.nil_sublist _)) Ro.nil rfl ?_
      refine sx_on rfl rfl rfl ?_
      first | refine sx_eql rfl rfl rfl ?_ | refine sx_seql rfl rfl rfl ?_
      refine sx_pick rfl rfl rfl ?_
      refine sx_assign rfl rfl ?_
      refine sx_assign rfl rfl ?_
      refine sx_nil (hZ _ _ ?_ ?_)
      · exact Kn.cons rfl (Kn.cons (congrArg some (congrArg Value.bool (by rw [Bool.eq_iff_iff]; simp [hlt, cmpQ_eq]))) Kn.nil)
      · exact HLe.sub (List.nil_sublist _)
    refine awp_ret ?_
    repeat (with_reducible (first | refine nx_then_ret ?_ | refine nx_block_ret ?_ | refine nx_scope_ret ?_))
    exact nx_ret2 rfl rfl rfl rfl
  · refine awp_seq_meet [(6, iq (p : Nat)), (7, .bool (decide (p < L.length ∧ (itAt L p).id = k)))] [] (fun Z hZ => ?_) ?_
    · refine sx_move rfl rfl ?_
      refine sx_move rfl rfl ?_
      refine sx_move rfl rfl ?_
      first | refine sx_lss rfl rfl rfl ?_ | refine sx_slss rfl rfl rfl ?_
      refine sx_move rfl rfl ?_
      refine sx_force 39 rfl false (by simpa using hlt) ?_
      refine sx_off rfl rfl rfl rfl rfl ?_
      refine sx_off rfl rfl rfl rfl rfl ?_
      refine sx_off rfl rfl rfl rfl rfl ?_
      refine sx_off rfl rfl rfl rfl rfl ?_
      refine sx_off rfl rfl rfl rfl rfl ?_
      refine sx_off rfl rfl rfl rfl rfl ?_
      refine sx_off rfl rfl rfl rfl rfl ?_
      refine sx_off rfl rfl rfl rfl rfl ?_
      refine sx_pick rfl rfl rfl ?_
      refine sx_assign rfl rfl ?_
      refine sx_assign rfl rfl ?_
      refine sx_nil (hZ _ _ ?_ ?_)
      · exact Kn.cons rfl (Kn.cons (congrArg some (congrArg Value.bool (by rw [Bool.eq_iff_iff]; simp [hlt]))) Kn.nil)
      · exact HLe.sub (List.nil_sublist _)
    refine awp_ret ?_
    repeat (with_reducible (first | refine nx_then_ret ?_ | refine nx_block_ret ?_ | refine nx_scope_ret ?_))
    exact nx_ret2 rfl rfl rfl rfl
/-- A chart, as a value. -/
abbrev chV (A : Option Addr) (n c : Nat) : Value := .agg #[.slice A n c]
theorem place_fn (A : Option Addr) (c : Nat) (L : List It) (T : Heap) (hA : ArgOk A L.length) (hT : 0 < L.length → T = roE A (icells L)) (hro : Ro T) (hL : L.length ≤ 1000000) (hr : Rise L) (k : Nat) :
    Fn Try.prog 33 [chV A L.length c, uq k] T fun v _ => v = .tuple #[iq (cLo k L), .bool (cHas k L)] := by
  refine Fn.enter (N := 12) Try.func33 rfl (by kernel_rfl) rfl (fun w0 => ?_)

  refine awp_seq_region (fun Z hZ => ?_)
  refine sx_box rfl rfl rfl (fun g1 => ?_)
  refine sx_assign rfl rfl ?_
  refine sx_assign rfl rfl ?_
  refine sx_nil (hZ _ _ ?_)
  refine awp_forget [(1, _), (2, _)] (Kn.cons rfl (Kn.cons rfl (Kn.nil))) ?_

  refine awp_seq_region (fun Z hZ => ?_)
  refine sx_fieldAddr rfl tyF29_0 (by first | (simp only [Nat.reduceAdd, Nat.add_zero, Nat.zero_add]; first | done | rfl) | rfl) rfl ?_
  first | refine sx_load 0 rfl rfl tyA27 tyS27 rfl rfl ?_
  refine sx_move rfl rfl ?_
  refine sx_callPT T (bs_fn A c L T hA hT hL hr k) rfl (List.sublist_cons_self _ _) hro rfl ?_
  refine sx_extract rfl rfl rfl ?_
  refine sx_extract rfl rfl rfl ?_
  refine sx_assign rfl rfl ?_
  refine sx_assign rfl rfl ?_
  refine sx_nil (hZ _ _ ?_)
  refine awp_forget [(4, _), (5, _)] (Kn.cons rfl (Kn.cons rfl (Kn.nil))) ?_
  refine awp_ret ?_
  repeat (with_reducible (first | refine nx_then_ret ?_ | refine nx_block_ret ?_ | refine nx_scope_ret ?_))
  exact nx_ret2 rfl rfl rfl rfl
end Go.Proofs.Ytahmhcmfeloclaa
