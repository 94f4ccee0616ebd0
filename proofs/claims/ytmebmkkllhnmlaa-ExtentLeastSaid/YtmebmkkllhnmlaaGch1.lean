/- Items of a chart; the walks of what compares them, and of what tells why one can't be put. No conditions. The walks of package chart: where an item stands, what is told of it. Conditions: the lists are not too long. The walks of package chart: what is told of it. Conditions: the lists are not too long. The walks of chart.Same, and of the document's. Conditions: the lists are not too long. The walks of slices.Concat, chart.Put, chart.Del. Conditions: the lists are not too long. The walks of chart.Put, chart.Del. Conditions: the lists are not too long. Plain: what is put, dropped and got, by halves. No conditions. The walks of the document's answer for charts: Get, Del, Put, Bytes. Conditions: the lists are not too long. The walk of the document's Put for charts. Conditions: the lists are not too long. Plain: the chart made of items. No conditions. -/
import Derived.Test.YtmebmkkllhnmlaaTy
import Derived.Test.YtmebmkkllhnmlaaGsx5
import Derived.Test.YtmebmkkllhnmlaaGop2
import Derived.Test.YtmebmkkllhnmlaaSxZ
import Derived.Test.YtmebmkkllhnmlaaSxX
import Derived.Test.YtmebmkkllhnmlaaSxS
import Derived.Test.YtmebmkkllhnmlaaCm1
import Derived.Test.YtmebmkkllhnmlaaSxP
import Derived.Test.YtmebmkkllhnmlaaLayCh
namespace Go.Proofs.Ytmebmkkllhnmlaa
open Go.RowKit
set_option linter.unusedVariables false
set_option linter.unusedSimpArgs false
/-- An item: an identifier and its bytes. -/
structure It where
  id : Nat
  tx : List UInt8
abbrev It.cells (e : It) : List Value := [uq e.id, .string (str e.tx)]
abbrev It.val (e : It) : Value := .agg e.cells.toArray
abbrev icells (L : List It) : List Value := L.flatMap It.cells
theorem it_len (e : It) : e.cells.length = 2 := rfl
theorem icells_len (L : List It) : (icells L).length = L.length * 2 := fm_len it_len L
theorem icells_all {L : List It} {i : Nat} {x : It} (h : L[i]? = some x) : rdV true 2 (icells L) (i * 2) = some x.val := fm_rd it_len h
theorem icells_id {L : List It} {i : Nat} {x : It} (h : L[i]? = some x) : rdV false 1 (icells L) (i * 2) = some (uq x.id) := by have := fm_rd1 (j := 0) it_len h rfl; simpa using this
theorem icells_tx {L : List It} {i : Nat} {x : It} (h : L[i]? = some x) : rdV false 1 (icells L) (i * 2 + 1) = some (.string (str x.tx)) := fm_rd1 (j := 1) it_len h rfl
theorem icells_one (L : List It) : (icells L).all Value.oneCell' = true := List.all_eq_true.2 fun v hv => by
  obtain ⟨e, _, he⟩ := List.mem_flatMap.1 hv
  simp only [It.cells, List.mem_cons, List.not_mem_nil, or_false] at he
  rcases he with rfl | rfl <;> rfl
theorem icells_take {L : List It} {k : Nat} {x : It} (h : L[k]? = some x) : icells (L.take (k + 1)) = icells (L.take k) ++ x.cells := fm_take h
theorem elemIt : ElemOk Try.prog 27 82 2 24 := ElemOk.mk_ (z := .agg #[uq 0, .string ⟨#[]⟩]) Try.underlying27 (by kernel_rfl) rfl (by omega)
theorem elemItR : ElemOk Try.prog 22 78 2 24 := ElemOk.mk_ (z := .agg #[uq 0, .string ⟨#[]⟩]) Try.underlying22 (by kernel_rfl) rfl (by omega)
def ItsOk (L : List It) : Prop := ∀ e ∈ L, e.id < 18446744073709551616
def itEq (a b : It) : Bool := (a.id == b.id) && (a.tx == b.tx)
theorem pl1_fn (e : It) (k : Nat) : Fn Try.prog 73 [e.val, uq k] [] fun v _ => v = iq (cmpQ e.id k) := by
  refine Fn.enter (N := 9) Try.func73 rfl (by kernel_rfl) rfl (fun w0 => ?_)

  refine awp_seq_region (fun Z hZ => ?_)
  refine sx_box rfl rfl rfl (fun g1 => ?_)
  refine sx_assign rfl rfl ?_
  refine sx_nil (hZ _ _ ?_)
  refine awp_forget [(1, _), (2, _)] (Kn.cons rfl (Kn.cons rfl (Kn.nil))) ?_
  refine awp_seq_region (fun Z hZ => ?_)
  refine sx_fieldAddr rfl tyF82_0 (by first | (simp only [Nat.reduceAdd, Nat.add_zero, Nat.zero_add]; first | done | rfl) | rfl) rfl ?_
  first | refine sx_load 0 rfl rfl tyA66 tyS66 rfl rfl ?_
  refine sx_move rfl rfl ?_
  refine sx_callP (cmp_fn e.id k) rfl rfl ?_
  refine sx_assign rfl rfl ?_
  refine sx_nil (hZ _ _ ?_)
  refine awp_forget [(4, _)] (Kn.cons rfl (Kn.nil)) ?_
  refine awp_ret ?_
  exact nx_ret1 rfl rfl rfl
/-- Why a tile can't be put. -/
def wrongQ (k : Nat) (s : List UInt8) (full : Bool) : Nat := if 6004799503160661 ≤ k then 8 else if s = [] then 2 else if 65536 < s.length then 5 else if full then 7 else 0
theorem wrong_fn (k : Nat) (s : List UInt8) (full : Bool) : Fn Try.prog 57 [uq k, .string (str s), .bool full] [] fun v _ => v = iq (wrongQ k s full) := by
  refine Fn.enter (N := 19) Try.func57 rfl (by kernel_rfl) rfl (fun w0 => ?_)

  refine awp_seq_region (fun Z hZ => ?_)
  refine sx_assign rfl rfl ?_
  refine sx_nil (hZ _ _ ?_)
  refine awp_forget [(0, _), (1, _), (2, _)] (Kn.cons rfl (Kn.cons rfl (Kn.cons rfl (Kn.nil)))) ?_
  refine awp_seq (awp_block ?_)
  refine awp_seq_region (fun Z hZ => ?_)
  refine sx_move rfl rfl ?_
  refine sx_geq rfl rfl rfl ?_
  refine sx_assign rfl rfl ?_
  refine sx_nil (hZ _ _ ?_)
  refine awp_forget [(1, _), (2, _), (7, _)] (Kn.cons rfl (Kn.cons rfl (Kn.cons rfl (Kn.nil)))) ?_
  refine awp_cond rfl (fun h => ?_) (fun h => ?_)
  · have h' : 6004799503160661 ≤ k := by simp at h; omega
    rw [show wrongQ k s full = 8 by unfold wrongQ; rw [if_pos h']]
    refine awp_seq_region (fun Z hZ => ?_)
    refine sx_assign rfl rfl ?_
    refine sx_nil (hZ _ _ ?_)
    refine awp_forget [(6, _)] (Kn.cons rfl (Kn.nil)) ?_
    refine awp_ret ?_
    repeat (with_reducible (first | refine nx_then_ret ?_ | refine nx_block_ret ?_))
    exact nx_ret1 rfl rfl rfl
  have h' : ¬ 6004799503160661 ≤ k := by simp at h; omega
  refine awp_seq_region (fun Z hZ => ?_)
  refine sx_move rfl rfl ?_
  refine sx_seql rfl rfl rfl ?_
  refine sx_assign rfl rfl ?_
  refine sx_nil (hZ _ _ ?_)
  refine awp_forget [(1, _), (2, _), (10, _)] (Kn.cons rfl (Kn.cons rfl (Kn.cons rfl (Kn.nil)))) ?_
  refine awp_cond rfl (fun h1 => ?_) (fun h1 => ?_)
  · have h1' : s = [] := by simpa using h1
    rw [show wrongQ k s full = 2 by unfold wrongQ; rw [if_neg h', if_pos h1']]
    refine awp_seq_region (fun Z hZ => ?_)
    refine sx_assign rfl rfl ?_
    refine sx_nil (hZ _ _ ?_)
    refine awp_forget [(6, _)] (Kn.cons rfl (Kn.nil)) ?_
    refine awp_ret ?_
    repeat (with_reducible (first | refine nx_then_ret ?_ | refine nx_block_ret ?_))
    exact nx_ret1 rfl rfl rfl
  have h1' : ¬ s = [] := by simpa using h1
  refine awp_seq_region (fun Z hZ => ?_)
  refine sx_move rfl rfl ?_
  refine sx_lenS Try.underlying9 rfl rfl ?_
  refine sx_gtr rfl rfl rfl ?_
  refine sx_assign rfl rfl ?_
  refine sx_nil (hZ _ _ ?_)
  refine awp_forget [(2, _), (13, _)] (Kn.cons rfl (Kn.cons rfl (Kn.nil))) ?_
  refine awp_cond rfl (fun h2 => ?_) (fun h2 => ?_)
  · have h2' : 65536 < s.length := by simp at h2; omega
    rw [show wrongQ k s full = 5 by unfold wrongQ; rw [if_neg h', if_neg h1', if_pos h2']]
    refine awp_seq_region (fun Z hZ => ?_)
    refine sx_assign rfl rfl ?_
    refine sx_nil (hZ _ _ ?_)
    refine awp_forget [(6, _)] (Kn.cons rfl (Kn.nil)) ?_
    refine awp_ret ?_
    repeat (with_reducible (first | refine nx_then_ret ?_ | refine nx_block_ret ?_))
    exact nx_ret1 rfl rfl rfl
  have h2' : ¬ 65536 < s.length := by simp at h2; omega
  refine awp_seq_region (fun Z hZ => ?_)
  refine sx_move rfl rfl ?_
  refine sx_assign rfl rfl ?_
  refine sx_nil (hZ _ _ ?_)
  refine awp_forget [(17, _)] (Kn.cons rfl (Kn.nil)) ?_
  refine awp_cond rfl (fun h3 => ?_) (fun h3 => ?_)
  · rw [show wrongQ k s full = 7 by unfold wrongQ; rw [if_neg h', if_neg h1', if_neg h2', if_pos h3]]
    refine awp_seq_region (fun Z hZ => ?_)
    refine sx_assign rfl rfl ?_
    refine sx_nil (hZ _ _ ?_)
    refine awp_forget [(6, _)] (Kn.cons rfl (Kn.nil)) ?_
    refine awp_ret ?_
    repeat (with_reducible (first | refine nx_then_ret ?_ | refine nx_block_ret ?_))
    exact nx_ret1 rfl rfl rfl
  rw [show wrongQ k s full = 0 by unfold wrongQ; rw [if_neg h', if_neg h1', if_neg h2', h3]; rfl]
  refine awp_skip ?_
  repeat (with_reducible refine nx_block_normal ?_)
  with_reducible refine nx_normal ?_
  refine awp_seq_region (fun Z hZ => ?_)
  refine sx_assign rfl rfl ?_
  refine sx_nil (hZ _ _ ?_)
  refine awp_forget [(6, _)] (Kn.cons rfl (Kn.nil)) ?_
  refine awp_ret ?_
  exact nx_ret1 rfl rfl rfl
end Go.Proofs.Ytmebmkkllhnmlaa

namespace Go.Proofs.Ytmebmkkllhnmlaa
open Go.RowKit
set_option linter.unusedVariables false
set_option linter.unusedSimpArgs false
/-- How many items stand ahead of an identifier. -/
def cLo (k : Nat) : List It → Nat
  | [] => 0
  | e :: r => if e.id < k then cLo k r + 1 else 0
def itAt (L : List It) (i : Nat) : It := (L[i]?).getD ⟨0, []⟩
theorem itAt_at {L : List It} {i : Nat} (h : i < L.length) : L[i]? = some (itAt L i) := by simp [itAt, List.getElem?_eq_getElem h]
/-- Identifiers rise. -/
def Rise (L : List It) : Prop := L.Pairwise (fun a b => a.id < b.id)
theorem rise_lt {L : List It} (h : Rise L) {i j : Nat} (hij : i < j) (hj : j < L.length) : (itAt L i).id < (itAt L j).id := by
  have := List.pairwise_iff_getElem.1 h i j (by omega) hj hij
  simpa [itAt, List.getElem?_eq_getElem hj, List.getElem?_eq_getElem (show i < L.length by omega)] using this
theorem cLo_eq (k : Nat) : ∀ (L : List It) (p : Nat), p ≤ L.length → (∀ i, i < p → (itAt L i).id < k) → (p < L.length → k ≤ (itAt L p).id) → cLo k L = p
  | [], p, hp, _, _ => by simp at hp; rw [hp]; rfl
  | e :: r, 0, _, _, h => by
    have h1 : k ≤ e.id := h (by simp)
    rw [cLo, if_neg (by omega)]
  | e :: r, p + 1, hp, h1, h2 => by
    have e1 : ∀ j, itAt (e :: r) (j + 1) = itAt r j := fun j => by simp [itAt]
    have h3 : e.id < k := h1 0 (by omega)
    rw [cLo, if_pos h3, cLo_eq k r p (by simpa using hp) (fun i hi => by rw [← e1]; exact h1 (i + 1) (by omega)) (fun hl => by rw [← e1]; exact h2 (by simpa using hl))]
theorem cLo_facts (k : Nat) : ∀ (L : List It), cLo k L ≤ L.length ∧ (∀ i, i < cLo k L → (itAt L i).id < k) ∧ (cLo k L < L.length → k ≤ (itAt L (cLo k L)).id)
  | [] => ⟨Nat.le_refl _, fun i hi => by simp [cLo] at hi, fun h => by simp at h⟩
  | e :: r => by
    obtain ⟨h1, h2, h3⟩ := cLo_facts k r
    have e1 : ∀ j, itAt (e :: r) (j + 1) = itAt r j := fun j => by simp [itAt]
    rw [cLo]
    by_cases h : e.id < k
    · rw [if_pos h]
      refine ⟨by simpa using h1, fun i hi => ?_, fun hl => ?_⟩
      · cases i with
        | zero => exact h
        | succ i => rw [e1]; exact h2 i (by omega)
      · rw [e1]; exact h3 (by simpa using hl)
    · rw [if_neg h]
      exact ⟨Nat.zero_le _, fun i hi => by omega, fun _ => by show k ≤ e.id; omega⟩
/-- Whether an item of the identifier is there. -/
def cHas (k : Nat) (L : List It) : Bool := decide (cLo k L < L.length ∧ (itAt L (cLo k L)).id = k)
theorem bs_fn (A : Option Addr) (c : Nat) (L : List It) (T : Heap) (hA : ArgOk A L.length) (hT : 0 < L.length → T = roE A (icells L)) (hL : L.length ≤ 1000000) (hr : Rise L) (k : Nat) :
    Fn Try.prog 72 [.slice A L.length c, uq k, .func (.func 73) #[] #[]] T fun v _ => v = .tuple #[iq (cLo k L), .bool (cHas k L)] := by
  refine Fn.enter (N := 49) Try.func72 rfl (by kernel_rfl) rfl (fun w0 => ?_)

  refine awp_seq_region (fun Z hZ => ?_)
  refine sx_assign rfl rfl ?_
  refine sx_assign rfl rfl ?_
  refine sx_nil (hZ _ _ ?_)
  refine awp_forget [(0, _), (1, _), (2, _)] (Kn.cons rfl (Kn.cons rfl (Kn.cons rfl (Kn.nil)))) ?_
  refine awp_seq_region (fun Z hZ => ?_)
  refine sx_move rfl rfl ?_
  refine sx_len Try.underlying27 rfl rfl ?_
  refine sx_assign rfl rfl ?_
  refine sx_nil (hZ _ _ ?_)
  refine awp_forget [(0, _), (1, _), (2, _), (8, _)] (Kn.cons rfl (Kn.cons rfl (Kn.cons rfl (Kn.cons rfl (Kn.nil))))) ?_
  refine awp_seq_region (fun Z hZ => ?_)
  refine sx_move rfl rfl ?_
  refine sx_assign rfl rfl ?_
  refine sx_assign rfl rfl ?_
  refine sx_nil (hZ _ _ ?_)
  refine awp_forget [(0, _), (1, _), (2, _), (8, _), (9, _), (10, _)] (Kn.cons rfl (Kn.cons rfl (Kn.cons rfl (Kn.cons rfl (Kn.cons rfl (Kn.cons rfl (Kn.nil))))))) ?_
  refine awp_cut (ι := Unit) (fun _ => [(0, .slice A L.length c), (1, uq k), (2, .func (.func 73) #[] #[]), (8, iq (L.length : Nat)), (9, iq (cLo k L : Nat))]) (fun _ => T) (fun _ => True) ?_ ?_
  · refine awp_block ?_
    refine awp_loop (ι := Nat × Nat) (fun i => [(0, .slice A L.length c), (1, uq k), (2, .func (.func 73) #[] #[]), (8, iq (L.length : Nat)), (9, iq (i.1 : Nat)), (10, iq (i.2 : Nat))]) (fun _ => T)
      (fun i => i.1 ≤ i.2 ∧ i.2 ≤ L.length ∧ (∀ j, j < i.1 → (itAt L j).id < k) ∧ (i.2 < L.length → k ≤ (itAt L i.2).id)) (fun i => i.2 - i.1) (0, L.length) ⟨by simp, by simp, fun j hj => by omega, fun h => by omega⟩ (Kn.cons rfl (Kn.cons rfl (Kn.cons rfl (Kn.cons rfl (Kn.cons rfl (Kn.cons rfl Kn.nil)))))) (HLe.refl _) ?_
    rintro ⟨p, q⟩ ⟨h1, h2, h3, h4⟩
    simp only at h1 h2 h3 h4
    refine awp_seq ?_
    refine awp_seq_region (fun Z hZ => ?_)
    refine sx_move rfl rfl ?_
    refine sx_move rfl rfl ?_
    refine sx_lss rfl rfl rfl ?_
    refine sx_nil (hZ _ _ ?_)
    refine awp_forget [(0, _), (1, _), (2, _), (8, _), (9, _), (10, _), (17, _)] (Kn.cons rfl (Kn.cons rfl (Kn.cons rfl (Kn.cons rfl (Kn.cons rfl (Kn.cons rfl (Kn.cons rfl (Kn.nil)))))))) ?_
    refine awp_cond rfl (fun h => ?_) (fun h => ?_)
    · have hlt : p < q := by simpa using h
      obtain ⟨m, hm⟩ : ∃ m, (p + q) / 2 = m := ⟨_, rfl⟩
      have hx := itAt_at (L := L) (i := m) (by omega)
      obtain ⟨g, o, rfl⟩ := hA (by omega)
      obtain rfl := hT (by omega)
      refine awp_skip ?_
      with_reducible refine nx_normal ?_
      refine awp_block ?_

      refine awp_seq_region (fun Z hZ => ?_)
      refine sx_move rfl rfl ?_
      refine sx_move rfl rfl ?_
      refine sx_add rfl rfl ((p + q : Nat) : Int) (by rw [IntWalk.i64_in _ (by omega)]; omega) rfl ?_
      refine sx_conv Try.underlying3 Try.underlying132 rfl ((p + q : Nat) : Int) (by rw [IntWalk.u64_in _ (by omega)]) rfl ?_
      refine sx_shr rfl rfl (by decide) ((m : Nat) : Int) (by show ((p + q : Nat) : Int).fdiv 2 = _; rw [Int.fdiv_eq_ediv_of_nonneg _ (by omega)]; omega) rfl ?_
      refine sx_conv Try.underlying132 Try.underlying3 rfl ((m : Nat) : Int) (by rw [IntWalk.i64_in _ (by omega)]) rfl ?_
      refine sx_assign rfl rfl ?_
      refine sx_nil (hZ _ _ ?_)
      refine awp_forget [(0, _), (1, _), (2, _), (8, _), (9, _), (10, _), (11, _)] (Kn.cons rfl (Kn.cons rfl (Kn.cons rfl (Kn.cons rfl (Kn.cons rfl (Kn.cons rfl (Kn.cons rfl (Kn.nil)))))))) ?_
      refine awp_seq_region (fun Z hZ => ?_)
      refine sx_move rfl rfl ?_
      refine sx_move rfl rfl ?_
      refine sx_move rfl rfl ?_
      refine sx_indexAddr (o + m * 2) Try.underlying27 tyS82 rfl rfl (by omega) (by simp) rfl ?_
      refine sx_loadRo 0 rfl rfl (m * 2) rfl tyA82 tyS82 (icells_all hx) rfl ?_
      refine sx_move rfl rfl ?_
      refine sx_callFV (caps := []) (vs := [(itAt L m).val, uq k]) [] (pl1_fn (itAt L m) k) rfl rfl (HLe.sub (List.nil_sublist _)) Ro.nil rfl ?_
      refine sx_lss rfl rfl rfl ?_
      refine sx_nil (hZ _ _ ?_)
      refine awp_forget [(0, _), (1, _), (2, _), (8, _), (9, _), (10, _), (11, _), (31, _)] (Kn.cons rfl (Kn.cons rfl (Kn.cons rfl (Kn.cons rfl (Kn.cons rfl (Kn.cons rfl (Kn.cons rfl (Kn.cons rfl (Kn.nil))))))))) ?_
      refine awp_cond rfl (fun h5 => ?_) (fun h5 => ?_)
      · have hle : (itAt L m).id < k := cmpQ_lt.1 (by simpa using h5)
        refine awp_region (fun Z hZ => ?_)
        refine sx_move rfl rfl ?_
        refine sx_add rfl rfl ((m + 1 : Nat) : Int) (by rw [IntWalk.i64_in _ (by omega)]; omega) rfl ?_
        refine sx_assign rfl rfl ?_
        refine sx_nil (hZ _ _ ?_)
        refine nx_forget [(0, _), (1, _), (2, _), (8, _), (9, _), (10, _)] (Kn.cons rfl (Kn.cons rfl (Kn.cons rfl (Kn.cons rfl (Kn.cons rfl (Kn.cons rfl (Kn.nil))))))) ?_
        repeat (with_reducible refine nx_block_normal ?_)
        refine nx_round (m + 1, q) ⟨by show m + 1 ≤ q; omega, h2, fun j hj => ?_, h4⟩ (by show q - (m + 1) < q - p; omega) (Kn.cons rfl (Kn.cons rfl (Kn.cons rfl (Kn.cons rfl (Kn.cons rfl (Kn.cons rfl Kn.nil)))))) (HLe.refl _)
        rcases Nat.lt_or_ge j m with hjm | hjm
        · have := rise_lt hr hjm (by omega)
          omega
        · obtain rfl : j = m := by simp only at hj; omega
          exact hle
      · have hgt : k ≤ (itAt L m).id := by
          have : ¬ cmpQ (itAt L m).id k < 0 := by simpa using h5
          rw [cmpQ_lt] at this
          omega
        refine awp_region (fun Z hZ => ?_)
        refine sx_move rfl rfl ?_
        refine sx_assign rfl rfl ?_
        refine sx_nil (hZ _ _ ?_)
        refine nx_forget [(0, _), (1, _), (2, _), (8, _), (9, _), (10, _)] (Kn.cons rfl (Kn.cons rfl (Kn.cons rfl (Kn.cons rfl (Kn.cons rfl (Kn.cons rfl (Kn.nil))))))) ?_
        repeat (with_reducible refine nx_block_normal ?_)
        exact nx_round (p, m) ⟨by show p ≤ m; omega, by show m ≤ _; omega, h3, fun _ => hgt⟩ (by show m - p < q - p; omega) (Kn.cons rfl (Kn.cons rfl (Kn.cons rfl (Kn.cons rfl (Kn.cons rfl (Kn.cons rfl Kn.nil)))))) (HLe.refl _)
    · have hge : p = q := by simp at h; omega
      subst hge
      have := cLo_eq k L p h2 h3 h4
      refine awp_exit ?_
      repeat (with_reducible refine nx_then_exit ?_)
      with_reducible refine nx_block_exit ?_
      exact nx_cut () trivial (Kn.cons rfl (Kn.cons rfl (Kn.cons rfl (Kn.cons rfl (Kn.cons (by rw [this]; rfl) Kn.nil))))) (HLe.refl _)
  rintro ⟨⟩ -
  obtain ⟨f1, f2, f3⟩ := cLo_facts k L
  obtain ⟨p, hp⟩ : ∃ p, cLo k L = p := ⟨_, rfl⟩
  have hv : cHas k L = decide (p < L.length ∧ (itAt L p).id = k) := by unfold cHas; rw [hp]
  rw [hv, hp]
  by_cases hlt : p < L.length
  · have hx := itAt_at hlt
    obtain ⟨g, o, rfl⟩ := hA (by omega)
    obtain rfl := hT (by omega)

    refine awp_seq_meet [(6, iq (p : Nat)), (7, .bool (decide (p < L.length ∧ (itAt L p).id = k)))] [] (fun Z hZ => ?_) ?_
    · refine sx_move rfl rfl ?_
      refine sx_move rfl rfl ?_
      refine sx_move rfl rfl ?_
      refine sx_lss rfl rfl rfl ?_
      refine sx_move rfl rfl ?_
      refine sx_force 39 rfl true (by simpa using hlt) ?_
      refine sx_on rfl rfl rfl ?_
      refine sx_move rfl rfl ?_
      refine sx_on rfl rfl rfl ?_
      refine sx_move rfl rfl ?_
      refine sx_on rfl rfl rfl ?_
      refine sx_move rfl rfl ?_
      refine sx_on rfl rfl rfl ?_
      refine sx_indexAddr (o + p * 2) Try.underlying27 tyS82 rfl rfl (by omega) (by simp) rfl ?_
      refine sx_on rfl rfl rfl ?_
      refine sx_loadRo 0 rfl rfl (p * 2) rfl tyA82 tyS82 (icells_all hx) rfl ?_
      refine sx_on rfl rfl rfl ?_
      refine sx_move rfl rfl ?_
      refine sx_on rfl rfl rfl ?_
      refine sx_callFV (caps := []) (vs := [(itAt L p).val, uq k]) [] (pl1_fn (itAt L p) k) rfl rfl (HLe.sub (List.nil_sublist _)) Ro.nil rfl ?_
      refine sx_on rfl rfl rfl ?_
      refine sx_eql rfl rfl rfl ?_
      refine sx_pick rfl rfl rfl ?_
      refine sx_assign rfl rfl ?_
      refine sx_assign rfl rfl ?_
      refine sx_nil (hZ _ _ ?_ ?_)
      · exact Kn.cons rfl (Kn.cons (congrArg some (congrArg Value.bool (by rw [Bool.eq_iff_iff]; simp [hlt, cmpQ_eq]))) Kn.nil)
      · exact HLe.sub (List.nil_sublist _)
    refine awp_ret ?_
    exact nx_ret2 rfl rfl rfl rfl
  · refine awp_seq_meet [(6, iq (p : Nat)), (7, .bool (decide (p < L.length ∧ (itAt L p).id = k)))] [] (fun Z hZ => ?_) ?_
    · refine sx_move rfl rfl ?_
      refine sx_move rfl rfl ?_
      refine sx_move rfl rfl ?_
      refine sx_lss rfl rfl rfl ?_
      refine sx_move rfl rfl ?_
      refine sx_force 39 rfl false (by simpa using hlt) ?_
      refine sx_off rfl rfl rfl rfl rfl ?_
      refine sx_off rfl rfl rfl rfl rfl ?_
      refine sx_off rfl rfl rfl rfl rfl ?_
      refine sx_off rfl rfl rfl rfl rfl ?_
      refine sx_off rfl rfl rfl rfl rfl ?_
      refine sx_off rfl rfl rfl rfl rfl ?_
      refine sx_off rfl rfl rfl rfl rfl ?_
      refine sx_off rfl rfl rfl rfl rfl ?_
      refine sx_pick rfl rfl rfl ?_
      refine sx_assign rfl rfl ?_
      refine sx_assign rfl rfl ?_
      refine sx_nil (hZ _ _ ?_ ?_)
      · exact Kn.cons rfl (Kn.cons (congrArg some (congrArg Value.bool (by rw [Bool.eq_iff_iff]; simp [hlt]))) Kn.nil)
      · exact HLe.sub (List.nil_sublist _)
    refine awp_ret ?_
    exact nx_ret2 rfl rfl rfl rfl
/-- A chart, as a value. -/
abbrev chV (A : Option Addr) (n c : Nat) : Value := .agg #[.slice A n c]
theorem place_fn (A : Option Addr) (c : Nat) (L : List It) (T : Heap) (hA : ArgOk A L.length) (hT : 0 < L.length → T = roE A (icells L)) (hro : Ro T) (hL : L.length ≤ 1000000) (hr : Rise L) (k : Nat) :
    Fn Try.prog 52 [chV A L.length c, uq k] T fun v _ => v = .tuple #[iq (cLo k L), .bool (cHas k L)] := by
  refine Fn.enter (N := 12) Try.func52 rfl (by kernel_rfl) rfl (fun w0 => ?_)

  refine awp_seq_region (fun Z hZ => ?_)
  refine sx_box rfl rfl rfl (fun g1 => ?_)
  refine sx_assign rfl rfl ?_
  refine sx_assign rfl rfl ?_
  refine sx_nil (hZ _ _ ?_)
  refine awp_forget [(1, _), (2, _)] (Kn.cons rfl (Kn.cons rfl (Kn.nil))) ?_

  refine awp_seq_region (fun Z hZ => ?_)
  refine sx_fieldAddr rfl tyF29_0 (by first | (simp only [Nat.reduceAdd, Nat.add_zero, Nat.zero_add]; first | done | rfl) | rfl) rfl ?_
  first | refine sx_load 0 rfl rfl tyA27 tyS27 rfl rfl ?_
  refine sx_move rfl rfl ?_
  refine sx_callPT T (bs_fn A c L T hA hT hL hr k) rfl (List.sublist_cons_self _ _) hro rfl ?_
  refine sx_extract rfl rfl rfl ?_
  refine sx_extract rfl rfl rfl ?_
  refine sx_assign rfl rfl ?_
  refine sx_assign rfl rfl ?_
  refine sx_nil (hZ _ _ ?_)
  refine awp_forget [(4, _), (5, _)] (Kn.cons rfl (Kn.cons rfl (Kn.nil))) ?_
  refine awp_ret ?_
  exact nx_ret2 rfl rfl rfl rfl
end Go.Proofs.Ytmebmkkllhnmlaa

namespace Go.Proofs.Ytmebmkkllhnmlaa
open Go.RowKit
set_option linter.unusedVariables false
set_option linter.unusedSimpArgs false
theorem wrs_fltc {T K A : Heap} (h : Wrs T) : HLe T (A ++ (T.filter Ent.wr ++ K)) := by
  rw [h.filter]
  exact HLe.sub ((List.sublist_append_left T K).trans (List.sublist_append_right A _))
/-- What an identifier has. -/
def cGet (k : Nat) (L : List It) : List UInt8 := if cHas k L then (itAt L (cLo k L)).tx else []
theorem get_fn (A : Option Addr) (c : Nat) (L : List It) (T : Heap) (hA : ArgOk A L.length) (hT : 0 < L.length → T = roE A (icells L)) (hro : Ro T) (hL : L.length ≤ 1000000) (hr : Rise L) (k : Nat) :
    Fn Try.prog 29 [chV A L.length c, uq k] T fun v _ => v = .tuple #[.string (str (cGet k L)), .bool (cHas k L)] := by
  refine Fn.enter (N := 22) Try.func29 rfl (by kernel_rfl) rfl (fun w0 => ?_)

  refine awp_seq_region (fun Z hZ => ?_)
  refine sx_box rfl rfl rfl (fun g1 => ?_)
  refine sx_assign rfl rfl ?_
  refine sx_assign rfl rfl ?_
  refine sx_nil (hZ _ _ ?_)
  refine awp_forget [(1, _), (2, _)] (Kn.cons rfl (Kn.cons rfl (Kn.nil))) ?_

  refine awp_seq_region (fun Z hZ => ?_)
  first | refine sx_loadA 0 rfl rfl tyA29 tyS29 (by first | (simp only [List.length_cons, List.length_nil, Nat.reduceAdd, Nat.zero_add, Nat.add_zero]; first | done | rfl) | rfl) (by first | (simp only [List.take_succ_cons, List.take_zero, List.drop_succ_cons, List.drop_zero, List.cons_append, List.nil_append, List.append_nil, List.length_cons, List.length_nil, Nat.reduceAdd, Nat.zero_add, Nat.add_zero, Value.cells, wrV]; first | done | rfl) | rfl) rfl ?_
  refine sx_move rfl rfl ?_
  refine sx_callPT T (place_fn A c L T hA hT hro hL hr k) rfl (List.sublist_cons_self _ _) hro rfl ?_
  refine sx_move rfl rfl ?_
  refine sx_extract rfl rfl rfl ?_
  refine sx_extract rfl rfl rfl ?_
  refine sx_assign rfl rfl ?_
  refine sx_assign rfl rfl ?_
  refine sx_nil (hZ _ _ ?_)
  refine awp_forget [(2, _), (6, _), (7, _)] (Kn.cons rfl (Kn.cons rfl (Kn.cons rfl (Kn.nil)))) ?_
  refine awp_seq ?_
  refine awp_seq_region (fun Z hZ => ?_)
  refine sx_move rfl rfl ?_
  refine sx_not rfl rfl ?_
  refine sx_nil (hZ _ _ ?_)
  refine awp_forget [(2, _), (6, _), (15, _)] (Kn.cons rfl (Kn.cons rfl (Kn.cons rfl (Kn.nil)))) ?_
  refine awp_cond rfl (fun h => ?_) (fun h => ?_)
  · have h' : cHas k L = false := by simpa using h
    have hg : cGet k L = [] := by unfold cGet; rw [h']; rfl
    rw [hg, h']
    refine awp_seq_region (fun Z hZ => ?_)
    refine sx_assign rfl rfl ?_
    refine sx_assign rfl rfl ?_
    refine sx_nil (hZ _ _ ?_)
    refine awp_forget [(4, _), (5, _)] (Kn.cons rfl (Kn.cons rfl (Kn.nil))) ?_
    refine awp_ret ?_
    repeat (with_reducible refine nx_then_ret ?_)
    exact nx_ret2 rfl rfl rfl rfl
  have h' : cHas k L = true := by simpa using h
  obtain ⟨p, hp⟩ : ∃ p, cLo k L = p := ⟨_, rfl⟩
  have hg : cGet k L = (itAt L p).tx := by unfold cGet; rw [h', hp]; rfl
  have hlt : p < L.length := by
    unfold cHas at h'
    rw [hp] at h'
    exact (of_decide_eq_true h').1
  have hx := itAt_at hlt
  obtain ⟨g, o, rfl⟩ := hA (by omega)
  obtain rfl := hT (by omega)
  rw [hg, h', hp]
  refine awp_skip ?_
  with_reducible refine nx_normal ?_

  refine awp_seq_region (fun Z hZ => ?_)
  refine sx_fieldAddr rfl tyF29_0 (by first | (simp only [Nat.reduceAdd, Nat.add_zero, Nat.zero_add]; first | done | rfl) | rfl) rfl ?_
  refine sx_load 0 rfl rfl tyA27 tyS27 rfl rfl ?_
  refine sx_move rfl rfl ?_
  refine sx_indexAddr (o + p * 2) Try.underlying27 tyS82 rfl rfl (by omega) (by simp) rfl ?_
  refine sx_fieldAddr rfl tyF82_1 (by first | (simp only [Nat.reduceAdd, Nat.add_zero, Nat.zero_add]; first | done | rfl) | rfl) rfl ?_
  refine sx_loadRo 1 rfl rfl (p * 2 + 1) rfl tyA9 tyS9 (icells_tx hx) rfl ?_
  refine sx_assign rfl rfl ?_
  refine sx_assign rfl rfl ?_
  refine sx_nil (hZ _ _ ?_)
  refine awp_forget [(4, _), (5, _)] (Kn.cons rfl (Kn.cons rfl (Kn.nil))) ?_
  refine awp_ret ?_
  exact nx_ret2 rfl rfl rfl rfl
/-- All bytes. -/
def cBytes (L : List It) : Nat := (L.map fun e => e.tx.length).sum
theorem cBytes_snoc {L : List It} {k : Nat} {x : It} (h : L[k]? = some x) : cBytes (L.take (k + 1)) = cBytes (L.take k) + x.tx.length := by
  rw [List.take_add_one, h]
  simp [cBytes]
theorem cBytes_le (L : List It) (k : Nat) : cBytes (L.take k) ≤ cBytes L := by
  have : cBytes L = cBytes (L.take k) + cBytes (L.drop k) := by
    simp only [cBytes]
    rw [← List.sum_append, ← List.map_append, List.take_append_drop]
  omega
theorem iclone_fn (A : Option Addr) (c : Nat) (L : List It) (T : Heap) (hA : ArgOk A L.length) (hT : 0 < L.length → T = roE A (icells L)) (hnil : A = none → L.length = 0) (hro : Ro T) (hL : L.length ≤ 100000) :
    Fn Try.prog 54 [.slice A L.length c] T fun v H' => RowOk v L.length ∧ H' = rowE v 82 2 (icells L) := by
  refine Fn.enter (N := 8) Try.func54 rfl (by kernel_rfl) rfl (fun w0 => ?_)

  refine awp_seq_region (fun Z hZ => ?_)
  refine sx_assign rfl rfl ?_
  refine sx_nil (hZ _ _ ?_)
  refine awp_forget [(0, _)] (Kn.cons rfl (Kn.nil)) ?_
  refine awp_seq ?_
  refine awp_seq_region (fun Z hZ => ?_)
  refine sx_move rfl rfl ?_
  refine sx_sliceEqNil Try.underlying27 rfl rfl ?_
  refine sx_nil (hZ _ _ ?_)
  refine awp_forget [(0, _), (4, _)] (Kn.cons rfl (Kn.cons rfl (Kn.nil))) ?_
  refine awp_cond rfl (fun h => ?_) (fun h => ?_)
  · have h0 : A = none := by simpa using h
    have hl := hnil h0
    refine awp_seq_region (fun Z hZ => ?_)
    refine sx_assign rfl rfl ?_
    refine sx_nil (hZ _ _ ?_)
    refine awp_forget [(2, _)] (Kn.cons rfl (Kn.nil)) ?_
    refine awp_ret ?_
    repeat (with_reducible refine nx_then_ret ?_)
    have hLn : L = [] := List.length_eq_zero_iff.1 hl
    subst hLn
    exact nx_ret1h [] rfl rfl (HLe.sub (List.nil_sublist _)) ⟨RowOk.nil, rfl⟩
  refine awp_skip ?_
  with_reducible refine nx_normal ?_
  refine awp_seq_region (fun Z hZ => ?_)
  refine sx_buildSlice0 Try.underlying27 tyS82 rfl (fun g => ?_)
  refine sx_heap (T ++ rowE (.slice (some ⟨g, 0, none⟩) 0 0) 82 2 []) ((HLe.swap _ _).trans (HLe.ownRow [] T rfl (Nat.zero_le _))) ?_
  refine sx_move rfl rfl ?_
  refine sx_appendE T elemIt rfl (RowOk.mk g 0 0) rfl rfl (fun w hw => rd_arg hA hT (icells_len L) hnil (HLe.sub (List.sublist_append_left _ _)) hw) (icells_one L) (by show _ ≤ 9223372036854775807; omega) (by omega) (HLe.refl _) rfl (fun v2 hv2 => ?_)
  rw [List.nil_append]
  rw [Nat.zero_add] at hv2
  refine sx_assign rfl rfl ?_
  refine sx_nil (hZ _ _ ?_)
  refine awp_forget [(2, _)] (Kn.cons rfl (Kn.nil)) ?_
  refine awp_ret ?_
  exact nx_ret1h _ rfl rfl (HLe.sub (List.sublist_append_right _ _)) ⟨hv2, rfl⟩
theorem items_fn (A : Option Addr) (c : Nat) (L : List It) (T : Heap) (hA : ArgOk A L.length) (hT : 0 < L.length → T = roE A (icells L)) (hnil : A = none → L.length = 0) (hro : Ro T) (hL : L.length ≤ 100000) :
    Fn Try.prog 33 [chV A L.length c] T fun v H' => RowOk v L.length ∧ H' = rowE v 82 2 (icells L) := by
  refine Fn.enter (N := 6) Try.func33 rfl (by kernel_rfl) rfl (fun w0 => ?_)

  refine awp_seq_region (fun Z hZ => ?_)
  refine sx_box rfl rfl rfl (fun g1 => ?_)
  refine sx_assign rfl rfl ?_
  refine sx_nil (hZ _ _ ?_)
  refine awp_forget [(1, _)] (Kn.cons rfl (Kn.nil)) ?_

  refine awp_seq_region (fun Z hZ => ?_)
  refine sx_fieldAddr rfl tyF29_0 (by first | (simp only [Nat.reduceAdd, Nat.add_zero, Nat.zero_add]; first | done | rfl) | rfl) rfl ?_
  first | refine sx_load 0 rfl rfl tyA27 tyS27 rfl rfl ?_
  refine sx_callRT T (iclone_fn A c L T hA hT hnil hro hL) rfl (List.sublist_cons_self _ _) hro rfl (fun v hv => ?_)
  refine sx_assign rfl rfl ?_
  refine sx_nil (hZ _ _ ?_)
  refine awp_forget [(2, _)] (Kn.cons rfl (Kn.nil)) ?_
  refine awp_ret ?_
  exact nx_ret1h _ rfl rfl (HLe.sub (List.sublist_append_left _ _)) ⟨hv, rfl⟩
theorem ceach_fn (A : Option Addr) (n c : Nat) : Fn Try.prog 68 [chV A n c] [] fun v H' => ∃ g, v = .func (.func 80) #[] #[ptr g 0] ∧ H' = [.own g 29 [.slice A n c]] := by
  refine Fn.enter (N := 4) Try.func68 rfl (by kernel_rfl) rfl (fun w0 => ?_)

  refine awp_seq_region (fun Z hZ => ?_)
  refine sx_box rfl rfl rfl (fun g1 => ?_)
  refine sx_assign rfl rfl ?_
  refine sx_nil (hZ _ _ ?_)
  refine awp_forget [(1, _)] (Kn.cons rfl (Kn.nil)) ?_
  refine awp_seq_region (fun Z hZ => ?_)
  refine sx_makeFunc rfl rfl ?_
  refine sx_assign rfl rfl ?_
  refine sx_nil (hZ _ _ ?_)
  refine awp_forget [(2, _)] (Kn.cons rfl (Kn.nil)) ?_
  refine awp_ret ?_
  exact nx_ret1h _ rfl rfl (HLe.refl _) ⟨g1, rfl, rfl⟩
theorem ceach_it (g : Nat) (A : Option Addr) (cp : Nat) (L : List It) (T : Heap) (hA : ArgOk A L.length) (hT : 0 < L.length → T = roE A (icells L)) (hL : L.length ≤ 100000) :
    Iter Try.prog 80 [ptr g 0] (.ro g 0 [.slice A L.length cp] :: T) (L.map fun e => [uq e.id, .string (str e.tx)]) := by
  intro l J Jr S hJ hS hJr hY T0 hT0
  have hlen : (L.map fun e => [uq e.id, .string (str e.tx)]).length = L.length := by simp
  rw [hlen]
  refine Fn.enter (N := 20) Try.func80 rfl (by kernel_rfl) rfl (fun w0 => ?_)

  refine awp_heap (.ro g 0 [.slice A L.length cp] :: (T ++ (T0 ++ Jr))) (HLe.refl _) ?_
  refine awp_seq_region (fun Z hZ => ?_)
  refine sx_fieldAddr rfl tyF29_0 (by first | (simp only [Nat.reduceAdd, Nat.add_zero, Nat.zero_add]; first | done | rfl) | rfl) rfl ?_
  refine sx_loadRo 0 rfl rfl 0 rfl tyA27 tyS27 rfl rfl ?_
  refine sx_len Try.underlying27 rfl rfl ?_
  refine sx_move rfl rfl ?_
  refine sx_nil (hZ _ _ ?_)
  refine awp_forget [(0, _), (6, _), (7, _), (8, _)] (Kn.cons rfl (Kn.cons rfl (Kn.cons rfl (Kn.cons rfl (Kn.nil))))) ?_
  refine awp_block ?_
  refine awp_loop (ι := Nat × Heap) (fun i => [(0, .func (.yield l) #[] #[]), (6, .slice A L.length cp), (7, iq (L.length : Nat)), (8, iq (i.1 : Nat))]) (fun i => T ++ (i.2 ++ Jr))
    (fun i => i.1 ≤ L.length ∧ J i.1 i.2) (fun i => L.length - i.1) (0, T0) ⟨by simp, hT0⟩ (Kn.cons rfl (Kn.cons rfl (Kn.cons rfl (Kn.cons rfl Kn.nil)))) (HLe.drop 1 rfl) ?_
  rintro ⟨i, T3⟩ ⟨hi, hT3⟩
  simp only at hi hT3

  refine awp_seq_region (fun Z hZ => ?_)
  refine sx_lss rfl rfl rfl ?_
  refine sx_nil (hZ _ _ ?_)
  refine awp_forget [(0, _), (6, _), (7, _), (8, _), (9, _)] (Kn.cons rfl (Kn.cons rfl (Kn.cons rfl (Kn.cons rfl (Kn.cons rfl (Kn.nil)))))) ?_
  refine awp_seq (awp_cond rfl (fun hh => ?_) (fun hh => ?_))
  · have hlt : i < L.length := by simpa using hh
    have hx := itAt_at hlt
    obtain ⟨ga, o, rfl⟩ := hA (by omega)
    obtain rfl := hT (by omega)
    refine awp_heap (.ro ga o (icells L) :: (T3 ++ Jr)) (HLe.refl _) ?_
    refine awp_skip ?_
    with_reducible refine nx_normal ?_
    refine awp_seq (awp_block ?_)

    refine awp_seq_region (fun Z hZ => ?_)
    refine sx_indexAddr (o + i * 2) Try.underlying27 tyS82 rfl rfl (by omega) (by simp) rfl ?_
    refine sx_loadRo 0 rfl rfl (i * 2) rfl tyA82 tyS82 (icells_all hx) rfl ?_
    refine sx_alloc tyZ82 rfl (fun g1 => ?_)
    refine sx_store 0 rfl rfl rfl tyS82 (by first | (simp only [Value.cells]; first | done | rfl) | rfl) rfl rfl (by first | (simp only [List.length_cons, List.length_nil, Nat.reduceAdd, Nat.zero_add, Nat.add_zero]; first | done | rfl) | rfl) (by first | (simp only [List.take_succ_cons, List.take_zero, List.drop_succ_cons, List.drop_zero, List.cons_append, List.nil_append, List.append_nil, List.length_cons, List.length_nil, Nat.reduceAdd, Nat.zero_add, Nat.add_zero, Value.cells, wrV]; first | done | rfl) | rfl) (by first | (simp only [List.set_cons_succ, List.set_cons_zero]; first | done | rfl) | rfl) ?_
    refine sx_nil (hZ _ _ ?_)
    refine awp_forget [(0, _), (4, _), (6, _), (7, _), (8, _)] (Kn.cons rfl (Kn.cons rfl (Kn.cons rfl (Kn.cons rfl (Kn.cons rfl (Kn.nil)))))) ?_

    refine awy_seq_region (fun Z hZ => ?_)
    refine sy_x rfl ?_
    refine sx_move rfl rfl ?_
    refine sx_nil ?_
    refine sy_x rfl ?_
    refine sx_fieldAddr rfl tyF82_0 (by first | (simp only [Nat.reduceAdd, Nat.add_zero, Nat.zero_add]; first | done | rfl) | rfl) rfl ?_
    refine sx_nil ?_
    refine sy_x rfl ?_
    refine sx_load 0 rfl rfl tyA66 tyS66 rfl rfl ?_
    refine sx_nil ?_
    refine sy_x rfl ?_
    refine sx_fieldAddr rfl tyF82_1 (by first | (simp only [Nat.reduceAdd, Nat.add_zero, Nat.zero_add]; first | done | rfl) | rfl) rfl ?_
    refine sx_nil ?_
    refine sy_x rfl ?_
    refine sx_load 0 rfl rfl tyA9 tyS9 rfl rfl ?_
    refine sx_nil ?_
    refine sy_yield [_, _] T3 Jr Jr (hY i _ T3 (by simp [hx]) hT3) rfl rfl rfl (List.Sublist.refl _) hJr rfl ?_
    rintro v T4 ⟨b, rfl, hb1, hb2⟩
    refine sy_x rfl ?_
    refine sx_not rfl rfl ?_
    refine sx_nil ?_
    refine sy_nil (hZ _ _ ?_)
    refine awp_forget [(0, _), (6, _), (7, _), (8, _), (18, _)] (Kn.cons rfl (Kn.cons rfl (Kn.cons rfl (Kn.cons rfl (Kn.cons rfl (Kn.nil)))))) ?_
    refine awp_cond rfl (fun h3 => ?_) (fun h3 => ?_)
    · have hb : b = false := by simpa using h3
      refine awp_ret ?_
      repeat (with_reducible (first | refine nx_then_ret ?_ | refine nx_block_ret ?_))
      exact nx_ret0h T4 rfl (wrs_fltc (A := [_, _]) (hS T4 (hb2 hb))) (.inr (hb2 hb))
    have hb : b = true := by simpa using h3
    have hT4 := hb1 hb
    rw [(hJ _ T4 hT4).filter]
    refine awp_skip ?_
    repeat (with_reducible refine nx_block_normal ?_)
    with_reducible refine nx_normal ?_

    refine awp_region (fun Z hZ => ?_)
    refine sx_add rfl rfl ((i + 1 : Nat) : Int) (by rw [IntWalk.i64_in _ (by omega)]; omega) rfl ?_
    refine sx_move rfl rfl ?_
    refine sx_nil (hZ _ _ ?_)
    refine nx_forget [(0, _), (6, _), (7, _), (8, _)] (Kn.cons rfl (Kn.cons rfl (Kn.cons rfl (Kn.cons rfl (Kn.nil))))) ?_
    exact nx_round (i + 1, T4) ⟨by show i + 1 ≤ _; omega, hT4⟩ (by simp; omega) (Kn.cons rfl (Kn.cons rfl (Kn.cons rfl (Kn.cons rfl Kn.nil)))) (HLe.drop 1 rfl)
  · have hie : i = L.length := by simp at hh; omega
    subst hie
    refine awp_exit ?_
    repeat (with_reducible refine nx_then_exit ?_)
    with_reducible refine nx_block_exit ?_
    exact nx_end0h T3 rfl (HLe.sub ((List.sublist_append_left T3 Jr).trans (List.sublist_append_right T _))) (.inl hT3)
end Go.Proofs.Ytmebmkkllhnmlaa

namespace Go.Proofs.Ytmebmkkllhnmlaa
open Go.RowKit
set_option linter.unusedVariables false
set_option linter.unusedSimpArgs false
def itq (a b : It) : Bool := (a.id == b.id) && (a.tx == b.tx)
def sameI : List It → List It → Bool
  | [], [] => true
  | a :: r, b :: s => itq a b && sameI r s
  | _, _ => false
end Go.Proofs.Ytmebmkkllhnmlaa


namespace Go.Proofs.Ytmebmkkllhnmlaa
open Go.RowKit
set_option linter.unusedVariables false
set_option linter.unusedSimpArgs false
/-- A part: a slice and what it holds. -/
abbrev Pc := Option Addr × Nat × List It
abbrev pcv (p : Pc) : Value := .slice p.1 p.2.2.length p.2.1
def PcOk (T : Heap) (p : Pc) : Prop := ∀ w0 Wr w, Sat w0 Wr T w → Rd w 2 p.1 p.2.2.length (icells p.2.2)
def pcAll (ps : List Pc) : List It := ps.flatMap fun p => p.2.2
def pcAt (ps : List Pc) (i : Nat) : Pc := (ps[i]?).getD (none, 0, [])
end Go.Proofs.Ytmebmkkllhnmlaa

namespace Go.Proofs.Ytmebmkkllhnmlaa
open Go.RowKit
set_option linter.unusedVariables false
set_option linter.unusedSimpArgs false
/-- The items without one. -/
def cDel (k : Nat) (L : List It) : List It := if cHas k L then L.take (cLo k L) ++ L.drop (cLo k L + 1) else L
/-- The items with one. -/
def cPut (k : Nat) (s : List UInt8) (L : List It) : List It := L.take (cLo k L) ++ ⟨k, s⟩ :: L.drop (cLo k L + if cHas k L then 1 else 0)
def fullQ (k : Nat) (L : List It) : Bool := !cHas k L && decide (2048 ≤ L.length)
theorem cHas_lt {k : Nat} {L : List It} (h : cHas k L = true) : cLo k L < L.length := by
  unfold cHas at h
  exact (of_decide_eq_true h).1
theorem it_drop {L : List It} {i : Nat} : (icells L).drop (i * 2) = icells (L.drop i) := fm_drop it_len L i
theorem it_take {L : List It} {i : Nat} : (icells L).take (i * 2) = icells (L.take i) := by
  have h1 : icells L = icells (L.take i) ++ icells (L.drop i) := by rw [← List.flatMap_append, List.take_append_drop]
  rcases Nat.lt_or_ge L.length i with h | h
  · rw [List.take_of_length_le (by rw [icells_len]; omega), List.take_of_length_le (Nat.le_of_lt h)]
  · rw [h1, List.take_left' (by rw [icells_len, List.length_take]; omega)]
theorem rd_part {A A' : Option Addr} {n c : Nat} {L : List It} {i j : Nat} {w : World} (h : Rd w 2 A L.length (icells L)) (hA : SlIn A L.length c) (h1 : i ≤ j) (h2 : j ≤ L.length) (ht : TailA A i 2 A' (j - i)) (hA' : SlIn A' (j - i) n) : Rd w 2 A' (j - i) (icells ((L.drop i).take (j - i))) := by
  have e1 : ((L.drop i).take (j - i)).length = j - i := by rw [List.length_take, List.length_drop]; omega
  refine ⟨by rw [icells_len, e1], fun ha => hA'.nil ha, fun hn => ?_⟩
  obtain ⟨g, o, h4, h5, h6⟩ := h.2.2 (by omega)
  obtain ⟨o', h7, h8⟩ := ht.2 g o h4
  obtain rfl := h8 hn
  refine ⟨g, _, h7, h5, fun p u hu => ?_⟩
  rw [← it_take, ← it_drop, List.getElem?_take] at hu
  split at hu
  · rw [List.getElem?_drop] at hu
    rw [Nat.add_assoc]
    exact h6 _ u hu
  · cases hu
theorem put_fn (A : Option Addr) (c : Nat) (L : List It) (T : Heap) (hA : SlIn A L.length c) (hT : 0 < L.length → T = roE A (icells L)) (hro : Ro T) (hL : L.length ≤ 100000) (hr : Rise L) (k : Nat) (s : List UInt8) :
    Fn Try.prog 35 [chV A L.length c, uq k, .string (str s)] T fun v H' => ∃ u, v = .tuple #[.agg #[u], iq (wrongQ k s (fullQ k L))] ∧ ((wrongQ k s (fullQ k L) = 0 ∧ RowOk u (cPut k s L).length ∧ H' = rowE u 82 2 (icells (cPut k s L))) ∨ (wrongQ k s (fullQ k L) ≠ 0 ∧ u = .slice A L.length c ∧ H' = [])) := by
  have hcap := hA.cap
  have hle := (cLo_facts k L).1
  obtain ⟨p, hp⟩ : ∃ p, cLo k L = p := ⟨_, rfl⟩
  obtain ⟨q, hq⟩ : ∃ q, p + (if cHas k L then 1 else 0) = q := ⟨_, rfl⟩
  have hql : q ≤ L.length := by
    rw [← hq, ← hp]
    split
    · rename_i hh
      exact cHas_lt hh
    · omega
  have hpq : q ≤ p + 1 := by rw [← hq]; split <;> omega
  have hd : cPut k s L = L.take p ++ ⟨k, s⟩ :: L.drop q := by unfold cPut; rw [hp, hq]
  rw [hp] at hle
  refine Fn.enter (N := 55) Try.func35 rfl (by kernel_rfl) rfl (fun w0 => ?_)

  refine awp_seq_region (fun Z hZ => ?_)
  refine sx_box rfl rfl rfl (fun g1 => ?_)
  refine sx_alloc tyZ29 rfl (fun g2 => ?_)
  refine sx_assign rfl rfl ?_
  refine sx_nil (hZ _ _ ?_)
  refine awp_forget [(1, _), (2, _), (3, _), (6, _)] (Kn.cons rfl (Kn.cons rfl (Kn.cons rfl (Kn.cons rfl (Kn.nil))))) ?_

  refine awp_seq_region (fun Z hZ => ?_)
  refine sx_loadA 1 rfl rfl tyA29 tyS29 (by first | (simp only [List.length_cons, List.length_nil, Nat.reduceAdd, Nat.zero_add, Nat.add_zero]; first | done | rfl) | rfl) (by first | (simp only [List.take_succ_cons, List.take_zero, List.drop_succ_cons, List.drop_zero, List.cons_append, List.nil_append, List.append_nil, List.length_cons, List.length_nil, Nat.reduceAdd, Nat.zero_add, Nat.add_zero, Value.cells, wrV]; first | done | rfl) | rfl) rfl ?_
  refine sx_move rfl rfl ?_
  refine sx_callPT T (place_fn A c L T hA.arg hT hro (by omega) hr k) rfl ((List.sublist_cons_self _ _).trans (List.sublist_cons_self _ _)) hro rfl ?_
  refine sx_move rfl rfl ?_
  refine sx_extract rfl rfl rfl ?_
  refine sx_extract rfl rfl rfl ?_
  refine sx_assign rfl rfl ?_
  refine sx_assign rfl rfl ?_
  refine sx_nil (hZ _ _ ?_)
  refine awp_forget [(1, _), (2, _), (3, _), (6, _), (8, _), (9, _)] (Kn.cons rfl (Kn.cons rfl (Kn.cons rfl (Kn.cons rfl (Kn.cons rfl (Kn.cons rfl (Kn.nil))))))) ?_
  rw [hp]
  refine awp_seq_region (fun Z hZ => ?_)
  refine sx_move rfl rfl ?_
  refine sx_assign rfl rfl ?_
  refine sx_nil (hZ _ _ ?_)
  refine awp_forget [(1, _), (2, _), (3, _), (6, _), (8, _), (9, _), (10, _)] (Kn.cons rfl (Kn.cons rfl (Kn.cons rfl (Kn.cons rfl (Kn.cons rfl (Kn.cons rfl (Kn.cons rfl (Kn.nil)))))))) ?_
  refine awp_cut (ι := Unit) (fun _ => [(1, uq k), (2, .string (str s)), (3, ptr g1 0), (6, ptr g2 0), (8, iq (p : Nat)), (9, .bool (cHas k L)), (10, iq (q : Nat))]) (fun _ => .own g2 29 [.slice none 0 0] :: .own g1 29 [.slice A L.length c] :: T) (fun _ => True) ?_ ?_
  · refine awp_seq_region (fun Z hZ => ?_)
    refine sx_move rfl rfl ?_
    refine sx_nil (hZ _ _ ?_)
    refine awp_forget [(1, _), (2, _), (3, _), (6, _), (8, _), (9, _), (10, _), (20, _)] (Kn.cons rfl (Kn.cons rfl (Kn.cons rfl (Kn.cons rfl (Kn.cons rfl (Kn.cons rfl (Kn.cons rfl (Kn.cons rfl (Kn.nil))))))))) ?_
    refine awp_cond rfl (fun h => ?_) (fun h => ?_)
    · refine awp_region (fun Z hZ => ?_)
      refine sx_move rfl rfl ?_
      refine sx_add rfl rfl ((p + 1 : Nat) : Int) (by rw [IntWalk.i64_in _ (by omega)]; omega) rfl ?_
      refine sx_assign rfl rfl ?_
      refine sx_nil (hZ _ _ ?_)
      refine nx_forget [(1, _), (2, _), (3, _), (6, _), (8, _), (9, _), (10, _)] (Kn.cons rfl (Kn.cons rfl (Kn.cons rfl (Kn.cons rfl (Kn.cons rfl (Kn.cons rfl (Kn.cons rfl (Kn.nil)))))))) ?_
      exact nx_cut () trivial (Kn.cons rfl (Kn.cons rfl (Kn.cons rfl (Kn.cons rfl (Kn.cons rfl (Kn.cons rfl (Kn.cons (by rw [← hq, h]; rfl) Kn.nil))))))) (HLe.refl _)
    · refine awp_skip ?_
      exact nx_cut () trivial (Kn.cons rfl (Kn.cons rfl (Kn.cons rfl (Kn.cons rfl (Kn.cons rfl (Kn.cons rfl (Kn.cons (by rw [← hq, h]; rfl) Kn.nil))))))) (HLe.refl _)
  rintro ⟨⟩ -
  obtain ⟨e, he⟩ : ∃ e, wrongQ k s (fullQ k L) = e := ⟨_, rfl⟩
  have hw : ∀ b, b = fullQ k L → Fn Try.prog 57 [uq k, .string (str s), .bool b] [] fun v _ => v = iq (e : Nat) := fun b hb => by
    have := wrong_fn k s (fullQ k L)
    rw [he] at this
    rw [hb]
    exact this
  rw [he]
  refine awp_seq ?_
  refine awp_seq_meet [(1, uq k), (2, .string (str s)), (3, ptr g1 0), (6, ptr g2 0), (8, iq (p : Nat)), (10, iq (q : Nat)), (11, iq (e : Nat))] (.own g2 29 [.slice none 0 0] :: .own g1 29 [.slice A L.length c] :: T) (fun Z hZ => ?_) ?_
  · refine sx_move rfl rfl ?_
    refine sx_move rfl rfl ?_
    refine sx_move rfl rfl ?_
    refine sx_not rfl rfl ?_
    refine sx_move rfl rfl ?_
    refine sx_split 27 rfl (fun hb4 => ?_) (fun hb4 => ?_)
    · refine sx_on rfl rfl rfl ?_
      refine sx_fieldAddr rfl tyF29_0 (by first | (simp only [Nat.reduceAdd, Nat.add_zero, Nat.zero_add]; first | done | rfl) | rfl) rfl ?_
      refine sx_on rfl rfl rfl ?_
      refine sx_load 1 rfl rfl tyA27 tyS27 rfl rfl ?_
      refine sx_on rfl rfl rfl ?_
      refine sx_len Try.underlying27 rfl rfl ?_
      refine sx_on rfl rfl rfl ?_
      refine sx_geq rfl rfl rfl ?_
      refine sx_pick rfl rfl rfl ?_
      refine sx_callP (hw _ (by unfold fullQ; simp at hb4; rw [hb4, Bool.eq_iff_iff]; first | (simp; done) | (simp; omega))) rfl rfl ?_
      refine sx_assign rfl rfl ?_
      refine sx_nil (hZ _ _ ?_ ?_)
      · exact Kn.cons rfl (Kn.cons rfl (Kn.cons rfl (Kn.cons rfl (Kn.cons rfl (Kn.cons rfl (Kn.cons rfl Kn.nil))))))
      · exact HLe.refl _
    · refine sx_off rfl rfl rfl rfl rfl ?_
      refine sx_off rfl rfl rfl rfl rfl ?_
      refine sx_off rfl rfl rfl rfl rfl ?_
      refine sx_off rfl rfl rfl rfl rfl ?_
      refine sx_pick rfl rfl rfl ?_
      refine sx_callP (hw _ (by unfold fullQ; simp at hb4; rw [hb4, Bool.eq_iff_iff]; first | (simp; done) | (simp; omega))) rfl rfl ?_
      refine sx_assign rfl rfl ?_
      refine sx_nil (hZ _ _ ?_ ?_)
      · exact Kn.cons rfl (Kn.cons rfl (Kn.cons rfl (Kn.cons rfl (Kn.cons rfl (Kn.cons rfl (Kn.cons rfl Kn.nil))))))
      · exact HLe.refl _
  refine awp_seq_region (fun Z hZ => ?_)
  refine sx_move rfl rfl ?_
  refine sx_neq rfl rfl rfl ?_
  refine sx_nil (hZ _ _ ?_)
  refine awp_forget [(1, _), (2, _), (3, _), (6, _), (8, _), (10, _), (11, _), (35, _)] (Kn.cons rfl (Kn.cons rfl (Kn.cons rfl (Kn.cons rfl (Kn.cons rfl (Kn.cons rfl (Kn.cons rfl (Kn.cons rfl (Kn.nil))))))))) ?_
  refine awp_cond rfl (fun h => ?_) (fun h => ?_)
  · have he' : e ≠ 0 := by simp at h; omega

    refine awp_seq_region (fun Z hZ => ?_)
    refine sx_loadA 1 rfl rfl tyA29 tyS29 (by first | (simp only [List.length_cons, List.length_nil, Nat.reduceAdd, Nat.zero_add, Nat.add_zero]; first | done | rfl) | rfl) (by first | (simp only [List.take_succ_cons, List.take_zero, List.drop_succ_cons, List.drop_zero, List.cons_append, List.nil_append, List.append_nil, List.length_cons, List.length_nil, Nat.reduceAdd, Nat.zero_add, Nat.add_zero, Value.cells, wrV]; first | done | rfl) | rfl) rfl ?_
    refine sx_move rfl rfl ?_
    refine sx_store 0 rfl rfl rfl tyS29 (by first | (simp only [Value.cells]; first | done | rfl) | rfl) rfl rfl (by first | (simp only [List.length_cons, List.length_nil, Nat.reduceAdd, Nat.zero_add, Nat.add_zero]; first | done | rfl) | rfl) (by first | (simp only [List.take_succ_cons, List.take_zero, List.drop_succ_cons, List.drop_zero, List.cons_append, List.nil_append, List.append_nil, List.length_cons, List.length_nil, Nat.reduceAdd, Nat.zero_add, Nat.add_zero, Value.cells, wrV]; first | done | rfl) | rfl) (by first | (simp only [List.set_cons_succ, List.set_cons_zero]; first | done | rfl) | rfl) ?_
    refine sx_assign rfl rfl ?_
    refine sx_nil (hZ _ _ ?_)
    refine awp_forget [(6, _), (7, _)] (Kn.cons rfl (Kn.cons rfl (Kn.nil))) ?_
    refine awp_ret ?_
    repeat (with_reducible refine nx_then_ret ?_)
    exact nx_ret2h [] rfl (ResOk.cell 0 rfl rfl tyA29 tyS29 rfl) rfl (HLe.sub (List.nil_sublist _)) ⟨_, rfl, .inr ⟨he', rfl, rfl⟩⟩
  have he' : e = 0 := by simp at h; omega
  subst he'
  refine awp_skip ?_
  with_reducible refine nx_normal ?_
  have hrd : ∀ w0 Wr w, Sat w0 Wr T w → Rd w 2 A L.length (icells L) := fun w0 Wr w hw => rd_arg hA.arg hT (icells_len L) hA.nil (HLe.refl _) hw
  refine awp_seq_region (fun Z hZ => ?_)
  refine sx_fieldAddr rfl tyF29_0 (by first | (simp only [Nat.reduceAdd, Nat.add_zero, Nat.zero_add]; first | done | rfl) | rfl) rfl ?_
  refine sx_load 1 rfl rfl tyA27 tyS27 rfl rfl ?_
  refine sx_move rfl rfl ?_
  refine sx_move rfl rfl ?_
  refine sx_head3 Try.underlying27 tyS82 hA rfl rfl rfl (by omega) rfl ?_
  refine sx_assign rfl rfl ?_
  refine sx_nil (hZ _ _ ?_)
  refine awp_forget [(1, _), (2, _), (3, _), (6, _), (10, _), (12, _)] (Kn.cons rfl (Kn.cons rfl (Kn.cons rfl (Kn.cons rfl (Kn.cons rfl (Kn.cons rfl (Kn.nil))))))) ?_
  have hAp : SlOk A p := by
    rcases hA.ok with ⟨h1, h2⟩ | h1
    · exact .inl ⟨h1, by omega⟩
    · exact .inr h1
  rw [hd]
  have hll : (L.take p ++ ⟨k, s⟩ :: L.drop q).length = p + 1 + (L.length - q) := by
    rw [List.length_append, List.length_take, List.length_cons, List.length_drop]
    omega
  rw [hll]

  refine aww_seq_region _ [(0, true), (1, true), (2, true), (3, true), (4, false), (5, false), (6, true), (7, true), (8, true), (9, true), (10, false), (11, true), (12, false), (13, true)] mixed (by kernel_rfl) (HLe.pick [1] (by simp) (by simp only [pick, List.filterMap_cons, List.filterMap_nil, List.getElem?_cons_succ, List.getElem?_cons_zero]; rfl)) (fun Z hZ => ?_)
  refine tw_p rfl ?_
  refine sv_move rfl rfl ?_
  refine sv_nil ?_
  refine tw_p rfl ?_
  refine sv_move rfl rfl ?_
  refine sv_nil ?_
  refine tw_p rfl ?_
  refine sv_move rfl rfl ?_
  refine sv_nil ?_
  refine tw_p rfl ?_
  refine sv_build tyZ82 tyP82 rfl rfl (by first | (simp only [List.take_succ_cons, List.take_zero, List.drop_succ_cons, List.drop_zero, List.cons_append, List.nil_append, List.append_nil, List.length_cons, List.length_nil, Nat.reduceAdd, Nat.zero_add, Nat.add_zero, Value.cells, wrV, zrep_one, List.replicate_succ, List.replicate_zero, Nat.reduceMul, Nat.zero_mul]; first | done | rfl) | rfl) rfl ?_
  refine sv_nil ?_
  refine tw_g rfl ?_
  refine sx_buildSlice Try.underlying27 tyS82 tyZ82 rfl rfl rfl rfl (by first | (simp only [List.take_succ_cons, List.take_zero, List.drop_succ_cons, List.drop_zero, List.cons_append, List.nil_append, List.append_nil, List.length_cons, List.length_nil, Nat.reduceAdd, Nat.zero_add, Nat.add_zero, Value.cells, wrV, zrep_one, List.replicate_succ, List.replicate_zero, Nat.reduceMul, Nat.zero_mul]; first | done | rfl) | rfl) rfl (fun g3 => ?_)
  refine sx_nil ⟨HLe.pick [2] (by simp) rfl, ?_⟩
  refine tw_g rfl ?_
  refine sx_appendCut elemIt hAp rfl rfl (fun w hw => rd_head (hrd _ _ _ (hw.sub (List.sublist_append_right [_, _, _] T))) hle) (fun w hw => rd_own (i := 0) (n := 1) (xs := [uq k, .string (str s)]) rfl rfl hw) (fun h => by cases h) rfl (by omega) (by show _ ≤ 9223372036854775807; omega) (by omega) rfl (fun v1 hv1 => ?_)
  obtain ⟨g4, c4, rfl⟩ := hv1.some (by omega)
  refine sx_heap ((_ :: _ :: _ :: T) ++ rowE (.slice (some ⟨g4, 0, none⟩) (p + 1) c4) 82 2 _) (HLe.swap _ _) ?_
  refine sx_nil ⟨HLe.pick [2] (by simp) rfl, ?_⟩
  refine tw_p rfl ?_
  refine sv_fieldAddr rfl tyF29_0 (by first | (simp only [Nat.reduceAdd, Nat.add_zero, Nat.zero_add]; first | done | rfl) | rfl) rfl ?_
  refine sv_nil ?_
  refine tw_p rfl ?_
  first | refine sv_load 0 rfl rfl tyA27 tyS27 rfl rfl ?_
  refine sv_nil ?_
  refine tw_p rfl ?_
  refine sv_move rfl rfl ?_
  refine sv_nil ?_
  refine tw_p rfl ?_
  refine sv_part (i := q) (j := L.length) Try.underlying27 tyS82 hA rfl rfl rfl (by omega) (by omega) rfl (fun A2 hA2 ht2 => ?_)
  refine sv_nil ?_
  refine tw_g rfl ?_
  refine sx_appendE (_ :: _ :: _ :: T) elemIt rfl hv1 (by rw [List.length_append, List.length_take, icells_len]; simp; omega) rfl (fun w hw => rd_part (hrd _ _ _ (hw.sub ((List.sublist_append_right [_, _, _] T).trans (List.sublist_append_left (_ :: _ :: _ :: T) _)))) hA hql (Nat.le_refl _) ht2 hA2) (icells_one _) (by show _ ≤ 9223372036854775807; omega) (by omega) (HLe.refl _) rfl (fun v2 hv2 => ?_)
  obtain ⟨A5, c5, rfl, hA5⟩ := hv2.form
  refine sx_nil ⟨HLe.pick [2] (by simp) rfl, ?_⟩
  refine tw_p rfl ?_
  refine sv_build tyZ29 tyP29 rfl rfl (by first | (simp only [List.take_succ_cons, List.take_zero, List.drop_succ_cons, List.drop_zero, List.cons_append, List.nil_append, List.append_nil, List.length_cons, List.length_nil, Nat.reduceAdd, Nat.zero_add, Nat.add_zero, Value.cells, wrV, zrep_one, List.replicate_succ, List.replicate_zero, Nat.reduceMul, Nat.zero_mul]; first | done | rfl) | rfl) rfl ?_
  refine sv_nil ?_
  refine tw_g rfl ?_
  refine sx_store 1 rfl rfl rfl tyS29 (by first | (simp only [Value.cells]; first | done | rfl) | rfl) rfl rfl (by first | (simp only [List.length_cons, List.length_nil, Nat.reduceAdd, Nat.zero_add, Nat.add_zero]; first | done | rfl) | rfl) (by first | (simp only [List.take_succ_cons, List.take_zero, List.drop_succ_cons, List.drop_zero, List.cons_append, List.nil_append, List.append_nil, List.length_cons, List.length_nil, Nat.reduceAdd, Nat.zero_add, Nat.add_zero, Value.cells, wrV]; first | done | rfl) | rfl) (by first | (simp only [List.set_cons_succ, List.set_cons_zero]; first | done | rfl) | rfl) ?_
  refine sx_nil ⟨HLe.pick [2] (by simp) rfl, ?_⟩
  refine tw_p rfl ?_
  refine sv_assign rfl rfl ?_
  refine sv_nil ?_
  refine tw_nil (hZ _ _ ?_)
  refine awp_forget [(6, _), (7, _)] (Kn.cons rfl (Kn.cons rfl (Kn.nil))) ?_
  refine awp_ret ?_
  refine nx_ret2h _ rfl (ResOk.cell 1 rfl rfl tyA29 tyS29 rfl) rfl (HLe.sub (List.sublist_append_right (_ :: _ :: _ :: T) _)) ⟨_, rfl, .inl ⟨rfl, hv2, ?_⟩⟩
  rw [it_take, List.take_of_length_le (show (L.drop q).length ≤ L.length - q by rw [List.length_drop]; exact Nat.le_refl _)]
  simp only [icells, List.flatMap_append, List.flatMap_cons, List.append_assoc, It.cells, List.cons_append, List.nil_append]
end Go.Proofs.Ytmebmkkllhnmlaa

namespace Go.Proofs.Ytmebmkkllhnmlaa
open Go.RowKit
set_option linter.unusedVariables false
set_option linter.unusedSimpArgs false
def rGet (k : Nat) : List It → Option (List UInt8)
  | [] => none
  | e :: r => if e.id = k then some e.tx else rGet k r
def rDel (k : Nat) (L : List It) : List It := L.filter fun e => decide (e.id ≠ k)
/-- Two halves: what stands ahead of an identifier, and behind it. -/
structure Half (k : Nat) (X Y : List It) : Prop where
  ahead : ∀ e ∈ X, e.id < k
  behind : ∀ e ∈ Y, k < e.id
  riseX : Rise X
  riseY : Rise Y
theorem lo_of {k : Nat} : ∀ {X Z : List It}, (∀ e ∈ X, e.id < k) → (∀ e ∈ Z, k ≤ e.id) → cLo k (X ++ Z) = X.length
  | [], [], _, _ => rfl
  | [], e :: r, _, h => by
    have := h e List.mem_cons_self
    rw [List.nil_append, cLo, if_neg (by omega)]
    rfl
  | e :: r, Z, h, h2 => by
    have := h e List.mem_cons_self
    rw [List.cons_append, cLo, if_pos this, lo_of (fun x hx => h x (List.mem_cons_of_mem _ hx)) h2]
    rfl
section
variable {k : Nat} {X Y : List It} {s : List UInt8}
theorem itAt_mid (s : It) : itAt (X ++ s :: Y) X.length = s := by simp [itAt]
theorem Half.lo1 (h : Half k X Y) : cLo k (X ++ ⟨k, s⟩ :: Y) = X.length := lo_of h.ahead fun e he => by
  rcases List.mem_cons.1 he with rfl | he
  · exact Nat.le_refl _
  · exact Nat.le_of_lt (h.behind e he)
theorem Half.lo0 (h : Half k X Y) : cLo k (X ++ Y) = X.length := lo_of h.ahead fun e he => Nat.le_of_lt (h.behind e he)
theorem Half.has1 (h : Half k X Y) : cHas k (X ++ ⟨k, s⟩ :: Y) = true := by
  unfold cHas
  rw [h.lo1, itAt_mid]
  simp
theorem Half.has0 (h : Half k X Y) : cHas k (X ++ Y) = false := by
  unfold cHas
  rw [h.lo0]
  cases Y with
  | nil => simp
  | cons y r =>
    have := h.behind y List.mem_cons_self
    rw [itAt_mid]
    simp
    omega
theorem Half.get1 (h : Half k X Y) : cGet k (X ++ ⟨k, s⟩ :: Y) = s := by
  unfold cGet
  rw [h.has1, h.lo1, itAt_mid]
  rfl
theorem Half.get0 (h : Half k X Y) : cGet k (X ++ Y) = [] := by
  unfold cGet
  rw [h.has0]
  rfl
theorem Half.put1 (h : Half k X Y) (t : List UInt8) : cPut k t (X ++ ⟨k, s⟩ :: Y) = X ++ ⟨k, t⟩ :: Y := by
  unfold cPut
  rw [h.has1, h.lo1, if_pos rfl]
  simp
theorem Half.put0 (h : Half k X Y) (t : List UInt8) : cPut k t (X ++ Y) = X ++ ⟨k, t⟩ :: Y := by
  unfold cPut
  rw [h.has0, h.lo0, if_neg (by decide)]
  simp
theorem Half.rise1 (h : Half k X Y) : Rise (X ++ ⟨k, s⟩ :: Y) := by
  refine List.pairwise_append.2 ⟨h.riseX, List.pairwise_cons.2 ⟨fun e he => h.behind e he, h.riseY⟩, fun a ha b hb => ?_⟩
  have h1 := h.ahead a ha
  rcases List.mem_cons.1 hb with rfl | hb
  · exact h1
  · have := h.behind b hb
    omega
theorem rGet_app {Z : List It} (h : ∀ e ∈ X, e.id ≠ k) : rGet k (X ++ Z) = rGet k Z := by
  induction X with
  | nil => rfl
  | cons e r ih =>
    rw [List.cons_append, rGet, if_neg (h e List.mem_cons_self)]
    exact ih fun x hx => h x (List.mem_cons_of_mem _ hx)
theorem rGet_none (h : ∀ e ∈ X, e.id ≠ k) : rGet k X = none := by
  have := rGet_app (Z := []) h
  rw [List.append_nil] at this
  exact this
theorem Half.ne (h : Half k X Y) : (∀ e ∈ X, e.id ≠ k) ∧ (∀ e ∈ Y, e.id ≠ k) := ⟨fun e he => Nat.ne_of_lt (h.ahead e he), fun e he => Nat.ne_of_gt (h.behind e he)⟩
theorem Half.rget1 (h : Half k X Y) : rGet k (X ++ ⟨k, s⟩ :: Y) = some s := by
  rw [rGet_app h.ne.1, rGet, if_pos rfl]
theorem Half.rget0 (h : Half k X Y) : rGet k (X ++ Y) = none := by rw [rGet_app h.ne.1, rGet_none h.ne.2]
theorem rDel_app {Z : List It} : rDel k (X ++ Z) = rDel k X ++ rDel k Z := List.filter_append ..
theorem rDel_self (h : ∀ e ∈ X, e.id ≠ k) : rDel k X = X := List.filter_eq_self.2 fun e he => decide_eq_true (h e he)
theorem Half.rdel1 (h : Half k X Y) : rDel k (X ++ ⟨k, s⟩ :: Y) = X ++ Y := by
  have : rDel k (⟨k, s⟩ :: Y) = rDel k Y := by simp [rDel]
  rw [rDel_app, rDel_self h.ne.1, this, rDel_self h.ne.2]
theorem Half.rdel0 (h : Half k X Y) : rDel k (X ++ Y) = X ++ Y := by rw [rDel_app, rDel_self h.ne.1, rDel_self h.ne.2]
end
theorem it_half {L : List It} (hr : Rise L) (k : Nat) : ∃ X Y, Half k X Y ∧ ((∃ s, L = X ++ ⟨k, s⟩ :: Y) ∨ L = X ++ Y) := by
  induction L with
  | nil => exact ⟨[], [], ⟨by simp, by simp, List.Pairwise.nil, List.Pairwise.nil⟩, .inr rfl⟩
  | cons e r ih =>
    obtain ⟨h1, h2⟩ := List.pairwise_cons.1 hr
    rcases Nat.lt_trichotomy e.id k with h | h | h
    · obtain ⟨X, Y, hh, hl⟩ := ih h2
      have hX : ∀ x ∈ X, x ∈ r := fun x hx => by rcases hl with ⟨s, hl⟩ | hl <;> rw [hl] <;> exact List.mem_append_left _ hx
      refine ⟨e :: X, Y, ⟨fun x hx => ?_, hh.behind, List.pairwise_cons.2 ⟨fun x hx => h1 x (hX x hx), hh.riseX⟩, hh.riseY⟩, ?_⟩
      · rcases List.mem_cons.1 hx with rfl | hx
        · exact h
        · exact hh.ahead x hx
      · rcases hl with ⟨s, hl⟩ | hl
        · exact .inl ⟨s, by rw [hl]; rfl⟩
        · exact .inr (by rw [hl]; rfl)
    · exact ⟨[], r, ⟨by simp, fun x hx => by have := h1 x hx; omega, List.Pairwise.nil, h2⟩, .inl ⟨e.tx, by rw [← h]; rfl⟩⟩
    · exact ⟨[], e :: r, ⟨by simp, fun x hx => by
        rcases List.mem_cons.1 hx with rfl | hx
        · exact h
        · have := h1 x hx; omega, List.Pairwise.nil, hr⟩, .inr rfl⟩
theorem get_eq {L : List It} (hr : Rise L) (k : Nat) : cHas k L = (rGet k L).isSome ∧ cGet k L = (rGet k L).getD [] := by
  obtain ⟨X, Y, h, ⟨s, rfl⟩ | rfl⟩ := it_half hr k
  · rw [h.has1, h.get1, h.rget1]; exact ⟨rfl, rfl⟩
  · rw [h.has0, h.get0, h.rget0]; exact ⟨rfl, rfl⟩
theorem put_rise {L : List It} (hr : Rise L) (k : Nat) (t : List UInt8) : Rise (cPut k t L) := by
  obtain ⟨X, Y, h, ⟨s, rfl⟩ | rfl⟩ := it_half hr k
  · rw [h.put1]; exact h.rise1
  · rw [h.put0]; exact h.rise1
/-- The document's put. -/
def rPut (k : Nat) (t : List UInt8) (L : List It) : List It := (rDel k L).take (cLo k (rDel k L)) ++ ⟨k, t⟩ :: (rDel k L).drop (cLo k (rDel k L))
theorem put_eq {L : List It} (hr : Rise L) (k : Nat) (t : List UInt8) : cPut k t L = rPut k t L := by
  obtain ⟨X, Y, h, ⟨s, rfl⟩ | rfl⟩ := it_half hr k
  · rw [h.put1]; unfold rPut; rw [h.rdel1, h.lo0]; simp
  · rw [h.put0]; unfold rPut; rw [h.rdel0, h.lo0]; simp
theorem put_mem {L : List It} (hr : Rise L) (k : Nat) (t : List UInt8) : ∀ e ∈ cPut k t L, e = ⟨k, t⟩ ∨ e ∈ L := fun e he => by
  unfold cPut at he
  rcases List.mem_append.1 he with he | he
  · exact .inr (List.mem_of_mem_take he)
  · rcases List.mem_cons.1 he with rfl | he
    · exact .inl rfl
    · exact .inr (List.mem_of_mem_drop he)
theorem put_len {L : List It} (hr : Rise L) (k : Nat) (t : List UInt8) : (cPut k t L).length = L.length + (if cHas k L then 0 else 1) := by
  obtain ⟨X, Y, h, ⟨s, rfl⟩ | rfl⟩ := it_half hr k
  · rw [h.put1, h.has1]; simp
  · rw [h.put0, h.has0]; simp <;> omega
/-- What may be a chart. -/
structure ChOk (L : List It) : Prop where
  rise : Rise L
  lt : ∀ e ∈ L, e.id < 6004799503160661
  tx : ∀ e ∈ L, e.tx ≠ [] ∧ e.tx.length ≤ 65536
  len : L.length ≤ 2048
theorem ChOk.nil : ChOk [] := ⟨List.Pairwise.nil, fun _ h => (by cases h), fun _ h => (by cases h), by simp⟩
theorem ChOk.put {L : List It} (h : ChOk L) {k : Nat} {s : List UInt8} (hw : wrongQ k s (fullQ k L) = 0) : ChOk (cPut k s L) := by
  have hw' := hw
  unfold wrongQ at hw'
  repeat' split at hw'
  all_goals first | omega | skip
  rename_i h1 h2 h3 h4
  refine ⟨put_rise h.rise k s, fun e he => ?_, fun e he => ?_, ?_⟩
  · rcases put_mem h.rise k s e he with rfl | he
    · show k < _; omega
    · exact h.lt e he
  · rcases put_mem h.rise k s e he with rfl | he
    · exact ⟨h2, by show s.length ≤ _; omega⟩
    · exact h.tx e he
  · rw [put_len h.rise]
    have := h.len
    unfold fullQ at h4
    cases hc : cHas k L with
    | true => simp; omega
    | false =>
      rw [hc] at h4
      simp at h4 ⊢
      omega
end Go.Proofs.Ytmebmkkllhnmlaa

namespace Go.Proofs.Ytmebmkkllhnmlaa
open Go.RowKit
set_option linter.unusedVariables false
set_option linter.unusedSimpArgs false
theorem rget_fn (A : Option Addr) (c : Nat) (L : List It) (T : Heap) (hA : ArgOk A L.length) (hT : 0 < L.length → T = roE A (icells L)) (hL : L.length ≤ 1000000) (k : Nat) :
    Fn Try.prog 41 [.slice A L.length c, uq k] T fun v _ => v = .tuple #[.string (str ((rGet k L).getD [])), .bool (rGet k L).isSome] := by
  refine Fn.enter (N := 25) Try.func41 rfl (by kernel_rfl) rfl (fun w0 => ?_)

  refine awp_seq_region (fun Z hZ => ?_)
  refine sx_assign rfl rfl ?_
  refine sx_assign rfl rfl ?_
  refine sx_nil (hZ _ _ ?_)
  refine awp_forget [(0, _), (1, _)] (Kn.cons rfl (Kn.cons rfl (Kn.nil))) ?_
  refine awp_seq ?_
  refine awp_seq_region (fun Z hZ => ?_)
  refine sx_assign rfl rfl ?_
  refine sx_nil (hZ _ _ ?_)
  refine awp_forget [(0, _), (1, _), (6, _)] (Kn.cons rfl (Kn.cons rfl (Kn.cons rfl (Kn.nil)))) ?_
  refine awp_block ?_
  refine awp_loop (ι := Nat) (fun i => [(0, .slice A L.length c), (1, uq k), (6, iq (i : Nat))]) (fun _ => T)
    (fun i => i ≤ L.length ∧ rGet k (L.drop i) = rGet k L) (fun i => L.length - i) 0 ⟨by simp, rfl⟩ (Kn.cons rfl (Kn.cons rfl (Kn.cons rfl Kn.nil))) (HLe.refl _) ?_
  rintro i ⟨hi, hq⟩
  refine awp_seq ?_
  refine awp_seq_region (fun Z hZ => ?_)
  refine sx_move rfl rfl ?_
  refine sx_move rfl rfl ?_
  refine sx_len Try.underlying22 rfl rfl ?_
  refine sx_lss rfl rfl rfl ?_
  refine sx_nil (hZ _ _ ?_)
  refine awp_forget [(0, _), (1, _), (6, _), (10, _)] (Kn.cons rfl (Kn.cons rfl (Kn.cons rfl (Kn.cons rfl (Kn.nil))))) ?_
  refine awp_cond rfl (fun h => ?_) (fun h => ?_)
  · have hlt : i < L.length := by simpa using h
    have hx := itAt_at hlt
    obtain ⟨x, hxe⟩ : ∃ x, itAt L i = x := ⟨_, rfl⟩
    rw [hxe] at hx
    have hdr : L.drop i = x :: L.drop (i + 1) := by rw [List.drop_eq_getElem_cons hlt]; congr 1; exact (List.getElem?_eq_some_iff.1 hx).2
    rw [hdr, rGet] at hq
    obtain ⟨g, o, rfl⟩ := hA (by omega)
    obtain rfl := hT (by omega)
    refine awp_skip ?_
    with_reducible refine nx_normal ?_
    refine awp_seq (awp_block ?_)

    refine awp_seq_region (fun Z hZ => ?_)
    refine sx_move rfl rfl ?_
    refine sx_move rfl rfl ?_
    refine sx_indexAddr (o + i * 2) Try.underlying22 tyS78 rfl rfl (by omega) (by simp) rfl ?_
    refine sx_fieldAddr rfl tyF78_0 (by first | (simp only [Nat.reduceAdd, Nat.add_zero, Nat.zero_add]; first | done | rfl) | rfl) rfl ?_
    refine sx_loadRo 0 rfl rfl (i * 2) rfl tyA66 tyS66 (icells_id hx) rfl ?_
    refine sx_move rfl rfl ?_
    refine sx_eql rfl rfl rfl ?_
    refine sx_nil (hZ _ _ ?_)
    refine awp_forget [(0, _), (1, _), (6, _), (19, _)] (Kn.cons rfl (Kn.cons rfl (Kn.cons rfl (Kn.cons rfl (Kn.nil))))) ?_
    refine awp_cond rfl (fun h1 => ?_) (fun h1 => ?_)
    · have he : x.id = k := by simp at h1; omega
      rw [if_pos he] at hq
      rw [← hq]
      refine awp_seq_region (fun Z hZ => ?_)
      refine sx_move rfl rfl ?_
      refine sx_move rfl rfl ?_
      refine sx_indexAddr (o + i * 2) Try.underlying22 tyS78 rfl rfl (by omega) (by simp) rfl ?_
      refine sx_fieldAddr rfl tyF78_1 (by first | (simp only [Nat.reduceAdd, Nat.add_zero, Nat.zero_add]; first | done | rfl) | rfl) rfl ?_
      refine sx_loadRo 0 rfl rfl (i * 2 + 1) rfl tyA9 tyS9 (icells_tx hx) rfl ?_
      refine sx_assign rfl rfl ?_
      refine sx_assign rfl rfl ?_
      refine sx_nil (hZ _ _ ?_)
      refine awp_forget [(4, _), (5, _)] (Kn.cons rfl (Kn.cons rfl (Kn.nil))) ?_
      refine awp_ret ?_
      repeat (with_reducible (first | refine nx_then_ret ?_ | refine nx_block_ret ?_))
      exact nx_ret2 rfl rfl rfl rfl
    have he : x.id ≠ k := by simp at h1; omega
    rw [if_neg he] at hq
    refine awp_skip ?_
    repeat (with_reducible refine nx_block_normal ?_)
    with_reducible refine nx_normal ?_
    refine awp_region (fun Z hZ => ?_)
    refine sx_move rfl rfl ?_
    refine sx_add rfl rfl ((i + 1 : Nat) : Int) (by rw [IntWalk.i64_in _ (by omega)]; omega) rfl ?_
    refine sx_assign rfl rfl ?_
    refine sx_nil (hZ _ _ ?_)
    refine nx_forget [(0, _), (1, _), (6, _)] (Kn.cons rfl (Kn.cons rfl (Kn.cons rfl (Kn.nil)))) ?_
    exact nx_round (i + 1) ⟨by omega, hq⟩ (by omega) (Kn.cons rfl (Kn.cons rfl (Kn.cons rfl Kn.nil))) (HLe.refl _)
  · refine awp_exit ?_
    repeat (with_reducible refine nx_then_exit ?_)
    with_reducible refine nx_block_exit ?_
    with_reducible refine nx_normal ?_
    have hke : i = L.length := by simp at h; omega
    subst hke
    rw [List.drop_length, rGet] at hq
    rw [← hq]
    refine awp_seq_region (fun Z hZ => ?_)
    refine sx_assign rfl rfl ?_
    refine sx_assign rfl rfl ?_
    refine sx_nil (hZ _ _ ?_)
    refine awp_forget [(4, _), (5, _)] (Kn.cons rfl (Kn.cons rfl (Kn.nil))) ?_
    refine awp_ret ?_
    exact nx_ret2 rfl rfl rfl rfl
theorem rdel_fn (A : Option Addr) (c : Nat) (L : List It) (T : Heap) (hA : ArgOk A L.length) (hT : 0 < L.length → T = roE A (icells L)) (hro : Ro T) (hL : L.length ≤ 100000) (k : Nat) :
    Fn Try.prog 61 [.slice A L.length c, uq k] T fun v H' => RowOk v (rDel k L).length ∧ H' = rowE v 78 2 (icells (rDel k L)) := by
  refine Fn.enter (N := 28) Try.func61 rfl (by kernel_rfl) rfl (fun w0 => ?_)

  refine awp_seq_region (fun Z hZ => ?_)
  refine sx_assign rfl rfl ?_
  refine sx_nil (hZ _ _ ?_)
  refine awp_forget [(0, _), (1, _)] (Kn.cons rfl (Kn.cons rfl (Kn.nil))) ?_
  refine awp_seq_region (fun Z hZ => ?_)
  refine sx_assign rfl rfl ?_
  refine sx_nil (hZ _ _ ?_)
  refine awp_forget [(0, _), (1, _), (5, _)] (Kn.cons rfl (Kn.cons rfl (Kn.cons rfl (Kn.nil)))) ?_
  refine awp_seq ?_
  refine awp_seq_region (fun Z hZ => ?_)
  refine sx_assign rfl rfl ?_
  refine sx_nil (hZ _ _ ?_)
  refine awp_forget [(0, _), (1, _), (5, _), (6, _)] (Kn.cons rfl (Kn.cons rfl (Kn.cons rfl (Kn.cons rfl (Kn.nil))))) ?_
  refine awp_block ?_
  refine awp_loop (ι := Nat × Value) (fun i => [(0, .slice A L.length c), (1, uq k), (5, i.2), (6, iq (i.1 : Nat))]) (fun i => T ++ rowE i.2 78 2 (icells (rDel k (L.take i.1))))
    (fun i => i.1 ≤ L.length ∧ RowOk i.2 (rDel k (L.take i.1)).length) (fun i => L.length - i.1) (0, .slice none 0 0) ⟨by simp, RowOk.nil⟩ (Kn.cons rfl (Kn.cons rfl (Kn.cons rfl (Kn.cons rfl Kn.nil)))) (by simp [rowE]; exact HLe.refl _) ?_
  rintro ⟨i, v⟩ ⟨hi, hv⟩
  simp only at hi hv
  refine awp_seq ?_
  refine awp_seq_region (fun Z hZ => ?_)
  refine sx_move rfl rfl ?_
  refine sx_move rfl rfl ?_
  refine sx_len Try.underlying22 rfl rfl ?_
  refine sx_lss rfl rfl rfl ?_
  refine sx_nil (hZ _ _ ?_)
  refine awp_forget [(0, _), (1, _), (5, _), (6, _), (10, _)] (Kn.cons rfl (Kn.cons rfl (Kn.cons rfl (Kn.cons rfl (Kn.cons rfl (Kn.nil)))))) ?_
  refine awp_cond rfl (fun h => ?_) (fun h => ?_)
  · have hlt : i < L.length := by simpa using h
    have hx := itAt_at hlt
    obtain ⟨x, hxe⟩ : ∃ x, itAt L i = x := ⟨_, rfl⟩
    rw [hxe] at hx
    have hfl : (rDel k (L.take i)).length ≤ i := by
      refine Nat.le_trans (List.length_filter_le _ _) ?_
      rw [List.length_take]
      omega
    have htk : rDel k (L.take (i + 1)) = rDel k (L.take i) ++ (if x.id ≠ k then [x] else []) := by
      unfold rDel
      rw [List.take_add_one, hx, List.filter_append]
      congr 1
      simp only [Option.toList, List.filter_cons, List.filter_nil]
      by_cases hc : x.id = k <;> simp [hc]
    obtain ⟨g, o, rfl⟩ := hA (by omega)
    obtain rfl := hT (by omega)
    refine awp_skip ?_
    with_reducible refine nx_normal ?_
    refine awp_cut (ι := Value) (fun v => [(0, .slice (some ⟨g, o, none⟩) L.length c), (1, uq k), (5, v), (6, iq (i : Nat))]) (fun v => [.ro g o (icells L)] ++ rowE v 78 2 (icells (rDel k (L.take (i + 1))))) (fun v => RowOk v (rDel k (L.take (i + 1))).length) ?_ ?_
    · refine awp_block ?_

      refine awp_seq_region (fun Z hZ => ?_)
      refine sx_move rfl rfl ?_
      refine sx_move rfl rfl ?_
      refine sx_indexAddr (o + i * 2) Try.underlying22 tyS78 rfl rfl (by omega) (by simp) rfl ?_
      refine sx_fieldAddr rfl tyF78_0 (by first | (simp only [Nat.reduceAdd, Nat.add_zero, Nat.zero_add]; first | done | rfl) | rfl) rfl ?_
      refine sx_loadRo 0 rfl rfl (i * 2) rfl tyA66 tyS66 (icells_id hx) rfl ?_
      refine sx_move rfl rfl ?_
      refine sx_neq rfl rfl rfl ?_
      refine sx_nil (hZ _ _ ?_)
      refine awp_forget [(0, _), (1, _), (5, _), (6, _), (19, _)] (Kn.cons rfl (Kn.cons rfl (Kn.cons rfl (Kn.cons rfl (Kn.cons rfl (Kn.nil)))))) ?_
      refine awp_cond rfl (fun h1 => ?_) (fun h1 => ?_)
      · have hp : x.id ≠ k := by simp at h1; omega
        rw [if_pos hp] at htk
        refine awp_region (fun Z hZ => ?_)
        refine sx_move rfl rfl ?_
        refine sx_move rfl rfl ?_
        refine sx_move rfl rfl ?_
        refine sx_indexAddr (o + i * 2) Try.underlying22 tyS78 rfl rfl (by omega) (by simp) rfl ?_
        refine sx_loadRo 0 rfl rfl (i * 2) rfl tyA78 tyS78 (icells_all hx) rfl ?_
        refine sx_buildSlice Try.underlying22 tyS78 tyZ78 rfl rfl rfl rfl (by first | (simp only [List.take_succ_cons, List.take_zero, List.drop_succ_cons, List.drop_zero, List.cons_append, List.nil_append, List.append_nil, List.length_cons, List.length_nil, Nat.reduceAdd, Nat.zero_add, Nat.add_zero, Value.cells, wrV, zrep_one, List.replicate_succ, List.replicate_zero, Nat.reduceMul, Nat.zero_mul]; first | done | rfl) | rfl) rfl (fun g1 => ?_)
        refine sx_appendE [_, _] elemItR rfl hv (icells_len _) rfl (fun w hw => rd_own (i := 0) (xs := x.cells) rfl rfl hw) rfl (by show _ ≤ 9223372036854775807; omega) (by omega) (HLe.refl _) rfl (fun v2 hv2 => ?_)
        refine sx_assign rfl rfl ?_
        refine sx_nil (hZ _ _ ?_)
        refine nx_forget [(0, _), (1, _), (5, _), (6, _)] (Kn.cons rfl (Kn.cons rfl (Kn.cons rfl (Kn.cons rfl (Kn.nil))))) ?_
        repeat (with_reducible refine nx_block_normal ?_)
        refine nx_cut v2 (by rw [htk]; simpa using hv2) (Kn.cons rfl (Kn.cons rfl (Kn.cons rfl (Kn.cons rfl Kn.nil)))) ?_
        rw [htk, show icells (rDel k (L.take i) ++ [x]) = icells (rDel k (L.take i)) ++ x.cells from fm_snoc _ _]
        exact HLe.drop 1 rfl
      · have hp : x.id = k := by simp at h1; omega
        rw [if_neg (by simpa using hp), List.append_nil] at htk
        refine awp_skip ?_
        repeat (with_reducible refine nx_block_normal ?_)
        refine nx_cut v (by rw [htk]; exact hv) (Kn.cons rfl (Kn.cons rfl (Kn.cons rfl (Kn.cons rfl Kn.nil)))) ?_
        rw [htk]
        exact HLe.refl _
    · rintro v2 hv2
      refine awp_region (fun Z hZ => ?_)
      refine sx_move rfl rfl ?_
      refine sx_add rfl rfl ((i + 1 : Nat) : Int) (by rw [IntWalk.i64_in _ (by omega)]; omega) rfl ?_
      refine sx_assign rfl rfl ?_
      refine sx_nil (hZ _ _ ?_)
      refine nx_forget [(0, _), (1, _), (5, _), (6, _)] (Kn.cons rfl (Kn.cons rfl (Kn.cons rfl (Kn.cons rfl (Kn.nil))))) ?_
      exact nx_round (i + 1, v2) ⟨by show i + 1 ≤ _; omega, hv2⟩ (by simp; omega) (Kn.cons rfl (Kn.cons rfl (Kn.cons rfl (Kn.cons rfl Kn.nil)))) (HLe.refl _)
  · refine awp_exit ?_
    repeat (with_reducible refine nx_then_exit ?_)
    with_reducible refine nx_block_exit ?_
    with_reducible refine nx_normal ?_
    have hke : i = L.length := by simp at h; omega
    subst hke
    rw [List.take_length] at hv ⊢
    refine awp_seq_region (fun Z hZ => ?_)
    refine sx_move rfl rfl ?_
    refine sx_assign rfl rfl ?_
    refine sx_nil (hZ _ _ ?_)
    refine awp_forget [(4, _)] (Kn.cons rfl (Kn.nil)) ?_
    refine awp_ret ?_
    exact nx_ret1h _ rfl rfl (HLe.sub (List.sublist_append_right _ _)) ⟨hv, rfl⟩
end Go.Proofs.Ytmebmkkllhnmlaa

namespace Go.Proofs.Ytmebmkkllhnmlaa
open Go.RowKit
set_option linter.unusedVariables false
set_option linter.unusedSimpArgs false
def rfullQ (k : Nat) (L : List It) : Bool := !(rGet k L).isSome && decide (2048 ≤ L.length)
theorem rdel_len (k : Nat) (L : List It) : (rDel k L).length ≤ L.length := List.length_filter_le _ _
theorem rput_fn (A : Option Addr) (c : Nat) (L : List It) (T : Heap) (hA : ArgOk A L.length) (hT : 0 < L.length → T = roE A (icells L)) (hro : Ro T) (hL : L.length ≤ 100000) (k : Nat) (s : List UInt8) :
    Fn Try.prog 37 [.slice A L.length c, uq k, .string (str s)] T fun v H' => ∃ u, v = .tuple #[u, iq (wrongQ k s (rfullQ k L))] ∧ ((wrongQ k s (rfullQ k L) = 0 ∧ RowOk u (rPut k s L).length ∧ H' = rowE u 78 2 (icells (rPut k s L))) ∨ (wrongQ k s (rfullQ k L) ≠ 0 ∧ u = .slice A L.length c ∧ H' = [])) := by
  refine Fn.enter (N := 72) Try.func37 rfl (by kernel_rfl) rfl (fun w0 => ?_)

  refine awp_seq_region (fun Z hZ => ?_)
  refine sx_assign rfl rfl ?_
  refine sx_assign rfl rfl ?_
  refine sx_nil (hZ _ _ ?_)
  refine awp_forget [(0, _), (1, _), (2, _)] (Kn.cons rfl (Kn.cons rfl (Kn.cons rfl (Kn.nil)))) ?_
  refine awp_seq ?_
  refine awp_seq_region (fun Z hZ => ?_)
  refine sx_move rfl rfl ?_
  refine sx_geq rfl rfl rfl ?_
  refine sx_nil (hZ _ _ ?_)
  refine awp_forget [(0, _), (1, _), (2, _), (14, _)] (Kn.cons rfl (Kn.cons rfl (Kn.cons rfl (Kn.cons rfl (Kn.nil))))) ?_
  refine awp_cond rfl (fun h => ?_) (fun h => ?_)
  · have h' : 6004799503160661 ≤ k := by simp at h; omega
    have hw : wrongQ k s (rfullQ k L) = 8 := by unfold wrongQ; rw [if_pos h']
    rw [hw]
    refine awp_seq_region (fun Z hZ => ?_)
    refine sx_move rfl rfl ?_
    refine sx_assign rfl rfl ?_
    refine sx_assign rfl rfl ?_
    refine sx_nil (hZ _ _ ?_)
    refine awp_forget [(6, _), (7, _)] (Kn.cons rfl (Kn.cons rfl (Kn.nil))) ?_
    refine awp_ret ?_
    repeat (with_reducible refine nx_then_ret ?_)
    exact nx_ret2h [] rfl rfl rfl (HLe.sub (List.nil_sublist _)) ⟨_, rfl, .inr ⟨by decide, rfl, rfl⟩⟩
  have h' : ¬ 6004799503160661 ≤ k := by simp at h; omega
  refine awp_skip ?_
  with_reducible refine nx_normal ?_
  refine awp_seq ?_
  refine awp_seq_region (fun Z hZ => ?_)
  refine sx_move rfl rfl ?_
  refine sx_lenS Try.underlying9 rfl rfl ?_
  refine sx_eql rfl rfl rfl ?_
  refine sx_nil (hZ _ _ ?_)
  refine awp_forget [(0, _), (1, _), (2, _), (18, _)] (Kn.cons rfl (Kn.cons rfl (Kn.cons rfl (Kn.cons rfl (Kn.nil))))) ?_
  refine awp_cond rfl (fun h1 => ?_) (fun h1 => ?_)
  · have h1' : s = [] := by simpa using h1
    have hw : wrongQ k s (rfullQ k L) = 2 := by unfold wrongQ; rw [if_neg h', if_pos h1']
    rw [hw]
    refine awp_seq_region (fun Z hZ => ?_)
    refine sx_move rfl rfl ?_
    refine sx_assign rfl rfl ?_
    refine sx_assign rfl rfl ?_
    refine sx_nil (hZ _ _ ?_)
    refine awp_forget [(6, _), (7, _)] (Kn.cons rfl (Kn.cons rfl (Kn.nil))) ?_
    refine awp_ret ?_
    repeat (with_reducible refine nx_then_ret ?_)
    exact nx_ret2h [] rfl rfl rfl (HLe.sub (List.nil_sublist _)) ⟨_, rfl, .inr ⟨by decide, rfl, rfl⟩⟩
  have h1' : ¬ s = [] := by simpa using h1
  refine awp_skip ?_
  with_reducible refine nx_normal ?_
  refine awp_seq ?_
  refine awp_seq_region (fun Z hZ => ?_)
  refine sx_move rfl rfl ?_
  refine sx_lenS Try.underlying9 rfl rfl ?_
  refine sx_gtr rfl rfl rfl ?_
  refine sx_nil (hZ _ _ ?_)
  refine awp_forget [(0, _), (1, _), (2, _), (22, _)] (Kn.cons rfl (Kn.cons rfl (Kn.cons rfl (Kn.cons rfl (Kn.nil))))) ?_
  refine awp_cond rfl (fun h2 => ?_) (fun h2 => ?_)
  · have h2' : 65536 < s.length := by simp at h2; omega
    have hw : wrongQ k s (rfullQ k L) = 5 := by unfold wrongQ; rw [if_neg h', if_neg h1', if_pos h2']
    rw [hw]
    refine awp_seq_region (fun Z hZ => ?_)
    refine sx_move rfl rfl ?_
    refine sx_assign rfl rfl ?_
    refine sx_assign rfl rfl ?_
    refine sx_nil (hZ _ _ ?_)
    refine awp_forget [(6, _), (7, _)] (Kn.cons rfl (Kn.cons rfl (Kn.nil))) ?_
    refine awp_ret ?_
    repeat (with_reducible refine nx_then_ret ?_)
    exact nx_ret2h [] rfl rfl rfl (HLe.sub (List.nil_sublist _)) ⟨_, rfl, .inr ⟨by decide, rfl, rfl⟩⟩
  have h2' : ¬ 65536 < s.length := by simp at h2; omega
  refine awp_skip ?_
  with_reducible refine nx_normal ?_
  refine awp_seq_region (fun Z hZ => ?_)
  refine sx_move rfl rfl ?_
  refine sx_move rfl rfl ?_
  refine sx_callPT T (rget_fn A c L T hA hT (by omega) k) rfl (List.Sublist.refl _) hro rfl ?_
  refine sx_move rfl rfl ?_
  refine sx_extract rfl rfl rfl ?_
  refine sx_extract rfl rfl rfl ?_
  refine sx_assign rfl rfl ?_
  refine sx_assign rfl rfl ?_
  refine sx_nil (hZ _ _ ?_)
  refine awp_forget [(0, _), (1, _), (2, _), (9, _)] (Kn.cons rfl (Kn.cons rfl (Kn.cons rfl (Kn.cons rfl (Kn.nil))))) ?_
  refine awp_seq ?_
  refine awp_seq_meet [(0, .slice A L.length c), (1, uq k), (2, .string (str s)), (36, .bool (rfullQ k L))] T (fun Z hZ => ?_) ?_
  · refine sx_move rfl rfl ?_
    refine sx_not rfl rfl ?_
    refine sx_move rfl rfl ?_
    refine sx_split 32 rfl (fun hb2 => ?_) (fun hb2 => ?_)
    · refine sx_on rfl rfl rfl ?_
      refine sx_move rfl rfl ?_
      refine sx_on rfl rfl rfl ?_
      refine sx_len Try.underlying22 rfl rfl ?_
      refine sx_on rfl rfl rfl ?_
      refine sx_geq rfl rfl rfl ?_
      refine sx_pick rfl rfl rfl ?_
      refine sx_nil (hZ _ _ ?_ ?_)
      · exact Kn.cons rfl (Kn.cons rfl (Kn.cons rfl (Kn.cons (congrArg some (congrArg Value.bool (by unfold rfullQ; simp at hb2; rw [hb2, Bool.eq_iff_iff]; first | (simp; done) | (simp; omega)))) Kn.nil)))
      · exact HLe.refl _
    · refine sx_off rfl rfl rfl rfl rfl ?_
      refine sx_off rfl rfl rfl rfl rfl ?_
      refine sx_off rfl rfl rfl rfl rfl ?_
      refine sx_pick rfl rfl rfl ?_
      refine sx_nil (hZ _ _ ?_ ?_)
      · exact Kn.cons rfl (Kn.cons rfl (Kn.cons rfl (Kn.cons (congrArg some (congrArg Value.bool (by unfold rfullQ; simp at hb2; rw [hb2, Bool.eq_iff_iff]; first | (simp; done) | (simp; omega)))) Kn.nil)))
      · exact HLe.refl _
  refine awp_cond rfl (fun h3 => ?_) (fun h3 => ?_)
  · have hw : wrongQ k s (rfullQ k L) = 7 := by unfold wrongQ; rw [if_neg h', if_neg h1', if_neg h2', if_pos h3]
    rw [hw]
    refine awp_seq_region (fun Z hZ => ?_)
    refine sx_move rfl rfl ?_
    refine sx_assign rfl rfl ?_
    refine sx_assign rfl rfl ?_
    refine sx_nil (hZ _ _ ?_)
    refine awp_forget [(6, _), (7, _)] (Kn.cons rfl (Kn.cons rfl (Kn.nil))) ?_
    refine awp_ret ?_
    repeat (with_reducible refine nx_then_ret ?_)
    exact nx_ret2h [] rfl rfl rfl (HLe.sub (List.nil_sublist _)) ⟨_, rfl, .inr ⟨by decide, rfl, rfl⟩⟩
  have hw : wrongQ k s (rfullQ k L) = 0 := by unfold wrongQ; rw [if_neg h', if_neg h1', if_neg h2', h3]; rfl
  rw [hw]
  have hdl := rdel_len k L
  obtain ⟨D, hD⟩ : ∃ D, rDel k L = D := ⟨_, rfl⟩
  have hpt : rPut k s L = D.take (cLo k D) ++ ⟨k, s⟩ :: D.drop (cLo k D) := by unfold rPut; rw [hD]
  have hdf := rdel_fn A c L T hA hT hro hL k
  rw [hD] at hdl hdf
  rw [hpt]
  obtain ⟨f1, f2, f3⟩ := cLo_facts k D
  refine awp_skip ?_
  with_reducible refine nx_normal ?_
  refine awp_seq_region (fun Z hZ => ?_)
  refine sx_move rfl rfl ?_
  refine sx_move rfl rfl ?_
  refine sx_callI T hdf rfl (List.Sublist.refl _) hro rfl (fun A1 c1 hA1 => ?_)
  refine sx_assign rfl rfl ?_
  refine sx_nil (hZ _ _ ?_)
  refine awp_forget [(1, _), (2, _), (10, _)] (Kn.cons rfl (Kn.cons rfl (Kn.cons rfl (Kn.nil)))) ?_
  refine awp_heap (roE A1 (icells D)) (HLe.sub (List.sublist_append_left _ _)) ?_
  refine awp_seq_region (fun Z hZ => ?_)
  refine sx_assign rfl rfl ?_
  refine sx_nil (hZ _ _ ?_)
  refine awp_forget [(1, _), (2, _), (10, _), (11, _)] (Kn.cons rfl (Kn.cons rfl (Kn.cons rfl (Kn.cons rfl (Kn.nil))))) ?_
  refine awp_cut (ι := Unit) (fun _ => [(1, uq k), (2, .string (str s)), (10, .slice A1 D.length c1), (11, iq (cLo k D : Nat))]) (fun _ => roE A1 (icells D)) (fun _ => True) ?_ ?_
  · refine awp_block ?_
    refine awp_loop (ι := Nat) (fun i => [(1, uq k), (2, .string (str s)), (10, .slice A1 D.length c1), (11, iq (i : Nat))]) (fun _ => roE A1 (icells D))
      (fun i => i ≤ D.length ∧ ∀ j, j < i → (itAt D j).id < k) (fun i => D.length - i) 0 ⟨by simp, fun j hj => by omega⟩ (Kn.cons rfl (Kn.cons rfl (Kn.cons rfl (Kn.cons rfl Kn.nil)))) (HLe.refl _) ?_
    rintro i ⟨hi, hj⟩
    rcases Nat.lt_or_ge i D.length with hlt | hge
    · have hx := itAt_at hlt
      obtain ⟨g, o, rfl⟩ := hA1.arg (by omega)
      refine awp_heap [.ro g o (icells D)] (HLe.refl _) ?_

      refine awp_seq ?_
      refine awp_seq_meet [(1, uq k), (2, .string (str s)), (10, .slice (some ⟨g, o, none⟩) D.length c1), (11, iq (i : Nat)), (53, .bool (decide ((itAt D i).id < k)))] [.ro g o (icells D)] (fun Z hZ => ?_) ?_
      · refine sx_move rfl rfl ?_
        refine sx_move rfl rfl ?_
        refine sx_len Try.underlying22 rfl rfl ?_
        refine sx_lss rfl rfl rfl ?_
        refine sx_move rfl rfl ?_
        refine sx_force 45 rfl true (by simpa using hlt) ?_
        refine sx_on rfl rfl rfl ?_
        refine sx_move rfl rfl ?_
        refine sx_on rfl rfl rfl ?_
        refine sx_move rfl rfl ?_
        refine sx_on rfl rfl rfl ?_
        refine sx_indexAddr (o + i * 2) Try.underlying22 tyS78 rfl rfl (by omega) (by simp) rfl ?_
        refine sx_on rfl rfl rfl ?_
        refine sx_fieldAddr rfl tyF78_0 (by first | (simp only [Nat.reduceAdd, Nat.add_zero, Nat.zero_add]; first | done | rfl) | rfl) rfl ?_
        refine sx_on rfl rfl rfl ?_
        refine sx_loadRo 0 rfl rfl (i * 2) rfl tyA66 tyS66 (icells_id hx) rfl ?_
        refine sx_on rfl rfl rfl ?_
        refine sx_move rfl rfl ?_
        refine sx_on rfl rfl rfl ?_
        refine sx_lss rfl rfl rfl ?_
        refine sx_pick rfl rfl rfl ?_
        refine sx_nil (hZ _ _ ?_ ?_)
        · exact Kn.cons rfl (Kn.cons rfl (Kn.cons rfl (Kn.cons rfl (Kn.cons (congrArg some (congrArg Value.bool (by first | rfl | (simp; done) | (rw [Bool.eq_iff_iff]; simp)))) Kn.nil))))
        · exact HLe.refl _
      refine awp_cond rfl (fun h4 => ?_) (fun h4 => ?_)
      · have h4' : (itAt D i).id < k := by simpa using h4
        refine awp_skip ?_
        with_reducible refine nx_normal ?_
        refine awp_block ?_
        refine awp_region (fun Z hZ => ?_)
        refine sx_move rfl rfl ?_
        refine sx_add rfl rfl ((i + 1 : Nat) : Int) (by rw [IntWalk.i64_in _ (by omega)]; omega) rfl ?_
        refine sx_assign rfl rfl ?_
        refine sx_nil (hZ _ _ ?_)
        refine nx_forget [(1, _), (2, _), (10, _), (11, _)] (Kn.cons rfl (Kn.cons rfl (Kn.cons rfl (Kn.cons rfl (Kn.nil))))) ?_
        repeat (with_reducible refine nx_block_normal ?_)
        refine nx_round (i + 1) ⟨by omega, fun j hj2 => ?_⟩ (by omega) (Kn.cons rfl (Kn.cons rfl (Kn.cons rfl (Kn.cons rfl Kn.nil)))) (HLe.refl _)
        rcases Nat.lt_or_ge j i with h5 | h5
        · exact hj j h5
        · obtain rfl : j = i := by omega
          exact h4'
      · have h4' : ¬ (itAt D i).id < k := by simpa using h4
        have he := cLo_eq k D i hi hj (fun _ => by omega)
        refine awp_exit ?_
        repeat (with_reducible refine nx_then_exit ?_)
        with_reducible refine nx_block_exit ?_
        exact nx_cut () trivial (Kn.cons rfl (Kn.cons rfl (Kn.cons rfl (Kn.cons (by rw [he]; rfl) Kn.nil)))) (HLe.refl _)
    · have he := cLo_eq k D i hi hj (fun h => by omega)

      refine awp_seq ?_
      refine awp_seq_meet [(1, uq k), (2, .string (str s)), (10, .slice A1 D.length c1), (11, iq (i : Nat)), (53, .bool false)] (roE A1 (icells D)) (fun Z hZ => ?_) ?_
      · refine sx_move rfl rfl ?_
        refine sx_move rfl rfl ?_
        refine sx_len Try.underlying22 rfl rfl ?_
        refine sx_lss rfl rfl rfl ?_
        refine sx_move rfl rfl ?_
        refine sx_force 45 rfl false (by simpa using hge) ?_
        refine sx_off rfl rfl rfl rfl rfl ?_
        refine sx_off rfl rfl rfl rfl rfl ?_
        refine sx_off rfl rfl rfl rfl rfl ?_
        refine sx_off rfl rfl rfl rfl rfl ?_
        refine sx_off rfl rfl rfl rfl rfl ?_
        refine sx_off rfl rfl rfl rfl rfl ?_
        refine sx_off rfl rfl rfl rfl rfl ?_
        refine sx_pick rfl rfl rfl ?_
        refine sx_nil (hZ _ _ ?_ ?_)
        · exact Kn.cons rfl (Kn.cons rfl (Kn.cons rfl (Kn.cons rfl (Kn.cons rfl Kn.nil))))
        · exact HLe.refl _
      refine awp_cond rfl (fun h4 => ?_) (fun h4 => ?_)
      · cases h4
      · refine awp_exit ?_
        repeat (with_reducible refine nx_then_exit ?_)
        with_reducible refine nx_block_exit ?_
        exact nx_cut () trivial (Kn.cons rfl (Kn.cons rfl (Kn.cons rfl (Kn.cons (by rw [he]; rfl) Kn.nil)))) (HLe.refl _)
  rintro ⟨⟩ -
  obtain ⟨p, hp⟩ : ∃ p, cLo k D = p := ⟨_, rfl⟩
  rw [hp] at f1 ⊢
  have hcap := hA1.cap
  have hrd : ∀ w0 Wr w, Sat w0 Wr (roE A1 (icells D)) w → Rd w 2 A1 D.length (icells D) := fun w0 Wr w hw => rd_arg hA1.arg (fun _ => rfl) (icells_len D) hA1.nil (HLe.refl _) hw
  refine awp_seq_region (fun Z hZ => ?_)
  refine sx_assign rfl rfl ?_
  refine sx_nil (hZ _ _ ?_)
  refine awp_forget [(1, _), (2, _), (10, _), (11, _), (12, _)] (Kn.cons rfl (Kn.cons rfl (Kn.cons rfl (Kn.cons rfl (Kn.cons rfl (Kn.nil)))))) ?_
  refine awp_seq_region (fun Z hZ => ?_)
  refine sx_move rfl rfl ?_
  refine sx_move rfl rfl ?_
  refine sx_move rfl rfl ?_
  refine sx_part (i := 0) (j := p) Try.underlying22 tyS78 hA1 rfl rfl rfl (by omega) (by omega) rfl (fun A2 hA2 ht2 => ?_)
  refine sx_appendE (v := .slice none 0 0) (xs := []) (roE A1 (icells D)) elemItR rfl RowOk.nil rfl rfl (fun w hw => rd_part (hrd _ _ _ hw) hA1 (Nat.zero_le p) f1 ht2 hA2) (icells_one _) (by show _ ≤ 9223372036854775807; omega) (by omega) (by rw [show rowE (.slice none 0 0) 78 2 [] = [] from rfl, List.append_nil]; exact HLe.refl _) rfl (fun v1 hv1 => ?_)
  rw [List.drop_zero, Nat.sub_zero, List.nil_append]
  rw [Nat.sub_zero, Nat.zero_add] at hv1
  refine sx_assign rfl rfl ?_
  refine sx_nil (hZ _ _ ?_)
  refine awp_forget [(1, _), (2, _), (10, _), (11, _), (12, _)] (Kn.cons rfl (Kn.cons rfl (Kn.cons rfl (Kn.cons rfl (Kn.cons rfl (Kn.nil)))))) ?_
  refine awp_seq_region (fun Z hZ => ?_)
  refine sx_move rfl rfl ?_
  refine sx_move rfl rfl ?_
  refine sx_move rfl rfl ?_
  refine sx_build tyZ78 tyP78 rfl rfl (by first | (simp only [List.take_succ_cons, List.take_zero, List.drop_succ_cons, List.drop_zero, List.cons_append, List.nil_append, List.append_nil, List.length_cons, List.length_nil, Nat.reduceAdd, Nat.zero_add, Nat.add_zero, Value.cells, wrV, zrep_one, List.replicate_succ, List.replicate_zero, Nat.reduceMul, Nat.zero_mul]; first | done | rfl) | rfl) rfl ?_
  refine sx_buildSlice Try.underlying22 tyS78 tyZ78 rfl rfl rfl rfl (by first | (simp only [List.take_succ_cons, List.take_zero, List.drop_succ_cons, List.drop_zero, List.cons_append, List.nil_append, List.append_nil, List.length_cons, List.length_nil, Nat.reduceAdd, Nat.zero_add, Nat.add_zero, Value.cells, wrV, zrep_one, List.replicate_succ, List.replicate_zero, Nat.reduceMul, Nat.zero_mul]; first | done | rfl) | rfl) rfl (fun g1 => ?_)
  refine sx_appendE (_ :: roE A1 (icells D)) elemItR rfl hv1 (by rw [icells_len, List.length_take]; omega) rfl (fun w hw => rd_own (i := 0) (n := 1) (xs := [uq k, .string (str s)]) rfl rfl hw) rfl (by show _ ≤ 9223372036854775807; omega) (by omega) (HLe.refl _) rfl (fun v2 hv2 => ?_)
  refine sx_assign rfl rfl ?_
  refine sx_nil (hZ _ _ ?_)
  refine awp_forget [(10, _), (11, _), (12, _)] (Kn.cons rfl (Kn.cons rfl (Kn.cons rfl (Kn.nil)))) ?_
  refine awp_seq_region (fun Z hZ => ?_)
  refine sx_move rfl rfl ?_
  refine sx_move rfl rfl ?_
  refine sx_move rfl rfl ?_
  refine sx_part (i := p) (j := D.length) Try.underlying22 tyS78 hA1 rfl rfl rfl (by omega) (by omega) rfl (fun A3 hA3 ht3 => ?_)
  refine sx_appendE (_ :: roE A1 (icells D)) elemItR rfl hv2 (by rw [List.length_append, icells_len, List.length_take]; simp; omega) rfl (fun w hw => rd_part (hrd _ _ _ (hw.sub ((List.sublist_cons_self _ _).trans (List.sublist_append_left (_ :: roE A1 (icells D)) _)))) hA1 f1 (Nat.le_refl _) ht3 hA3) (icells_one _) (by show _ ≤ 9223372036854775807; omega) (by omega) (HLe.refl _) rfl (fun v3 hv3 => ?_)
  refine sx_assign rfl rfl ?_
  refine sx_assign rfl rfl ?_
  refine sx_nil (hZ _ _ ?_)
  refine awp_forget [(6, _), (7, _)] (Kn.cons rfl (Kn.cons rfl (Kn.nil))) ?_
  refine awp_ret ?_
  have hll : (D.take p ++ ⟨k, s⟩ :: D.drop p).length = p + 1 + (D.length - p) := by
    rw [List.length_append, List.length_take, List.length_cons, List.length_drop]
    omega
  refine nx_ret2h _ rfl rfl rfl (HLe.sub (List.sublist_append_right (_ :: roE A1 (icells D)) _)) ⟨_, rfl, .inl ⟨rfl, by rw [hll]; exact hv3, ?_⟩⟩
  rw [List.take_of_length_le (show (D.drop p).length ≤ D.length - p by rw [List.length_drop]; exact Nat.le_refl _)]
  simp only [icells, List.flatMap_append, List.flatMap_cons, List.append_assoc, It.cells, List.cons_append, List.nil_append]
end Go.Proofs.Ytmebmkkllhnmlaa

namespace Go.Proofs.Ytmebmkkllhnmlaa
open Go.RowKit
set_option linter.unusedVariables false
set_option linter.unusedSimpArgs false
/-- Why items make no chart: of those that stand ahead, and the rest. -/
def ofE : List Nat → List It → Nat
  | _, [] => 0
  | seen, e :: r => if e.id ∈ seen then 22 else if wrongQ e.id e.tx (decide (2048 ≤ seen.length)) ≠ 0 then wrongQ e.id e.tx (decide (2048 ≤ seen.length)) else ofE (seen ++ [e.id]) r
def ofQ (L : List It) : Nat := ofE [] L
def sortI (L : List It) : List It := L.foldl (fun acc e => cPut e.id e.tx acc) []
def idsI (L : List It) : List Nat := L.map fun e => e.id
theorem sortI_snoc (L : List It) (x : It) : sortI (L ++ [x]) = cPut x.id x.tx (sortI L) := by simp [sortI]
theorem put_perm {L : List It} (hr : Rise L) {k : Nat} (t : List UInt8) (h : cHas k L = false) : (cPut k t L).Perm (L ++ [⟨k, t⟩]) := by
  obtain ⟨X, Y, hh, ⟨s, rfl⟩ | rfl⟩ := it_half hr k
  · rw [hh.has1] at h; cases h
  · rw [hh.put0]
    exact (List.perm_middle).trans (List.perm_append_singleton _ _).symm
theorem has_mem {L : List It} (hr : Rise L) (k : Nat) : cHas k L = true ↔ k ∈ idsI L := by
  obtain ⟨X, Y, hh, ⟨s, rfl⟩ | rfl⟩ := it_half hr k
  · rw [hh.has1]; simp [idsI]
  · rw [hh.has0]
    simp only [idsI, List.map_append, List.mem_append, List.mem_map, Bool.false_eq_true, false_iff, not_or, not_exists, not_and]
    exact ⟨fun x hx => hh.ne.1 x hx, fun x hx => hh.ne.2 x hx⟩
theorem sortI_ok : ∀ (L : List It), (idsI L).Nodup → Rise (sortI L) ∧ (sortI L).Perm L := by
  intro L
  rw [← List.reverse_reverse L]
  induction L.reverse with
  | nil => exact fun _ => ⟨List.Pairwise.nil, List.Perm.refl _⟩
  | cons x r ih =>
    intro hn
    rw [List.reverse_cons] at hn ⊢
    have hn2 : (idsI r.reverse).Nodup ∧ x.id ∉ idsI r.reverse := by
      simp only [idsI, List.map_append, List.map_cons, List.map_nil] at hn ⊢
      have := List.nodup_append.1 hn
      exact ⟨this.1, fun h => this.2.2 _ h _ (by simp) rfl⟩
    obtain ⟨h1, h2⟩ := ih hn2.1
    rw [sortI_snoc]
    have hh : cHas x.id (sortI r.reverse) = false := by
      cases hc : cHas x.id (sortI r.reverse) with
      | false => rfl
      | true => exact absurd ((h2.map fun e => e.id).mem_iff.1 ((has_mem h1 x.id).1 hc)) hn2.2
    exact ⟨put_rise h1 _ _, (put_perm h1 x.tx hh).trans (h2.append_right _)⟩
/-- Rising lists of the same items are the same. -/
theorem rise_eq : ∀ {L M : List It}, Rise L → Rise M → L.Perm M → L = M
  | [], M, _, _, h => (List.nil_perm.1 h).symm
  | a :: r, [], _, _, h => absurd h (by simp)
  | a :: r, b :: s, hl, hm, h => by
    obtain ⟨a1, a2⟩ := List.pairwise_cons.1 hl
    obtain ⟨b1, b2⟩ := List.pairwise_cons.1 hm
    have hab : a = b := by
      have h1 : a ∈ b :: s := h.mem_iff.1 List.mem_cons_self
      have h2 : b ∈ a :: r := h.mem_iff.2 List.mem_cons_self
      rcases List.mem_cons.1 h1 with h1 | h1
      · exact h1
      · rcases List.mem_cons.1 h2 with h2 | h2
        · exact h2.symm
        · have := a1 b h2
          have := b1 a h1
          omega
    subst hab
    rw [rise_eq a2 b2 (h.cons_inv)]
theorem le_rise {M : List It} (h : M.Pairwise (fun a b => a.id ≤ b.id)) (hn : (idsI M).Nodup) : Rise M := by
  induction M with
  | nil => exact List.Pairwise.nil
  | cons e r ih =>
    obtain ⟨h1, h2⟩ := List.pairwise_cons.1 h
    simp only [idsI, List.map_cons, List.nodup_cons] at hn
    refine List.pairwise_cons.2 ⟨fun x hx => ?_, ih h2 hn.2⟩
    have := h1 x hx
    have hne : e.id ≠ x.id := fun hh => hn.1 (by rw [hh]; exact List.mem_map_of_mem hx)
    omega
theorem ofE_ok : ∀ (L : List It) (seen : List Nat), ofE seen L = 0 → seen.Nodup → (seen ++ idsI L).Nodup ∧ (seen.length ≤ 2048 → seen.length + L.length ≤ 2048) ∧ ∀ e ∈ L, e.id < 6004799503160661 ∧ e.tx ≠ [] ∧ e.tx.length ≤ 65536
  | [], seen, _, hn => by simp [idsI, hn]
  | e :: r, seen, h, hn => by
    rw [ofE] at h
    split at h
    · omega
    rename_i h1
    split at h
    · rename_i h2; exact absurd h h2
    rename_i h2
    have hw : wrongQ e.id e.tx (decide (2048 ≤ seen.length)) = 0 := by omega
    unfold wrongQ at hw
    repeat' split at hw
    all_goals first | omega | skip
    rename_i w1 w2 w3 w4
    have w4' : seen.length < 2048 := by simpa using w4
    have hn2 : (seen ++ [e.id]).Nodup := List.nodup_append.2 ⟨hn, by simp, fun a ha b hb hab => h1 (by simp at hb; rw [← hb, ← hab]; exact ha)⟩
    obtain ⟨i1, i2, i3⟩ := ofE_ok r (seen ++ [e.id]) h hn2
    refine ⟨by simpa [idsI] using i1, fun _ => ?_, fun x hx => ?_⟩
    · have := i2 (by simp; omega)
      simp at this ⊢
      omega
    · rcases List.mem_cons.1 hx with rfl | hx
      · exact ⟨by omega, w2, by omega⟩
      · exact i3 x hx
theorem of_ok {L : List It} (h : ofQ L = 0) : (idsI L).Nodup ∧ L.length ≤ 2048 ∧ ChOk (sortI L) ∧ (sortI L).Perm L := by
  obtain ⟨h1, h2, h3⟩ := ofE_ok L [] h List.nodup_nil
  rw [List.nil_append] at h1
  have h2 := h2 (by simp)
  simp at h2
  obtain ⟨h4, h5⟩ := sortI_ok L h1
  exact ⟨h1, h2, ⟨h4, fun e he => (h3 e (h5.mem_iff.1 he)).1, fun e he => (h3 e (h5.mem_iff.1 he)).2, by rw [h5.length_eq]; exact h2⟩, h5⟩
theorem sort_is {L M : List It} (h : (idsI L).Nodup) (hp : M.Perm L) (hs : M.Pairwise (fun a b => a.id ≤ b.id)) : M = sortI L := by
  obtain ⟨h4, h5⟩ := sortI_ok L h
  exact rise_eq (le_rise hs ((hp.map fun e : It => e.id).nodup_iff.2 h)) h4 (hp.trans h5.symm)
end Go.Proofs.Ytmebmkkllhnmlaa
