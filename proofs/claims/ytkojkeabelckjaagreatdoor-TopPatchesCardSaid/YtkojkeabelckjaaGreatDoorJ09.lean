/- Walks and plain laws for this claim (texts Gch1, joined). Each theorem states its own conditions. -/
import Derived.Test.YtkojkeabelckjaaGreatDoorJ05
import Derived.Test.YtkojkeabelckjaaGreatDoorJ07
import Derived.Test.YtkojkeabelckjaaGreatDoorJ08

set_option linter.all false
namespace Go.Proofs.YtkojkeabelckjaaGreatDoor
open Go.RowKit
structure It where
 id : Nat
 tx : List UInt8
abbrev It.cells (e : It) : List Value := [uq e.id, .string (str e.tx)]
abbrev It.val (e : It) : Value := .agg e.cells.toArray
abbrev jA0 (L : List It) : List Value := L.flatMap It.cells
theorem it_len (e : It) : e.cells.length = 2 := rfl
theorem jF4 (L : List It) : (jA0 L).length = L.length * 2 := fm_len it_len L
theorem icells_all {L : List It} {i : Nat} {x : It} (h : L[i]? = some x) : rdV true 2 (jA0 L) (i * 2) = some x.val := fm_rd it_len h
theorem jF1 {L : List It} {i : Nat} {x : It} (h : L[i]? = some x) : rdV false 1 (jA0 L) (i * 2) = some (uq x.id) := by have := fm_rd1 (j := 0) it_len h rfl; simpa using this
theorem icells_tx {L : List It} {i : Nat} {x : It} (h : L[i]? = some x) : rdV false 1 (jA0 L) (i * 2 + 1) = some (.string (str x.tx)) := fm_rd1 (j := 1) it_len h rfl
theorem icells_one (L : List It) : (jA0 L).all Value.oneCell' = true := List.all_eq_true.2 fun v hv => by
 obtain ⟨e, _, he⟩ := List.mem_flatMap.1 hv
 simp only [It.cells, List.mem_cons, List.not_mem_nil, or_false] at he
 rcases he with rfl | rfl <;> rfl
theorem icells_take {L : List It} {k : Nat} {x : It} (h : L[k]? = some x) : jA0 (L.take (k + 1)) = jA0 (L.take k) ++ x.cells := fm_take h
theorem elemIt : ElemOk Tryz.prog 25 62 2 24 := ElemOk.mk_ (z := .agg #[uq 0, .string ⟨#[]⟩]) Tryz.underlying25 (by kernel_rfl) rfl (by omega)
theorem elemItR : ElemOk Tryz.prog 22 60 2 24 := ElemOk.mk_ (z := .agg #[uq 0, .string ⟨#[]⟩]) Tryz.underlying22 (by kernel_rfl) rfl (by omega)
def ItsOk (L : List It) : Prop := ∀ e ∈ L, e.id < 18446744073709551616
theorem pl1_fn (e : It) (k : Nat) : Fn Tryz.prog 84 [e.val, uq k] [] fun v _ => v = iq (cmpQ e.id k) := by
 refine Fn.enter (N := 9) Tryz.func84 rfl (by kernel_rfl) rfl (fun w0 => ?_)
 refine aR (fun Z hZ => ?_)
 refine jC3 rfl rfl rfl (fun g1 => ?_)
 refine sA rfl rfl <| sN (hZ _ _ ?_)
 refine aF [(1, _), (2, _)] (kR rfl) ?_
 refine aR (fun Z hZ => ?_)
 refine sFA rfl tyF62_0 (by simp only [Nat.add_zero]; rfl) rfl ?_
 first | refine sL 0 rfl rfl tyA45 tyS45 rfl rfl ?_
 refine sM rfl rfl ?_
 refine sCP (cmp_fn e.id k) rfl rfl ?_
 refine sA rfl rfl <| sN (hZ _ _ ?_)
 refine aF [(4, _)] (Kn.cons rfl (Kn.nil)) ?_
 refine aE ?_
 exact nR1 rfl rfl rfl
def jC7 (k : Nat) (s : List UInt8) (full : Bool) : Nat := if 6004799503160661 ≤ k then 8 else if s = [] then 2 else if 65536 < s.length then 5 else if full then 7 else 0
theorem wrong_fn (k : Nat) (s : List UInt8) (full : Bool) : Fn Tryz.prog 37 [uq k, .string (str s), .bool full] [] fun v _ => v = iq (jC7 k s full) := by
 refine Fn.enter (N := 19) Tryz.func37 rfl (by kernel_rfl) rfl (fun w0 => ?_)
 refine aR fun Z hZ => sA rfl rfl <| sN (hZ _ _ ?_)
 refine aF [(0, _), (1, _), (2, _)] (kR rfl) ?_
 refine aS (aB ?_)
 refine aR fun Z hZ => sM rfl rfl ?_
 refine sx_geq rfl rfl rfl ?_
 refine sA rfl rfl <| sN (hZ _ _ ?_)
 refine aF [(1, _), (2, _), (7, _)] (kR rfl) ?_
 refine aC rfl (fun h => ?_) (fun h => ?_)
 ·have h' : 6004799503160661 ≤ k := by simp at h; omega
  rw [show jC7 k s full = 8 by unfold jC7; rw [if_pos h']]
  refine aR fun Z hZ => sA rfl rfl <| sN (hZ _ _ ?_)
  refine aF [(6, _)] (Kn.cons rfl (Kn.nil)) ?_
  refine aE ?_
  repeat (with_reducible (first | refine nTR ?_ | refine nBR ?_))
  exact nR1 rfl rfl rfl
 have h' : ¬ 6004799503160661 ≤ k := by simp at h; omega
 refine aR fun Z hZ => sM rfl rfl ?_
 refine sx_seql rfl rfl rfl ?_
 refine sA rfl rfl <| sN (hZ _ _ ?_)
 refine aF [(1, _), (2, _), (10, _)] (kR rfl) ?_
 refine aC rfl (fun h1 => ?_) (fun h1 => ?_)
 ·have h1' : s = [] := by simpa using h1
  rw [show jC7 k s full = 2 by unfold jC7; rw [if_neg h', if_pos h1']]
  refine aR fun Z hZ => sA rfl rfl <| sN (hZ _ _ ?_)
  refine aF [(6, _)] (Kn.cons rfl (Kn.nil)) ?_
  refine aE ?_
  repeat (with_reducible (first | refine nTR ?_ | refine nBR ?_))
  exact nR1 rfl rfl rfl
 have h1' : ¬ s = [] := by simpa using h1
 refine aR fun Z hZ => sM rfl rfl ?_
 refine jF0 Tryz.underlying9 rfl rfl ?_
 refine jF3 rfl rfl rfl ?_
 refine sA rfl rfl <| sN (hZ _ _ ?_)
 refine aF [(2, _), (13, _)] (kR rfl) ?_
 refine aC rfl (fun h2 => ?_) (fun h2 => ?_)
 ·have h2' : 65536 < s.length := by simp at h2; omega
  rw [show jC7 k s full = 5 by unfold jC7; rw [if_neg h', if_neg h1', if_pos h2']]
  refine aR fun Z hZ => sA rfl rfl <| sN (hZ _ _ ?_)
  refine aF [(6, _)] (Kn.cons rfl (Kn.nil)) ?_
  refine aE ?_
  repeat (with_reducible (first | refine nTR ?_ | refine nBR ?_))
  exact nR1 rfl rfl rfl
 have h2' : ¬ 65536 < s.length := by simp at h2; omega
 refine aR fun Z hZ => sM rfl rfl <| sA rfl rfl <| sN (hZ _ _ ?_)
 refine aF [(17, _)] (Kn.cons rfl (Kn.nil)) ?_
 refine aC rfl (fun h3 => ?_) (fun h3 => ?_)
 ·rw [show jC7 k s full = 7 by unfold jC7; rw [if_neg h', if_neg h1', if_neg h2', if_pos h3]]
  refine aR fun Z hZ => sA rfl rfl <| sN (hZ _ _ ?_)
  refine aF [(6, _)] (Kn.cons rfl (Kn.nil)) ?_
  refine aE ?_
  repeat (with_reducible (first | refine nTR ?_ | refine nBR ?_))
  exact nR1 rfl rfl rfl
 rw [show jC7 k s full = 0 by unfold jC7; rw [if_neg h', if_neg h1', if_neg h2', h3]; rfl]
 refine aK ?_
 repeat (with_reducible refine nBN ?_)
 with_reducible refine nN ?_
 refine aR fun Z hZ => sA rfl rfl <| sN (hZ _ _ ?_)
 refine aF [(6, _)] (Kn.cons rfl (Kn.nil)) ?_
 refine aE ?_
 exact nR1 rfl rfl rfl
end Go.Proofs.YtkojkeabelckjaaGreatDoor
namespace Go.Proofs.YtkojkeabelckjaaGreatDoor
open Go.RowKit
def cLo (k : Nat) : List It → Nat
 | [] => 0
 | e :: r => if e.id < k then cLo k r + 1 else 0
def itAt (L : List It) (i : Nat) : It := (L[i]?).getD ⟨0, []⟩
theorem itAt_at {L : List It} {i : Nat} (h : i < L.length) : L[i]? = some (itAt L i) := by simp [itAt, List.getElem?_eq_getElem h]
def Rise (L : List It) : Prop := L.Pairwise (fun a b => a.id < b.id)
theorem rise_lt {L : List It} (h : Rise L) {i j : Nat} (hij : i < j) (hj : j < L.length) : (itAt L i).id < (itAt L j).id := by
 have := List.pairwise_iff_getElem.1 h i j (by omega) hj hij
 simpa [itAt, List.getElem?_eq_getElem hj, List.getElem?_eq_getElem (show i < L.length by omega)] using this
theorem cLo_eq (k : Nat) : ∀ (L : List It) (p : Nat), p ≤ L.length → (∀ i, i < p → (itAt L i).id < k) → (p < L.length → k ≤ (itAt L p).id) → cLo k L = p
 | [], p, hp, _, _ => by simp at hp; rw [hp]; rfl
 | e :: r, 0, _, _, h => by
  have h1 : k ≤ e.id := h (by simp)
  rw [cLo, if_neg (by omega)]
 | e :: r, p + 1, hp, h1, h2 => by
  have e1 : ∀ j, itAt (e :: r) (j + 1) = itAt r j := fun j => by simp [itAt]
  have h3 : e.id < k := h1 0 (by omega)
  rw [cLo, if_pos h3, cLo_eq k r p (by simpa using hp) (fun i hi => by rw [← e1]; exact h1 (i + 1) (by omega)) (fun hl => by rw [← e1]; exact h2 (by simpa using hl))]
theorem cLo_facts (k : Nat) : ∀ (L : List It), cLo k L ≤ L.length ∧ (∀ i, i < cLo k L → (itAt L i).id < k) ∧ (cLo k L < L.length → k ≤ (itAt L (cLo k L)).id)
 | [] => ⟨Nat.le_refl _, fun i hi => by simp [cLo] at hi, fun h => by simp at h⟩
 | e :: r => by
  obtain ⟨h1, h2, h3⟩ := cLo_facts k r
  have e1 : ∀ j, itAt (e :: r) (j + 1) = itAt r j := fun j => by simp [itAt]
  rw [cLo]
  by_cases h : e.id < k
  ·rw [if_pos h]
   refine ⟨by simpa using h1, fun i hi => ?_, fun hl => ?_⟩
   ·cases i with
    | zero => exact h
    | succ i => rw [e1]; exact h2 i (by omega)
   ·rw [e1]; exact h3 (by simpa using hl)
  ·rw [if_neg h]
   exact ⟨Nat.zero_le _, fun i hi => by omega, fun _ => by show k ≤ e.id; omega⟩
def cHas (k : Nat) (L : List It) : Bool := decide (cLo k L < L.length ∧ (itAt L (cLo k L)).id = k)
theorem bs_fn (A : Option Addr) (c : Nat) (L : List It) (T : Heap) (hA : jH1 A L.length) (hT : 0 < L.length → T = roE A (jA0 L)) (hL : L.length ≤ 1000000) (hr : Rise L) (k : Nat) :
  Fn Tryz.prog 83 [.slice A L.length c, uq k, .func (.func 84) #[] #[]] T fun v _ => v = .tuple #[iq (cLo k L), .bool (cHas k L)] := by
 refine Fn.enter (N := 49) Tryz.func83 rfl (by kernel_rfl) rfl (fun w0 => ?_)
 refine aR fun Z hZ => sA rfl rfl <| sA rfl rfl <| sN (hZ _ _ ?_)
 refine aF [(0, _), (1, _), (2, _)] (kR rfl) ?_
 refine aR fun Z hZ => sM rfl rfl ?_
 refine jD9 Tryz.underlying25 rfl rfl ?_
 refine sA rfl rfl <| sN (hZ _ _ ?_)
 refine aF [(0, _), (1, _), (2, _), (8, _)] (kR rfl) ?_
 refine aR fun Z hZ => sM rfl rfl <| sA rfl rfl <| sA rfl rfl <| sN (hZ _ _ ?_)
 refine aF [(0, _), (1, _), (2, _), (8, _), (9, _), (10, _)] (kR rfl) ?_
 refine awp_cut (ι := Unit) (fun _ => [(0, .slice A L.length c), (1, uq k), (2, .func (.func 84) #[] #[]), (8, iq (L.length : Nat)), (9, iq (cLo k L : Nat))]) (fun _ => T) (fun _ => True) ?_ ?_
 ·refine aB ?_
  refine jB6 (ι := Nat × Nat) (fun i => [(0, .slice A L.length c), (1, uq k), (2, .func (.func 84) #[] #[]), (8, iq (L.length : Nat)), (9, iq (i.1 : Nat)), (10, iq (i.2 : Nat))]) (fun _ => T)
   (fun i => i.1 ≤ i.2 ∧ i.2 ≤ L.length ∧ (∀ j, j < i.1 → (itAt L j).id < k) ∧ (i.2 < L.length → k ≤ (itAt L i.2).id)) (fun i => i.2 - i.1) (0, L.length) ⟨by simp, by simp, fun j hj => by omega, fun h => by omega⟩ (kR rfl) (HLe.refl _) ?_
  rintro ⟨p, q⟩ ⟨h1, h2, h3, h4⟩
  simp only at h1 h2 h3 h4
  refine aS ?_
  refine aR fun Z hZ => sM rfl rfl <| sM rfl rfl ?_
  refine jC4 rfl rfl rfl ?_
  refine sN (hZ _ _ ?_)
  refine aF [(0, _), (1, _), (2, _), (8, _), (9, _), (10, _), (17, _)] (kR rfl) ?_
  refine aC rfl (fun h => ?_) (fun h => ?_)
  ·have hlt : p < q := by simpa using h
   obtain ⟨m, hm⟩ : ∃ m, (p + q) / 2 = m := ⟨_, rfl⟩
   have hx := itAt_at (L := L) (i := m) (by omega)
   obtain ⟨g, o, rfl⟩ := hA (by omega)
   obtain rfl := hT (by omega)
   refine aK ?_
   with_reducible refine nN ?_
   refine aB ?_
   refine aR fun Z hZ => sM rfl rfl <| sM rfl rfl ?_
   refine jB8 rfl rfl ((p + q : Nat) : Int) (by rw [IntWalk.i64_in _ (by omega)]; omega) rfl ?_
   refine jC2 Tryz.underlying3 Tryz.underlying48 rfl ((p + q : Nat) : Int) (by rw [IntWalk.u64_in _ (by omega)]) rfl ?_
   refine sx_shr rfl rfl (by decide) ((m : Nat) : Int) (by show ((p + q : Nat) : Int).fdiv 2 = _; rw [Int.fdiv_eq_ediv_of_nonneg _ (by omega)]; omega) rfl ?_
   refine jC2 Tryz.underlying48 Tryz.underlying3 rfl ((m : Nat) : Int) (by rw [IntWalk.i64_in _ (by omega)]) rfl ?_
   refine sA rfl rfl <| sN (hZ _ _ ?_)
   refine aF [(0, _), (1, _), (2, _), (8, _), (9, _), (10, _), (11, _)] (kR rfl) ?_
   refine aR fun Z hZ => sM rfl rfl <| sM rfl rfl <| sM rfl rfl ?_
   refine jA6 (o + m * 2) Tryz.underlying25 tyS62 rfl rfl (by omega) (by simp) rfl ?_
   refine jD5 0 rfl rfl (m * 2) rfl tyA62 tyS62 (icells_all hx) rfl ?_
   refine sM rfl rfl ?_
   refine sx_callFV (caps := []) (vs := [(itAt L m).val, uq k]) [] (pl1_fn (itAt L m) k) rfl rfl (HLe.sub (List.nil_sublist _)) Ro.nil rfl ?_
   refine jC4 rfl rfl rfl ?_
   refine sN (hZ _ _ ?_)
   refine aF [(0, _), (1, _), (2, _), (8, _), (9, _), (10, _), (11, _), (31, _)] (kR rfl) ?_
   refine aC rfl (fun h5 => ?_) (fun h5 => ?_)
   ·have hle : (itAt L m).id < k := cmpQ_lt.1 (by simpa using h5)
    refine aG (fun Z hZ => ?_)
    refine sM rfl rfl ?_
    refine jB8 rfl rfl ((m + 1 : Nat) : Int) (by rw [IntWalk.i64_in _ (by omega)]; omega) rfl ?_
    refine sA rfl rfl <| sN (hZ _ _ ?_)
    refine nF [(0, _), (1, _), (2, _), (8, _), (9, _), (10, _)] (kR rfl) ?_
    repeat (with_reducible refine nBN ?_)
    refine jB5 (m + 1, q) ⟨by show m + 1 ≤ q; omega, h2, fun j hj => ?_, h4⟩ (by show q - (m + 1) < q - p; omega) (kR rfl) (HLe.refl _)
    rcases Nat.lt_or_ge j m with hjm | hjm
    ·have := rise_lt hr hjm (by omega)
     omega
    ·obtain rfl : j = m := by simp only at hj; omega
     exact hle
   ·have hgt : k ≤ (itAt L m).id := by
     have : ¬ cmpQ (itAt L m).id k < 0 := by simpa using h5
     rw [cmpQ_lt] at this
     omega
    refine aG (fun Z hZ => ?_)
    refine sM rfl rfl <| sA rfl rfl <| sN (hZ _ _ ?_)
    refine nF [(0, _), (1, _), (2, _), (8, _), (9, _), (10, _)] (kR rfl) ?_
    repeat (with_reducible refine nBN ?_)
    exact jB5 (p, m) ⟨by show p ≤ m; omega, by show m ≤ _; omega, h3, fun _ => hgt⟩ (by show m - p < q - p; omega) (kR rfl) (HLe.refl _)
  ·have hge : p = q := by simp at h; omega
   subst hge
   have := cLo_eq k L p h2 h3 h4
   refine jB1 ?_
   repeat (with_reducible refine nTE ?_)
   with_reducible refine nBE ?_
   exact jG2 () trivial (Kn.cons rfl (Kn.cons rfl (Kn.cons rfl (Kn.cons rfl (Kn.cons (by rw [this]; rfl) Kn.nil))))) (HLe.refl _)
 rintro ⟨⟩ -
 obtain ⟨f1, f2, f3⟩ := cLo_facts k L
 obtain ⟨p, hp⟩ : ∃ p, cLo k L = p := ⟨_, rfl⟩
 have hv : cHas k L = decide (p < L.length ∧ (itAt L p).id = k) := by unfold cHas; rw [hp]
 rw [hv, hp]
 by_cases hlt : p < L.length
 ·have hx := itAt_at hlt
  obtain ⟨g, o, rfl⟩ := hA (by omega)
  obtain rfl := hT (by omega)
  refine jA7 [(6, iq (p : Nat)), (7, .bool (decide (p < L.length ∧ (itAt L p).id = k)))] [] (fun Z hZ => ?_) ?_
  ·refine sM rfl rfl ?_
   refine sM rfl rfl <| sM rfl rfl ?_
   refine jC4 rfl rfl rfl ?_
   refine sM rfl rfl ?_
   refine jF8 39 rfl true (by simpa using hlt) ?_
   refine sOn rfl rfl rfl ?_
   refine sM rfl rfl ?_
   refine sOn rfl rfl rfl ?_
   refine sM rfl rfl ?_
   refine sOn rfl rfl rfl ?_
   refine sM rfl rfl ?_
   refine sOn rfl rfl rfl ?_
   refine jA6 (o + p * 2) Tryz.underlying25 tyS62 rfl rfl (by omega) (by simp) rfl ?_
   refine sOn rfl rfl rfl ?_
   refine jD5 0 rfl rfl (p * 2) rfl tyA62 tyS62 (icells_all hx) rfl ?_
   refine sOn rfl rfl rfl ?_
   refine sM rfl rfl ?_
   refine sOn rfl rfl rfl ?_
   refine sx_callFV (caps := []) (vs := [(itAt L p).val, uq k]) [] (pl1_fn (itAt L p) k) rfl rfl (HLe.sub (List.nil_sublist _)) Ro.nil rfl ?_
   refine sOn rfl rfl rfl ?_
   refine jC8 rfl rfl rfl ?_
   refine sP rfl rfl rfl <| sA rfl rfl <| sA rfl rfl ?_
   refine sN (hZ _ _ ?_ ?_)
   ·exact Kn.cons rfl (Kn.cons (congrArg some (congrArg Value.bool (by rw [Bool.eq_iff_iff]; simp [hlt, cmpQ_eq]))) Kn.nil)
   ·exact HLe.sub (List.nil_sublist _)
  refine aE ?_
  exact jF9 rfl rfl rfl rfl
 ·refine jA7 [(6, iq (p : Nat)), (7, .bool (decide (p < L.length ∧ (itAt L p).id = k)))] [] (fun Z hZ => ?_) ?_
  ·refine sM rfl rfl ?_
   refine sM rfl rfl <| sM rfl rfl ?_
   refine jC4 rfl rfl rfl ?_
   refine sM rfl rfl ?_
   refine jF8 39 rfl false (by simpa using hlt) ?_
   refine sO rfl rfl rfl rfl rfl ?_
   refine sO rfl rfl rfl rfl rfl ?_
   refine sO rfl rfl rfl rfl rfl ?_
   refine sO rfl rfl rfl rfl rfl ?_
   refine sO rfl rfl rfl rfl rfl ?_
   refine sO rfl rfl rfl rfl rfl ?_
   refine sO rfl rfl rfl rfl rfl ?_
   refine sO rfl rfl rfl rfl rfl ?_
   refine sP rfl rfl rfl <| sA rfl rfl <| sA rfl rfl ?_
   refine sN (hZ _ _ ?_ ?_)
   ·exact Kn.cons rfl (Kn.cons (congrArg some (congrArg Value.bool (by rw [Bool.eq_iff_iff]; simp [hlt]))) Kn.nil)
   ·exact HLe.sub (List.nil_sublist _)
  refine aE ?_
  exact jF9 rfl rfl rfl rfl
abbrev chV (A : Option Addr) (n c : Nat) : Value := .agg #[.slice A n c]
theorem place_fn (A : Option Addr) (c : Nat) (L : List It) (T : Heap) (hA : jH1 A L.length) (hT : 0 < L.length → T = roE A (jA0 L)) (hro : Ro T) (hL : L.length ≤ 1000000) (hr : Rise L) (k : Nat) :
  Fn Tryz.prog 42 [chV A L.length c, uq k] T fun v _ => v = .tuple #[iq (cLo k L), .bool (cHas k L)] := by
 refine Fn.enter (N := 12) Tryz.func42 rfl (by kernel_rfl) rfl (fun w0 => ?_)
 refine aR (fun Z hZ => ?_)
 refine jC3 rfl rfl rfl (fun g1 => ?_)
 refine sA rfl rfl <| sA rfl rfl <| sN (hZ _ _ ?_)
 refine aF [(1, _), (2, _)] (kR rfl) ?_
 refine aR (fun Z hZ => ?_)
 refine sFA rfl tyF27_0 (by simp only [Nat.add_zero]; rfl) rfl ?_
 first | refine sL 0 rfl rfl tyA25 tyS25 rfl rfl ?_
 refine sM rfl rfl ?_
 refine jD6 T (bs_fn A c L T hA hT hL hr k) rfl (List.sublist_cons_self _ _) hro rfl ?_
 refine sX rfl rfl rfl <| sX rfl rfl rfl <| sA rfl rfl <| sA rfl rfl <| sN (hZ _ _ ?_)
 refine aF [(4, _), (5, _)] (kR rfl) ?_
 refine aE ?_
 exact jF9 rfl rfl rfl rfl
end Go.Proofs.YtkojkeabelckjaaGreatDoor
namespace Go.Proofs.YtkojkeabelckjaaGreatDoor
open Go.RowKit
theorem wrs_fltc {T K A : Heap} (h : Wrs T) : HLe T (A ++ (T.filter Ent.wr ++ K)) := by
 rw [h.filter]
 exact HLe.sub ((List.sublist_append_left T K).trans (List.sublist_append_right A _))
def cGet (k : Nat) (L : List It) : List UInt8 := if cHas k L then (itAt L (cLo k L)).tx else []
theorem get_fn (A : Option Addr) (c : Nat) (L : List It) (T : Heap) (hA : jH1 A L.length) (hT : 0 < L.length → T = roE A (jA0 L)) (hro : Ro T) (hL : L.length ≤ 1000000) (hr : Rise L) (k : Nat) :
  Fn Tryz.prog 71 [chV A L.length c, uq k] T fun v _ => v = .tuple #[.string (str (cGet k L)), .bool (cHas k L)] := by
 refine Fn.enter (N := 22) Tryz.func71 rfl (by kernel_rfl) rfl (fun w0 => ?_)
 refine aR (fun Z hZ => ?_)
 refine jC3 rfl rfl rfl (fun g1 => ?_)
 refine sA rfl rfl <| sA rfl rfl <| sN (hZ _ _ ?_)
 refine aF [(1, _), (2, _)] (kR rfl) ?_
 refine aR (fun Z hZ => ?_)
 first | refine sLA 0 rfl rfl tyA27 tyS27 rfl (by simp only [qS, Value.cells]; rfl) rfl ?_
 refine sM rfl rfl ?_
 refine jD6 T (place_fn A c L T hA hT hro hL hr k) rfl (List.sublist_cons_self _ _) hro rfl ?_
 refine sM rfl rfl <| sX rfl rfl rfl <| sX rfl rfl rfl <| sA rfl rfl <| sA rfl rfl <| sN (hZ _ _ ?_)
 refine aF [(2, _), (6, _), (7, _)] (kR rfl) ?_
 refine aS ?_
 refine aR fun Z hZ => sM rfl rfl ?_
 refine sx_not rfl rfl ?_
 refine sN (hZ _ _ ?_)
 refine aF [(2, _), (6, _), (15, _)] (kR rfl) ?_
 refine aC rfl (fun h => ?_) (fun h => ?_)
 ·have h' : cHas k L = false := by simpa using h
  have hg : cGet k L = [] := by unfold cGet; rw [h']; rfl
  rw [hg, h']
  refine aR fun Z hZ => sA rfl rfl <| sA rfl rfl <| sN (hZ _ _ ?_)
  refine aF [(4, _), (5, _)] (kR rfl) ?_
  refine aE ?_
  repeat (with_reducible refine nTR ?_)
  exact jF9 rfl rfl rfl rfl
 have h' : cHas k L = true := by simpa using h
 obtain ⟨p, hp⟩ : ∃ p, cLo k L = p := ⟨_, rfl⟩
 have hg : cGet k L = (itAt L p).tx := by unfold cGet; rw [h', hp]; rfl
 have hlt : p < L.length := by
  unfold cHas at h'
  rw [hp] at h'
  exact (of_decide_eq_true h').1
 have hx := itAt_at hlt
 obtain ⟨g, o, rfl⟩ := hA (by omega)
 obtain rfl := hT (by omega)
 rw [hg, h', hp]
 refine aK ?_
 with_reducible refine nN ?_
 refine aR (fun Z hZ => ?_)
 refine sFA rfl tyF27_0 (by simp only [Nat.add_zero]; rfl) rfl ?_
 refine sL 0 rfl rfl tyA25 tyS25 rfl rfl ?_
 refine sM rfl rfl ?_
 refine jA6 (o + p * 2) Tryz.underlying25 tyS62 rfl rfl (by omega) (by simp) rfl ?_
 refine sFA rfl tyF62_1 rfl rfl ?_
 refine jD5 1 rfl rfl (p * 2 + 1) rfl tyA9 tyS9 (icells_tx hx) rfl ?_
 refine sA rfl rfl <| sA rfl rfl <| sN (hZ _ _ ?_)
 refine aF [(4, _), (5, _)] (kR rfl) ?_
 refine aE ?_
 exact jF9 rfl rfl rfl rfl
theorem len_fn (A : Option Addr) (n c : Nat) : Fn Tryz.prog 63 [chV A n c] [] fun v _ => v = iq (n : Nat) := by
 refine Fn.enter (N := 6) Tryz.func63 rfl (by kernel_rfl) rfl (fun w0 => ?_)
 refine aR (fun Z hZ => ?_)
 refine jC3 rfl rfl rfl (fun g1 => ?_)
 refine sA rfl rfl <| sN (hZ _ _ ?_)
 refine aF [(1, _)] (Kn.cons rfl (Kn.nil)) ?_
 refine aR (fun Z hZ => ?_)
 refine sFA rfl tyF27_0 (by simp only [Nat.add_zero]; rfl) rfl ?_
 first | refine sL 0 rfl rfl tyA25 tyS25 rfl rfl ?_
 refine jD9 Tryz.underlying25 rfl rfl ?_
 refine sA rfl rfl <| sN (hZ _ _ ?_)
 refine aF [(2, _)] (Kn.cons rfl (Kn.nil)) ?_
 refine aE ?_
 exact nR1 rfl rfl rfl
def jD8 (L : List It) : Nat := (L.map fun e => e.tx.length).sum
theorem cBytes_snoc {L : List It} {k : Nat} {x : It} (h : L[k]? = some x) : jD8 (L.take (k + 1)) = jD8 (L.take k) + x.tx.length := by
 rw [List.take_add_one, h]
 simp [jD8]
theorem cBytes_le (L : List It) (k : Nat) : jD8 (L.take k) ≤ jD8 L := by
 have : jD8 L = jD8 (L.take k) + jD8 (L.drop k) := by
  simp only [jD8]
  rw [← List.sum_append, ← List.map_append, List.take_append_drop]
 omega
theorem iclone_fn (A : Option Addr) (c : Nat) (L : List It) (T : Heap) (hA : jH1 A L.length) (hT : 0 < L.length → T = roE A (jA0 L)) (hnil : A = none → L.length = 0) (hro : Ro T) (hL : L.length ≤ 100000) :
  Fn Tryz.prog 151 [.slice A L.length c] T fun v H' => RowOk v L.length ∧ H' = rowE v 62 2 (jA0 L) := by
 refine Fn.enter (N := 8) Tryz.func151 rfl (by kernel_rfl) rfl (fun w0 => ?_)
 refine aR fun Z hZ => sA rfl rfl <| sN (hZ _ _ ?_)
 refine aF [(0, _)] (Kn.cons rfl (Kn.nil)) ?_
 refine aS ?_
 refine aR fun Z hZ => sM rfl rfl ?_
 refine sx_sliceEqNil Tryz.underlying25 rfl rfl ?_
 refine sN (hZ _ _ ?_)
 refine aF [(0, _), (4, _)] (kR rfl) ?_
 refine aC rfl (fun h => ?_) (fun h => ?_)
 ·have h0 : A = none := by simpa using h
  have hl := hnil h0
  refine aR fun Z hZ => sA rfl rfl <| sN (hZ _ _ ?_)
  refine aF [(2, _)] (Kn.cons rfl (Kn.nil)) ?_
  refine aE ?_
  repeat (with_reducible refine nTR ?_)
  have hLn : L = [] := List.length_eq_zero_iff.1 hl
  subst hLn
  exact jD4 [] rfl rfl (HLe.sub (List.nil_sublist _)) ⟨RowOk.nil, rfl⟩
 refine aK ?_
 with_reducible refine nN ?_
 refine aR (fun Z hZ => ?_)
 refine sx_buildSlice0 Tryz.underlying25 tyS62 rfl (fun g => ?_)
 refine jC1 (T ++ rowE (.slice (some ⟨g, 0, none⟩) 0 0) 62 2 []) ((HLe.swap _ _).trans (HLe.ownRow [] T rfl (Nat.zero_le _))) ?_
 refine sM rfl rfl ?_
 refine jD2 T elemIt rfl (RowOk.mk g 0 0) rfl rfl (fun w hw => rd_arg hA hT (jF4 L) hnil (HLe.sub (List.sublist_append_left _ _)) hw) (icells_one L) (by show _ ≤ 9223372036854775807; omega) (by omega) (HLe.refl _) rfl (fun v2 hv2 => ?_)
 rw [List.nil_append]
 rw [Nat.zero_add] at hv2
 refine sA rfl rfl <| sN (hZ _ _ ?_)
 refine aF [(2, _)] (Kn.cons rfl (Kn.nil)) ?_
 refine aE ?_
 exact jD4 _ rfl rfl (HLe.sub (List.sublist_append_right _ _)) ⟨hv2, rfl⟩
theorem items_fn (A : Option Addr) (c : Nat) (L : List It) (T : Heap) (hA : jH1 A L.length) (hT : 0 < L.length → T = roE A (jA0 L)) (hnil : A = none → L.length = 0) (hro : Ro T) (hL : L.length ≤ 100000) :
  Fn Tryz.prog 110 [chV A L.length c] T fun v H' => RowOk v L.length ∧ H' = rowE v 62 2 (jA0 L) := by
 refine Fn.enter (N := 6) Tryz.func110 rfl (by kernel_rfl) rfl (fun w0 => ?_)
 refine aR (fun Z hZ => ?_)
 refine jC3 rfl rfl rfl (fun g1 => ?_)
 refine sA rfl rfl <| sN (hZ _ _ ?_)
 refine aF [(1, _)] (Kn.cons rfl (Kn.nil)) ?_
 refine aR (fun Z hZ => ?_)
 refine sFA rfl tyF27_0 (by simp only [Nat.add_zero]; rfl) rfl ?_
 first | refine sL 0 rfl rfl tyA25 tyS25 rfl rfl ?_
 refine sx_callRT T (iclone_fn A c L T hA hT hnil hro hL) rfl (List.sublist_cons_self _ _) hro rfl (fun v hv => ?_)
 refine sA rfl rfl <| sN (hZ _ _ ?_)
 refine aF [(2, _)] (Kn.cons rfl (Kn.nil)) ?_
 refine aE ?_
 exact jD4 _ rfl rfl (HLe.sub (List.sublist_append_left _ _)) ⟨hv, rfl⟩
theorem ceach_fn (A : Option Addr) (n c : Nat) : Fn Tryz.prog 48 [chV A n c] [] fun v H' => ∃ g, v = .func (.func 89) #[] #[ptr g 0] ∧ H' = [.own g 27 [.slice A n c]] := by
 refine Fn.enter (N := 4) Tryz.func48 rfl (by kernel_rfl) rfl (fun w0 => ?_)
 refine aR (fun Z hZ => ?_)
 refine jC3 rfl rfl rfl (fun g1 => ?_)
 refine sA rfl rfl <| sN (hZ _ _ ?_)
 refine aF [(1, _)] (Kn.cons rfl (Kn.nil)) ?_
 refine aR (fun Z hZ => ?_)
 refine sx_makeFunc rfl rfl ?_
 refine sA rfl rfl <| sN (hZ _ _ ?_)
 refine aF [(2, _)] (Kn.cons rfl (Kn.nil)) ?_
 refine aE ?_
 exact jD4 _ rfl rfl (HLe.refl _) ⟨g1, rfl, rfl⟩
theorem ceach_it (g : Nat) (A : Option Addr) (cp : Nat) (L : List It) (T : Heap) (hA : jH1 A L.length) (hT : 0 < L.length → T = roE A (jA0 L)) (hL : L.length ≤ 100000) :
  Iter Tryz.prog 89 [ptr g 0] (.ro g 0 [.slice A L.length cp] :: T) (L.map fun e => [uq e.id, .string (str e.tx)]) := by
 intro l J Jr S hJ hS hJr hY T0 hT0
 have hlen : (L.map fun e => [uq e.id, .string (str e.tx)]).length = L.length := by simp
 rw [hlen]
 refine Fn.enter (N := 20) Tryz.func89 rfl (by kernel_rfl) rfl (fun w0 => ?_)
 refine jA8 (.ro g 0 [.slice A L.length cp] :: (T ++ (T0 ++ Jr))) (HLe.refl _) ?_
 refine aR (fun Z hZ => ?_)
 refine sFA rfl tyF27_0 (by simp only [Nat.add_zero]; rfl) rfl ?_
 refine jD5 0 rfl rfl 0 rfl tyA25 tyS25 rfl rfl ?_
 refine jD9 Tryz.underlying25 rfl rfl ?_
 refine sM rfl rfl <| sN (hZ _ _ ?_)
 refine aF [(0, _), (6, _), (7, _), (8, _)] (kR rfl) ?_
 refine aB ?_
 refine jB6 (ι := Nat × Heap) (fun i => [(0, .func (.yield l) #[] #[]), (6, .slice A L.length cp), (7, iq (L.length : Nat)), (8, iq (i.1 : Nat))]) (fun i => T ++ (i.2 ++ Jr))
  (fun i => i.1 ≤ L.length ∧ J i.1 i.2) (fun i => L.length - i.1) (0, T0) ⟨by simp, hT0⟩ (kR rfl) (HLe.drop 1 rfl) ?_
 rintro ⟨i, T3⟩ ⟨hi, hT3⟩
 simp only at hi hT3
 refine aR (fun Z hZ => ?_)
 refine jC4 rfl rfl rfl ?_
 refine sN (hZ _ _ ?_)
 refine aF [(0, _), (6, _), (7, _), (8, _), (9, _)] (kR rfl) ?_
 refine aS (aC rfl (fun hh => ?_) (fun hh => ?_))
 ·have hlt : i < L.length := by simpa using hh
  have hx := itAt_at hlt
  obtain ⟨ga, o, rfl⟩ := hA (by omega)
  obtain rfl := hT (by omega)
  refine jA8 (.ro ga o (jA0 L) :: (T3 ++ Jr)) (HLe.refl _) ?_
  refine aK ?_
  with_reducible refine nN ?_
  refine aS (aB ?_)
  refine aR (fun Z hZ => ?_)
  refine jA6 (o + i * 2) Tryz.underlying25 tyS62 rfl rfl (by omega) (by simp) rfl ?_
  refine jD5 0 rfl rfl (i * 2) rfl tyA62 tyS62 (icells_all hx) rfl ?_
  refine sAl tyZ62 rfl (fun g1 => ?_)
  refine sS 0 rfl rfl rfl tyS62 (by simp only [Value.cells]; rfl) rfl rfl rfl (by simp only [qS, Nat.reduceAdd, wrV]; rfl) (by simp only [List.set_cons_zero]; rfl) ?_
  refine sN (hZ _ _ ?_)
  refine aF [(0, _), (4, _), (6, _), (7, _), (8, _)] (kR rfl) ?_
  refine awy_seq_region (fun Z hZ => ?_)
  refine sy_x rfl ?_
  refine sM rfl rfl ?_
  refine sN ?_
  refine sy_x rfl ?_
  refine sFA rfl tyF62_0 (by simp only [Nat.add_zero]; rfl) rfl ?_
  refine sN ?_
  refine sy_x rfl ?_
  refine sL 0 rfl rfl tyA45 tyS45 rfl rfl ?_
  refine sN ?_
  refine sy_x rfl ?_
  refine sFA rfl tyF62_1 (by simp only [Nat.zero_add]; rfl) rfl ?_
  refine sN ?_
  refine sy_x rfl ?_
  refine sL 0 rfl rfl tyA9 tyS9 rfl rfl ?_
  refine sN ?_
  refine sy_yield [_, _] T3 Jr Jr (hY i _ T3 (by simp [hx]) hT3) rfl rfl rfl (List.Sublist.refl _) hJr rfl ?_
  rintro v T4 ⟨b, rfl, hb1, hb2⟩
  refine sy_x rfl ?_
  refine sx_not rfl rfl ?_
  refine sN ?_
  refine sy_nil (hZ _ _ ?_)
  refine aF [(0, _), (6, _), (7, _), (8, _), (18, _)] (kR rfl) ?_
  refine aC rfl (fun h3 => ?_) (fun h3 => ?_)
  ·have hb : b = false := by simpa using h3
   refine aE ?_
   repeat (with_reducible (first | refine nTR ?_ | refine nBR ?_))
   exact nx_ret0h T4 rfl (wrs_fltc (A := [_, _]) (hS T4 (hb2 hb))) (.inr (hb2 hb))
  have hb : b = true := by simpa using h3
  have hT4 := hb1 hb
  rw [(hJ _ T4 hT4).filter]
  refine aK ?_
  repeat (with_reducible refine nBN ?_)
  with_reducible refine nN ?_
  refine aG (fun Z hZ => ?_)
  refine jB8 rfl rfl ((i + 1 : Nat) : Int) (by rw [IntWalk.i64_in _ (by omega)]; omega) rfl ?_
  refine sM rfl rfl <| sN (hZ _ _ ?_)
  refine nF [(0, _), (6, _), (7, _), (8, _)] (kR rfl) ?_
  exact jB5 (i + 1, T4) ⟨by show i + 1 ≤ _; omega, hT4⟩ (by simp; omega) (kR rfl) (HLe.drop 1 rfl)
 ·have hie : i = L.length := by simp at hh; omega
  subst hie
  refine jB1 ?_
  repeat (with_reducible refine nTE ?_)
  with_reducible refine nBE ?_
  exact nx_end0h T3 rfl (HLe.sub ((List.sublist_append_left T3 Jr).trans (List.sublist_append_right T _))) (.inl hT3)
end Go.Proofs.YtkojkeabelckjaaGreatDoor
namespace Go.Proofs.YtkojkeabelckjaaGreatDoor
open Go.RowKit
def itq (a b : It) : Bool := (a.id == b.id) && (a.tx == b.tx)
def sameI : List It → List It → Bool
 | [], [] => true
 | a :: r, b :: s => itq a b && sameI r s
 | _, _ => false
theorem itq_iff {a b : It} : itq a b = true ↔ a = b := by
 obtain ⟨a1, a2⟩ := a
 obtain ⟨b1, b2⟩ := b
 simp [itq]
theorem sameI_iff : ∀ {L M : List It}, sameI L M = true ↔ L = M
 | [], [] => by simp [sameI]
 | a :: r, b :: s => by simp [sameI, itq_iff, sameI_iff (L := r) (M := s)]
 | [], b :: s => by simp [sameI]
 | a :: r, [] => by simp [sameI]
theorem sameI_len : ∀ {L M : List It}, sameI L M = true → L.length = M.length := fun h => by rw [sameI_iff.1 h]
theorem it_eq (a b : It) : EqV Tryz.prog 10000 62 a.val b.val (itq a b) := by
 have h : EqV Tryz.prog 10000 62 a.val b.val _ := EqV.struct Tryz.underlying62 (by kernel_rfl) (.cons rfl tyA45 tyS45 rfl rfl (EqV.int Tryz.underlying45) (.cons rfl tyA9 tyS9 rfl rfl (EqV.string Tryz.underlying9) .nil))
 have e : itq a b = (((a.id : Int) == (b.id : Int)) && ((a.tx == b.tx) && true)) := by
  rw [Bool.eq_iff_iff]
  simp [itq]
  intro _
  omega
 rw [e]
 exact h
theorem guard_it : Program.eqGuardType Tryz.prog Tryz.prog.depth 62 = false := by kernel_rfl
theorem iequal_fn (A : Option Addr) (c : Nat) (L : List It) (T : Heap) (hA : jH1 A L.length) (hT : 0 < L.length → T = roE A (jA0 L)) (hL : L.length ≤ maxLen)
  (B : Option Addr) (d : Nat) (M : List It) (U : Heap) (hB : jH1 B M.length) (hU : 0 < M.length → U = roE B (jA0 M)) (hM : M.length ≤ maxLen) :
  Fn Tryz.prog 41 [.slice A L.length c, .slice B M.length d] (T ++ U) fun v _ => v = .bool (sameI L M) := by
 have hL' : L.length ≤ 9223372036854775807 := hL
 have hM' : M.length ≤ 9223372036854775807 := hM
 refine Fn.enter (N := 26) Tryz.func41 rfl (by kernel_rfl) rfl (fun w0 => ?_)
 refine aR fun Z hZ => sA rfl rfl <| sN (hZ _ _ ?_)
 refine aF [(0, _), (1, _)] (kR rfl) ?_
 refine aS ?_
 refine aR fun Z hZ => sM rfl rfl ?_
 refine jD9 Tryz.underlying25 rfl rfl ?_
 refine sM rfl rfl ?_
 refine jD9 Tryz.underlying25 rfl rfl ?_
 refine jE5 rfl rfl rfl ?_
 refine sN (hZ _ _ ?_)
 refine aF [(0, _), (1, _), (10, _)] (kR rfl) ?_
 refine aC rfl (fun ha => ?_) (fun ha => ?_)
 ·have hne : L.length ≠ M.length := by simp at ha; omega
  rw [show sameI L M = false by cases hs : sameI L M with | false => rfl | true => exact absurd (sameI_len hs) hne]
  refine aR fun Z hZ => sA rfl rfl <| sN (hZ _ _ ?_)
  refine aF [(4, _)] (Kn.cons rfl (Kn.nil)) ?_
  refine aE ?_
  repeat (with_reducible refine nTR ?_)
  exact nR1 rfl rfl rfl
 have hlm : L.length = M.length := by simp at ha; omega
 refine aK ?_
 with_reducible refine nN ?_
 refine aS ?_
 refine aR fun Z hZ => sM rfl rfl ?_
 refine jD9 Tryz.underlying25 rfl rfl ?_
 refine sM rfl rfl <| sN (hZ _ _ ?_)
 refine aF [(0, _), (1, _), (12, _), (13, _)] (kR rfl) ?_
 refine aB ?_
 refine jB6 (ι := Nat) (fun k => [(0, .slice A L.length c), (1, .slice B M.length d), (12, iq (L.length : Nat)), (13, iq (k : Nat))]) (fun _ => T ++ U)
  (fun k => k ≤ L.length ∧ sameI (L.drop k) (M.drop k) = sameI L M) (fun k => L.length - k) 0 ⟨by simp, rfl⟩ (kR rfl) (HLe.refl _) ?_
 rintro k ⟨hk, hq⟩
 refine aR (fun Z hZ => ?_)
 refine jC4 rfl rfl rfl ?_
 refine sN (hZ _ _ ?_)
 refine aF [(0, _), (1, _), (12, _), (13, _), (14, _)] (kR rfl) ?_
 refine aS (aC rfl (fun h => ?_) (fun h => ?_))
 ·have hlt : k < L.length := by simpa using h
  obtain ⟨x, hx⟩ : ∃ x, L[k]? = some x := ⟨_, List.getElem?_eq_getElem hlt⟩
  obtain ⟨y, hy⟩ : ∃ y, M[k]? = some y := ⟨_, List.getElem?_eq_getElem (by omega)⟩
  have hxe : L[k] = x := Option.some.inj ((List.getElem?_eq_getElem hlt).symm.trans hx)
  have hye : M[k]'(by omega) = y := Option.some.inj ((List.getElem?_eq_getElem (by omega)).symm.trans hy)
  rw [List.drop_eq_getElem_cons hlt, List.drop_eq_getElem_cons (show k < M.length by omega), hxe, hye, sameI] at hq
  obtain ⟨g, o, rfl⟩ := hA (by omega)
  obtain ⟨g', o', rfl⟩ := hB (by omega)
  obtain rfl := hT (by omega)
  obtain rfl := hU (by omega)
  refine aK ?_
  with_reducible refine nN ?_
  refine aS (aB ?_)
  refine aR fun Z hZ => sM rfl rfl <| sA rfl rfl <| sN (hZ _ _ ?_)
  refine aF [(0, _), (1, _), (5, _), (12, _), (13, _)] (kR rfl) ?_
  refine jB9 mixed (by kernel_rfl) (fun Z hZ => ?_)
  refine qM rfl rfl ?_
  refine qM rfl rfl ?_
  refine jE8 (o + k * 2) Tryz.underlying25 tyS62 rfl rfl (by omega) (by simp) rfl ?_
  refine jG8 0 rfl rfl (k * 2) rfl tyA62 tyS62 (icells_all hx) rfl ?_
  refine qM rfl rfl ?_
  refine qM rfl rfl ?_
  refine jE8 (o' + k * 2) Tryz.underlying25 tyS62 rfl rfl (by omega) (by simp) rfl ?_
  refine jG8 1 rfl rfl (k * 2) rfl tyA62 tyS62 (icells_all hy) rfl ?_
  refine sq_aneq (it_eq x y) guard_it rfl rfl rfl ?_
  refine jE0 (hZ _ _ ?_)
  refine aF [(0, _), (1, _), (12, _), (13, _), (24, _)] (kR rfl) ?_
  refine aC rfl (fun hb => ?_) (fun hb => ?_)
  ·have hb' : itq x y = false := by simpa using hb
   rw [hb'] at hq
   rw [← hq]
   refine aR fun Z hZ => sA rfl rfl <| sN (hZ _ _ ?_)
   refine aF [(4, _)] (Kn.cons rfl (Kn.nil)) ?_
   refine aE ?_
   repeat (with_reducible (first | refine nTR ?_ | refine nBR ?_))
   exact nR1 rfl rfl rfl
  have hb' : itq x y = true := by simpa using hb
  rw [hb', Bool.true_and] at hq
  refine aK ?_
  repeat (with_reducible refine nBN ?_)
  with_reducible refine nN ?_
  refine aG (fun Z hZ => ?_)
  refine jB8 rfl rfl ((k + 1 : Nat) : Int) (by rw [IntWalk.i64_in _ (by omega)]; omega) rfl ?_
  refine sM rfl rfl <| sN (hZ _ _ ?_)
  refine nF [(0, _), (1, _), (12, _), (13, _)] (kR rfl) ?_
  exact jB5 (k + 1) ⟨by omega, hq⟩ (by omega) (kR rfl) (HLe.refl _)
 ·refine jB1 ?_
  repeat (with_reducible refine nTE ?_)
  with_reducible refine nBE ?_
  with_reducible refine nN ?_
  have hke : k = L.length := by simp at h; omega
  subst hke
  rw [List.drop_length, List.drop_of_length_le (by omega), sameI] at hq
  rw [← hq]
  refine aR fun Z hZ => sA rfl rfl <| sN (hZ _ _ ?_)
  refine aF [(4, _)] (Kn.cons rfl (Kn.nil)) ?_
  refine aE ?_
  exact nR1 rfl rfl rfl
theorem csame_fn (A : Option Addr) (c : Nat) (L : List It) (T : Heap) (hA : jH1 A L.length) (hT : 0 < L.length → T = roE A (jA0 L)) (hroT : Ro T) (hL : L.length ≤ maxLen)
  (B : Option Addr) (d : Nat) (M : List It) (U : Heap) (hB : jH1 B M.length) (hU : 0 < M.length → U = roE B (jA0 M)) (hroU : Ro U) (hM : M.length ≤ maxLen) :
  Fn Tryz.prog 17 [chV A L.length c, chV B M.length d] (T ++ U) fun v _ => v = .bool (sameI L M) := by
 refine Fn.enter (N := 10) Tryz.func17 rfl (by kernel_rfl) rfl (fun w0 => ?_)
 refine aR (fun Z hZ => ?_)
 refine jC3 rfl rfl rfl (fun g1 => ?_)
 refine jC3 rfl rfl rfl (fun g2 => ?_)
 refine sA rfl rfl <| sN (hZ _ _ ?_)
 refine aF [(2, _), (3, _)] (kR rfl) ?_
 refine aR (fun Z hZ => ?_)
 refine sFA rfl tyF27_0 (by simp only [Nat.add_zero]; rfl) rfl ?_
 refine sL 1 rfl rfl tyA25 tyS25 rfl rfl ?_
 refine sFA rfl tyF27_0 (by simp only [Nat.add_zero]; rfl) rfl ?_
 refine sL 0 rfl rfl tyA25 tyS25 rfl rfl ?_
 refine jD6 (T ++ U) (iequal_fn A c L T hA hT hL B d M U hB hU hM) rfl ((List.sublist_cons_self _ _).trans (List.sublist_cons_self _ _)) (hroT.append hroU) rfl ?_
 refine sA rfl rfl <| sN (hZ _ _ ?_)
 refine aF [(4, _)] (Kn.cons rfl (Kn.nil)) ?_
 refine aE ?_
 exact nR1 rfl rfl rfl
end Go.Proofs.YtkojkeabelckjaaGreatDoor
namespace Go.Proofs.YtkojkeabelckjaaGreatDoor
open Go.RowKit
abbrev Pc := Option Addr × Nat × List It
abbrev pcv (p : Pc) : Value := .slice p.1 p.2.2.length p.2.1
def PcOk (T : Heap) (p : Pc) : Prop := ∀ w0 Wr w, Sat w0 Wr T w → Rd w 2 p.1 p.2.2.length (jA0 p.2.2)
def pcAll (ps : List Pc) : List It := ps.flatMap fun p => p.2.2
def pcAt (ps : List Pc) (i : Nat) : Pc := (ps[i]?).getD (none, 0, [])
theorem pcAt_at {L : List Pc} {i : Nat} (h : i < L.length) : L[i]? = some (pcAt L i) := by simp [pcAt, List.getElem?_eq_getElem h]
theorem pcAll_snoc {ps : List Pc} {k : Nat} {p : Pc} (h : ps[k]? = some p) : pcAll (ps.take (k + 1)) = pcAll (ps.take k) ++ p.2.2 := by
 rw [List.take_add_one, h]
 simp [pcAll]
theorem pcAll_le (ps : List Pc) (k : Nat) : (pcAll (ps.take k)).length ≤ (pcAll ps).length := by
 have : pcAll ps = pcAll (ps.take k) ++ pcAll (ps.drop k) := by
  simp only [pcAll]
  rw [← List.flatMap_append, List.take_append_drop]
 rw [this, List.length_append]
 omega
theorem pcv_rd {ps : List Pc} {k : Nat} (h : k < ps.length) : rdV false 1 (ps.map pcv) k = some (pcv (pcAt ps k)) := by
 have h1 := pcAt_at h
 simp [rdV, h1]
theorem concat_fn (g : Nat) (ps : List Pc) (T : Heap) (hps : ∀ p ∈ ps, PcOk T p) (hro : Ro T) (hl : ps.length ≤ 1000) (hL : (pcAll ps).length ≤ 100000) :
  Fn Tryz.prog 116 [.slice (some ⟨g, 0, none⟩) ps.length ps.length] (.ro g 0 (ps.map pcv) :: T) fun v H' => RowOk v (pcAll ps).length ∧ H' = rowE v 62 2 (jA0 (pcAll ps)) := by
 have hro2 : Ro (.ro g 0 (ps.map pcv) :: T) := fun e he => by
  rcases List.mem_cons.1 he with rfl | he
  ·rfl
  ·exact hro e he
 refine Fn.enter (N := 36) Tryz.func116 rfl (by kernel_rfl) rfl (fun w0 => ?_)
 refine aR fun Z hZ => sA rfl rfl <| sN (hZ _ _ ?_)
 refine aF [(0, _)] (Kn.cons rfl (Kn.nil)) ?_
 refine aR fun Z hZ => sA rfl rfl <| sN (hZ _ _ ?_)
 refine aF [(0, _), (3, _)] (kR rfl) ?_
 refine aS ?_
 refine aR fun Z hZ => sM rfl rfl ?_
 refine jD9 Tryz.underlying262 rfl rfl ?_
 refine sM rfl rfl <| sN (hZ _ _ ?_)
 refine aF [(0, _), (3, _), (9, _), (10, _), (11, _)] (kR rfl) ?_
 refine aB ?_
 refine jB6 (ι := Nat) (fun k => [(0, .slice (some ⟨g, 0, none⟩) ps.length ps.length), (3, iq ((pcAll (ps.take k)).length : Nat)), (9, .slice (some ⟨g, 0, none⟩) ps.length ps.length), (10, iq (ps.length : Nat)), (11, iq (k : Nat))]) (fun _ => .ro g 0 (ps.map pcv) :: T)
  (fun k => k ≤ ps.length) (fun k => ps.length - k) 0 (by simp) (kR rfl) (HLe.refl _) ?_
 rintro k hk
 refine aR (fun Z hZ => ?_)
 refine jC4 rfl rfl rfl ?_
 refine sN (hZ _ _ ?_)
 refine aF [(0, _), (3, _), (9, _), (10, _), (11, _), (12, _)] (kR rfl) ?_
 refine aS (aC rfl (fun h => ?_) (fun h => ?_))
 ·have hlt : k < ps.length := by simpa using h
  have hx := pcAt_at hlt
  have hrd := pcv_rd hlt
  have hsn := congrArg List.length (pcAll_snoc hx)
  have hle := pcAll_le ps (k + 1)
  rw [List.length_append] at hsn
  obtain ⟨p, hp⟩ : ∃ p, pcAt ps k = p := ⟨_, rfl⟩
  rw [hp] at hx hrd hsn
  refine aK ?_
  with_reducible refine nN ?_
  refine aS (aB ?_)
  refine aR (fun Z hZ => ?_)
  refine jA6 k Tryz.underlying262 tyS25 rfl rfl (by omega) (by simp) rfl ?_
  refine jD5 0 rfl rfl k (by simp) tyA25 tyS25 hrd rfl ?_
  refine sA rfl rfl <| sN (hZ _ _ ?_)
  refine aF [(0, _), (3, _), (5, _), (9, _), (10, _), (11, _)] (kR rfl) ?_
  refine aR fun Z hZ => sM rfl rfl <| sM rfl rfl ?_
  refine jD9 Tryz.underlying25 rfl rfl ?_
  refine jB8 rfl rfl (((pcAll (ps.take (k + 1))).length : Nat) : Int) (by rw [IntWalk.i64_in _ (by omega)]; omega) rfl ?_
  refine sA rfl rfl <| sN (hZ _ _ ?_)
  refine aF [(0, _), (3, _), (9, _), (10, _), (11, _)] (kR rfl) ?_
  refine aR fun Z hZ => sM rfl rfl ?_
  refine jC4 rfl rfl rfl ?_
  refine sN (hZ _ _ ?_)
  refine aF [(0, _), (3, _), (9, _), (10, _), (11, _), (20, _)] (kR rfl) ?_
  refine aC rfl (fun h6 => ?_) (fun h6 => ?_)
  ·exfalso
   simp at h6
   omega
  refine aK ?_
  repeat (with_reducible refine nBN ?_)
  with_reducible refine nN ?_
  refine aG (fun Z hZ => ?_)
  refine jB8 rfl rfl ((k + 1 : Nat) : Int) (by rw [IntWalk.i64_in _ (by omega)]; omega) rfl ?_
  refine sM rfl rfl <| sN (hZ _ _ ?_)
  refine nF [(0, _), (3, _), (9, _), (10, _), (11, _)] (kR rfl) ?_
  exact jB5 (k + 1) (by omega) (by omega) (kR rfl) (HLe.refl _)
 ·have hke : k = ps.length := by simp at h; omega
  subst hke
  refine jB1 ?_
  repeat (with_reducible refine nTE ?_)
  with_reducible refine nBE ?_
  with_reducible refine nN ?_
  rw [List.take_length]
  refine aR fun Z hZ => sM rfl rfl ?_
  refine jD3 [] _ (growI_fn (pcAll ps).length (by omega)) rfl (HLe.refl _) rfl ?_
  rintro v H' ⟨hv, rfl⟩
  rw [jE4]
  refine jC1 ((.ro g 0 (ps.map pcv) :: T) ++ rowE v 62 2 []) (HLe.swap _ _) ?_
  refine sA rfl rfl <| sN (hZ _ _ ?_)
  refine aF [(0, _), (6, _)] (kR rfl) ?_
  refine aS ?_
  refine aR fun Z hZ => sM rfl rfl ?_
  refine jD9 Tryz.underlying262 rfl rfl ?_
  refine sM rfl rfl <| sN (hZ _ _ ?_)
  refine aF [(6, _), (25, _), (26, _), (27, _)] (kR rfl) ?_
  refine aB ?_
  refine jB6 (ι := Nat × Value) (fun i => [(6, i.2), (25, .slice (some ⟨g, 0, none⟩) ps.length ps.length), (26, iq (ps.length : Nat)), (27, iq (i.1 : Nat))]) (fun i => (.ro g 0 (ps.map pcv) :: T) ++ rowE i.2 62 2 (jA0 (pcAll (ps.take i.1))))
   (fun i => i.1 ≤ ps.length ∧ RowOk i.2 (pcAll (ps.take i.1)).length) (fun i => ps.length - i.1) (0, v) ⟨by simp, hv⟩ (kR rfl) (HLe.refl _) ?_
  rintro ⟨k, v⟩ ⟨hk, hv⟩
  simp only at hk hv
  refine jA8 (.ro g 0 (ps.map pcv) :: (T ++ rowE v 62 2 (jA0 (pcAll (ps.take k))))) (HLe.refl _) ?_
  refine aR (fun Z hZ => ?_)
  refine jC4 rfl rfl rfl ?_
  refine sN (hZ _ _ ?_)
  refine aF [(6, _), (25, _), (26, _), (27, _), (28, _)] (kR rfl) ?_
  refine aS (aC rfl (fun h => ?_) (fun h => ?_))
  ·have hlt : k < ps.length := by simpa using h
   have hx := pcAt_at hlt
   have hrd := pcv_rd hlt
   have hsn := pcAll_snoc hx
   have hle := pcAll_le ps (k + 1)
   have hok := hps _ (List.mem_of_getElem? hx)
   obtain ⟨p, hp⟩ : ∃ p, pcAt ps k = p := ⟨_, rfl⟩
   rw [hp] at hx hrd hsn hok
   rw [hsn, List.length_append] at hle
   refine aK ?_
   with_reducible refine nN ?_
   refine aS (aB ?_)
   refine aR (fun Z hZ => ?_)
   refine jA6 k Tryz.underlying262 tyS25 rfl rfl (by omega) (by simp) rfl ?_
   refine jD5 0 rfl rfl k (by simp) tyA25 tyS25 hrd rfl ?_
   refine sA rfl rfl <| sN (hZ _ _ ?_)
   refine aF [(6, _), (8, _), (25, _), (26, _), (27, _)] (kR rfl) ?_
   refine aG (fun Z hZ => ?_)
   refine sM rfl rfl <| sM rfl rfl ?_
   refine jD2 (.ro g 0 (ps.map pcv) :: T) elemIt rfl hv (jF4 _) rfl (fun w hw => hok _ _ _ (hw.sub ((List.sublist_append_left T _).trans (List.sublist_cons_self _ _)))) (icells_one _) (by show _ ≤ 9223372036854775807; omega) (by omega) (HLe.refl _) rfl (fun v2 hv2 => ?_)
   refine sA rfl rfl <| sN (hZ _ _ ?_)
   refine nF [(6, _), (25, _), (26, _), (27, _)] (kR rfl) ?_
   repeat (with_reducible refine nBN ?_)
   with_reducible refine nN ?_
   refine aG (fun Z hZ => ?_)
   refine jB8 rfl rfl ((k + 1 : Nat) : Int) (by rw [IntWalk.i64_in _ (by omega)]; omega) rfl ?_
   refine sM rfl rfl <| sN (hZ _ _ ?_)
   refine nF [(6, _), (25, _), (26, _), (27, _)] (kR rfl) ?_
   refine jB5 (k + 1, v2) ⟨by show k + 1 ≤ _; omega, by show RowOk v2 _; rw [hsn, List.length_append]; exact hv2⟩ (by simp; omega) (kR rfl) ?_
   rw [hsn, show jA0 (pcAll (ps.take k) ++ p.2.2) = jA0 (pcAll (ps.take k)) ++ jA0 p.2.2 from List.flatMap_append]
   exact HLe.refl _
  ·refine jB1 ?_
   repeat (with_reducible refine nTE ?_)
   with_reducible refine nBE ?_
   with_reducible refine nN ?_
   have hke : k = ps.length := by simp at h; omega
   subst hke
   rw [List.take_length] at hv ⊢
   refine aR fun Z hZ => sM rfl rfl <| sA rfl rfl <| sN (hZ _ _ ?_)
   refine aF [(2, _)] (Kn.cons rfl (Kn.nil)) ?_
   refine aE ?_
   exact jD4 _ rfl rfl (HLe.sub (List.sublist_append_right (.ro g 0 (ps.map pcv) :: T) _)) ⟨hv, rfl⟩
end Go.Proofs.YtkojkeabelckjaaGreatDoor
namespace Go.Proofs.YtkojkeabelckjaaGreatDoor
open Go.RowKit
theorem Ro.consRo {T : Heap} (h : Ro T) (g o : Nat) (xs : List Value) : Ro (.ro g o xs :: T) := fun e he => by
 rcases List.mem_cons.1 he with rfl | he
 ·rfl
 ·exact h e he
def cDel (k : Nat) (L : List It) : List It := if cHas k L then L.take (cLo k L) ++ L.drop (cLo k L + 1) else L
def cPut (k : Nat) (s : List UInt8) (L : List It) : List It := L.take (cLo k L) ++ ⟨k, s⟩ :: L.drop (cLo k L + if cHas k L then 1 else 0)
def fullQ (k : Nat) (L : List It) : Bool := !cHas k L && decide (2048 ≤ L.length)
theorem cHas_lt {k : Nat} {L : List It} (h : cHas k L = true) : cLo k L < L.length := by
 unfold cHas at h
 exact (of_decide_eq_true h).1
theorem it_drop {L : List It} {i : Nat} : (jA0 L).drop (i * 2) = jA0 (L.drop i) := fm_drop it_len L i
theorem it_take {L : List It} {i : Nat} : (jA0 L).take (i * 2) = jA0 (L.take i) := by
 have h1 : jA0 L = jA0 (L.take i) ++ jA0 (L.drop i) := by rw [← List.flatMap_append, List.take_append_drop]
 rcases Nat.lt_or_ge L.length i with h | h
 ·rw [List.take_of_length_le (by rw [jF4]; omega), List.take_of_length_le (Nat.le_of_lt h)]
 ·rw [h1, List.take_left' (by rw [jF4, List.length_take]; omega)]
theorem rd_part {A A' : Option Addr} {n c : Nat} {L : List It} {i j : Nat} {w : World} (h : Rd w 2 A L.length (jA0 L)) (hA : SlIn A L.length c) (h1 : i ≤ j) (h2 : j ≤ L.length) (ht : TailA A i 2 A' (j - i)) (hA' : SlIn A' (j - i) n) : Rd w 2 A' (j - i) (jA0 ((L.drop i).take (j - i))) := by
 have e1 : ((L.drop i).take (j - i)).length = j - i := by rw [List.length_take, List.length_drop]; omega
 refine ⟨by rw [jF4, e1], fun ha => hA'.nil ha, fun hn => ?_⟩
 obtain ⟨g, o, h4, h5, h6⟩ := h.2.2 (by omega)
 obtain ⟨o', h7, h8⟩ := ht.2 g o h4
 obtain rfl := h8 hn
 refine ⟨g, _, h7, h5, fun p u hu => ?_⟩
 rw [← it_take, ← it_drop, List.getElem?_take] at hu
 split at hu
 ·rw [List.getElem?_drop] at hu
  rw [Nat.add_assoc]
  exact h6 _ u hu
 ·cases hu
theorem del_fn (A : Option Addr) (c : Nat) (L : List It) (T : Heap) (hA : SlIn A L.length c) (hT : 0 < L.length → T = roE A (jA0 L)) (hro : Ro T) (hL : L.length ≤ 100000) (hr : Rise L) (k : Nat) :
  Fn Tryz.prog 72 [chV A L.length c, uq k] T fun v H' => ∃ u, v = .agg #[u] ∧ ((cHas k L = true ∧ RowOk u (cDel k L).length ∧ H' = rowE u 62 2 (jA0 (cDel k L))) ∨ (cHas k L = false ∧ u = .slice A L.length c ∧ H' = [])) := by
 refine Fn.enter (N := 28) Tryz.func72 rfl (by kernel_rfl) rfl (fun w0 => ?_)
 refine aR (fun Z hZ => ?_)
 refine jC3 rfl rfl rfl (fun g1 => ?_)
 refine sAl tyZ27 rfl (fun g2 => ?_)
 refine sN (hZ _ _ ?_)
 refine aF [(1, _), (2, _), (4, _)] (kR rfl) ?_
 refine aR (fun Z hZ => ?_)
 refine sLA 1 rfl rfl tyA27 tyS27 rfl (by simp only [qS, Value.cells]; rfl) rfl ?_
 refine sM rfl rfl ?_
 refine jD6 T (place_fn A c L T hA.arg hT hro (by omega) hr k) rfl ((List.sublist_cons_self _ _).trans (List.sublist_cons_self _ _)) hro rfl ?_
 refine sM rfl rfl <| sX rfl rfl rfl <| sX rfl rfl rfl <| sA rfl rfl <| sA rfl rfl <| sN (hZ _ _ ?_)
 refine aF [(2, _), (4, _), (5, _), (6, _)] (kR rfl) ?_
 refine aS ?_
 refine aR fun Z hZ => sM rfl rfl ?_
 refine sx_not rfl rfl ?_
 refine sN (hZ _ _ ?_)
 refine aF [(2, _), (4, _), (5, _), (14, _)] (kR rfl) ?_
 refine aC rfl (fun h => ?_) (fun h => ?_)
 ·have h' : cHas k L = false := by simpa using h
  refine aR (fun Z hZ => ?_)
  refine sLA 1 rfl rfl tyA27 tyS27 rfl (by simp only [qS, Value.cells]; rfl) rfl ?_
  refine sS 0 rfl rfl rfl tyS27 (by simp only [Value.cells]; rfl) rfl rfl rfl (by simp only [qS, wrV]; rfl) (by simp only [List.set_cons_zero]; rfl) ?_
  refine sN (hZ _ _ ?_)
  refine aF [(4, _)] (Kn.cons rfl (Kn.nil)) ?_
  refine aE ?_
  repeat (with_reducible refine nTR ?_)
  exact jD4 [] rfl (ResOk.cell 0 rfl rfl tyA27 tyS27 rfl) (HLe.sub (List.nil_sublist _)) ⟨_, rfl, .inr ⟨h', rfl, rfl⟩⟩
 have h' : cHas k L = true := by simpa using h
 have hlt := cHas_lt h'
 obtain ⟨p, hp⟩ : ∃ p, cLo k L = p := ⟨_, rfl⟩
 rw [hp] at hlt
 have hd : cDel k L = L.take p ++ L.drop (p + 1) := by unfold cDel; rw [h', hp]; rfl
 have hcap := hA.cap
 rw [hd, hp]
 refine aK ?_
 with_reducible refine nN ?_
 have hrd : ∀ w0 Wr w, Sat w0 Wr T w → Rd w 2 A L.length (jA0 L) := fun w0 Wr w hw => rd_arg hA.arg hT (jF4 L) hA.nil (HLe.refl _) hw
 have e1 : (L.take p).length = p - 0 := by rw [List.length_take]; omega
 have e2 : (L.drop (p + 1)).length = L.length - (p + 1) := List.length_drop
 have hcc : ∀ g A1 A2, SlIn A1 (p - 0) (c - 0) → TailA A 0 2 A1 (p - 0) → SlIn A2 (L.length - (p + 1)) (c - (p + 1)) → TailA A (p + 1) 2 A2 (L.length - (p + 1)) →
   Fn Tryz.prog 116 [.slice (some ⟨g, 0, none⟩) 2 2] (.ro g 0 [.slice A1 (p - 0) (c - 0), .slice A2 (L.length - (p + 1)) (c - (p + 1))] :: T) fun v H' => RowOk v (L.take p ++ L.drop (p + 1)).length ∧ H' = rowE v 62 2 (jA0 (L.take p ++ L.drop (p + 1))) := by
  intro g A1 A2 hA1 ht1 hA2 ht2
  have h1 : PcOk T (A1, c - 0, L.take p) := fun w0 Wr w hw => by
   have := rd_part (hrd w0 Wr w hw) hA (Nat.zero_le p) (Nat.le_of_lt hlt) ht1 hA1
   rw [List.drop_zero, Nat.sub_zero] at this
   show Rd w 2 A1 (L.take p).length (jA0 (L.take p))
   rw [e1, Nat.sub_zero]
   exact this
  have h2 : PcOk T (A2, c - (p + 1), L.drop (p + 1)) := fun w0 Wr w hw => by
   have := rd_part (hrd w0 Wr w hw) hA (show p + 1 ≤ L.length by omega) (Nat.le_refl _) ht2 hA2
   rw [List.take_of_length_le (by rw [List.length_drop]; exact Nat.le_refl _)] at this
   show Rd w 2 A2 (L.drop (p + 1)).length (jA0 (L.drop (p + 1)))
   rw [e2]
   exact this
  have h3 := concat_fn g [(A1, c - 0, L.take p), (A2, c - (p + 1), L.drop (p + 1))] T (fun q hq => by
   rcases List.mem_cons.1 hq with rfl | hq
   ·exact h1
   ·rcases List.mem_cons.1 hq with rfl | hq
    ·exact h2
    ·cases hq) hro (by simp) (by simp [pcAll]; omega)
  have e3 : pcAll [(A1, c - 0, L.take p), (A2, c - (p + 1), L.drop (p + 1))] = L.take p ++ L.drop (p + 1) := by simp [pcAll]
  rw [e3] at h3
  simp only [pcv, List.map_cons, List.map_nil, e1, e2] at h3
  exact h3
 refine jD0 _ [(0, true), (1, true), (2, true), (3, true), (4, true), (5, true), (6, true), (7, true), (8, true), (9, false), (10, false), (11, true), (12, false)] mixed (by kernel_rfl) (HLe.pick [1] (by simp) (by simp only [pick, List.filterMap_cons, qS]; rfl)) (fun Z hZ => ?_)
 refine tw_p rfl ?_
 refine jA2 rfl tyF27_0 (by simp only [Nat.add_zero]; rfl) rfl ?_
 refine vN ?_
 refine tw_p rfl ?_
 first | refine jE6 0 rfl rfl tyA25 tyS25 rfl rfl ?_
 refine vN ?_
 refine tw_p rfl ?_
 refine jA3 rfl rfl ?_
 refine vN ?_
 refine tw_p rfl ?_
 refine sv_part (i := 0) (j := p) Tryz.underlying25 tyS62 hA rfl rfl rfl (by omega) (by omega) rfl (fun A1 hA1 ht1 => ?_)
 refine vN ?_
 refine tw_p rfl ?_
 refine jA2 rfl tyF27_0 (by simp only [Nat.add_zero]; rfl) rfl ?_
 refine vN ?_
 refine tw_p rfl ?_
 first | refine jE6 0 rfl rfl tyA25 tyS25 rfl rfl ?_
 refine vN ?_
 refine tw_p rfl ?_
 refine jA3 rfl rfl ?_
 refine vN ?_
 refine tw_p rfl ?_
 refine sv_add rfl rfl ((p + 1 : Nat) : Int) (by rw [IntWalk.i64_in _ (by omega)]; omega) rfl ?_
 refine vN ?_
 refine tw_p rfl ?_
 refine sv_part (i := p + 1) (j := L.length) Tryz.underlying25 tyS62 hA rfl rfl rfl (by omega) (by omega) rfl (fun A2 hA2 ht2 => ?_)
 refine vN ?_
 refine tw_g rfl ?_
 refine sBS Tryz.underlying262 tyS25 tyZ25 rfl rfl rfl rfl (by simp only [qS, Nat.reduceAdd, Value.cells, wrV, jG9, List.replicate_succ, List.replicate_zero, Nat.reduceMul, Nat.zero_mul]; rfl) rfl (fun g3 => ?_)
 refine sN ⟨HLe.pick [2] (by simp) rfl, ?_⟩
 refine tw_g rfl ?_
 refine sx_callVU (.ro g3 0 [.slice A1 (p - 0) (c - 0), .slice A2 (L.length - (p + 1)) (c - (p + 1))] :: T) (hcc g3 A1 A2 hA1 ht1 hA2 ht2) rfl ((HLe.sub (List.Sublist.cons_cons _ ((List.sublist_cons_self _ _).trans (List.sublist_cons_self _ _)))).trans (own_ro _)) (hro.consRo _ _ _) rfl ?_
 rintro v H' ⟨hv, rfl⟩
 rw [jE4]
 obtain ⟨Av, cv, rfl, hAv⟩ := hv.form
 refine jC1 (_ ++ rowE (.slice Av (L.take p ++ L.drop (p + 1)).length cv) 62 2 (jA0 (L.take p ++ L.drop (p + 1)))) (HLe.swap _ _) ?_
 refine sN ⟨HLe.pick [2] (by simp) rfl, ?_⟩
 refine tw_p rfl ?_
 refine sv_build tyZ27 tyP27 rfl rfl (by simp only [qS, Value.cells, wrV]; rfl) rfl ?_
 refine vN ?_
 refine tw_g rfl ?_
 refine sS 1 rfl rfl rfl tyS27 (by simp only [Value.cells]; rfl) rfl rfl rfl (by simp only [qS, wrV]; rfl) rfl ?_
 refine sN ⟨HLe.pick [2] (by simp) rfl, ?_⟩
 refine jH2 (hZ _ _ ?_)
 refine aF [(4, _)] (Kn.cons rfl (Kn.nil)) ?_
 refine aE ?_
 exact jD4 _ rfl (ResOk.cell 1 rfl rfl tyA27 tyS27 rfl) (HLe.sub (List.sublist_append_right (_ :: _ :: _ :: T) _)) ⟨_, rfl, .inl ⟨h', hv, rfl⟩⟩
theorem put_fn (A : Option Addr) (c : Nat) (L : List It) (T : Heap) (hA : SlIn A L.length c) (hT : 0 < L.length → T = roE A (jA0 L)) (hro : Ro T) (hL : L.length ≤ 100000) (hr : Rise L) (k : Nat) (s : List UInt8) :
  Fn Tryz.prog 18 [chV A L.length c, uq k, .string (str s)] T fun v H' => ∃ u, v = .tuple #[.agg #[u], iq (jC7 k s (fullQ k L))] ∧ ((jC7 k s (fullQ k L) = 0 ∧ RowOk u (cPut k s L).length ∧ H' = rowE u 62 2 (jA0 (cPut k s L))) ∨ (jC7 k s (fullQ k L) ≠ 0 ∧ u = .slice A L.length c ∧ H' = [])) := by
 have hcap := hA.cap
 have hle := (cLo_facts k L).1
 obtain ⟨p, hp⟩ : ∃ p, cLo k L = p := ⟨_, rfl⟩
 obtain ⟨q, hq⟩ : ∃ q, p + (if cHas k L then 1 else 0) = q := ⟨_, rfl⟩
 have hql : q ≤ L.length := by
  rw [← hq, ← hp]
  split
  ·rename_i hh
   exact cHas_lt hh
  ·omega
 have hpq : q ≤ p + 1 := by rw [← hq]; split <;> omega
 have hd : cPut k s L = L.take p ++ ⟨k, s⟩ :: L.drop q := by unfold cPut; rw [hp, hq]
 rw [hp] at hle
 refine Fn.enter (N := 55) Tryz.func18 rfl (by kernel_rfl) rfl (fun w0 => ?_)
 refine aR (fun Z hZ => ?_)
 refine jC3 rfl rfl rfl (fun g1 => ?_)
 refine sAl tyZ27 rfl (fun g2 => ?_)
 refine sA rfl rfl <| sN (hZ _ _ ?_)
 refine aF [(1, _), (2, _), (3, _), (6, _)] (kR rfl) ?_
 refine aR (fun Z hZ => ?_)
 refine sLA 1 rfl rfl tyA27 tyS27 rfl (by simp only [qS, Value.cells]; rfl) rfl ?_
 refine sM rfl rfl ?_
 refine jD6 T (place_fn A c L T hA.arg hT hro (by omega) hr k) rfl ((List.sublist_cons_self _ _).trans (List.sublist_cons_self _ _)) hro rfl ?_
 refine sM rfl rfl <| sX rfl rfl rfl <| sX rfl rfl rfl <| sA rfl rfl <| sA rfl rfl <| sN (hZ _ _ ?_)
 refine aF [(1, _), (2, _), (3, _), (6, _), (8, _), (9, _)] (kR rfl) ?_
 rw [hp]
 refine aR fun Z hZ => sM rfl rfl <| sA rfl rfl <| sN (hZ _ _ ?_)
 refine aF [(1, _), (2, _), (3, _), (6, _), (8, _), (9, _), (10, _)] (kR rfl) ?_
 refine awp_cut (ι := Unit) (fun _ => [(1, uq k), (2, .string (str s)), (3, ptr g1 0), (6, ptr g2 0), (8, iq (p : Nat)), (9, .bool (cHas k L)), (10, iq (q : Nat))]) (fun _ => .own g2 27 [.slice none 0 0] :: .own g1 27 [.slice A L.length c] :: T) (fun _ => True) ?_ ?_
 ·refine aR (fun Z hZ => ?_)
  refine sM rfl rfl <| sN (hZ _ _ ?_)
  refine aF [(1, _), (2, _), (3, _), (6, _), (8, _), (9, _), (10, _), (20, _)] (kR rfl) ?_
  refine aC rfl (fun h => ?_) (fun h => ?_)
  ·refine aG (fun Z hZ => ?_)
   refine sM rfl rfl ?_
   refine jB8 rfl rfl ((p + 1 : Nat) : Int) (by rw [IntWalk.i64_in _ (by omega)]; omega) rfl ?_
   refine sA rfl rfl <| sN (hZ _ _ ?_)
   refine nF [(1, _), (2, _), (3, _), (6, _), (8, _), (9, _), (10, _)] (kR rfl) ?_
   exact jG2 () trivial (Kn.cons rfl (Kn.cons rfl (Kn.cons rfl (Kn.cons rfl (Kn.cons rfl (Kn.cons rfl (Kn.cons (by rw [← hq, h]; rfl) Kn.nil))))))) (HLe.refl _)
  ·refine aK ?_
   exact jG2 () trivial (Kn.cons rfl (Kn.cons rfl (Kn.cons rfl (Kn.cons rfl (Kn.cons rfl (Kn.cons rfl (Kn.cons (by rw [← hq, h]; rfl) Kn.nil))))))) (HLe.refl _)
 rintro ⟨⟩ -
 obtain ⟨e, he⟩ : ∃ e, jC7 k s (fullQ k L) = e := ⟨_, rfl⟩
 have hw : ∀ b, b = fullQ k L → Fn Tryz.prog 37 [uq k, .string (str s), .bool b] [] fun v _ => v = iq (e : Nat) := fun b hb => by
  have := wrong_fn k s (fullQ k L)
  rw [he] at this
  rw [hb]
  exact this
 rw [he]
 refine aS ?_
 refine jA7 [(1, uq k), (2, .string (str s)), (3, ptr g1 0), (6, ptr g2 0), (8, iq (p : Nat)), (10, iq (q : Nat)), (11, iq (e : Nat))] (.own g2 27 [.slice none 0 0] :: .own g1 27 [.slice A L.length c] :: T) (fun Z hZ => ?_) ?_
 ·refine sM rfl rfl ?_
  refine sM rfl rfl <| sM rfl rfl ?_
  refine sx_not rfl rfl ?_
  refine sM rfl rfl ?_
  refine jG0 27 rfl (fun hb4 => ?_) (fun hb4 => ?_)
  ·refine sOn rfl rfl rfl ?_
   refine sFA rfl tyF27_0 (by simp only [Nat.add_zero]; rfl) rfl ?_
   refine sOn rfl rfl rfl ?_
   refine sL 1 rfl rfl tyA25 tyS25 rfl rfl ?_
   refine sOn rfl rfl rfl ?_
   refine jD9 Tryz.underlying25 rfl rfl ?_
   refine sOn rfl rfl rfl ?_
   refine sx_geq rfl rfl rfl ?_
   refine sP rfl rfl rfl ?_
   refine sCP (hw _ (by unfold fullQ; simp at hb4; rw [hb4, Bool.eq_iff_iff]; first | (simp; done) | (simp; omega))) rfl rfl ?_
   refine sA rfl rfl ?_
   refine sN (hZ _ _ ?_ ?_)
   ·exact kR rfl
   ·exact HLe.refl _
  ·refine sO rfl rfl rfl rfl rfl ?_
   refine sO rfl rfl rfl rfl rfl ?_
   refine sO rfl rfl rfl rfl rfl ?_
   refine sO rfl rfl rfl rfl rfl ?_
   refine sP rfl rfl rfl ?_
   refine sCP (hw _ (by unfold fullQ; simp at hb4; rw [hb4, Bool.eq_iff_iff]; first | (simp; done) | (simp; omega))) rfl rfl ?_
   refine sA rfl rfl ?_
   refine sN (hZ _ _ ?_ ?_)
   ·exact kR rfl
   ·exact HLe.refl _
 refine aR fun Z hZ => sM rfl rfl ?_
 refine jE5 rfl rfl rfl ?_
 refine sN (hZ _ _ ?_)
 refine aF [(1, _), (2, _), (3, _), (6, _), (8, _), (10, _), (11, _), (35, _)] (kR rfl) ?_
 refine aC rfl (fun h => ?_) (fun h => ?_)
 ·have he' : e ≠ 0 := by simp at h; omega
  refine aR (fun Z hZ => ?_)
  refine sLA 1 rfl rfl tyA27 tyS27 rfl (by simp only [qS]; rfl) rfl ?_
  refine sM rfl rfl ?_
  refine sS 0 rfl rfl rfl tyS27 (by simp only [Value.cells]; rfl) rfl rfl rfl (by simp only [qS, wrV]; rfl) (by simp only [List.set_cons_zero]; rfl) ?_
  refine sA rfl rfl <| sN (hZ _ _ ?_)
  refine aF [(6, _), (7, _)] (kR rfl) ?_
  refine aE ?_
  repeat (with_reducible refine nTR ?_)
  exact jB4 [] rfl (ResOk.cell 0 rfl rfl tyA27 tyS27 rfl) rfl (HLe.sub (List.nil_sublist _)) ⟨_, rfl, .inr ⟨he', rfl, rfl⟩⟩
 have he' : e = 0 := by simp at h; omega
 subst he'
 refine aK ?_
 with_reducible refine nN ?_
 have hrd : ∀ w0 Wr w, Sat w0 Wr T w → Rd w 2 A L.length (jA0 L) := fun w0 Wr w hw => rd_arg hA.arg hT (jF4 L) hA.nil (HLe.refl _) hw
 refine aR (fun Z hZ => ?_)
 refine sFA rfl tyF27_0 (by simp only [Nat.add_zero]; rfl) rfl ?_
 refine sL 1 rfl rfl tyA25 tyS25 rfl rfl ?_
 refine sM rfl rfl <| sM rfl rfl ?_
 refine sx_head3 Tryz.underlying25 tyS62 hA rfl rfl rfl (by omega) rfl ?_
 refine sA rfl rfl <| sN (hZ _ _ ?_)
 refine aF [(1, _), (2, _), (3, _), (6, _), (10, _), (12, _)] (kR rfl) ?_
 have hAp : SlOk A p := by
  rcases hA.ok with ⟨h1, h2⟩ | h1
  ·exact .inl ⟨h1, by omega⟩
  ·exact .inr h1
 rw [hd]
 have hll : (L.take p ++ ⟨k, s⟩ :: L.drop q).length = p + 1 + (L.length - q) := by
  rw [List.length_append, List.length_take, List.length_cons, List.length_drop]
  omega
 rw [hll]
 refine jD0 _ [(0, true), (1, true), (2, true), (3, true), (4, false), (5, false), (6, true), (7, true), (8, true), (9, true), (10, false), (11, true), (12, false), (13, true)] mixed (by kernel_rfl) (HLe.pick [1] (by simp) (by simp only [pick, List.filterMap_cons, qS]; rfl)) (fun Z hZ => ?_)
 refine tw_p rfl ?_
 refine jA3 rfl rfl ?_
 refine vN ?_
 refine tw_p rfl ?_
 refine jA3 rfl rfl ?_
 refine vN ?_
 refine tw_p rfl ?_
 refine jA3 rfl rfl ?_
 refine vN ?_
 refine tw_p rfl ?_
 refine sv_build tyZ62 tyP62 rfl rfl (by simp only [qS, Nat.reduceAdd, Value.cells, wrV]; rfl) rfl ?_
 refine vN ?_
 refine tw_g rfl ?_
 refine sBS Tryz.underlying25 tyS62 tyZ62 rfl rfl rfl rfl (by simp only [qS, Nat.reduceAdd, Value.cells, wrV, Nat.reduceMul, Nat.zero_mul]; rfl) rfl (fun g3 => ?_)
 refine sN ⟨HLe.pick [2] (by simp) rfl, ?_⟩
 refine tw_g rfl ?_
 refine sx_appendCut elemIt hAp rfl rfl (fun w hw => rd_head (hrd _ _ _ (hw.sub (List.sublist_append_right [_, _, _] T))) hle) (fun w hw => rd_own (i := 0) (n := 1) (xs := [uq k, .string (str s)]) rfl rfl hw) (fun h => by cases h) rfl (by omega) (by show _ ≤ 9223372036854775807; omega) (by omega) rfl (fun v1 hv1 => ?_)
 obtain ⟨g4, c4, rfl⟩ := hv1.some (by omega)
 refine jC1 ((_ :: _ :: _ :: T) ++ rowE (.slice (some ⟨g4, 0, none⟩) (p + 1) c4) 62 2 _) (HLe.swap _ _) ?_
 refine sN ⟨HLe.pick [2] (by simp) rfl, ?_⟩
 refine tw_p rfl ?_
 refine jA2 rfl tyF27_0 (by simp only [Nat.add_zero]; rfl) rfl ?_
 refine vN ?_
 refine tw_p rfl ?_
 first | refine jE6 0 rfl rfl tyA25 tyS25 rfl rfl ?_
 refine vN ?_
 refine tw_p rfl ?_
 refine jA3 rfl rfl ?_
 refine vN ?_
 refine tw_p rfl ?_
 refine sv_part (i := q) (j := L.length) Tryz.underlying25 tyS62 hA rfl rfl rfl (by omega) (by omega) rfl (fun A2 hA2 ht2 => ?_)
 refine vN ?_
 refine tw_g rfl ?_
 refine jD2 (_ :: _ :: _ :: T) elemIt rfl hv1 (by rw [List.length_append, List.length_take, jF4]; simp; omega) rfl (fun w hw => rd_part (hrd _ _ _ (hw.sub ((List.sublist_append_right [_, _, _] T).trans (List.sublist_append_left (_ :: _ :: _ :: T) _)))) hA hql (Nat.le_refl _) ht2 hA2) (icells_one _) (by show _ ≤ 9223372036854775807; omega) (by omega) (HLe.refl _) rfl (fun v2 hv2 => ?_)
 obtain ⟨A5, c5, rfl, hA5⟩ := hv2.form
 refine sN ⟨HLe.pick [2] (by simp) rfl, ?_⟩
 refine tw_p rfl ?_
 refine sv_build tyZ27 tyP27 rfl rfl (by simp only [qS, Value.cells, wrV]; rfl) rfl ?_
 refine vN ?_
 refine tw_g rfl ?_
 refine sS 1 rfl rfl rfl tyS27 (by simp only [Value.cells]; rfl) rfl rfl rfl (by simp only [qS, wrV]; rfl) rfl ?_
 refine sN ⟨HLe.pick [2] (by simp) rfl, ?_⟩
 refine tw_p rfl ?_
 refine jD7 rfl rfl ?_
 refine vN ?_
 refine jH2 (hZ _ _ ?_)
 refine aF [(6, _), (7, _)] (kR rfl) ?_
 refine aE ?_
 refine jB4 _ rfl (ResOk.cell 1 rfl rfl tyA27 tyS27 rfl) rfl (HLe.sub (List.sublist_append_right (_ :: _ :: _ :: T) _)) ⟨_, rfl, .inl ⟨rfl, hv2, ?_⟩⟩
 rw [it_take, List.take_of_length_le (show (L.drop q).length ≤ L.length - q by rw [List.length_drop]; exact Nat.le_refl _)]
 simp only [jA0, List.flatMap_append, List.flatMap_cons, List.append_assoc, It.cells, qS]
end Go.Proofs.YtkojkeabelckjaaGreatDoor
namespace Go.Proofs.YtkojkeabelckjaaGreatDoor
open Go.RowKit
def rGet (k : Nat) : List It → Option (List UInt8)
 | [] => none
 | e :: r => if e.id = k then some e.tx else rGet k r
def rDel (k : Nat) (L : List It) : List It := L.filter fun e => decide (e.id ≠ k)
structure Half (k : Nat) (X Y : List It) : Prop where
 ahead : ∀ e ∈ X, e.id < k
 behind : ∀ e ∈ Y, k < e.id
 riseX : Rise X
 riseY : Rise Y
theorem lo_of {k : Nat} : ∀ {X Z : List It}, (∀ e ∈ X, e.id < k) → (∀ e ∈ Z, k ≤ e.id) → cLo k (X ++ Z) = X.length
 | [], [], _, _ => rfl
 | [], e :: r, _, h => by
  have := h e List.mem_cons_self
  rw [List.nil_append, cLo, if_neg (by omega)]
  rfl
 | e :: r, Z, h, h2 => by
  have := h e List.mem_cons_self
  rw [List.cons_append, cLo, if_pos this, lo_of (fun x hx => h x (List.mem_cons_of_mem _ hx)) h2]
  rfl
section
variable {k : Nat} {X Y : List It} {s : List UInt8}
theorem itAt_mid (s : It) : itAt (X ++ s :: Y) X.length = s := by simp [itAt]
theorem Half.lo1 (h : Half k X Y) : cLo k (X ++ ⟨k, s⟩ :: Y) = X.length := lo_of h.ahead fun e he => by
 rcases List.mem_cons.1 he with rfl | he
 ·exact Nat.le_refl _
 ·exact Nat.le_of_lt (h.behind e he)
theorem Half.lo0 (h : Half k X Y) : cLo k (X ++ Y) = X.length := lo_of h.ahead fun e he => Nat.le_of_lt (h.behind e he)
theorem Half.has1 (h : Half k X Y) : cHas k (X ++ ⟨k, s⟩ :: Y) = true := by
 unfold cHas
 rw [h.lo1, itAt_mid]
 simp
theorem Half.has0 (h : Half k X Y) : cHas k (X ++ Y) = false := by
 unfold cHas
 rw [h.lo0]
 cases Y with
 | nil => simp
 | cons y r =>
  have := h.behind y List.mem_cons_self
  rw [itAt_mid]
  simp
  omega
theorem Half.get1 (h : Half k X Y) : cGet k (X ++ ⟨k, s⟩ :: Y) = s := by
 unfold cGet
 rw [h.has1, h.lo1, itAt_mid]
 rfl
theorem Half.get0 (h : Half k X Y) : cGet k (X ++ Y) = [] := by
 unfold cGet
 rw [h.has0]
 rfl
theorem Half.del1 (h : Half k X Y) : cDel k (X ++ ⟨k, s⟩ :: Y) = X ++ Y := by
 unfold cDel
 rw [h.has1, h.lo1, if_pos rfl]
 simp
theorem Half.del0 (h : Half k X Y) : cDel k (X ++ Y) = X ++ Y := by
 unfold cDel
 rw [h.has0]
 rfl
theorem Half.put1 (h : Half k X Y) (t : List UInt8) : cPut k t (X ++ ⟨k, s⟩ :: Y) = X ++ ⟨k, t⟩ :: Y := by
 unfold cPut
 rw [h.has1, h.lo1, if_pos rfl]
 simp
theorem Half.put0 (h : Half k X Y) (t : List UInt8) : cPut k t (X ++ Y) = X ++ ⟨k, t⟩ :: Y := by
 unfold cPut
 rw [h.has0, h.lo0, if_neg (by decide)]
 simp
theorem Half.rise1 (h : Half k X Y) : Rise (X ++ ⟨k, s⟩ :: Y) := by
 refine List.pairwise_append.2 ⟨h.riseX, List.pairwise_cons.2 ⟨fun e he => h.behind e he, h.riseY⟩, fun a ha b hb => ?_⟩
 have h1 := h.ahead a ha
 rcases List.mem_cons.1 hb with rfl | hb
 ·exact h1
 ·have := h.behind b hb
  omega
theorem Half.rise0 (h : Half k X Y) : Rise (X ++ Y) := by
 refine List.pairwise_append.2 ⟨h.riseX, h.riseY, fun a ha b hb => ?_⟩
 have h1 := h.ahead a ha
 have := h.behind b hb
 omega
theorem rGet_app {Z : List It} (h : ∀ e ∈ X, e.id ≠ k) : rGet k (X ++ Z) = rGet k Z := by
 induction X with
 | nil => rfl
 | cons e r ih =>
  rw [List.cons_append, rGet, if_neg (h e List.mem_cons_self)]
  exact ih fun x hx => h x (List.mem_cons_of_mem _ hx)
theorem rGet_none (h : ∀ e ∈ X, e.id ≠ k) : rGet k X = none := by
 have := rGet_app (Z := []) h
 rw [List.append_nil] at this
 exact this
theorem Half.ne (h : Half k X Y) : (∀ e ∈ X, e.id ≠ k) ∧ (∀ e ∈ Y, e.id ≠ k) := ⟨fun e he => Nat.ne_of_lt (h.ahead e he), fun e he => Nat.ne_of_gt (h.behind e he)⟩
theorem Half.rget1 (h : Half k X Y) : rGet k (X ++ ⟨k, s⟩ :: Y) = some s := by
 rw [rGet_app h.ne.1, rGet, if_pos rfl]
theorem Half.rget0 (h : Half k X Y) : rGet k (X ++ Y) = none := by rw [rGet_app h.ne.1, rGet_none h.ne.2]
theorem rDel_app {Z : List It} : rDel k (X ++ Z) = rDel k X ++ rDel k Z := List.filter_append ..
theorem rDel_self (h : ∀ e ∈ X, e.id ≠ k) : rDel k X = X := List.filter_eq_self.2 fun e he => decide_eq_true (h e he)
theorem Half.rdel1 (h : Half k X Y) : rDel k (X ++ ⟨k, s⟩ :: Y) = X ++ Y := by
 have : rDel k (⟨k, s⟩ :: Y) = rDel k Y := by simp [rDel]
 rw [rDel_app, rDel_self h.ne.1, this, rDel_self h.ne.2]
theorem Half.rdel0 (h : Half k X Y) : rDel k (X ++ Y) = X ++ Y := by rw [rDel_app, rDel_self h.ne.1, rDel_self h.ne.2]
end
theorem it_half {L : List It} (hr : Rise L) (k : Nat) : ∃ X Y, Half k X Y ∧ ((∃ s, L = X ++ ⟨k, s⟩ :: Y) ∨ L = X ++ Y) := by
 induction L with
 | nil => exact ⟨[], [], ⟨by simp, by simp, List.Pairwise.nil, List.Pairwise.nil⟩, .inr rfl⟩
 | cons e r ih =>
  obtain ⟨h1, h2⟩ := List.pairwise_cons.1 hr
  rcases Nat.lt_trichotomy e.id k with h | h | h
  ·obtain ⟨X, Y, hh, hl⟩ := ih h2
   have hX : ∀ x ∈ X, x ∈ r := fun x hx => by rcases hl with ⟨s, hl⟩ | hl <;> rw [hl] <;> exact List.mem_append_left _ hx
   refine ⟨e :: X, Y, ⟨fun x hx => ?_, hh.behind, List.pairwise_cons.2 ⟨fun x hx => h1 x (hX x hx), hh.riseX⟩, hh.riseY⟩, ?_⟩
   ·rcases List.mem_cons.1 hx with rfl | hx
    ·exact h
    ·exact hh.ahead x hx
   ·rcases hl with ⟨s, hl⟩ | hl
    ·exact .inl ⟨s, by rw [hl]; rfl⟩
    ·exact .inr (by rw [hl]; rfl)
  ·exact ⟨[], r, ⟨by simp, fun x hx => by have := h1 x hx; omega, List.Pairwise.nil, h2⟩, .inl ⟨e.tx, by rw [← h]; rfl⟩⟩
  ·exact ⟨[], e :: r, ⟨by simp, fun x hx => by
    rcases List.mem_cons.1 hx with rfl | hx
    ·exact h
    ·have := h1 x hx; omega, List.Pairwise.nil, hr⟩, .inr rfl⟩
theorem get_eq {L : List It} (hr : Rise L) (k : Nat) : cHas k L = (rGet k L).isSome ∧ cGet k L = (rGet k L).getD [] := by
 obtain ⟨X, Y, h, ⟨s, rfl⟩ | rfl⟩ := it_half hr k
 ·rw [h.has1, h.get1, h.rget1]; exact ⟨rfl, rfl⟩
 ·rw [h.has0, h.get0, h.rget0]; exact ⟨rfl, rfl⟩
theorem del_rise {L : List It} (hr : Rise L) (k : Nat) : Rise (cDel k L) := by
 obtain ⟨X, Y, h, ⟨s, rfl⟩ | rfl⟩ := it_half hr k
 ·rw [h.del1]; exact h.rise0
 ·rw [h.del0]; exact h.rise0
theorem put_rise {L : List It} (hr : Rise L) (k : Nat) (t : List UInt8) : Rise (cPut k t L) := by
 obtain ⟨X, Y, h, ⟨s, rfl⟩ | rfl⟩ := it_half hr k
 ·rw [h.put1]; exact h.rise1
 ·rw [h.put0]; exact h.rise1
def rPut (k : Nat) (t : List UInt8) (L : List It) : List It := (rDel k L).take (cLo k (rDel k L)) ++ ⟨k, t⟩ :: (rDel k L).drop (cLo k (rDel k L))
theorem put_eq {L : List It} (hr : Rise L) (k : Nat) (t : List UInt8) : cPut k t L = rPut k t L := by
 obtain ⟨X, Y, h, ⟨s, rfl⟩ | rfl⟩ := it_half hr k
 ·rw [h.put1]; unfold rPut; rw [h.rdel1, h.lo0]; simp
 ·rw [h.put0]; unfold rPut; rw [h.rdel0, h.lo0]; simp
theorem put_mem {L : List It} (hr : Rise L) (k : Nat) (t : List UInt8) : ∀ e ∈ cPut k t L, e = ⟨k, t⟩ ∨ e ∈ L := fun e he => by
 unfold cPut at he
 rcases List.mem_append.1 he with he | he
 ·exact .inr (List.mem_of_mem_take he)
 ·rcases List.mem_cons.1 he with rfl | he
  ·exact .inl rfl
  ·exact .inr (List.mem_of_mem_drop he)
theorem del_mem {L : List It} (k : Nat) : ∀ e ∈ cDel k L, e ∈ L := fun e he => by
 unfold cDel at he
 split at he
 ·rcases List.mem_append.1 he with he | he
  ·exact List.mem_of_mem_take he
  ·exact List.mem_of_mem_drop he
 ·exact he
theorem put_len {L : List It} (hr : Rise L) (k : Nat) (t : List UInt8) : (cPut k t L).length = L.length + (if cHas k L then 0 else 1) := by
 obtain ⟨X, Y, h, ⟨s, rfl⟩ | rfl⟩ := it_half hr k
 ·rw [h.put1, h.has1]; simp
 ·rw [h.put0, h.has0]; simp <;> omega
theorem del_len {L : List It} (k : Nat) : (cDel k L).length ≤ L.length := by
 unfold cDel
 split
 ·rw [List.length_append, List.length_take, List.length_drop]; omega
 ·exact Nat.le_refl _
theorem put_bytes {L : List It} (hr : Rise L) (k : Nat) (t : List UInt8) : jD8 (cPut k t L) ≤ jD8 L + t.length := by
 obtain ⟨X, Y, h, ⟨s, rfl⟩ | rfl⟩ := it_half hr k
 ·rw [h.put1]; simp [jD8]; omega
 ·rw [h.put0]; simp [jD8]; omega
structure ChOk (L : List It) : Prop where
 rise : Rise L
 lt : ∀ e ∈ L, e.id < 6004799503160661
 tx : ∀ e ∈ L, e.tx ≠ [] ∧ e.tx.length ≤ 65536
 len : L.length ≤ 2048
theorem ChOk.nil : ChOk [] := ⟨List.Pairwise.nil, fun _ h => (by cases h), fun _ h => (by cases h), by simp⟩
theorem ChOk.put {L : List It} (h : ChOk L) {k : Nat} {s : List UInt8} (hw : jC7 k s (fullQ k L) = 0) : ChOk (cPut k s L) := by
 have hw' := hw
 unfold jC7 at hw'
 repeat' split at hw'
 all_goals first | omega | skip
 rename_i h1 h2 h3 h4
 refine ⟨put_rise h.rise k s, fun e he => ?_, fun e he => ?_, ?_⟩
 ·rcases put_mem h.rise k s e he with rfl | he
  ·show k < _; omega
  ·exact h.lt e he
 ·rcases put_mem h.rise k s e he with rfl | he
  ·exact ⟨h2, by show s.length ≤ _; omega⟩
  ·exact h.tx e he
 ·rw [put_len h.rise]
  have := h.len
  unfold fullQ at h4
  cases hc : cHas k L with
  | true => simp; omega
  | false =>
   rw [hc] at h4
   simp at h4 ⊢
   omega
theorem ChOk.del {L : List It} (h : ChOk L) (k : Nat) : ChOk (cDel k L) := ⟨del_rise h.rise k, fun e he => h.lt e (del_mem k e he), fun e he => h.tx e (del_mem k e he), Nat.le_trans (del_len k) h.len⟩
end Go.Proofs.YtkojkeabelckjaaGreatDoor
namespace Go.Proofs.YtkojkeabelckjaaGreatDoor
open Go.RowKit
theorem rget_fn (A : Option Addr) (c : Nat) (L : List It) (T : Heap) (hA : jH1 A L.length) (hT : 0 < L.length → T = roE A (jA0 L)) (hL : L.length ≤ 1000000) (k : Nat) :
  Fn Tryz.prog 43 [.slice A L.length c, uq k] T fun v _ => v = .tuple #[.string (str ((rGet k L).getD [])), .bool (rGet k L).isSome] := by
 refine Fn.enter (N := 25) Tryz.func43 rfl (by kernel_rfl) rfl (fun w0 => ?_)
 refine aR fun Z hZ => sA rfl rfl <| sA rfl rfl <| sN (hZ _ _ ?_)
 refine aF [(0, _), (1, _)] (kR rfl) ?_
 refine aS ?_
 refine aR fun Z hZ => sA rfl rfl <| sN (hZ _ _ ?_)
 refine aF [(0, _), (1, _), (6, _)] (kR rfl) ?_
 refine aB ?_
 refine jB6 (ι := Nat) (fun i => [(0, .slice A L.length c), (1, uq k), (6, iq (i : Nat))]) (fun _ => T)
  (fun i => i ≤ L.length ∧ rGet k (L.drop i) = rGet k L) (fun i => L.length - i) 0 ⟨by simp, rfl⟩ (kR rfl) (HLe.refl _) ?_
 rintro i ⟨hi, hq⟩
 refine aS ?_
 refine aR fun Z hZ => sM rfl rfl <| sM rfl rfl ?_
 refine jD9 Tryz.underlying22 rfl rfl ?_
 refine jC4 rfl rfl rfl ?_
 refine sN (hZ _ _ ?_)
 refine aF [(0, _), (1, _), (6, _), (10, _)] (kR rfl) ?_
 refine aC rfl (fun h => ?_) (fun h => ?_)
 ·have hlt : i < L.length := by simpa using h
  have hx := itAt_at hlt
  obtain ⟨x, hxe⟩ : ∃ x, itAt L i = x := ⟨_, rfl⟩
  rw [hxe] at hx
  have hdr : L.drop i = x :: L.drop (i + 1) := by rw [List.drop_eq_getElem_cons hlt]; congr 1; exact (List.getElem?_eq_some_iff.1 hx).2
  rw [hdr, rGet] at hq
  obtain ⟨g, o, rfl⟩ := hA (by omega)
  obtain rfl := hT (by omega)
  refine aK ?_
  with_reducible refine nN ?_
  refine aS (aB ?_)
  refine aR fun Z hZ => sM rfl rfl <| sM rfl rfl ?_
  refine jA6 (o + i * 2) Tryz.underlying22 tyS60 rfl rfl (by omega) (by simp) rfl ?_
  refine sFA rfl tyF60_0 (by simp only [Nat.add_zero]; rfl) rfl ?_
  refine jD5 0 rfl rfl (i * 2) rfl tyA45 tyS45 (jF1 hx) rfl ?_
  refine sM rfl rfl ?_
  refine jC8 rfl rfl rfl ?_
  refine sN (hZ _ _ ?_)
  refine aF [(0, _), (1, _), (6, _), (19, _)] (kR rfl) ?_
  refine aC rfl (fun h1 => ?_) (fun h1 => ?_)
  ·have he : x.id = k := by simp at h1; omega
   rw [if_pos he] at hq
   rw [← hq]
   refine aR fun Z hZ => sM rfl rfl <| sM rfl rfl ?_
   refine jA6 (o + i * 2) Tryz.underlying22 tyS60 rfl rfl (by omega) (by simp) rfl ?_
   refine sFA rfl tyF60_1 rfl rfl ?_
   refine jD5 0 rfl rfl (i * 2 + 1) rfl tyA9 tyS9 (icells_tx hx) rfl ?_
   refine sA rfl rfl <| sA rfl rfl <| sN (hZ _ _ ?_)
   refine aF [(4, _), (5, _)] (kR rfl) ?_
   refine aE ?_
   repeat (with_reducible (first | refine nTR ?_ | refine nBR ?_))
   exact jF9 rfl rfl rfl rfl
  have he : x.id ≠ k := by simp at h1; omega
  rw [if_neg he] at hq
  refine aK ?_
  repeat (with_reducible refine nBN ?_)
  with_reducible refine nN ?_
  refine aG (fun Z hZ => ?_)
  refine sM rfl rfl ?_
  refine jB8 rfl rfl ((i + 1 : Nat) : Int) (by rw [IntWalk.i64_in _ (by omega)]; omega) rfl ?_
  refine sA rfl rfl <| sN (hZ _ _ ?_)
  refine nF [(0, _), (1, _), (6, _)] (kR rfl) ?_
  exact jB5 (i + 1) ⟨by omega, hq⟩ (by omega) (kR rfl) (HLe.refl _)
 ·refine jB1 ?_
  repeat (with_reducible refine nTE ?_)
  with_reducible refine nBE ?_
  with_reducible refine nN ?_
  have hke : i = L.length := by simp at h; omega
  subst hke
  rw [List.drop_length, rGet] at hq
  rw [← hq]
  refine aR fun Z hZ => sA rfl rfl <| sA rfl rfl <| sN (hZ _ _ ?_)
  refine aF [(4, _), (5, _)] (kR rfl) ?_
  refine aE ?_
  exact jF9 rfl rfl rfl rfl
theorem rdel_fn (A : Option Addr) (c : Nat) (L : List It) (T : Heap) (hA : jH1 A L.length) (hT : 0 < L.length → T = roE A (jA0 L)) (hro : Ro T) (hL : L.length ≤ 100000) (k : Nat) :
  Fn Tryz.prog 44 [.slice A L.length c, uq k] T fun v H' => RowOk v (rDel k L).length ∧ H' = rowE v 60 2 (jA0 (rDel k L)) := by
 refine Fn.enter (N := 28) Tryz.func44 rfl (by kernel_rfl) rfl (fun w0 => ?_)
 refine aR fun Z hZ => sA rfl rfl <| sN (hZ _ _ ?_)
 refine aF [(0, _), (1, _)] (kR rfl) ?_
 refine aR fun Z hZ => sA rfl rfl <| sN (hZ _ _ ?_)
 refine aF [(0, _), (1, _), (5, _)] (kR rfl) ?_
 refine aS ?_
 refine aR fun Z hZ => sA rfl rfl <| sN (hZ _ _ ?_)
 refine aF [(0, _), (1, _), (5, _), (6, _)] (kR rfl) ?_
 refine aB ?_
 refine jB6 (ι := Nat × Value) (fun i => [(0, .slice A L.length c), (1, uq k), (5, i.2), (6, iq (i.1 : Nat))]) (fun i => T ++ rowE i.2 60 2 (jA0 (rDel k (L.take i.1))))
  (fun i => i.1 ≤ L.length ∧ RowOk i.2 (rDel k (L.take i.1)).length) (fun i => L.length - i.1) (0, .slice none 0 0) ⟨by simp, RowOk.nil⟩ (kR rfl) (by simp [rowE]; exact HLe.refl _) ?_
 rintro ⟨i, v⟩ ⟨hi, hv⟩
 simp only at hi hv
 refine aS ?_
 refine aR fun Z hZ => sM rfl rfl <| sM rfl rfl ?_
 refine jD9 Tryz.underlying22 rfl rfl ?_
 refine jC4 rfl rfl rfl ?_
 refine sN (hZ _ _ ?_)
 refine aF [(0, _), (1, _), (5, _), (6, _), (10, _)] (kR rfl) ?_
 refine aC rfl (fun h => ?_) (fun h => ?_)
 ·have hlt : i < L.length := by simpa using h
  have hx := itAt_at hlt
  obtain ⟨x, hxe⟩ : ∃ x, itAt L i = x := ⟨_, rfl⟩
  rw [hxe] at hx
  have hfl : (rDel k (L.take i)).length ≤ i := by
   refine Nat.le_trans (List.length_filter_le _ _) ?_
   rw [List.length_take]
   omega
  have htk : rDel k (L.take (i + 1)) = rDel k (L.take i) ++ (if x.id ≠ k then [x] else []) := by
   unfold rDel
   rw [List.take_add_one, hx, List.filter_append]
   congr 1
   simp only [Option.toList, List.filter_cons, List.filter_nil]
   by_cases hc : x.id = k <;> simp [hc]
  obtain ⟨g, o, rfl⟩ := hA (by omega)
  obtain rfl := hT (by omega)
  refine aK ?_
  with_reducible refine nN ?_
  refine awp_cut (ι := Value) (fun v => [(0, .slice (some ⟨g, o, none⟩) L.length c), (1, uq k), (5, v), (6, iq (i : Nat))]) (fun v => [.ro g o (jA0 L)] ++ rowE v 60 2 (jA0 (rDel k (L.take (i + 1))))) (fun v => RowOk v (rDel k (L.take (i + 1))).length) ?_ ?_
  ·refine aB ?_
   refine aR fun Z hZ => sM rfl rfl <| sM rfl rfl ?_
   refine jA6 (o + i * 2) Tryz.underlying22 tyS60 rfl rfl (by omega) (by simp) rfl ?_
   refine sFA rfl tyF60_0 (by simp only [Nat.add_zero]; rfl) rfl ?_
   refine jD5 0 rfl rfl (i * 2) rfl tyA45 tyS45 (jF1 hx) rfl ?_
   refine sM rfl rfl ?_
   refine jE5 rfl rfl rfl ?_
   refine sN (hZ _ _ ?_)
   refine aF [(0, _), (1, _), (5, _), (6, _), (19, _)] (kR rfl) ?_
   refine aC rfl (fun h1 => ?_) (fun h1 => ?_)
   ·have hp : x.id ≠ k := by simp at h1; omega
    rw [if_pos hp] at htk
    refine aG (fun Z hZ => ?_)
    refine sM rfl rfl <| sM rfl rfl <| sM rfl rfl ?_
    refine jA6 (o + i * 2) Tryz.underlying22 tyS60 rfl rfl (by omega) (by simp) rfl ?_
    refine jD5 0 rfl rfl (i * 2) rfl tyA60 tyS60 (icells_all hx) rfl ?_
    refine sBS Tryz.underlying22 tyS60 tyZ60 rfl rfl rfl rfl (by simp only [qS, Nat.reduceAdd, Value.cells, wrV, Nat.reduceMul, Nat.zero_mul]; rfl) rfl (fun g1 => ?_)
    refine jD2 [_, _] elemItR rfl hv (jF4 _) rfl (fun w hw => rd_own (i := 0) (xs := x.cells) rfl rfl hw) rfl (by show _ ≤ 9223372036854775807; omega) (by omega) (HLe.refl _) rfl (fun v2 hv2 => ?_)
    refine sA rfl rfl <| sN (hZ _ _ ?_)
    refine nF [(0, _), (1, _), (5, _), (6, _)] (kR rfl) ?_
    repeat (with_reducible refine nBN ?_)
    refine jG2 v2 (by rw [htk]; simpa using hv2) (kR rfl) ?_
    rw [htk, show jA0 (rDel k (L.take i) ++ [x]) = jA0 (rDel k (L.take i)) ++ x.cells from fm_snoc _ _]
    exact HLe.drop 1 rfl
   ·have hp : x.id = k := by simp at h1; omega
    rw [if_neg (by simpa using hp), List.append_nil] at htk
    refine aK ?_
    repeat (with_reducible refine nBN ?_)
    refine jG2 v (by rw [htk]; exact hv) (kR rfl) ?_
    rw [htk]
    exact HLe.refl _
  ·rintro v2 hv2
   refine aG (fun Z hZ => ?_)
   refine sM rfl rfl ?_
   refine jB8 rfl rfl ((i + 1 : Nat) : Int) (by rw [IntWalk.i64_in _ (by omega)]; omega) rfl ?_
   refine sA rfl rfl <| sN (hZ _ _ ?_)
   refine nF [(0, _), (1, _), (5, _), (6, _)] (kR rfl) ?_
   exact jB5 (i + 1, v2) ⟨by show i + 1 ≤ _; omega, hv2⟩ (by simp; omega) (kR rfl) (HLe.refl _)
 ·refine jB1 ?_
  repeat (with_reducible refine nTE ?_)
  with_reducible refine nBE ?_
  with_reducible refine nN ?_
  have hke : i = L.length := by simp at h; omega
  subst hke
  rw [List.take_length] at hv ⊢
  refine aR fun Z hZ => sM rfl rfl <| sA rfl rfl <| sN (hZ _ _ ?_)
  refine aF [(4, _)] (Kn.cons rfl (Kn.nil)) ?_
  refine aE ?_
  exact jD4 _ rfl rfl (HLe.sub (List.sublist_append_right _ _)) ⟨hv, rfl⟩
end Go.Proofs.YtkojkeabelckjaaGreatDoor
namespace Go.Proofs.YtkojkeabelckjaaGreatDoor
open Go.RowKit
def rfullQ (k : Nat) (L : List It) : Bool := !(rGet k L).isSome && decide (2048 ≤ L.length)
theorem rdel_len (k : Nat) (L : List It) : (rDel k L).length ≤ L.length := List.length_filter_le _ _
theorem rput_fn (A : Option Addr) (c : Nat) (L : List It) (T : Heap) (hA : jH1 A L.length) (hT : 0 < L.length → T = roE A (jA0 L)) (hro : Ro T) (hL : L.length ≤ 100000) (k : Nat) (s : List UInt8) :
  Fn Tryz.prog 19 [.slice A L.length c, uq k, .string (str s)] T fun v H' => ∃ u, v = .tuple #[u, iq (jC7 k s (rfullQ k L))] ∧ ((jC7 k s (rfullQ k L) = 0 ∧ RowOk u (rPut k s L).length ∧ H' = rowE u 60 2 (jA0 (rPut k s L))) ∨ (jC7 k s (rfullQ k L) ≠ 0 ∧ u = .slice A L.length c ∧ H' = [])) := by
 refine Fn.enter (N := 72) Tryz.func19 rfl (by kernel_rfl) rfl (fun w0 => ?_)
 refine aR fun Z hZ => sA rfl rfl <| sA rfl rfl <| sN (hZ _ _ ?_)
 refine aF [(0, _), (1, _), (2, _)] (kR rfl) ?_
 refine aS ?_
 refine aR fun Z hZ => sM rfl rfl ?_
 refine sx_geq rfl rfl rfl ?_
 refine sN (hZ _ _ ?_)
 refine aF [(0, _), (1, _), (2, _), (14, _)] (kR rfl) ?_
 refine aC rfl (fun h => ?_) (fun h => ?_)
 ·have h' : 6004799503160661 ≤ k := by simp at h; omega
  have hw : jC7 k s (rfullQ k L) = 8 := by unfold jC7; rw [if_pos h']
  rw [hw]
  refine aR fun Z hZ => sM rfl rfl <| sA rfl rfl <| sA rfl rfl <| sN (hZ _ _ ?_)
  refine aF [(6, _), (7, _)] (kR rfl) ?_
  refine aE ?_
  repeat (with_reducible refine nTR ?_)
  exact jB4 [] rfl rfl rfl (HLe.sub (List.nil_sublist _)) ⟨_, rfl, .inr ⟨by decide, rfl, rfl⟩⟩
 have h' : ¬ 6004799503160661 ≤ k := by simp at h; omega
 refine aK ?_
 with_reducible refine nN ?_
 refine aS ?_
 refine aR fun Z hZ => sM rfl rfl ?_
 refine jF0 Tryz.underlying9 rfl rfl ?_
 refine jC8 rfl rfl rfl ?_
 refine sN (hZ _ _ ?_)
 refine aF [(0, _), (1, _), (2, _), (18, _)] (kR rfl) ?_
 refine aC rfl (fun h1 => ?_) (fun h1 => ?_)
 ·have h1' : s = [] := by simpa using h1
  have hw : jC7 k s (rfullQ k L) = 2 := by unfold jC7; rw [if_neg h', if_pos h1']
  rw [hw]
  refine aR fun Z hZ => sM rfl rfl <| sA rfl rfl <| sA rfl rfl <| sN (hZ _ _ ?_)
  refine aF [(6, _), (7, _)] (kR rfl) ?_
  refine aE ?_
  repeat (with_reducible refine nTR ?_)
  exact jB4 [] rfl rfl rfl (HLe.sub (List.nil_sublist _)) ⟨_, rfl, .inr ⟨by decide, rfl, rfl⟩⟩
 have h1' : ¬ s = [] := by simpa using h1
 refine aK ?_
 with_reducible refine nN ?_
 refine aS ?_
 refine aR fun Z hZ => sM rfl rfl ?_
 refine jF0 Tryz.underlying9 rfl rfl ?_
 refine jF3 rfl rfl rfl ?_
 refine sN (hZ _ _ ?_)
 refine aF [(0, _), (1, _), (2, _), (22, _)] (kR rfl) ?_
 refine aC rfl (fun h2 => ?_) (fun h2 => ?_)
 ·have h2' : 65536 < s.length := by simp at h2; omega
  have hw : jC7 k s (rfullQ k L) = 5 := by unfold jC7; rw [if_neg h', if_neg h1', if_pos h2']
  rw [hw]
  refine aR fun Z hZ => sM rfl rfl <| sA rfl rfl <| sA rfl rfl <| sN (hZ _ _ ?_)
  refine aF [(6, _), (7, _)] (kR rfl) ?_
  refine aE ?_
  repeat (with_reducible refine nTR ?_)
  exact jB4 [] rfl rfl rfl (HLe.sub (List.nil_sublist _)) ⟨_, rfl, .inr ⟨by decide, rfl, rfl⟩⟩
 have h2' : ¬ 65536 < s.length := by simp at h2; omega
 refine aK ?_
 with_reducible refine nN ?_
 refine aR fun Z hZ => sM rfl rfl <| sM rfl rfl ?_
 refine jD6 T (rget_fn A c L T hA hT (by omega) k) rfl (List.Sublist.refl _) hro rfl ?_
 refine sM rfl rfl <| sX rfl rfl rfl <| sX rfl rfl rfl <| sA rfl rfl <| sA rfl rfl <| sN (hZ _ _ ?_)
 refine aF [(0, _), (1, _), (2, _), (9, _)] (kR rfl) ?_
 refine aS ?_
 refine jA7 [(0, .slice A L.length c), (1, uq k), (2, .string (str s)), (36, .bool (rfullQ k L))] T (fun Z hZ => ?_) ?_
 ·refine sM rfl rfl ?_
  refine sx_not rfl rfl ?_
  refine sM rfl rfl ?_
  refine jG0 32 rfl (fun hb2 => ?_) (fun hb2 => ?_)
  ·refine sOn rfl rfl rfl ?_
   refine sM rfl rfl ?_
   refine sOn rfl rfl rfl ?_
   refine jD9 Tryz.underlying22 rfl rfl ?_
   refine sOn rfl rfl rfl ?_
   refine sx_geq rfl rfl rfl ?_
   refine sP rfl rfl rfl ?_
   refine sN (hZ _ _ ?_ ?_)
   ·exact Kn.cons rfl (Kn.cons rfl (Kn.cons rfl (Kn.cons (congrArg some (congrArg Value.bool (by unfold rfullQ; simp at hb2; rw [hb2, Bool.eq_iff_iff]; first | (simp; done) | (simp; omega)))) Kn.nil)))
   ·exact HLe.refl _
  ·refine sO rfl rfl rfl rfl rfl ?_
   refine sO rfl rfl rfl rfl rfl ?_
   refine sO rfl rfl rfl rfl rfl ?_
   refine sP rfl rfl rfl ?_
   refine sN (hZ _ _ ?_ ?_)
   ·exact Kn.cons rfl (Kn.cons rfl (Kn.cons rfl (Kn.cons (congrArg some (congrArg Value.bool (by unfold rfullQ; simp at hb2; rw [hb2, Bool.eq_iff_iff]; first | (simp; done) | (simp; omega)))) Kn.nil)))
   ·exact HLe.refl _
 refine aC rfl (fun h3 => ?_) (fun h3 => ?_)
 ·have hw : jC7 k s (rfullQ k L) = 7 := by unfold jC7; rw [if_neg h', if_neg h1', if_neg h2', if_pos h3]
  rw [hw]
  refine aR fun Z hZ => sM rfl rfl <| sA rfl rfl <| sA rfl rfl <| sN (hZ _ _ ?_)
  refine aF [(6, _), (7, _)] (kR rfl) ?_
  refine aE ?_
  repeat (with_reducible refine nTR ?_)
  exact jB4 [] rfl rfl rfl (HLe.sub (List.nil_sublist _)) ⟨_, rfl, .inr ⟨by decide, rfl, rfl⟩⟩
 have hw : jC7 k s (rfullQ k L) = 0 := by unfold jC7; rw [if_neg h', if_neg h1', if_neg h2', h3]; rfl
 rw [hw]
 have hdl := rdel_len k L
 obtain ⟨D, hD⟩ : ∃ D, rDel k L = D := ⟨_, rfl⟩
 have hpt : rPut k s L = D.take (cLo k D) ++ ⟨k, s⟩ :: D.drop (cLo k D) := by unfold rPut; rw [hD]
 have hdf := rdel_fn A c L T hA hT hro hL k
 rw [hD] at hdl hdf
 rw [hpt]
 obtain ⟨f1, f2, f3⟩ := cLo_facts k D
 refine aK ?_
 with_reducible refine nN ?_
 refine aR fun Z hZ => sM rfl rfl <| sM rfl rfl ?_
 refine sx_callI T hdf rfl (List.Sublist.refl _) hro rfl (fun A1 c1 hA1 => ?_)
 refine sA rfl rfl <| sN (hZ _ _ ?_)
 refine aF [(1, _), (2, _), (10, _)] (kR rfl) ?_
 refine jA8 (roE A1 (jA0 D)) (HLe.sub (List.sublist_append_left _ _)) ?_
 refine aR fun Z hZ => sA rfl rfl <| sN (hZ _ _ ?_)
 refine aF [(1, _), (2, _), (10, _), (11, _)] (kR rfl) ?_
 refine awp_cut (ι := Unit) (fun _ => [(1, uq k), (2, .string (str s)), (10, .slice A1 D.length c1), (11, iq (cLo k D : Nat))]) (fun _ => roE A1 (jA0 D)) (fun _ => True) ?_ ?_
 ·refine aB ?_
  refine jB6 (ι := Nat) (fun i => [(1, uq k), (2, .string (str s)), (10, .slice A1 D.length c1), (11, iq (i : Nat))]) (fun _ => roE A1 (jA0 D))
   (fun i => i ≤ D.length ∧ ∀ j, j < i → (itAt D j).id < k) (fun i => D.length - i) 0 ⟨by simp, fun j hj => by omega⟩ (kR rfl) (HLe.refl _) ?_
  rintro i ⟨hi, hj⟩
  rcases Nat.lt_or_ge i D.length with hlt | hge
  ·have hx := itAt_at hlt
   obtain ⟨g, o, rfl⟩ := hA1.arg (by omega)
   refine jA8 [.ro g o (jA0 D)] (HLe.refl _) ?_
   refine aS ?_
   refine jA7 [(1, uq k), (2, .string (str s)), (10, .slice (some ⟨g, o, none⟩) D.length c1), (11, iq (i : Nat)), (53, .bool (decide ((itAt D i).id < k)))] [.ro g o (jA0 D)] (fun Z hZ => ?_) ?_
   ·refine sM rfl rfl ?_
    refine sM rfl rfl ?_
    refine jD9 Tryz.underlying22 rfl rfl ?_
    refine jC4 rfl rfl rfl ?_
    refine sM rfl rfl ?_
    refine jF8 45 rfl true (by simpa using hlt) ?_
    refine sOn rfl rfl rfl ?_
    refine sM rfl rfl ?_
    refine sOn rfl rfl rfl ?_
    refine sM rfl rfl ?_
    refine sOn rfl rfl rfl ?_
    refine jA6 (o + i * 2) Tryz.underlying22 tyS60 rfl rfl (by omega) (by simp) rfl ?_
    refine sOn rfl rfl rfl ?_
    refine sFA rfl tyF60_0 (by simp only [Nat.add_zero]; rfl) rfl ?_
    refine sOn rfl rfl rfl ?_
    refine jD5 0 rfl rfl (i * 2) rfl tyA45 tyS45 (jF1 hx) rfl ?_
    refine sOn rfl rfl rfl ?_
    refine sM rfl rfl ?_
    refine sOn rfl rfl rfl ?_
    refine jC4 rfl rfl rfl ?_
    refine sP rfl rfl rfl ?_
    refine sN (hZ _ _ ?_ ?_)
    ·exact Kn.cons rfl (Kn.cons rfl (Kn.cons rfl (Kn.cons rfl (Kn.cons (congrArg some (congrArg Value.bool (by first | rfl | (simp; done) | (rw [Bool.eq_iff_iff]; simp)))) Kn.nil))))
    ·exact HLe.refl _
   refine aC rfl (fun h4 => ?_) (fun h4 => ?_)
   ·have h4' : (itAt D i).id < k := by simpa using h4
    refine aK ?_
    with_reducible refine nN ?_
    refine aB ?_
    refine aG (fun Z hZ => ?_)
    refine sM rfl rfl ?_
    refine jB8 rfl rfl ((i + 1 : Nat) : Int) (by rw [IntWalk.i64_in _ (by omega)]; omega) rfl ?_
    refine sA rfl rfl <| sN (hZ _ _ ?_)
    refine nF [(1, _), (2, _), (10, _), (11, _)] (kR rfl) ?_
    repeat (with_reducible refine nBN ?_)
    refine jB5 (i + 1) ⟨by omega, fun j hj2 => ?_⟩ (by omega) (kR rfl) (HLe.refl _)
    rcases Nat.lt_or_ge j i with h5 | h5
    ·exact hj j h5
    ·obtain rfl : j = i := by omega
     exact h4'
   ·have h4' : ¬ (itAt D i).id < k := by simpa using h4
    have he := cLo_eq k D i hi hj (fun _ => by omega)
    refine jB1 ?_
    repeat (with_reducible refine nTE ?_)
    with_reducible refine nBE ?_
    exact jG2 () trivial (Kn.cons rfl (Kn.cons rfl (Kn.cons rfl (Kn.cons (by rw [he]; rfl) Kn.nil)))) (HLe.refl _)
  ·have he := cLo_eq k D i hi hj (fun h => by omega)
   refine aS ?_
   refine jA7 [(1, uq k), (2, .string (str s)), (10, .slice A1 D.length c1), (11, iq (i : Nat)), (53, .bool false)] (roE A1 (jA0 D)) (fun Z hZ => ?_) ?_
   ·refine sM rfl rfl ?_
    refine sM rfl rfl ?_
    refine jD9 Tryz.underlying22 rfl rfl ?_
    refine jC4 rfl rfl rfl ?_
    refine sM rfl rfl ?_
    refine jF8 45 rfl false (by simpa using hge) ?_
    refine sO rfl rfl rfl rfl rfl ?_
    refine sO rfl rfl rfl rfl rfl ?_
    refine sO rfl rfl rfl rfl rfl ?_
    refine sO rfl rfl rfl rfl rfl ?_
    refine sO rfl rfl rfl rfl rfl ?_
    refine sO rfl rfl rfl rfl rfl ?_
    refine sO rfl rfl rfl rfl rfl ?_
    refine sP rfl rfl rfl ?_
    refine sN (hZ _ _ ?_ ?_)
    ·exact kR rfl
    ·exact HLe.refl _
   refine aC rfl (fun h4 => ?_) (fun h4 => ?_)
   ·cases h4
   ·refine jB1 ?_
    repeat (with_reducible refine nTE ?_)
    with_reducible refine nBE ?_
    exact jG2 () trivial (Kn.cons rfl (Kn.cons rfl (Kn.cons rfl (Kn.cons (by rw [he]; rfl) Kn.nil)))) (HLe.refl _)
 rintro ⟨⟩ -
 obtain ⟨p, hp⟩ : ∃ p, cLo k D = p := ⟨_, rfl⟩
 rw [hp] at f1 ⊢
 have hcap := hA1.cap
 have hrd : ∀ w0 Wr w, Sat w0 Wr (roE A1 (jA0 D)) w → Rd w 2 A1 D.length (jA0 D) := fun w0 Wr w hw => rd_arg hA1.arg (fun _ => rfl) (jF4 D) hA1.nil (HLe.refl _) hw
 refine aR fun Z hZ => sA rfl rfl <| sN (hZ _ _ ?_)
 refine aF [(1, _), (2, _), (10, _), (11, _), (12, _)] (kR rfl) ?_
 refine aR fun Z hZ => sM rfl rfl <| sM rfl rfl <| sM rfl rfl ?_
 refine sx_part (i := 0) (j := p) Tryz.underlying22 tyS60 hA1 rfl rfl rfl (by omega) (by omega) rfl (fun A2 hA2 ht2 => ?_)
 refine jD2 (v := .slice none 0 0) (xs := []) (roE A1 (jA0 D)) elemItR rfl RowOk.nil rfl rfl (fun w hw => rd_part (hrd _ _ _ hw) hA1 (Nat.zero_le p) f1 ht2 hA2) (icells_one _) (by show _ ≤ 9223372036854775807; omega) (by omega) (by rw [show rowE (.slice none 0 0) 60 2 [] = [] from rfl, List.append_nil]; exact HLe.refl _) rfl (fun v1 hv1 => ?_)
 rw [List.drop_zero, Nat.sub_zero, List.nil_append]
 rw [Nat.sub_zero, Nat.zero_add] at hv1
 refine sA rfl rfl <| sN (hZ _ _ ?_)
 refine aF [(1, _), (2, _), (10, _), (11, _), (12, _)] (kR rfl) ?_
 refine aR fun Z hZ => sM rfl rfl <| sM rfl rfl <| sM rfl rfl ?_
 refine jD1 tyZ60 tyP60 rfl rfl (by simp only [qS, Nat.reduceAdd, Value.cells, wrV]; rfl) rfl ?_
 refine sBS Tryz.underlying22 tyS60 tyZ60 rfl rfl rfl rfl (by simp only [qS, Nat.reduceAdd, Value.cells, wrV, Nat.reduceMul, Nat.zero_mul]; rfl) rfl (fun g1 => ?_)
 refine jD2 (_ :: roE A1 (jA0 D)) elemItR rfl hv1 (by rw [jF4, List.length_take]; omega) rfl (fun w hw => rd_own (i := 0) (n := 1) (xs := [uq k, .string (str s)]) rfl rfl hw) rfl (by show _ ≤ 9223372036854775807; omega) (by omega) (HLe.refl _) rfl (fun v2 hv2 => ?_)
 refine sA rfl rfl <| sN (hZ _ _ ?_)
 refine aF [(10, _), (11, _), (12, _)] (kR rfl) ?_
 refine aR fun Z hZ => sM rfl rfl <| sM rfl rfl <| sM rfl rfl ?_
 refine sx_part (i := p) (j := D.length) Tryz.underlying22 tyS60 hA1 rfl rfl rfl (by omega) (by omega) rfl (fun A3 hA3 ht3 => ?_)
 refine jD2 (_ :: roE A1 (jA0 D)) elemItR rfl hv2 (by rw [List.length_append, jF4, List.length_take]; simp; omega) rfl (fun w hw => rd_part (hrd _ _ _ (hw.sub ((List.sublist_cons_self _ _).trans (List.sublist_append_left (_ :: roE A1 (jA0 D)) _)))) hA1 f1 (Nat.le_refl _) ht3 hA3) (icells_one _) (by show _ ≤ 9223372036854775807; omega) (by omega) (HLe.refl _) rfl (fun v3 hv3 => ?_)
 refine sA rfl rfl <| sA rfl rfl <| sN (hZ _ _ ?_)
 refine aF [(6, _), (7, _)] (kR rfl) ?_
 refine aE ?_
 have hll : (D.take p ++ ⟨k, s⟩ :: D.drop p).length = p + 1 + (D.length - p) := by
  rw [List.length_append, List.length_take, List.length_cons, List.length_drop]
  omega
 refine jB4 _ rfl rfl rfl (HLe.sub (List.sublist_append_right (_ :: roE A1 (jA0 D)) _)) ⟨_, rfl, .inl ⟨rfl, by rw [hll]; exact hv3, ?_⟩⟩
 rw [List.take_of_length_le (show (D.drop p).length ≤ D.length - p by rw [List.length_drop]; exact Nat.le_refl _)]
 simp only [jA0, List.flatMap_append, List.flatMap_cons, List.append_assoc, It.cells, qS]
end Go.Proofs.YtkojkeabelckjaaGreatDoor
namespace Go.Proofs.YtkojkeabelckjaaGreatDoor
open Go.RowKit
def ofE : List Nat → List It → Nat
 | _, [] => 0
 | seen, e :: r => if e.id ∈ seen then 22 else if jC7 e.id e.tx (decide (2048 ≤ seen.length)) ≠ 0 then jC7 e.id e.tx (decide (2048 ≤ seen.length)) else ofE (seen ++ [e.id]) r
def ofQ (L : List It) : Nat := ofE [] L
def sortI (L : List It) : List It := L.foldl (fun acc e => cPut e.id e.tx acc) []
def idsI (L : List It) : List Nat := L.map fun e => e.id
theorem sortI_snoc (L : List It) (x : It) : sortI (L ++ [x]) = cPut x.id x.tx (sortI L) := by simp [sortI]
theorem put_perm {L : List It} (hr : Rise L) {k : Nat} (t : List UInt8) (h : cHas k L = false) : (cPut k t L).Perm (L ++ [⟨k, t⟩]) := by
 obtain ⟨X, Y, hh, ⟨s, rfl⟩ | rfl⟩ := it_half hr k
 ·rw [hh.has1] at h; cases h
 ·rw [hh.put0]
  exact (List.perm_middle).trans (List.perm_append_singleton _ _).symm
theorem has_mem {L : List It} (hr : Rise L) (k : Nat) : cHas k L = true ↔ k ∈ idsI L := by
 obtain ⟨X, Y, hh, ⟨s, rfl⟩ | rfl⟩ := it_half hr k
 ·rw [hh.has1]; simp [idsI]
 ·rw [hh.has0]
  simp only [idsI, List.map_append, List.mem_append, List.mem_map, Bool.false_eq_true, false_iff, not_or, not_exists, not_and]
  exact ⟨fun x hx => hh.ne.1 x hx, fun x hx => hh.ne.2 x hx⟩
theorem sortI_ok : ∀ (L : List It), (idsI L).Nodup → Rise (sortI L) ∧ (sortI L).Perm L := by
 intro L
 rw [← List.reverse_reverse L]
 induction L.reverse with
 | nil => exact fun _ => ⟨List.Pairwise.nil, List.Perm.refl _⟩
 | cons x r ih =>
  intro hn
  rw [List.reverse_cons] at hn ⊢
  have hn2 : (idsI r.reverse).Nodup ∧ x.id ∉ idsI r.reverse := by
   simp only [idsI, List.map_append, List.map_cons, List.map_nil] at hn ⊢
   have := List.nodup_append.1 hn
   exact ⟨this.1, fun h => this.2.2 _ h _ (by simp) rfl⟩
  obtain ⟨h1, h2⟩ := ih hn2.1
  rw [sortI_snoc]
  have hh : cHas x.id (sortI r.reverse) = false := by
   cases hc : cHas x.id (sortI r.reverse) with
   | false => rfl
   | true => exact absurd ((h2.map fun e => e.id).mem_iff.1 ((has_mem h1 x.id).1 hc)) hn2.2
  exact ⟨put_rise h1 _ _, (put_perm h1 x.tx hh).trans (h2.append_right _)⟩
theorem rise_eq : ∀ {L M : List It}, Rise L → Rise M → L.Perm M → L = M
 | [], M, _, _, h => (List.nil_perm.1 h).symm
 | a :: r, [], _, _, h => absurd h (by simp)
 | a :: r, b :: s, hl, hm, h => by
  obtain ⟨a1, a2⟩ := List.pairwise_cons.1 hl
  obtain ⟨b1, b2⟩ := List.pairwise_cons.1 hm
  have hab : a = b := by
   have h1 : a ∈ b :: s := h.mem_iff.1 List.mem_cons_self
   have h2 : b ∈ a :: r := h.mem_iff.2 List.mem_cons_self
   rcases List.mem_cons.1 h1 with h1 | h1
   ·exact h1
   ·rcases List.mem_cons.1 h2 with h2 | h2
    ·exact h2.symm
    ·have := a1 b h2
     have := b1 a h1
     omega
  subst hab
  rw [rise_eq a2 b2 (h.cons_inv)]
theorem le_rise {M : List It} (h : M.Pairwise (fun a b => a.id ≤ b.id)) (hn : (idsI M).Nodup) : Rise M := by
 induction M with
 | nil => exact List.Pairwise.nil
 | cons e r ih =>
  obtain ⟨h1, h2⟩ := List.pairwise_cons.1 h
  simp only [idsI, List.map_cons, List.nodup_cons] at hn
  refine List.pairwise_cons.2 ⟨fun x hx => ?_, ih h2 hn.2⟩
  have := h1 x hx
  have hne : e.id ≠ x.id := fun hh => hn.1 (by rw [hh]; exact List.mem_map_of_mem hx)
  omega
theorem ofE_ok : ∀ (L : List It) (seen : List Nat), ofE seen L = 0 → seen.Nodup → (seen ++ idsI L).Nodup ∧ (seen.length ≤ 2048 → seen.length + L.length ≤ 2048) ∧ ∀ e ∈ L, e.id < 6004799503160661 ∧ e.tx ≠ [] ∧ e.tx.length ≤ 65536
 | [], seen, _, hn => by simp [idsI, hn]
 | e :: r, seen, h, hn => by
  rw [ofE] at h
  split at h
  ·omega
  rename_i h1
  split at h
  ·rename_i h2; exact absurd h h2
  rename_i h2
  have hw : jC7 e.id e.tx (decide (2048 ≤ seen.length)) = 0 := by omega
  unfold jC7 at hw
  repeat' split at hw
  all_goals first | omega | skip
  rename_i w1 w2 w3 w4
  have w4' : seen.length < 2048 := by simpa using w4
  have hn2 : (seen ++ [e.id]).Nodup := List.nodup_append.2 ⟨hn, by simp, fun a ha b hb hab => h1 (by simp at hb; rw [← hb, ← hab]; exact ha)⟩
  obtain ⟨i1, i2, i3⟩ := ofE_ok r (seen ++ [e.id]) h hn2
  refine ⟨by simpa [idsI] using i1, fun _ => ?_, fun x hx => ?_⟩
  ·have := i2 (by simp; omega)
   simp at this ⊢
   omega
  ·rcases List.mem_cons.1 hx with rfl | hx
   ·exact ⟨by omega, w2, by omega⟩
   ·exact i3 x hx
theorem of_ok {L : List It} (h : ofQ L = 0) : (idsI L).Nodup ∧ L.length ≤ 2048 ∧ ChOk (sortI L) ∧ (sortI L).Perm L := by
 obtain ⟨h1, h2, h3⟩ := ofE_ok L [] h List.nodup_nil
 rw [List.nil_append] at h1
 have h2 := h2 (by simp)
 simp at h2
 obtain ⟨h4, h5⟩ := sortI_ok L h1
 exact ⟨h1, h2, ⟨h4, fun e he => (h3 e (h5.mem_iff.1 he)).1, fun e he => (h3 e (h5.mem_iff.1 he)).2, by rw [h5.length_eq]; exact h2⟩, h5⟩
theorem sort_is {L M : List It} (h : (idsI L).Nodup) (hp : M.Perm L) (hs : M.Pairwise (fun a b => a.id ≤ b.id)) : M = sortI L := by
 obtain ⟨h4, h5⟩ := sortI_ok L h
 exact rise_eq (le_rise hs ((hp.map fun e : It => e.id).nodup_iff.2 h)) h4 (hp.trans h5.symm)
end Go.Proofs.YtkojkeabelckjaaGreatDoor
