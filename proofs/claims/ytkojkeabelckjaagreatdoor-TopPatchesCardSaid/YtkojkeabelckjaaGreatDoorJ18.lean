/- Walks and plain laws for this claim (texts Gdr2, joined). Each theorem states its own conditions. -/
import Derived.Test.YtkojkeabelckjaaGreatDoorJ17
import Derived.Test.YtkojkeabelckjaaGreatDoorJ07

set_option linter.all false
namespace Go.Proofs.YtkojkeabelckjaaGreatDoor.V
open Go.RowKit
def errQ (c i : Nat) (a : En) (x : Nat) : Nat :=
 if c = 0 then (if (a.id + x) % 18446744073709551616 < x then 11 else 0)
 else if c = 1 ∨ c = 2 then (if 4294967296 ≤ x then 11 else 0)
 else if i = 0 ∧ x = 0 ∨ 0 < i ∧ 0 < x ∧ x - 1 = a.next then 4 else 0
def putQ (c : Nat) (a e : En) (x : Nat) : En :=
 if c = 0 then { e with id := (a.id + x) % 18446744073709551616 }
 else if c = 1 then { e with run := x % 4294967296 }
 else if c = 2 then { e with len := x % 4294967296 }
 else { e with off := if x = 0 then a.next else x - 1 }
theorem next_lt (e : En) : e.next < 18446744073709551616 := by simp only [En.next]; omega
theorem putQ_ok {c x : Nat} {a e : En} (he : e.ok) (hx : x < 18446744073709551616) : (putQ c a e x).ok := by
 obtain ⟨h1, h2, h3, h4⟩ := he
 have := next_lt a
 unfold putQ
 split
 ·exact ⟨by show _ % _ < _; omega, h2, h3, h4⟩
 split
 ·exact ⟨h1, h2, h3, by show _ % _ < _; omega⟩
 split
 ·exact ⟨h1, h2, by show _ % _ < _; omega, h4⟩
 ·exact ⟨h1, by show (if x = 0 then a.next else x - 1) < _; split <;> omega, h3, h4⟩
theorem set_id {M : List En} {k : Nat} {e : En} (h : M[k]? = some e) (y : Nat) : (jA1 M).set (k * 4) (uq y) = jA1 (M.set k { e with id := y }) := fm_set (x := e) (y := { e with id := y }) (j := 0) en_len rfl (by omega) h
theorem set_off {M : List En} {k : Nat} {e : En} (h : M[k]? = some e) (y : Nat) : (jA1 M).set (k * 4 + 1) (uq y) = jA1 (M.set k { e with off := y }) := fm_set (x := e) (y := { e with off := y }) (j := 1) en_len rfl (by omega) h
theorem set_len {M : List En} {k : Nat} {e : En} (h : M[k]? = some e) (y : Nat) : (jA1 M).set (k * 4 + 2) (wq4 y) = jA1 (M.set k { e with len := y }) := fm_set (x := e) (y := { e with len := y }) (j := 2) en_len rfl (by omega) h
theorem set_run {M : List En} {k : Nat} {e : En} (h : M[k]? = some e) (y : Nat) : (jA1 M).set (k * 4 + 3) (wq4 y) = jA1 (M.set k { e with run := y }) := fm_set (x := e) (y := { e with run := y }) (j := 3) en_len rfl (by omega) h
theorem rd_id {M : List En} {k : Nat} {e : En} (h : M[k]? = some e) : rdV false 1 (jA1 M) (k * 4) = some (uq e.id) := by have := fm_rd1 (j := 0) en_len h rfl; simpa using this
theorem rd_off {M : List En} {k : Nat} {e : En} (h : M[k]? = some e) : rdV false 1 (jA1 M) (k * 4 + 1) = some (uq e.off) := fm_rd1 (j := 1) en_len h rfl
theorem at_set {M : List En} {k : Nat} {e y : En} (h : M[k]? = some e) : (M.set k y)[k]? = some y := by
 have := (List.getElem?_eq_some_iff.1 h).1
 simp [this]
theorem ecells_ble {M : List En} {k : Nat} {e : En} (h : M[k]? = some e) {j : Nat} (hj : j < 4) : Nat.ble (k * 4 + j + 1) (jA1 M).length = true := by
 have := (List.getElem?_eq_some_iff.1 h).1
 rw [ecells_len]
 exact ble_of (by omega)
theorem u64_1 {x : Nat} (h : x < 18446744073709551616) : IntKind.u64.wrap ((x : Int) - 1) = ((if x = 0 then 18446744073709551615 else x - 1 : Nat) : Int) := by
 have : IntKind.u64.wrap ((x : Int) - 1) = ((x : Int) - 1) % 18446744073709551616 := by simp [IntKind.wrap, IntKind.bits, IntKind.signed]
 rw [this]
 split <;> omega
theorem u32_w (x : Nat) : IntKind.u32.wrap (x : Int) = ((x % 4294967296 : Nat) : Int) := by simp [IntKind.wrap, IntKind.bits, IntKind.signed]
theorem dset_fn (c i k g : Nat) (a e : En) (x : Nat) (M : List En) (hc : c < 4) (hi : i ≤ 1000000) (ha : a.ok) (hx : x < 18446744073709551616) (he : M[k]? = some e) :
  Fn Tryz.prog 114 [iq c, iq i, a.val, ptr g (k * 4), uq x] [.own g 114 (jA1 M)] fun v H' => v = iq (errQ c i a x) ∧ ∃ M' : List En, H' = [.own g 114 (jA1 M')] ∧ (errQ c i a x = 0 → M' = M.set k (putQ c a e x)) := by
 have hao := ha
 obtain ⟨a1, a2, a3, a4⟩ := ha
 have hn := next_lt a
 refine Fn.enter (N := 79) Tryz.func114 rfl (by kernel_rfl) rfl (fun w0 => ?_)
 refine aR (fun Z hZ => ?_)
 refine jC3 rfl rfl rfl (fun g1 => ?_)
 refine sA rfl rfl <| sN (hZ _ _ ?_)
 refine aF [(0, _), (1, _), (3, _), (4, _), (7, _)] (kR rfl) ?_
 refine aS ?_
 refine aR fun Z hZ => sM rfl rfl <| sN (hZ _ _ ?_)
 refine aF [(0, _), (1, _), (3, _), (4, _), (7, _), (11, _)] (kR rfl) ?_
 refine awp_meet (ι := Unit) (fun _ => []) (fun _ => [.own g 114 (jA1 (M.set k (putQ c a e x)))]) (fun _ => errQ c i a x = 0) ?_ ?_
 ·refine aB ?_
  refine aR (fun Z hZ => ?_)
  refine jC8 rfl rfl rfl ?_
  refine sA rfl rfl <| sN (hZ _ _ ?_)
  refine aF [(0, _), (1, _), (3, _), (4, _), (7, _), (11, _), (47, _)] (kR rfl) ?_
  refine aC rfl (fun h => ?_) (fun h => ?_)
  ·have h0 : c = 0 := by simp at h; omega
   refine aR fun Z hZ => sM rfl rfl ?_
   refine sFA rfl tyF114_0 (by simp only [Nat.add_zero]; rfl) rfl ?_
   refine sL 0 rfl rfl tyA45 tyS45 rfl rfl ?_
   refine sM rfl rfl ?_
   refine jB8 rfl rfl (((a.id + x) % 18446744073709551616 : Nat) : Int) (by rw [← Int.natCast_add, u64_w]) rfl ?_
   refine jA5 rfl rfl ?_
   refine sFA rfl tyF114_0 (by simp only [Nat.add_zero]; rfl) rfl ?_
   refine sS1 1 rfl rfl rfl tyS45 rfl (ecells_ble he (j := 0) (by omega)) (set_id he _) rfl ?_
   refine sN (hZ _ _ ?_)
   refine aF [(3, _), (4, _)] (kR rfl) ?_
   refine aR fun Z hZ => sM rfl rfl ?_
   refine jA5 rfl rfl ?_
   refine sFA rfl tyF114_0 (by simp only [Nat.add_zero]; rfl) rfl ?_
   refine sL 1 rfl rfl tyA45 tyS45 (rd_id (at_set he)) rfl ?_
   refine sM rfl rfl ?_
   refine jC4 rfl rfl rfl ?_
   refine sN (hZ _ _ ?_)
   refine aF [(61, _)] (Kn.cons rfl (Kn.nil)) ?_
   refine aC rfl (fun h1 => ?_) (fun h1 => ?_)
   ·have h1' : (a.id + x) % 18446744073709551616 < x := by simp at h1; omega
    have hee : errQ c i a x = 11 := by unfold errQ; rw [if_pos h0, if_pos h1']
    rw [hee]
    refine aR fun Z hZ => sA rfl rfl <| sN (hZ _ _ ?_)
    refine aF [(10, _)] (Kn.cons rfl (Kn.nil)) ?_
    refine aE ?_
    repeat (with_reducible (first | refine nTR ?_ | refine nBR ?_))
    exact jD4 _ rfl rfl (HLe.pick [1] (by simp) rfl) ⟨rfl, _, rfl, fun h => by cases h⟩
   ·have h1' : ¬ (a.id + x) % 18446744073709551616 < x := by simp at h1; omega
    refine aK ?_
    repeat (with_reducible refine nBN ?_)
    refine jG2 () (by unfold errQ; rw [if_pos h0, if_neg h1']) Kn.nil ?_
    rw [show putQ c a e x = { e with id := (a.id + x) % 18446744073709551616 } by unfold putQ; rw [if_pos h0]]
    exact HLe.pick [1] (by simp) rfl
  have h0 : c ≠ 0 := by simp at h; omega
  refine awp_cut (ι := Unit) (fun _ => [(0, iq c), (1, iq i), (3, ptr g (k * 4)), (4, uq x), (7, ptr g1 0), (62, .bool (decide (c = 1 ∨ c = 2)))]) (fun _ => [.own g1 114 a.cells, .own g 114 (jA1 M)]) (fun _ => True) ?_ ?_
  ·refine aR (fun Z hZ => ?_)
   refine jC8 rfl rfl rfl ?_
   refine sA rfl rfl <| sN (hZ _ _ ?_)
   refine aF [(0, _), (1, _), (3, _), (4, _), (7, _), (11, _), (62, _)] (kR rfl) ?_
   refine aC rfl (fun h1 => ?_) (fun h1 => ?_)
   ·have h1' : c = 1 := by simp at h1; omega
    refine aK ?_
    exact jG2 () trivial (Kn.cons rfl (Kn.cons rfl (Kn.cons rfl (Kn.cons rfl (Kn.cons rfl (Kn.cons (congrArg some (congrArg Value.bool (by rw [Bool.eq_iff_iff]; simp; omega))) Kn.nil)))))) (HLe.refl _)
   ·have h1' : c ≠ 1 := by simp at h1; omega
    refine aG (fun Z hZ => ?_)
    refine jC8 rfl rfl rfl ?_
    refine sA rfl rfl <| sN (hZ _ _ ?_)
    refine nF [(0, _), (1, _), (3, _), (4, _), (7, _), (62, _)] (kR rfl) ?_
    exact jG2 () trivial (Kn.cons rfl (Kn.cons rfl (Kn.cons rfl (Kn.cons rfl (Kn.cons rfl (Kn.cons (congrArg some (congrArg Value.bool (by rw [Bool.eq_iff_iff]; simp; omega))) Kn.nil)))))) (HLe.refl _)
  rintro ⟨⟩ -
  refine aC rfl (fun h2 => ?_) (fun h2 => ?_)
  ·have h2' : c = 1 ∨ c = 2 := by simpa using h2
   refine aS ?_
   refine aR fun Z hZ => sM rfl rfl ?_
   refine sx_geq rfl rfl rfl ?_
   refine sN (hZ _ _ ?_)
   refine aF [(0, _), (3, _), (4, _), (66, _)] (kR rfl) ?_
   refine aC rfl (fun h3 => ?_) (fun h3 => ?_)
   ·have h3' : 4294967296 ≤ x := by simp at h3; omega
    have hee : errQ c i a x = 11 := by unfold errQ; rw [if_neg h0, if_pos h2', if_pos h3']
    rw [hee]
    refine aR fun Z hZ => sA rfl rfl <| sN (hZ _ _ ?_)
    refine aF [(10, _)] (Kn.cons rfl (Kn.nil)) ?_
    refine aE ?_
    repeat (with_reducible (first | refine nTR ?_ | refine nBR ?_))
    exact jD4 _ rfl rfl (HLe.pick [1] (by simp) rfl) ⟨rfl, _, rfl, fun h => by cases h⟩
   have h3' : ¬ 4294967296 ≤ x := by simp at h3; omega
   have hee : errQ c i a x = 0 := by unfold errQ; rw [if_neg h0, if_pos h2', if_neg h3']
   refine aK ?_
   with_reducible refine nN ?_
   refine aR fun Z hZ => sM rfl rfl ?_
   refine jC8 rfl rfl rfl ?_
   refine sN (hZ _ _ ?_)
   refine aF [(3, _), (4, _), (68, _)] (kR rfl) ?_
   refine aC rfl (fun h4 => ?_) (fun h4 => ?_)
   ·have h4' : c = 1 := by simp at h4; omega
    refine aG (fun Z hZ => ?_)
    refine sM rfl rfl <| sM rfl rfl ?_
    refine jC2 Tryz.underlying45 Tryz.underlying112 rfl ((x % 4294967296 : Nat) : Int) (u32_w x) rfl ?_
    refine jA5 rfl rfl ?_
    refine sFA rfl tyF114_3 rfl rfl ?_
    refine sS1 1 rfl rfl rfl tyS112 rfl (ecells_ble he (j := 3) (by omega)) (set_run he _) rfl ?_
    refine sN (hZ _ _ ?_)
    refine nF [] (Kn.nil) ?_
    repeat (with_reducible refine nBN ?_)
    refine jG2 () hee Kn.nil ?_
    rw [show putQ c a e x = { e with run := x % 4294967296 } by unfold putQ; rw [if_neg h0, if_pos h4']]
    exact HLe.pick [1] (by simp) rfl
   ·have h4' : c ≠ 1 := by simp at h4; omega
    refine aG (fun Z hZ => ?_)
    refine sM rfl rfl <| sM rfl rfl ?_
    refine jC2 Tryz.underlying45 Tryz.underlying112 rfl ((x % 4294967296 : Nat) : Int) (u32_w x) rfl ?_
    refine jA5 rfl rfl ?_
    refine sFA rfl tyF114_2 rfl rfl ?_
    refine sS1 1 rfl rfl rfl tyS112 rfl (ecells_ble he (j := 2) (by omega)) (set_len he _) rfl ?_
    refine sN (hZ _ _ ?_)
    refine nF [] (Kn.nil) ?_
    repeat (with_reducible refine nBN ?_)
    refine jG2 () hee Kn.nil ?_
    rw [show putQ c a e x = { e with len := x % 4294967296 } by unfold putQ; rw [if_neg h0, if_neg h4', if_pos (by omega)]]
    exact HLe.pick [1] (by simp) rfl
  have h2' : ¬ (c = 1 ∨ c = 2) := by simpa using h2
  have hput : putQ c a e x = { e with off := if x = 0 then a.next else x - 1 } := by unfold putQ; rw [if_neg h0, if_neg (by omega), if_neg (by omega)]
  obtain ⟨z, hz⟩ : ∃ z, (if x = 0 then 18446744073709551615 else x - 1) = z := ⟨_, rfl⟩
  have hzx : x = 0 ∨ z + 1 = x := by rw [← hz]; split <;> omega
  have e1 : (M.set k { e with off := z })[k]? = some { e with off := z } := at_set he
  refine aR fun Z hZ => sM rfl rfl <| sM rfl rfl ?_
  refine sx_sub rfl rfl ((z : Nat) : Int) (by rw [u64_1 hx, hz]) rfl ?_
  refine jA5 rfl rfl ?_
  refine sFA rfl jH0 rfl rfl ?_
  refine sS1 1 rfl rfl rfl tyS45 rfl (ecells_ble he (j := 1) (by omega)) (set_off he _) rfl ?_
  refine sN (hZ _ _ ?_)
  refine aF [(1, _), (3, _), (4, _), (7, _)] (kR rfl) ?_
  clear hz
  refine aS ?_
  refine jC6 [(3, ptr g (k * 4)), (4, uq x), (7, ptr g1 0), (39, .bool (decide (i = 0 ∧ x = 0 ∨ 0 < i ∧ 0 < x ∧ x - 1 = a.next)))] [.own g1 114 a.cells, .own g 114 (jA1 (M.set k { e with off := z }))] mixed (by kernel_rfl) (fun Z hZ => ?_) ?_
  ·refine qM rfl rfl ?_
   refine sq_eql rfl rfl rfl ?_
   refine qM rfl rfl ?_
   refine sq_split 19 rfl (fun hb2 => ?_) (fun hb2 => ?_)
   ·refine jA4 rfl rfl rfl ?_
    refine qM rfl rfl ?_
    refine jA4 rfl rfl rfl ?_
    refine sq_eql rfl rfl rfl ?_
    refine jC5 rfl rfl rfl ?_
    refine qM rfl rfl ?_
    refine sq_split 23 rfl (fun hb6 => ?_) (fun hb6 => ?_)
    ·refine qO rfl rfl rfl rfl rfl ?_
     refine qO rfl rfl rfl rfl rfl ?_
     refine qO rfl rfl rfl rfl rfl ?_
     refine sq_offU rfl rfl rfl rfl ?_
     refine sq_offU rfl rfl rfl rfl ?_
     refine qO rfl rfl rfl rfl rfl ?_
     refine qO rfl rfl rfl rfl rfl ?_
     refine sq_offU rfl rfl rfl rfl ?_
     refine sq_offU rfl rfl rfl rfl ?_
     refine sq_offU rfl rfl rfl rfl ?_
     refine sq_offU rfl rfl rfl rfl ?_
     refine sq_offU rfl rfl rfl rfl ?_
     refine sq_offU rfl rfl rfl rfl ?_
     refine sq_offU rfl rfl rfl rfl ?_
     refine qO rfl rfl rfl rfl rfl ?_
     refine jC5 rfl rfl rfl ?_
     refine jE0 (hZ _ _ ?_ ?_)
     ·exact Kn.cons rfl (Kn.cons rfl (Kn.cons rfl (Kn.cons (congrArg some (congrArg Value.bool (by first | (simp at *; done) | (simp at *; omega) | (simp at *; rw [Bool.eq_iff_iff]; simp; omega)))) Kn.nil)))
     ·exact HLe.refl _
    ·refine jA4 rfl rfl rfl ?_
     refine qM rfl rfl ?_
     refine jA4 rfl rfl rfl ?_
     refine sq_gtr rfl rfl rfl ?_
     refine jA4 rfl rfl rfl ?_
     refine qM rfl rfl ?_
     refine sq_split 26 rfl (fun hb9 => ?_) (fun hb9 => ?_)
     ·refine jA4 rfl rfl rfl ?_
      refine qM rfl rfl ?_
      refine jA4 rfl rfl rfl ?_
      refine sq_gtr rfl rfl rfl ?_
      refine jA4 rfl rfl rfl ?_
      refine jC5 rfl rfl rfl ?_
      refine jA4 rfl rfl rfl ?_
      refine qM rfl rfl ?_
      refine sq_split 30 rfl (fun hb13 => ?_) (fun hb13 => ?_)
      ·refine jA4 rfl rfl rfl ?_
       refine qM rfl rfl ?_
       refine jA4 rfl rfl rfl ?_
       refine jA9 rfl rfl ?_
       refine jA4 rfl rfl rfl ?_
       refine qFA rfl jH0 rfl rfl ?_
       refine jA4 rfl rfl rfl ?_
       refine jB7 1 rfl rfl tyA45 tyS45 (rd_off e1) rfl ?_
       refine jA4 rfl rfl rfl ?_
       refine sq_loadA 0 rfl rfl tyA114 tyS114 rfl (by simp only [qS]; rfl) rfl ?_
       refine jA4 rfl rfl rfl ?_
       refine sq_callP (dnext_fn a hao) rfl rfl ?_
       refine jA4 rfl rfl rfl ?_
       refine sq_eql rfl rfl rfl ?_
       refine jA4 rfl rfl rfl ?_
       refine jC5 rfl rfl rfl ?_
       refine jC5 rfl rfl rfl ?_
       refine jE0 (hZ _ _ ?_ ?_)
       ·exact Kn.cons rfl (Kn.cons rfl (Kn.cons rfl (Kn.cons (congrArg some (congrArg Value.bool (by first | (simp at *; done) | (simp at *; omega) | (simp at *; rw [Bool.eq_iff_iff]; simp; omega)))) Kn.nil)))
       ·exact HLe.refl _
      ·refine qO rfl rfl rfl rfl rfl ?_
       refine qO rfl rfl rfl rfl rfl ?_
       refine qO rfl rfl rfl rfl rfl ?_
       refine qO rfl rfl rfl rfl rfl ?_
       refine qO rfl rfl rfl rfl rfl ?_
       refine qO rfl rfl rfl rfl rfl ?_
       refine qO rfl rfl rfl rfl rfl ?_
       refine jA4 rfl rfl rfl ?_
       refine jC5 rfl rfl rfl ?_
       refine jC5 rfl rfl rfl ?_
       refine jE0 (hZ _ _ ?_ ?_)
       ·exact Kn.cons rfl (Kn.cons rfl (Kn.cons rfl (Kn.cons (congrArg some (congrArg Value.bool (by first | (simp at *; done) | (simp at *; omega) | (simp at *; rw [Bool.eq_iff_iff]; simp; omega)))) Kn.nil)))
       ·exact HLe.refl _
     ·refine qO rfl rfl rfl rfl rfl ?_
      refine qO rfl rfl rfl rfl rfl ?_
      refine jA4 rfl rfl rfl ?_
      refine jC5 rfl rfl rfl ?_
      refine jA4 rfl rfl rfl ?_
      refine qM rfl rfl ?_
      refine qO rfl rfl rfl rfl rfl ?_
      refine qO rfl rfl rfl rfl rfl ?_
      refine qO rfl rfl rfl rfl rfl ?_
      refine qO rfl rfl rfl rfl rfl ?_
      refine qO rfl rfl rfl rfl rfl ?_
      refine qO rfl rfl rfl rfl rfl ?_
      refine qO rfl rfl rfl rfl rfl ?_
      refine jA4 rfl rfl rfl ?_
      refine jC5 rfl rfl rfl ?_
      refine jC5 rfl rfl rfl ?_
      refine jE0 (hZ _ _ ?_ ?_)
      ·exact Kn.cons rfl (Kn.cons rfl (Kn.cons rfl (Kn.cons (congrArg some (congrArg Value.bool (by first | (simp at *; done) | (simp at *; omega) | (simp at *; rw [Bool.eq_iff_iff]; simp; omega)))) Kn.nil)))
      ·exact HLe.refl _
   ·refine qO rfl rfl rfl rfl rfl ?_
    refine qO rfl rfl rfl rfl rfl ?_
    refine jC5 rfl rfl rfl ?_
    refine qM rfl rfl ?_
    refine jA4 rfl rfl rfl ?_
    refine qM rfl rfl ?_
    refine jA4 rfl rfl rfl ?_
    refine sq_gtr rfl rfl rfl ?_
    refine jA4 rfl rfl rfl ?_
    refine qM rfl rfl ?_
    refine sq_split 26 rfl (fun hb9 => ?_) (fun hb9 => ?_)
    ·refine jA4 rfl rfl rfl ?_
     refine qM rfl rfl ?_
     refine jA4 rfl rfl rfl ?_
     refine sq_gtr rfl rfl rfl ?_
     refine jA4 rfl rfl rfl ?_
     refine jC5 rfl rfl rfl ?_
     refine jA4 rfl rfl rfl ?_
     refine qM rfl rfl ?_
     refine sq_split 30 rfl (fun hb13 => ?_) (fun hb13 => ?_)
     ·refine jA4 rfl rfl rfl ?_
      refine qM rfl rfl ?_
      refine jA4 rfl rfl rfl ?_
      refine jA9 rfl rfl ?_
      refine jA4 rfl rfl rfl ?_
      refine qFA rfl jH0 rfl rfl ?_
      refine jA4 rfl rfl rfl ?_
      refine jB7 1 rfl rfl tyA45 tyS45 (rd_off e1) rfl ?_
      refine jA4 rfl rfl rfl ?_
      refine sq_loadA 0 rfl rfl tyA114 tyS114 (by simp only [qS, Nat.reduceAdd]; rfl) (by simp only [qS]; rfl) rfl ?_
      refine jA4 rfl rfl rfl ?_
      refine sq_callP (dnext_fn a hao) rfl rfl ?_
      refine jA4 rfl rfl rfl ?_
      refine sq_eql rfl rfl rfl ?_
      refine jA4 rfl rfl rfl ?_
      refine jC5 rfl rfl rfl ?_
      refine jC5 rfl rfl rfl ?_
      refine jE0 (hZ _ _ ?_ ?_)
      ·exact Kn.cons rfl (Kn.cons rfl (Kn.cons rfl (Kn.cons (congrArg some (congrArg Value.bool (by first | (simp at *; done) | (simp at *; omega) | (simp at *; rw [Bool.eq_iff_iff]; simp; omega)))) Kn.nil)))
      ·exact HLe.refl _
     ·refine qO rfl rfl rfl rfl rfl ?_
      refine qO rfl rfl rfl rfl rfl ?_
      refine qO rfl rfl rfl rfl rfl ?_
      refine qO rfl rfl rfl rfl rfl ?_
      refine qO rfl rfl rfl rfl rfl ?_
      refine qO rfl rfl rfl rfl rfl ?_
      refine qO rfl rfl rfl rfl rfl ?_
      refine jA4 rfl rfl rfl ?_
      refine jC5 rfl rfl rfl ?_
      refine jC5 rfl rfl rfl ?_
      refine jE0 (hZ _ _ ?_ ?_)
      ·exact Kn.cons rfl (Kn.cons rfl (Kn.cons rfl (Kn.cons (congrArg some (congrArg Value.bool (by first | (simp at *; done) | (simp at *; omega) | (simp at *; rw [Bool.eq_iff_iff]; simp; omega)))) Kn.nil)))
      ·exact HLe.refl _
    ·refine qO rfl rfl rfl rfl rfl ?_
     refine qO rfl rfl rfl rfl rfl ?_
     refine jA4 rfl rfl rfl ?_
     refine jC5 rfl rfl rfl ?_
     refine jA4 rfl rfl rfl ?_
     refine qM rfl rfl ?_
     refine qO rfl rfl rfl rfl rfl ?_
     refine qO rfl rfl rfl rfl rfl ?_
     refine qO rfl rfl rfl rfl rfl ?_
     refine qO rfl rfl rfl rfl rfl ?_
     refine qO rfl rfl rfl rfl rfl ?_
     refine qO rfl rfl rfl rfl rfl ?_
     refine qO rfl rfl rfl rfl rfl ?_
     refine jA4 rfl rfl rfl ?_
     refine jC5 rfl rfl rfl ?_
     refine jC5 rfl rfl rfl ?_
     refine jE0 (hZ _ _ ?_ ?_)
     ·exact Kn.cons rfl (Kn.cons rfl (Kn.cons rfl (Kn.cons (congrArg some (congrArg Value.bool (by first | (simp at *; done) | (simp at *; omega) | (simp at *; rw [Bool.eq_iff_iff]; simp; omega)))) Kn.nil)))
     ·exact HLe.refl _
  refine aC rfl (fun h3 => ?_) (fun h3 => ?_)
  ·have h3' : i = 0 ∧ x = 0 ∨ 0 < i ∧ 0 < x ∧ x - 1 = a.next := by simpa using h3
   have hee : errQ c i a x = 4 := by unfold errQ; rw [if_neg h0, if_neg h2', if_pos h3']
   rw [hee]
   refine aR fun Z hZ => sA rfl rfl <| sN (hZ _ _ ?_)
   refine aF [(10, _)] (Kn.cons rfl (Kn.nil)) ?_
   refine aE ?_
   repeat (with_reducible (first | refine nTR ?_ | refine nBR ?_))
   exact jD4 _ rfl rfl (HLe.pick [1] (by simp) rfl) ⟨rfl, _, rfl, fun h => by cases h⟩
  have h3' : ¬ (i = 0 ∧ x = 0 ∨ 0 < i ∧ 0 < x ∧ x - 1 = a.next) := by simpa using h3
  have hee : errQ c i a x = 0 := by unfold errQ; rw [if_neg h0, if_neg h2', if_neg h3']
  rw [hput]
  refine aK ?_
  with_reducible refine nN ?_
  refine aR fun Z hZ => sM rfl rfl ?_
  refine jC8 rfl rfl rfl ?_
  refine sN (hZ _ _ ?_)
  refine aF [(3, _), (7, _), (41, _)] (kR rfl) ?_
  refine aC rfl (fun h4 => ?_) (fun h4 => ?_)
  ·have h4' : x = 0 := by simp at h4; omega
   rw [if_pos h4']
   refine aG (fun Z hZ => ?_)
   refine sM rfl rfl ?_
   refine sLA 0 rfl rfl tyA114 tyS114 (by simp only [qS, Nat.reduceAdd]; rfl) (by simp only [qS]; rfl) rfl ?_
   refine sCP (dnext_fn a hao) rfl rfl ?_
   refine jA5 rfl rfl ?_
   refine sFA rfl jH0 rfl rfl ?_
   refine sS1 1 rfl rfl rfl tyS45 rfl (ecells_ble e1 (j := 1) (by omega)) (set_off e1 _) rfl ?_
   refine sN (hZ _ _ ?_)
   refine nF [] (Kn.nil) ?_
   repeat (with_reducible refine nBN ?_)
   refine jG2 () hee Kn.nil ?_
   rw [List.set_set]
   exact HLe.pick [1] (by simp) rfl
  ·have h4' : x ≠ 0 := by simp at h4; omega
   rw [if_neg h4', show x - 1 = z by omega]
   refine aK ?_
   repeat (with_reducible refine nBN ?_)
   exact jG2 () hee Kn.nil (HLe.pick [1] (by simp) rfl)
 ·rintro ⟨⟩ hee
  with_reducible refine nN ?_
  rw [hee]
  refine aR fun Z hZ => sA rfl rfl <| sN (hZ _ _ ?_)
  refine aF [(10, _)] (Kn.cons rfl (Kn.nil)) ?_
  refine aE ?_
  exact jD4 _ rfl rfl (HLe.refl _) ⟨rfl, _, rfl, fun _ => rfl⟩
end Go.Proofs.YtkojkeabelckjaaGreatDoor.V
namespace Go.Proofs.YtkojkeabelckjaaGreatDoor.V
open Go.RowKit
end Go.Proofs.YtkojkeabelckjaaGreatDoor.V
namespace Go.Proofs.YtkojkeabelckjaaGreatDoor.V
open Go.RowKit
def decG (s : List UInt8) : Nat → Nat → List En → Nat → List En × Nat × Nat
 | 0, _, L, p => if p < s.length then ([], p, 4) else if rowC L ≠ 0 then ([], s.length, rowC L) else (L, s.length, 0)
 | k + 1, j, L, p =>
  if (getQ s p).2.2 ≠ 0 then ([], p, (getQ s p).2.2)
  else if errQ (j / L.length) (j % L.length) (prevE L (j % L.length)) (getQ s p).1 ≠ 0 then ([], p, errQ (j / L.length) (j % L.length) (prevE L (j % L.length)) (getQ s p).1)
  else decG s k (j + 1) (L.set (j % L.length) (putQ (j / L.length) (prevE L (j % L.length)) (atE L (j % L.length)) (getQ s p).1)) (getQ s p).2.1
def decQ (s : List UInt8) : List En × Nat × Nat :=
 if 65536 < s.length then ([], 0, 5) else if (getQ s 0).2.2 ≠ 0 then ([], 0, (getQ s 0).2.2)
 else if 4096 < (getQ s 0).1 then ([], 0, 21) else decG s (4 * (getQ s 0).1) 0 (List.replicate (getQ s 0).1 zeroEn) (getQ s 0).2.1
theorem getQ_facts (s : List UInt8) (p : Nat) (hp : p ≤ s.length) : (getQ s p).1 < 18446744073709551616 ∧ (getQ s p).2.1 ≤ s.length ∧ (getQ s p).2.2 ≤ 11 := by
 unfold getQ
 have hl : (s.drop p).length = s.length - p := List.length_drop
 by_cases h : (jC7 (s.drop p)).1 = 0
 ·rw [if_pos h]
  obtain ⟨h1, h2, h3, h4⟩ := wrong_ok h
  refine ⟨?_, ?_, by show 0 ≤ 11; omega⟩
  ·show valL _ < _
   rw [h1]
   have := valL_mod (t := s.drop p) (k := cnt 10 (s.drop p)) (by omega) h3 h4
   omega
  ·show p + _ ≤ _
   rw [h1]
   omega
 ·rw [if_neg h]
  refine ⟨by show 0 < _; omega, hp, ?_⟩
  show (jC7 _).1 ≤ 11
  unfold jC7
  split
  ·exact Nat.le_refl _
  split
  ·show 3 ≤ 11; omega
  split
  ·exact Nat.le_refl _
  split
  ·show 4 ≤ 11; omega
  ·show 0 ≤ 11; omega
theorem decG_0 (s : List UInt8) (j : Nat) (L : List En) (p : Nat) : decG s 0 j L p = if p < s.length then ([], p, 4) else if rowC L ≠ 0 then ([], s.length, rowC L) else (L, s.length, 0) := rfl
theorem decG_s {s : List UInt8} {k j c i n : Nat} {L : List En} {p x q : Nat} (hn : L.length = n) (hj : j = c * n + i) (hi : i < n) (hg : getQ s p = (x, q, 0)) :
  decG s (k + 1) j L p = if errQ c i (prevE L i) x ≠ 0 then ([], p, errQ c i (prevE L i) x) else decG s k (j + 1) (L.set i (putQ c (prevE L i) (atE L i) x)) q := by
 have h1 : j / n = c := by rw [hj, Nat.mul_comm, Nat.mul_add_div (by omega), Nat.div_eq_of_lt hi, Nat.add_zero]
 have h2 : j % n = i := by rw [hj, Nat.mul_comm, Nat.mul_add_mod, Nat.mod_eq_of_lt hi]
 rw [decG, hg, hn, h1, h2]
 simp only [ne_eq, not_true_eq_false, if_false]
theorem decG_e {s : List UInt8} {k j : Nat} {L : List En} {p x q e : Nat} (hg : getQ s p = (x, q, e)) (he : e ≠ 0) : decG s (k + 1) j L p = ([], p, e) := by
 rw [decG, hg]
 simp only [ne_eq, he, not_false_eq_true, if_true]
theorem ens_zero (n : Nat) : jF2 (List.replicate n zeroEn) := fun e he => by rw [(List.mem_replicate.1 he).2]; exact zero_ok
theorem ens_set {L : List En} {i : Nat} {y : En} (h : jF2 L) (hy : y.ok) : jF2 (L.set i y) := fun e he => by
 rcases List.mem_or_eq_of_mem_set he with h1 | rfl
 ·exact h e h1
 ·exact hy
theorem ecells_zero (n : Nat) : (List.replicate n ([uq 0, uq 0, wq4 0, wq4 0] : List Value)).flatten = jA1 (List.replicate n zeroEn) := by
 simp only [jA1, List.flatMap, List.map_replicate]
 rfl
theorem vget_fn' (s : List UInt8) (p x q e : Nat) (hp : p ≤ s.length) (hs : s.length ≤ 1000000) (hg : getQ s p = (x, q, e)) : Fn Tryz.prog 113 [.agg #[.string (str s), iq p, iq 0]] [] fun v _ => v = .tuple #[uq x, .agg #[.string (str s), iq q, iq e]] := by
 have h := vget_fn s p hp hs
 rw [hg] at h
 exact h
theorem ddecode_fn (s : List UInt8) (hs : s.length ≤ 1000000) :
  Fn Tryz.prog 68 [.string (str s)] [] fun v H' => ∃ u, v = .tuple #[u, iq (decQ s).2.1, iq (decQ s).2.2] ∧ RowOk u (decQ s).1.length ∧ H' = rowE u 114 4 (jA1 (decQ s).1) := by
 refine Fn.enter (N := 92) Tryz.func68 rfl (by kernel_rfl) rfl (fun w0 => ?_)
 refine aR fun Z hZ => sA rfl rfl <| sA rfl rfl <| sA rfl rfl <| sN (hZ _ _ ?_)
 refine aF [(0, _)] (Kn.cons rfl (Kn.nil)) ?_
 refine aS ?_
 refine aR fun Z hZ => sM rfl rfl ?_
 refine jF0 Tryz.underlying9 rfl rfl ?_
 refine jF3 rfl rfl rfl ?_
 refine sN (hZ _ _ ?_)
 refine aF [(0, _), (17, _)] (kR rfl) ?_
 refine aC rfl (fun h => ?_) (fun h => ?_)
 ·have h0 : 65536 < s.length := by simp at h; omega
  rw [show decQ s = ([], 0, 5) by unfold decQ; rw [if_pos h0]]
  refine aR fun Z hZ => sA rfl rfl <| sA rfl rfl <| sA rfl rfl <| sN (hZ _ _ ?_)
  refine aF [(2, _), (3, _), (4, _)] (kR rfl) ?_
  refine aE ?_
  repeat (with_reducible refine nTR ?_)
  exact jH5 [] rfl rfl rfl rfl (HLe.sub (List.nil_sublist _)) ⟨_, rfl, RowOk.nil, rfl⟩
 have h0 : ¬ 65536 < s.length := by simp at h; omega
 refine aK ?_
 with_reducible refine nN ?_
 obtain ⟨n, p0, e0, hg0⟩ : ∃ n p0 e0, getQ s 0 = (n, p0, e0) := ⟨_, _, _, rfl⟩
 obtain ⟨f1, f2, f3⟩ := getQ_facts s 0 (by omega)
 rw [hg0] at f1 f2 f3
 simp only at f1 f2 f3
 refine aR fun Z hZ => sM rfl rfl ?_
 refine jD1 tyZ220 tyP220 rfl rfl (by simp only [qS, Value.cells, wrV]; rfl) rfl ?_
 refine sCP (vget_fn' s 0 n p0 e0 (by omega) hs hg0) rfl rfl ?_
 refine sM rfl rfl <| sX rfl rfl rfl <| sX rfl rfl rfl ?_
 refine sAl tyZ220 rfl (fun g1 => ?_)
 refine sA rfl rfl ?_
 first | refine sS 0 rfl rfl rfl tyS220 (by simp only [Value.cells]; rfl) rfl rfl rfl (by simp only [qS, Nat.reduceAdd, wrV]; rfl) (by simp only [List.set_cons_zero]; rfl) ?_
 refine sN (hZ _ _ ?_)
 refine aF [(0, _), (5, _), (6, _)] (kR rfl) ?_
 refine aS (aB ?_)
 refine aR (fun Z hZ => ?_)
 refine sFA rfl tyF220_2 (by simp only [Nat.zero_add]; rfl) rfl ?_
 first | refine sL 0 rfl rfl tyA32 tyS32 rfl rfl ?_
 refine jE5 rfl rfl rfl ?_
 refine sA rfl rfl <| sN (hZ _ _ ?_)
 refine aF [(0, _), (5, _), (6, _), (24, _)] (kR rfl) ?_
 refine aC rfl (fun h1 => ?_) (fun h1 => ?_)
 ·have he : e0 ≠ 0 := by simp at h1; omega
  rw [show decQ s = ([], 0, e0) by unfold decQ; rw [if_neg h0, hg0, if_pos he]]
  refine jB9 mixed (by kernel_rfl) (fun Z hZ => ?_)
  refine qFA rfl tyF220_2 (by simp only [Nat.zero_add]; rfl) rfl ?_
  first | refine jB7 0 rfl rfl tyA32 tyS32 rfl rfl ?_
  refine jB3 rfl rfl ?_
  refine jB3 rfl rfl ?_
  refine jB3 rfl rfl ?_
  refine jE0 (hZ _ _ ?_)
  refine aF [(2, _), (3, _), (4, _)] (kR rfl) ?_
  refine aE ?_
  repeat (with_reducible (first | refine nTR ?_ | refine nBR ?_))
  exact jH5 [] rfl rfl rfl rfl (HLe.sub (List.nil_sublist _)) ⟨_, rfl, RowOk.nil, rfl⟩
 have he : e0 = 0 := by simp at h1; omega
 subst he
 refine aR fun Z hZ => sM rfl rfl ?_
 refine jF3 rfl rfl rfl ?_
 refine sA rfl rfl <| sN (hZ _ _ ?_)
 refine aF [(0, _), (5, _), (6, _), (30, _)] (kR rfl) ?_
 refine aC rfl (fun h2 => ?_) (fun h2 => ?_)
 ·have hn : 4096 < n := by simp at h2; omega
  rw [show decQ s = ([], 0, 21) by unfold decQ; rw [if_neg h0, hg0, if_neg (by simp), if_pos hn]]
  refine aR fun Z hZ => sA rfl rfl <| sA rfl rfl <| sA rfl rfl <| sN (hZ _ _ ?_)
  refine aF [(2, _), (3, _), (4, _)] (kR rfl) ?_
  refine aE ?_
  repeat (with_reducible (first | refine nTR ?_ | refine nBR ?_))
  exact jH5 [] rfl rfl rfl rfl (HLe.sub (List.nil_sublist _)) ⟨_, rfl, RowOk.nil, rfl⟩
 have hn : n ≤ 4096 := by simp at h2; omega
 have hD : decQ s = decG s (4 * n) 0 (List.replicate n zeroEn) p0 := by unfold decQ; rw [if_neg h0, hg0, if_neg (by simp), if_neg (by simp; omega)]
 rw [hD]
 obtain ⟨D, hDD⟩ : ∃ D, decG s (4 * n) 0 (List.replicate n zeroEn) p0 = D := ⟨_, rfl⟩
 rw [hDD]
 refine aK ?_
 repeat (with_reducible refine nBN ?_)
 with_reducible refine nN ?_
 refine aR fun Z hZ => sM rfl rfl ?_
 refine sx_makeSlice (zs := [uq 0, uq 0, wq4 0, wq4 0]) (bytes := 24) (size := 4) (z := .agg #[uq 0, uq 0, wq4 0, wq4 0]) Tryz.underlying68 (by kernel_rfl) rfl rfl rfl rfl (by omega) (by show _ ≤ 9223372036854775807; omega) rfl (fun ga => ?_)
 rw [ecells_zero]
 refine sA rfl rfl <| sN (hZ _ _ ?_)
 refine aF [(0, _), (6, _), (7, _)] (kR rfl) ?_
 refine aS ?_
 refine aR fun Z hZ => sM rfl rfl <| sN (hZ _ _ ?_)
 refine aF [(0, _), (6, _), (7, _), (35, _)] (kR rfl) ?_
 refine aB ?_
 refine jB6 (ι := Nat × List En × Nat) (fun i => [(0, .string (str s)), (6, ptr g1 0), (7, .slice (some ⟨ga, 0, none⟩) n n), (35, iq (i.1 : Nat))]) (fun i => [.own ga 114 (jA1 i.2.1), .own g1 220 [.string (str s), iq (i.2.2 : Nat), iq 0]])
  (fun i => i.1 ≤ 4 ∧ i.2.1.length = n ∧ jF2 i.2.1 ∧ i.2.2 ≤ s.length ∧ decG s (4 * n - i.1 * n) (i.1 * n) i.2.1 i.2.2 = D) (fun i => 4 - i.1) (0, List.replicate n zeroEn, p0) ⟨by simp, by simp, ens_zero n, f2, by simpa using hDD⟩ (kR rfl) (HLe.refl _) ?_
 rintro ⟨c, M, p⟩ ⟨hc, hM, hE, hp, hq⟩
 simp only at hc hM hE hp hq
 refine aR (fun Z hZ => ?_)
 refine jC4 rfl rfl rfl ?_
 refine sN (hZ _ _ ?_)
 refine aF [(0, _), (6, _), (7, _), (35, _), (36, _)] (kR rfl) ?_
 refine aS (aC rfl (fun h3 => ?_) (fun h3 => ?_))
 ·have hc4 : c < 4 := by simp at h3; omega
  have hcn : c * n ≤ 3 * n := Nat.mul_le_mul_right _ (by omega)
  refine aK ?_
  with_reducible refine nN ?_
  refine aS (aB ?_)
  refine aR fun Z hZ => sM rfl rfl <| sA rfl rfl <| sN (hZ _ _ ?_)
  refine aF [(0, _), (6, _), (7, _), (8, _), (35, _)] (kR rfl) ?_
  refine aR (fun Z hZ => ?_)
  refine sAl tyZ114 rfl (fun g2 => ?_)
  refine sN (hZ _ _ ?_)
  refine aF [(0, _), (6, _), (7, _), (8, _), (9, _), (35, _)] (kR rfl) ?_
  refine aR fun Z hZ => sM rfl rfl ?_
  refine jD9 Tryz.underlying68 rfl rfl ?_
  refine sM rfl rfl <| sN (hZ _ _ ?_)
  refine aF [(0, _), (6, _), (7, _), (8, _), (9, _), (35, _), (39, _), (40, _)] (kR rfl) ?_
  refine aB ?_
  refine jB6 (ι := Nat × List En × Nat) (fun i => [(0, .string (str s)), (6, ptr g1 0), (7, .slice (some ⟨ga, 0, none⟩) n n), (8, iq (c : Nat)), (9, ptr g2 0), (35, iq (c : Nat)), (39, iq (n : Nat)), (40, iq (i.1 : Nat))]) (fun i => [.own g2 114 (prevE i.2.1 i.1).cells, .own ga 114 (jA1 i.2.1), .own g1 220 [.string (str s), iq (i.2.2 : Nat), iq 0]])
   (fun i => i.1 ≤ n ∧ i.2.1.length = n ∧ jF2 i.2.1 ∧ i.2.2 ≤ s.length ∧ decG s (4 * n - (c * n + i.1)) (c * n + i.1) i.2.1 i.2.2 = D) (fun i => n - i.1) (0, M, p) ⟨by simp, hM, hE, hp, hq⟩ (kR rfl) (HLe.refl _) ?_
  rintro ⟨i, M, p⟩ ⟨hi, hM, hE, hp, hq⟩
  simp only at hi hM hE hp hq
  refine aR (fun Z hZ => ?_)
  refine jC4 rfl rfl rfl ?_
  refine sN (hZ _ _ ?_)
  refine aF [(0, _), (6, _), (7, _), (8, _), (9, _), (35, _), (39, _), (40, _), (41, _)] (kR rfl) ?_
  refine aS (aC rfl (fun h4 => ?_) (fun h4 => ?_))
  ·have hlt : i < n := by simpa using h4
   have hat := atE_at (L := M) (i := i) (by omega)
   have hpo := prevE_ok hE i
   have hao := atE_ok hE i
   obtain ⟨x, q, e, hg⟩ : ∃ x q e, getQ s p = (x, q, e) := ⟨_, _, _, rfl⟩
   obtain ⟨g1', g2', g3'⟩ := getQ_facts s p hp
   rw [hg] at g1' g2' g3'
   simp only at g1' g2' g3'
   obtain ⟨m, hm⟩ : ∃ m, 4 * n - (c * n + i) = m + 1 := ⟨4 * n - (c * n + i) - 1, by omega⟩
   rw [hm] at hq
   refine aK ?_
   with_reducible refine nN ?_
   refine aS (aB ?_)
   refine aR fun Z hZ => sM rfl rfl <| sA rfl rfl <| sN (hZ _ _ ?_)
   refine aF [(0, _), (6, _), (7, _), (8, _), (9, _), (10, _), (35, _), (39, _), (40, _)] (kR rfl) ?_
   refine aR (fun Z hZ => ?_)
   refine sLA 2 rfl rfl tyA220 tyS220 rfl (by simp only [qS]; rfl) rfl ?_
   refine sCP (vget_fn' s p x q e hp hs hg) rfl rfl ?_
   refine sM rfl rfl <| sX rfl rfl rfl <| sX rfl rfl rfl ?_
   refine sAl tyZ220 rfl (fun g3 => ?_)
   refine sA rfl rfl ?_
   refine sS 0 rfl rfl rfl tyS220 (by simp only [Value.cells]; rfl) rfl rfl rfl (by simp only [qS, Nat.reduceAdd, wrV]; rfl) (by simp only [List.set_cons_zero]; rfl) ?_
   refine sN (hZ _ _ ?_)
   refine aF [(0, _), (6, _), (7, _), (8, _), (9, _), (10, _), (11, _), (12, _), (35, _), (39, _), (40, _)] (kR rfl) ?_
   refine aS ?_
   refine aR (fun Z hZ => ?_)
   refine sFA rfl tyF220_2 (by simp only [Nat.zero_add]; rfl) rfl ?_
   refine sL 0 rfl rfl tyA32 tyS32 rfl rfl ?_
   refine jE5 rfl rfl rfl ?_
   refine sN (hZ _ _ ?_)
   refine aF [(0, _), (6, _), (7, _), (8, _), (9, _), (10, _), (11, _), (12, _), (35, _), (39, _), (40, _), (50, _)] (kR rfl) ?_
   refine aC rfl (fun h5 => ?_) (fun h5 => ?_)
   ·have he : e ≠ 0 := by simp at h5; omega
    rw [decG_e hg he] at hq
    rw [← hq]
    refine jB9 mixed (by kernel_rfl) (fun Z hZ => ?_)
    refine qFA rfl tyF220_1 (by simp only [Nat.zero_add]; rfl) rfl ?_
    refine jB7 3 rfl rfl tyA3 tyS3 rfl rfl ?_
    refine qFA rfl tyF220_2 (by simp only [Nat.zero_add]; rfl) rfl ?_
    refine jB7 0 rfl rfl tyA32 tyS32 rfl rfl ?_
    refine jB3 rfl rfl ?_
    refine jB3 rfl rfl ?_
    refine jB3 rfl rfl ?_
    refine jE0 (hZ _ _ ?_)
    refine aF [(2, _), (3, _), (4, _)] (kR rfl) ?_
    refine aE ?_
    repeat (with_reducible (first | refine nTR ?_ | refine nBR ?_))
    exact jH5 [] rfl rfl rfl rfl (HLe.sub (List.nil_sublist _)) ⟨_, rfl, RowOk.nil, rfl⟩
   have he : e = 0 := by simp at h5; omega
   subst he
   rw [decG_s hM rfl hlt hg] at hq
   refine aK ?_
   with_reducible refine nN ?_
   refine aS ?_
   refine jD0 _ [(0, true), (1, true), (2, true), (3, true), (4, true), (5, true), (6, true), (7, false), (8, true)] mixed (by kernel_rfl) (HLe.pick [1] (by simp) (by simp only [pick, List.filterMap_cons, qS]; rfl)) (fun Z hZ => ?_)
   refine tw_p rfl ?_
   refine jA3 rfl rfl ?_
   refine vN ?_
   refine tw_p rfl ?_
   refine jA3 rfl rfl ?_
   refine vN ?_
   refine tw_p rfl ?_
   first | refine sv_loadA 0 rfl rfl tyA114 tyS114 rfl (by simp only [qS]; rfl) rfl ?_
   refine vN ?_
   refine tw_p rfl ?_
   refine jA3 rfl rfl ?_
   refine vN ?_
   refine tw_p rfl ?_
   refine jA3 rfl rfl ?_
   refine vN ?_
   refine tw_p rfl ?_
   refine jC9 (i * 4) Tryz.underlying68 tyS114 rfl rfl (by omega) (by simp) rfl ?_
   refine vN ?_
   refine tw_p rfl ?_
   refine jA3 rfl rfl ?_
   refine vN ?_
   refine tw_g rfl ?_
   refine jD3 [_] [_, _, _] (dset_fn c i i ga (prevE M i) (atE M i) x M hc4 (by omega) hpo g1' hat) rfl (HLe.pick [2, 1, 0, 3] (by simp) rfl) rfl ?_
   rintro v H' ⟨rfl, M', rfl, hM'⟩
   refine sN ⟨HLe.pick [1] (by simp) rfl, ?_⟩
   refine tw_p rfl ?_
   refine jD7 rfl rfl ?_
   refine vN ?_
   refine jH2 (hZ _ _ ?_)
   refine aF [(0, _), (6, _), (7, _), (8, _), (9, _), (10, _), (12, _), (13, _), (35, _), (39, _), (40, _)] (kR rfl) ?_
   refine aR fun Z hZ => sM rfl rfl ?_
   refine jE5 rfl rfl rfl ?_
   refine sN (hZ _ _ ?_)
   refine aF [(0, _), (6, _), (7, _), (8, _), (9, _), (10, _), (12, _), (13, _), (35, _), (39, _), (40, _), (64, _)] (kR rfl) ?_
   refine aC rfl (fun h6 => ?_) (fun h6 => ?_)
   ·have he : errQ c i (prevE M i) x ≠ 0 := by simp at h6; omega
    rw [if_pos he] at hq
    rw [← hq]
    refine jB9 mixed (by kernel_rfl) (fun Z hZ => ?_)
    refine qFA rfl tyF220_1 (by simp only [Nat.zero_add]; rfl) rfl ?_
    refine jB7 3 rfl rfl tyA3 tyS3 rfl rfl ?_
    refine qM rfl rfl ?_
    refine jB3 rfl rfl ?_
    refine jB3 rfl rfl ?_
    refine jB3 rfl rfl ?_
    refine jE0 (hZ _ _ ?_)
    refine aF [(2, _), (3, _), (4, _)] (kR rfl) ?_
    refine aE ?_
    repeat (with_reducible (first | refine nTR ?_ | refine nBR ?_))
    exact jH5 [] rfl rfl rfl rfl (HLe.sub (List.nil_sublist _)) ⟨_, rfl, RowOk.nil, rfl⟩
   have he : errQ c i (prevE M i) x = 0 := by simp at h6; omega
   rw [if_neg (by simpa using he)] at hq
   have hM' := hM' he
   subst hM'
   have hat' : (M.set i (putQ c (prevE M i) (atE M i) x))[i]? = some (putQ c (prevE M i) (atE M i) x) := at_set hat
   have hE' : jF2 (M.set i (putQ c (prevE M i) (atE M i) x)) := ens_set hE (putQ_ok hao g1')
   refine aK ?_
   with_reducible refine nN ?_
   refine aww_region _ [(0, true), (1, true), (2, true), (3, true), (4, true), (5, false), (6, false)] mixed (by kernel_rfl) (HLe.pick [0, 2] (by simp) (by simp only [pick, List.filterMap_cons, List.filterMap_nil]; rfl)) (fun Z hZ => ?_)
   refine tw_p rfl ?_
   refine jA3 rfl rfl ?_
   refine vN ?_
   refine tw_p rfl ?_
   refine jA3 rfl rfl ?_
   refine vN ?_
   refine tw_p rfl ?_
   refine jC9 (i * 4) Tryz.underlying68 tyS114 rfl rfl (by omega) (by simp) rfl ?_
   refine vN ?_
   refine tw_p rfl ?_
   refine jE6 0 rfl rfl tyA114 tyS114 (ecells_all hat') rfl ?_
   refine vN ?_
   refine tw_p rfl ?_
   refine sv_loadA 1 rfl rfl tyA220 tyS220 rfl (by simp only [qS]; rfl) rfl ?_
   refine vN ?_
   refine tw_g rfl ?_
   refine sS 1 rfl rfl rfl tyS114 (by simp only [Value.cells]; rfl) rfl rfl rfl (by simp only [qS, Nat.reduceAdd, wrV]; rfl) rfl ?_
   refine sN ⟨HLe.pick [0, 2] (by simp) rfl, ?_⟩
   refine tw_g rfl ?_
   refine sS 3 rfl rfl rfl tyS220 (by simp only [Value.cells]; rfl) rfl rfl rfl (by simp only [qS, Nat.reduceAdd, wrV]; rfl) rfl ?_
   refine sN ⟨HLe.pick [0, 2] (by simp) rfl, ?_⟩
   refine jH2 (hZ _ _ ?_)
   refine nF [(0, _), (6, _), (7, _), (8, _), (9, _), (35, _), (39, _), (40, _)] (kR rfl) ?_
   repeat (with_reducible refine nBN ?_)
   with_reducible refine nN ?_
   refine aG (fun Z hZ => ?_)
   refine jB8 rfl rfl ((i + 1 : Nat) : Int) (by rw [IntWalk.i64_in _ (by omega)]; omega) rfl ?_
   refine sM rfl rfl <| sN (hZ _ _ ?_)
   refine nF [(0, _), (6, _), (7, _), (8, _), (9, _), (35, _), (39, _), (40, _)] (kR rfl) ?_
   refine jB5 (i + 1, M.set i (putQ c (prevE M i) (atE M i) x), q) ⟨by show i + 1 ≤ _; omega, by simpa using hM, hE', g2', ?_⟩ (by simp; omega) (kR rfl) ?_
   ·show decG s (4 * n - (c * n + (i + 1))) (c * n + (i + 1)) _ _ = D
    rw [show 4 * n - (c * n + (i + 1)) = m by omega, ← Nat.add_assoc]
    exact hq
   ·simp only [prevE_succ]
    have : atE (M.set i (putQ c (prevE M i) (atE M i) x)) i = putQ c (prevE M i) (atE M i) x := Option.some.inj ((atE_at (by simp; omega)).symm.trans hat')
    rw [this]
    exact HLe.pick [1, 0, 3] (by simp) rfl
  ·refine jB1 ?_
   repeat (with_reducible refine nTE ?_)
   with_reducible refine nBE ?_
   repeat (with_reducible refine nBN ?_)
   with_reducible refine nN ?_
   have hie : i = n := by simp at h4; omega
   subst hie
   refine aG (fun Z hZ => ?_)
   refine jB8 rfl rfl ((c + 1 : Nat) : Int) (by rw [IntWalk.i64_in _ (by omega)]; omega) rfl ?_
   refine sM rfl rfl <| sN (hZ _ _ ?_)
   refine nF [(0, _), (6, _), (7, _), (35, _)] (kR rfl) ?_
   refine jB5 (c + 1, M, p) ⟨by show c + 1 ≤ _; omega, hM, hE, hp, ?_⟩ (by simp; omega) (kR rfl) (HLe.drop 1 rfl)
   show decG s (4 * i - (c + 1) * i) ((c + 1) * i) M p = D
   rw [Nat.add_mul, Nat.one_mul]
   exact hq
 ·have hc4 : c = 4 := by simp at h3; omega
  subst hc4
  rw [Nat.sub_self, decG_0] at hq
  refine jB1 ?_
  repeat (with_reducible refine nTE ?_)
  with_reducible refine nBE ?_
  with_reducible refine nN ?_
  refine aS ?_
  refine aR (fun Z hZ => ?_)
  refine sFA rfl tyF220_1 (by simp only [Nat.zero_add]; rfl) rfl ?_
  refine sL 1 rfl rfl tyA3 tyS3 rfl rfl ?_
  refine sM rfl rfl ?_
  refine jF0 Tryz.underlying9 rfl rfl ?_
  refine jC4 rfl rfl rfl ?_
  refine sN (hZ _ _ ?_)
  refine aF [(0, _), (6, _), (7, _), (79, _)] (kR rfl) ?_
  refine aC rfl (fun h4 => ?_) (fun h4 => ?_)
  ·have hl : p < s.length := by simp at h4; omega
   rw [if_pos hl] at hq
   rw [← hq]
   refine jB9 mixed (by kernel_rfl) (fun Z hZ => ?_)
   refine qFA rfl tyF220_1 (by simp only [Nat.zero_add]; rfl) rfl ?_
   refine jB7 1 rfl rfl tyA3 tyS3 rfl rfl ?_
   refine jB3 rfl rfl ?_
   refine jB3 rfl rfl ?_
   refine jB3 rfl rfl ?_
   refine jE0 (hZ _ _ ?_)
   refine aF [(2, _), (3, _), (4, _)] (kR rfl) ?_
   refine aE ?_
   repeat (with_reducible refine nTR ?_)
   exact jH5 [] rfl rfl rfl rfl (HLe.sub (List.nil_sublist _)) ⟨_, rfl, RowOk.nil, rfl⟩
  have hl : ¬ p < s.length := by simp at h4; omega
  rw [if_neg hl] at hq
  have hmax : M.length ≤ maxLen := by show _ ≤ 9223372036854775807; omega
  refine aK ?_
  with_reducible refine nN ?_
  subst hM
  refine aS ?_
  refine aR fun Z hZ => sM rfl rfl ?_
  refine sx_callV [.ro ga 0 (jA1 M)] (erow_fn (some ⟨ga, 0, none⟩) M.length M _ (fun _ => ⟨_, _, rfl⟩) (fun _ => rfl) (Ro.roE (some ⟨ga, 0, none⟩) (jA1 M)) hmax hE) rfl ((HLe.toRo [] []).trans (HLe.pick [0] (by simp) rfl)) (Ro.roE (some ⟨ga, 0, none⟩) (jA1 M)) rfl ?_
  refine sA rfl rfl <| sN (hZ _ _ ?_)
  refine aF [(0, _), (7, _), (14, _)] (kR rfl) ?_
  refine aR fun Z hZ => sM rfl rfl ?_
  refine jE5 rfl rfl rfl ?_
  refine sN (hZ _ _ ?_)
  refine aF [(0, _), (7, _), (14, _), (85, _)] (kR rfl) ?_
  refine aC rfl (fun h5 => ?_) (fun h5 => ?_)
  ·have hr : rowC M ≠ 0 := by simp at h5; omega
   rw [if_pos hr] at hq
   rw [← hq]
   refine aR fun Z hZ => sM rfl rfl ?_
   refine jF0 Tryz.underlying9 rfl rfl ?_
   refine sM rfl rfl <| sA rfl rfl <| sA rfl rfl <| sA rfl rfl <| sN (hZ _ _ ?_)
   refine aF [(2, _), (3, _), (4, _)] (kR rfl) ?_
   refine aE ?_
   repeat (with_reducible refine nTR ?_)
   exact jH5 [] rfl rfl rfl rfl (HLe.sub (List.nil_sublist _)) ⟨_, rfl, RowOk.nil, rfl⟩
  have hr : rowC M = 0 := by simp at h5; omega
  rw [if_neg (by simpa using hr)] at hq
  rw [← hq]
  refine aK ?_
  with_reducible refine nN ?_
  refine aR fun Z hZ => sM rfl rfl <| sM rfl rfl ?_
  refine jF0 Tryz.underlying9 rfl rfl ?_
  refine sA rfl rfl <| sA rfl rfl <| sA rfl rfl <| sN (hZ _ _ ?_)
  refine aF [(2, _), (3, _), (4, _)] (kR rfl) ?_
  refine aE ?_
  exact jH5 _ rfl rfl rfl rfl ((HLe.ownRow [] [] (ecells_len M) hmax).trans (HLe.pick [0] (by simp) rfl)) ⟨_, rfl, RowOk.mk _ _ _, rfl⟩
end Go.Proofs.YtkojkeabelckjaaGreatDoor.V
namespace Go.Proofs.YtkojkeabelckjaaGreatDoor.V
open Go.RowKit
end Go.Proofs.YtkojkeabelckjaaGreatDoor.V
