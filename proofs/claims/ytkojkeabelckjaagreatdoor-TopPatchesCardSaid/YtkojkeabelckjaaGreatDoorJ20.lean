/- Walks and plain laws for this claim (texts Glf1, joined). Each theorem states its own conditions. -/
import Derived.Test.YtkojkeabelckjaaGreatDoorJ19
import Derived.Test.YtkojkeabelckjaaGreatDoorJ08

set_option linter.all false
namespace Go.Proofs.YtkojkeabelckjaaGreatDoor.V
open Go.RowKit
def isPtr (e : En) : Bool := decide (e.run = 0)
def jH9 (L : List En) : Bool := L.any isPtr
theorem pointer_fn (e : En) (h : e.ok) : Fn Tryz.prog 53 [e.val] [] fun v _ => v = .bool (isPtr e) := by
 refine Fn.enter (N := 6) Tryz.func53 rfl (by kernel_rfl) rfl (fun w0 => ?_)
 refine aR (fun Z hZ => ?_)
 refine jC3 rfl rfl rfl (fun g1 => ?_)
 refine sA rfl rfl <| sN (hZ _ _ ?_)
 refine aF [(1, _)] (Kn.cons rfl (Kn.nil)) ?_
 refine aR (fun Z hZ => ?_)
 refine sFA rfl tyF114_3 (by simp only [Nat.zero_add]; rfl) rfl ?_
 first | refine sL 0 rfl rfl tyA112 tyS112 rfl rfl ?_
 refine jC8 rfl rfl rfl ?_
 refine sA rfl rfl <| sN (hZ _ _ ?_)
 refine aF [(2, _)] (Kn.cons rfl (Kn.nil)) ?_
 refine aE ?_
 exact nR1 rfl rfl (congrArg Value.bool (by rw [Bool.eq_iff_iff]; simp [isPtr]))
theorem index_fn (A : Option Addr) (c : Nat) (L : List En) (T : Heap) (hA : jH1 A L.length) (hT : 0 < L.length → T = roE A (jA1 L)) (hL : L.length ≤ maxLen) (hE : jF2 L) :
  Fn Tryz.prog 94 [.slice A L.length c, .func (.func 53) #[] #[]] T fun v _ => ∃ i : Int, v = iq i ∧ (0 ≤ i ↔ jH9 L = true) := by
 have hL' : L.length ≤ 9223372036854775807 := hL
 refine Fn.enter (N := 19) Tryz.func94 rfl (by kernel_rfl) rfl (fun w0 => ?_)
 refine aR fun Z hZ => sA rfl rfl <| sN (hZ _ _ ?_)
 refine aF [(0, _), (1, _)] (kR rfl) ?_
 refine aS ?_
 refine aR fun Z hZ => sM rfl rfl ?_
 refine jD9 Tryz.underlying68 rfl rfl ?_
 refine sM rfl rfl <| sN (hZ _ _ ?_)
 refine aF [(0, _), (1, _), (7, _), (8, _)] (kR rfl) ?_
 refine aB ?_
 refine jB6 (ι := Nat) (fun k => [(0, .slice A L.length c), (1, .func (.func 53) #[] #[]), (7, iq (L.length : Nat)), (8, iq (k : Nat))]) (fun _ => T)
  (fun k => k ≤ L.length ∧ jH9 (L.drop k) = jH9 L) (fun k => L.length - k) 0 ⟨by simp, rfl⟩ (kR rfl) (HLe.refl _) ?_
 rintro k ⟨hk, hq⟩
 refine aR (fun Z hZ => ?_)
 refine jC4 rfl rfl rfl ?_
 refine sN (hZ _ _ ?_)
 refine aF [(0, _), (1, _), (7, _), (8, _), (9, _)] (kR rfl) ?_
 refine aS (aC rfl (fun h => ?_) (fun h => ?_))
 ·have hlt : k < L.length := by simpa using h
  obtain ⟨x, hx⟩ : ∃ x, L[k]? = some x := ⟨_, List.getElem?_eq_getElem hlt⟩
  have hxe : L[k] = x := Option.some.inj ((List.getElem?_eq_getElem hlt).symm.trans hx)
  have hok : x.ok := hE x (List.mem_of_getElem? hx)
  rw [List.drop_eq_getElem_cons hlt, hxe, jH9, List.any_cons] at hq
  obtain ⟨g, o, rfl⟩ := hA (by omega)
  obtain rfl := hT (by omega)
  refine aK ?_
  with_reducible refine nN ?_
  refine aS (aB ?_)
  refine aR fun Z hZ => sM rfl rfl <| sA rfl rfl <| sN (hZ _ _ ?_)
  refine aF [(0, _), (1, _), (5, _), (7, _), (8, _)] (kR rfl) ?_
  refine aR fun Z hZ => sM rfl rfl <| sM rfl rfl <| sM rfl rfl ?_
  refine jA6 (o + k * 4) Tryz.underlying68 tyS114 rfl rfl (by omega) (by simp) rfl ?_
  refine jD5 0 rfl rfl (k * 4) rfl tyA114 tyS114 (ecells_all hx) rfl ?_
  refine sx_callFV (caps := []) (vs := [x.val]) [] (pointer_fn x hok) rfl rfl (HLe.sub (List.nil_sublist _)) Ro.nil rfl ?_
  refine sN (hZ _ _ ?_)
  refine aF [(0, _), (1, _), (5, _), (7, _), (8, _), (16, _)] (kR rfl) ?_
  refine aC rfl (fun hb => ?_) (fun hb => ?_)
  ·have hb' : isPtr x = true := hb
   rw [hb', Bool.true_or] at hq
   refine aR fun Z hZ => sM rfl rfl <| sA rfl rfl <| sN (hZ _ _ ?_)
   refine aF [(4, _)] (Kn.cons rfl (Kn.nil)) ?_
   refine aE ?_
   repeat (with_reducible (first | refine nTR ?_ | refine nBR ?_))
   exact nR1 rfl rfl ⟨(k : Int), rfl, fun _ => hq.symm, fun _ => by omega⟩
  have hb' : isPtr x = false := hb
  rw [hb', Bool.false_or] at hq
  refine aK ?_
  repeat (with_reducible refine nBN ?_)
  with_reducible refine nN ?_
  refine aG (fun Z hZ => ?_)
  refine jB8 rfl rfl ((k + 1 : Nat) : Int) (by rw [IntWalk.i64_in _ (by omega)]; omega) rfl ?_
  refine sM rfl rfl <| sN (hZ _ _ ?_)
  refine nF [(0, _), (1, _), (7, _), (8, _)] (kR rfl) ?_
  exact jB5 (k + 1) ⟨by omega, hq⟩ (by omega) (kR rfl) (HLe.refl _)
 ·refine jB1 ?_
  repeat (with_reducible refine nTE ?_)
  with_reducible refine nBE ?_
  with_reducible refine nN ?_
  have hke : k = L.length := by simp at h; omega
  subst hke
  rw [List.drop_length] at hq
  refine aR fun Z hZ => sA rfl rfl <| sN (hZ _ _ ?_)
  refine aF [(4, _)] (Kn.cons rfl (Kn.nil)) ?_
  refine aE ?_
  exact nR1 rfl rfl ⟨-1, rfl, fun h => by omega, fun h => by rw [← hq] at h; simp [jH9] at h⟩
theorem contains_fn (A : Option Addr) (c : Nat) (L : List En) (T : Heap) (hA : jH1 A L.length) (hT : 0 < L.length → T = roE A (jA1 L)) (hro : Ro T) (hL : L.length ≤ maxLen) (hE : jF2 L) :
  Fn Tryz.prog 52 [.slice A L.length c, .func (.func 53) #[] #[]] T fun v _ => v = .bool (jH9 L) := by
 refine Fn.enter (N := 9) Tryz.func52 rfl (by kernel_rfl) rfl (fun w0 => ?_)
 refine aR fun Z hZ => sA rfl rfl <| sN (hZ _ _ ?_)
 refine aF [(0, _), (1, _)] (kR rfl) ?_
 refine aR fun Z hZ => sM rfl rfl <| sM rfl rfl ?_
 refine jD3 T [] (index_fn A c L T hA hT hL hE) rfl (by rw [List.append_nil]; exact HLe.refl _) rfl ?_
 rintro v H' ⟨i, rfl, hi⟩
 refine jC1 [] (HLe.sub (List.nil_sublist _)) ?_
 refine sx_geq rfl rfl rfl ?_
 refine sA rfl rfl <| sN (hZ _ _ ?_)
 refine aF [(4, _)] (Kn.cons rfl (Kn.nil)) ?_
 refine aE ?_
 exact nR1 rfl rfl (congrArg Value.bool (by rw [Bool.eq_iff_iff, ← hi]; simp))
theorem clone_fn (A : Option Addr) (c : Nat) (L : List En) (T : Heap) (hA : jH1 A L.length) (hT : 0 < L.length → T = roE A (jA1 L)) (hnil : A = none → L.length = 0) (hro : Ro T) (hL : L.length ≤ 100000) :
  Fn Tryz.prog 55 [.slice A L.length c] T fun v H' => RowOk v L.length ∧ H' = rowE v 114 4 (jA1 L) := by
 refine Fn.enter (N := 8) Tryz.func55 rfl (by kernel_rfl) rfl (fun w0 => ?_)
 refine aR fun Z hZ => sA rfl rfl <| sN (hZ _ _ ?_)
 refine aF [(0, _)] (Kn.cons rfl (Kn.nil)) ?_
 refine aS ?_
 refine aR fun Z hZ => sM rfl rfl ?_
 refine sx_sliceEqNil Tryz.underlying68 rfl rfl ?_
 refine sN (hZ _ _ ?_)
 refine aF [(0, _), (4, _)] (kR rfl) ?_
 refine aC rfl (fun h => ?_) (fun h => ?_)
 ·have h0 : A = none := by simpa using h
  have hl := hnil h0
  refine aR fun Z hZ => sA rfl rfl <| sN (hZ _ _ ?_)
  refine aF [(2, _)] (Kn.cons rfl (Kn.nil)) ?_
  refine aE ?_
  repeat (with_reducible refine nTR ?_)
  have hLn : L = [] := List.length_eq_zero_iff.1 hl
  subst hLn
  exact jD4 [] rfl rfl (HLe.sub (List.nil_sublist _)) ⟨RowOk.nil, rfl⟩
 refine aK ?_
 with_reducible refine nN ?_
 refine aR (fun Z hZ => ?_)
 refine sx_buildSlice0 Tryz.underlying68 tyS114 rfl (fun g => ?_)
 refine jC1 (T ++ rowE (.slice (some ⟨g, 0, none⟩) 0 0) 114 4 []) ((HLe.swap _ _).trans (HLe.ownRow [] T rfl (Nat.zero_le _))) ?_
 refine sM rfl rfl ?_
 refine jD2 T elemEn rfl (RowOk.mk g 0 0) rfl rfl (fun w hw => rd_arg hA hT (ecells_len L) hnil (HLe.sub (List.sublist_append_left _ _)) hw) (ecells_one L) (by show _ ≤ 9223372036854775807; omega) (by omega) (HLe.refl _) rfl (fun v2 hv2 => ?_)
 rw [List.nil_append]
 rw [Nat.zero_add] at hv2
 refine sA rfl rfl <| sN (hZ _ _ ?_)
 refine aF [(2, _)] (Kn.cons rfl (Kn.nil)) ?_
 refine aE ?_
 exact jD4 _ rfl rfl (HLe.sub (List.sublist_append_right _ _)) ⟨hv2, rfl⟩
end Go.Proofs.YtkojkeabelckjaaGreatDoor.V
namespace Go.Proofs.YtkojkeabelckjaaGreatDoor.V
open Go.RowKit
def cntP (n z : Nat) : Nat := (n + z - 1) / z
theorem cntP_iff {n z q : Nat} (hz : 0 < z) : q < cntP n z ↔ q * z < n := by
 unfold cntP
 rw [← Nat.succ_le_iff, Nat.le_div_iff_mul_le hz, Nat.succ_mul]
 omega
def pAddr (A : Option Addr) (k : Nat) : Option Addr := A.map fun a => ⟨a.block, a.off + k, a.spot⟩
def pcL (L : List En) (z q : Nat) : List En := (L.drop (q * z)).take z
theorem pcL_len (L : List En) (z q : Nat) : (pcL L z q).length = min z (L.length - q * z) := by simp [pcL]
def pcV (A : Option Addr) (n z q : Nat) : Value := .slice (pAddr A (q * z * 4)) (min z (n - q * z)) (min z (n - q * z))
theorem chunk_fn (A : Option Addr) (n c z : Nat) (hz : 0 < z) : Fn Tryz.prog 96 [.slice A n c, iq z] [] fun v H' => ∃ gs gn, v = .func (.func 143) #[] #[ptr gs 0, ptr gn 0] ∧ H' = [.own gn 3 [iq z], .own gs 68 [.slice A n c]] := by
 refine Fn.enter (N := 9) Tryz.func96 rfl (by kernel_rfl) rfl (fun w0 => ?_)
 refine aR (fun Z hZ => ?_)
 refine jC3 rfl rfl rfl (fun g1 => ?_)
 refine jC3 rfl rfl rfl (fun g2 => ?_)
 refine sA rfl rfl <| sN (hZ _ _ ?_)
 refine aF [(2, _), (3, _)] (kR rfl) ?_
 refine aS ?_
 refine aR (fun Z hZ => ?_)
 refine sL 0 rfl rfl tyA3 tyS3 rfl rfl ?_
 refine jC4 rfl rfl rfl ?_
 refine sN (hZ _ _ ?_)
 refine aF [(2, _), (3, _), (6, _)] (kR rfl) ?_
 refine aC rfl (fun h => ?_) (fun h => ?_)
 ·simp at h
  omega
 refine aK ?_
 with_reducible refine nN ?_
 refine aR (fun Z hZ => ?_)
 refine sx_makeFunc rfl rfl ?_
 refine sA rfl rfl <| sN (hZ _ _ ?_)
 refine aF [(4, _)] (Kn.cons rfl (Kn.nil)) ?_
 refine aE ?_
 exact jD4 _ rfl rfl (HLe.refl _) ⟨g1, g2, rfl, rfl⟩
theorem chunk_it (gs gn : Nat) (A : Option Addr) (n c z : Nat) (hz : 0 < z) (hzm : z ≤ maxLen) (hA : jH1 A n) (hc : n ≤ c) (hn : n ≤ 100000) :
  Iter Tryz.prog 143 [ptr gs 0, ptr gn 0] [.ro gs 0 [.slice A n c], .ro gn 0 [iq z]] ((List.range (cntP n z)).map fun q => [pcV A n z q]) := by
 intro l J Jr S hJ hS hJr hY T0 hT0
 have hzm' : z ≤ 9223372036854775807 := hzm
 have hlen : ((List.range (cntP n z)).map fun q => [pcV A n z q]).length = cntP n z := by simp
 rw [hlen]
 refine Fn.enter (N := 31) Tryz.func143 rfl (by kernel_rfl) rfl (fun w0 => ?_)
 refine jA8 (.ro gs 0 [.slice A n c] :: .ro gn 0 [iq z] :: (T0 ++ Jr)) (HLe.refl _) ?_
 refine aR fun Z hZ => sA rfl rfl <| sN (hZ _ _ ?_)
 refine aF [(0, _), (1, _), (2, _), (4, _)] (kR rfl) ?_
 refine aB ?_
 refine jB6 (ι := Nat × Heap) (fun i => [(0, .func (.yield l) #[] #[]), (1, ptr gs 0), (2, ptr gn 0), (4, iq (i.1 * z : Nat))]) (fun i => .ro gs 0 [.slice A n c] :: .ro gn 0 [iq z] :: (i.2 ++ Jr))
  (fun i => i.1 ≤ cntP n z ∧ J i.1 i.2) (fun i => cntP n z - i.1) (0, T0) ⟨by simp, hT0⟩ (Kn.cons rfl (Kn.cons rfl (Kn.cons rfl (Kn.cons (by rw [Nat.zero_mul]; rfl) Kn.nil)))) (HLe.refl _) ?_
 rintro ⟨q, T3⟩ ⟨hi, hT3⟩
 simp only at hi hT3
 have hiff := cntP_iff (n := n) (q := q) hz
 obtain ⟨i, hqz⟩ : ∃ i, q * z = i := ⟨_, rfl⟩
 have hnext : (q + 1) * z = i + z := by rw [Nat.succ_mul, hqz]
 rw [hqz] at hiff
 refine aF [(0, .func (.yield l) #[] #[]), (1, ptr gs 0), (2, ptr gn 0), (4, iq (i : Nat))] (Kn.cons rfl (Kn.cons rfl (Kn.cons rfl (Kn.cons (by show some (iq ((q * z : Nat) : Int)) = _; rw [hqz]) Kn.nil)))) ?_
 refine aS ?_
 refine aR fun Z hZ => sM rfl rfl ?_
 refine jD5 0 rfl rfl 0 rfl tyA68 tyS68 rfl rfl ?_
 refine jD9 Tryz.underlying68 rfl rfl ?_
 refine jC4 rfl rfl rfl ?_
 refine sN (hZ _ _ ?_)
 refine aF [(0, _), (1, _), (2, _), (4, _), (9, _)] (kR rfl) ?_
 refine aC rfl (fun hh => ?_) (fun hh => ?_)
 ·have hlt : i < n := by simpa using hh
  have hq : q < cntP n z := hiff.2 hlt
  have hsum : i + z ≤ 9223372036854775807 := by
   rcases Nat.eq_zero_or_pos q with h0 | h0
   ·subst h0; omega
   ·have : z ≤ q * z := Nat.le_mul_of_pos_left z h0
    omega
  obtain ⟨ga, o, rfl⟩ := hA (by omega)
  obtain ⟨e, he⟩ : ∃ e, min z (n - i) = e := ⟨_, rfl⟩
  have he1 : 0 < e ∧ e ≤ n - i := by omega
  have hitem : ((List.range (cntP n z)).map fun q => [pcV (some ⟨ga, o, none⟩) n z q])[q]? = some [.slice (some ⟨ga, o + i * 4, none⟩) e e] := by
   rw [List.getElem?_map, List.getElem?_range hq]
   simp only [Option.map_some, pcV, pAddr, hqz, he]
  refine aK ?_
  with_reducible refine nN ?_
  refine aS (aB ?_)
  refine jB9 mixed (by kernel_rfl) (fun Z hZ => ?_)
  refine jG8 1 rfl rfl 0 rfl tyA3 tyS3 rfl rfl ?_
  refine jG8 0 rfl rfl 0 rfl tyA68 tyS68 rfl rfl ?_
  refine qM rfl rfl ?_
  refine sq_slice Tryz.underlying68 tyS114 rfl rfl rfl (by omega) (by omega) (by omega) rfl (fun o' ho => ?_)
  refine sq_len Tryz.underlying68 rfl rfl ?_
  refine sq_min rfl rfl ((e : Nat) : Int) (by rw [← he]; simp only [Int.toNat_natCast]; omega) rfl ?_
  refine jB3 rfl rfl ?_
  refine jE0 (hZ _ _ ?_)
  refine aF [(0, _), (1, _), (2, _), (4, _), (5, _)] (kR rfl) ?_
  refine awy_seq_region (fun Z hZ => ?_)
  refine sy_x rfl ?_
  refine sM rfl rfl ?_
  refine sN ?_
  refine sy_x rfl ?_
  refine jD5 0 rfl rfl 0 rfl tyA68 tyS68 rfl rfl ?_
  refine sN ?_
  refine sy_x rfl ?_
  refine sM rfl rfl ?_
  refine sN ?_
  refine sy_x rfl ?_
  refine sM rfl rfl ?_
  refine sN ?_
  refine sy_x rfl ?_
  refine sM rfl rfl ?_
  refine sN ?_
  refine sy_x rfl ?_
  refine jB8 rfl rfl ((i + e : Nat) : Int) (by rw [IntWalk.i64_in _ (by omega)]; omega) rfl ?_
  refine sN ?_
  refine sy_x rfl ?_
  refine sM rfl rfl ?_
  refine sN ?_
  refine sy_x rfl ?_
  refine sM rfl rfl ?_
  refine sN ?_
  refine sy_x rfl ?_
  refine jB8 rfl rfl ((i + e : Nat) : Int) (by rw [IntWalk.i64_in _ (by omega)]; omega) rfl ?_
  refine sN ?_
  refine sy_x rfl ?_
  refine sx_slice3 (o + i * 4) Tryz.underlying68 tyS114 rfl rfl rfl rfl (by omega) (by omega) (Nat.le_refl _) (by omega) rfl rfl ?_
  rw [Nat.add_sub_cancel_left]
  refine sN ?_
  refine sy_yield [_, _] T3 Jr Jr (hY q _ T3 hitem hT3) rfl rfl rfl (List.Sublist.refl _) hJr rfl ?_
  rintro v T4 ⟨b, rfl, hb1, hb2⟩
  refine sy_x rfl ?_
  refine sx_not rfl rfl ?_
  refine sN ?_
  refine sy_nil (hZ _ _ ?_)
  refine aF [(0, _), (1, _), (2, _), (4, _), (30, _)] (kR rfl) ?_
  refine aC rfl (fun h3 => ?_) (fun h3 => ?_)
  ·have hb : b = false := by simpa using h3
   refine aE ?_
   repeat (with_reducible (first | refine nTR ?_ | refine nBR ?_))
   exact nx_ret0h T4 rfl (wrs_flt (A := [_, _]) (hS T4 (hb2 hb))) (.inr (hb2 hb))
  have hb : b = true := by simpa using h3
  have hT4 := hb1 hb
  rw [(hJ _ T4 hT4).filter]
  refine aK ?_
  repeat (with_reducible refine nBN ?_)
  with_reducible refine nN ?_
  refine aG (fun Z hZ => ?_)
  refine sM rfl rfl ?_
  refine jD5 1 rfl rfl 0 rfl tyA3 tyS3 rfl rfl ?_
  refine jB8 rfl rfl (((q + 1) * z : Nat) : Int) (by rw [hnext, IntWalk.i64_in _ (by omega)]; omega) rfl ?_
  refine sA rfl rfl <| sN (hZ _ _ ?_)
  refine nF [(0, _), (1, _), (2, _), (4, _)] (kR rfl) ?_
  exact jB5 (q + 1, T4) ⟨by show q + 1 ≤ _; omega, hT4⟩ (by simp; omega) (kR rfl) (HLe.refl _)
 ·have hge : ¬ i < n := by simpa using hh
  have hqe : q = cntP n z := by
   have : ¬ q < cntP n z := fun h => hge (hiff.1 h)
   omega
  subst hqe
  refine jB1 ?_
  repeat (with_reducible refine nTE ?_)
  with_reducible refine nBE ?_
  exact nx_end0h T3 rfl (HLe.sub ((List.sublist_append_left T3 Jr).trans ((List.sublist_cons_self _ _).trans (List.sublist_cons_self _ _)))) (.inl hT3)
end Go.Proofs.YtkojkeabelckjaaGreatDoor.V
namespace Go.Proofs.YtkojkeabelckjaaGreatDoor.V
open Go.RowKit
theorem elemSl : ElemOk Tryz.prog 133 68 1 24 := ElemOk.mk_ (z := .slice none 0 0) Tryz.underlying133 (by kernel_rfl) rfl (by omega)
def pcH (us : List (Value × List En)) : Heap := us.flatMap fun x => rowE x.1 114 4 (jA1 x.2)
theorem pcH_wrs (us : List (Value × List En)) : Wrs (pcH us) := fun e he => by
 obtain ⟨x, _, hx⟩ := List.mem_flatMap.1 he
 exact rowE_wrs _ _ _ _ e hx
theorem pcH_snoc (us : List (Value × List En)) (x : Value × List En) : pcH (us ++ [x]) = pcH us ++ rowE x.1 114 4 (jA1 x.2) := by simp [pcH]
theorem ecells_pc {L : List En} {i z j : Nat} {u : Value} (h : (jA1 ((L.drop i).take z))[j]? = some u) : (jA1 L)[i * 4 + j]? = some u := by
 have h1 : (jA1 L).drop (i * 4) = jA1 (L.drop i) := fm_drop en_len L i
 have h2 : jA1 (L.drop i) = jA1 ((L.drop i).take z) ++ jA1 ((L.drop i).drop z) := by rw [← List.flatMap_append, List.take_append_drop]
 rw [← List.getElem?_drop, h1, h2, List.getElem?_append_left (List.getElem?_eq_some_iff.1 h).1]
 exact h
theorem toEnd2 (X R Y U : Heap) : HLe ((X ++ (Y ++ U)) ++ R) (X ++ ((R ++ Y) ++ U)) := fun _ _ _ hw => hw.perm (by
 rw [List.append_assoc, List.append_assoc]
 exact List.Perm.append_left X (List.perm_append_comm (l₁ := R) (l₂ := Y ++ U)))
theorem fin_le (b v a r : Ent) (C U R : Heap) : HLe (a :: (R ++ (C ++ U))) ((b :: v :: a :: ((C ++ [r]) ++ U)) ++ R) := fun _ _ _ hw =>
 (hw.sub (show List.Sublist (a :: ((C ++ U) ++ R)) _ from List.Sublist.cons b (List.Sublist.cons v (List.Sublist.cons_cons a (List.Sublist.append_right (List.Sublist.append_right (List.sublist_append_left C [r]) U) R))))).perm
  (List.Perm.cons a List.perm_append_comm)
theorem rev3 (a b c : Ent) (T : Heap) : HLe (c :: b :: a :: T) (a :: b :: c :: T) := fun _ _ _ hw => hw.perm (List.Perm.append_right T (List.reverse_perm [c, b, a]))
theorem cut_fn (A : Option Addr) (c : Nat) (L : List En) (T : Heap) (z : Nat) (hA : jH1 A L.length) (hT : 0 < L.length → T = roE A (jA1 L)) (hro : Ro T) (hL : L.length ≤ 10000) (hc : L.length ≤ c) (hz : 0 < z) (hzm : z ≤ maxLen) :
  Fn Tryz.prog 56 [.slice A L.length c, iq z] T fun v H' => ∃ us : List (Value × List En), RowOk v us.length ∧ us.length = cntP L.length z ∧ (∀ x ∈ us, RowOk x.1 x.2.length) ∧ us.map Prod.snd = (List.range (cntP L.length z)).map (pcL L z) ∧ H' = rowE v 68 1 (us.map Prod.fst) ++ pcH us := by
 have hcn : cntP L.length z ≤ L.length := by
  rcases Nat.lt_or_ge L.length (cntP L.length z) with h | h
  ·have h1 := (cntP_iff hz).1 h
   have := Nat.le_mul_of_pos_right L.length hz
   omega
  ·exact h
 refine Fn.enterM (n := 19) Tryz.func56 rfl (by kernel_rfl) rfl (fun w0 => ?_)
 refine aR fun Z hZ => sA rfl rfl <| sN (hZ _ _ ?_)
 refine aF [(0, _), (1, _)] (kR rfl) ?_
 refine aS ?_
 refine aR fun Z hZ => sM rfl rfl ?_
 refine jC4 rfl rfl rfl ?_
 refine sN (hZ _ _ ?_)
 refine aF [(0, _), (1, _), (8, _)] (kR rfl) ?_
 refine aC rfl (fun h => ?_) (fun h => ?_)
 ·simp at h
  omega
 refine aK ?_
 with_reducible refine nN ?_
 refine aR (fun Z hZ => ?_)
 refine sAl tyZ133 rfl (fun g1 => ?_)
 refine sN (hZ _ _ ?_)
 refine aF [(0, _), (1, _), (5, _)] (kR rfl) ?_
 refine aS ?_
 refine aR fun Z hZ => sM rfl rfl <| sM rfl rfl ?_
 refine jD3 [] (.own g1 133 [.slice none 0 0] :: T) (chunk_fn A L.length c z hz) rfl (HLe.refl _) rfl ?_
 rintro v H' ⟨gs, gn, rfl, rfl⟩
 refine jC1 (.own g1 133 [.slice none 0 0] :: .own gs 68 [.slice A L.length c] :: .own gn 3 [iq z] :: T) (rev3 _ _ _ T) ?_
 refine jC1 (.own g1 133 [.slice none 0 0] :: .ro gs 0 [.slice A L.length c] :: .own gn 3 [iq z] :: T) (HLe.toRo [.own g1 133 [.slice none 0 0]] (.own gn 3 [iq z] :: T)) ?_
 refine jC1 (.own g1 133 [.slice none 0 0] :: .ro gs 0 [.slice A L.length c] :: .ro gn 0 [iq z] :: T) (HLe.toRo [.own g1 133 [.slice none 0 0], .ro gs 0 [.slice A L.length c]] T) ?_
 refine sN (hZ _ _ ?_)
 refine aF [(5, _), (11, _)] (kR rfl) ?_
 refine aB ?_
 refine awp_range (fun k H => ∃ (v : Value) (us : List (Value × List En)), us.length = k ∧ RowOk v k ∧ (∀ x ∈ us, RowOk x.1 x.2.length) ∧ us.map Prod.snd = (List.range k).map (pcL L z) ∧ H = .own g1 133 [v] :: (rowE v 68 1 (us.map Prod.fst) ++ pcH us)) T (fun _ _ => False) [.own g1 133 [.slice none 0 0]] (chunk_it gs gn A L.length c z hz hzm hA hc (by omega)) rfl (fun k H h => by obtain ⟨v, us, _, _, _, _, rfl⟩ := h; exact .cons rfl ((rowE_wrs _ _ _ _).append (pcH_wrs us))) (fun _ _ h => h.elim) hro (fun x hx => by simp only [List.mem_cons, List.not_mem_nil, or_false] at hx; rcases hx with rfl | rfl <;> rfl) (fun k vs h => by rw [List.getElem?_map] at h; cases hk : (List.range (cntP L.length z))[k]? with | none => rw [hk] at h; cases h | some x => rw [hk] at h; obtain rfl := Option.some.inj h; rfl) rfl ⟨.slice none 0 0, [], rfl, RowOk.nil, (fun x hx => absurd hx List.not_mem_nil), rfl, rfl⟩ (HLe.refl _) rfl ?_ ?_ (fun _ _ _ h => h.elim)
 ·rintro q vs H hk ⟨v, us, husl, hv, hus, hsnd, rfl⟩ l w1
  rw [List.getElem?_map] at hk
  cases hkx : (List.range (cntP L.length z))[q]? with
  | none => rw [hkx] at hk; cases hk
  | some x =>
   rw [hkx] at hk
   have hvs : [pcV A L.length z x] = vs := Option.some.inj hk
   obtain ⟨hkl, hxe⟩ := List.getElem?_eq_some_iff.1 hkx
   rw [List.getElem_range] at hxe
   subst hxe
   have hq : q < cntP L.length z := by simpa using hkl
   have hqz := (cntP_iff hz).1 hq
   obtain ⟨ga, o, rfl⟩ := hA (by omega)
   obtain rfl := hT (by omega)
   obtain ⟨P, hP⟩ : ∃ P, pcL L z q = P := ⟨_, rfl⟩
   have hPl : P.length = min z (L.length - q * z) := by rw [← hP, pcL_len]
   have hpv : pcV (some ⟨ga, o, none⟩) L.length z q = .slice (some ⟨ga, o + q * z * 4, none⟩) P.length P.length := by rw [hPl]; rfl
   have hP0 : 0 < P.length := by omega
   have hcl := clone_fn (some ⟨ga, o + q * z * 4, none⟩) P.length P (roE (some ⟨ga, o + q * z * 4, none⟩) (jA1 P)) (fun _ => ⟨_, _, rfl⟩) (fun _ => rfl) (fun h => by cases h) (Ro.roE _ _) (by omega)
   rw [hpv] at hvs
   subst hvs
   refine aG (fun Z hZ => ?_)
   refine sA rfl rfl <| sN (hZ _ _ ?_)
   refine nF [(5, _), (6, _)] (kR rfl) ?_
   refine nx_assign [] Wrs.nil (HLe.refl _) fun w2 => ?_
   refine aB ?_
   refine jA8 (.ro ga (o + q * z * 4) (jA1 P) :: .own g1 133 [v] :: (rowE v 68 1 (us.map Prod.fst) ++ (pcH us ++ [.ro ga o (jA1 L)]))) (HLe.trans (HLe.view (k := q * z * 4) (H := .own g1 133 [v] :: (rowE v 68 1 (us.map Prod.fst) ++ (pcH us ++ [.ro ga o (jA1 L)]))) (xs := jA1 L) (by simp) (fun j u hu => by subst hP; exact ecells_pc hu)) (by simp only [qS, List.append_assoc]; exact HLe.refl _)) ?_
   refine awf_region _ [(0, true), (1, true), (2, false), (3, false), (4, false)] 5 rfl mixed (by kernel_rfl) (HLe.pick [1] (by simp) (by simp only [pick, List.filterMap_cons, qS]; rfl)) (fun Z hZ => ?_)
   refine tw_p rfl ?_
   first | refine jE6 0 rfl rfl tyA133 tyS133 rfl rfl ?_
   refine vN ?_
   refine tw_p rfl ?_
   refine jA3 rfl rfl ?_
   refine vN ?_
   refine tw_g rfl ?_
   refine sx_callRE (roE (some ⟨ga, o + q * z * 4, none⟩) (jA1 P)) hcl rfl (List.Sublist.cons_cons _ (List.nil_sublist _)) (Ro.roE _ _) rfl (fun u hu => ?_)
   obtain ⟨gu, cu, rfl⟩ := hu.some hP0
   refine sN ⟨HLe.pick [1] (by simp) rfl, ?_⟩
   refine tw_g rfl ?_
   refine sBS Tryz.underlying133 tyS68 tyZ68 rfl rfl rfl rfl (by simp only [qS, Value.cells, wrV, jG9, List.replicate_succ, List.replicate_zero, Nat.reduceMul, Nat.zero_mul]; rfl) rfl (fun g2 => ?_)
   refine sN ⟨HLe.pick [2] (by simp) rfl, ?_⟩
   refine tw_g rfl ?_
   refine jD2 (_ :: .ro ga (o + q * z * 4) (jA1 P) :: .own g1 133 [v] :: ((pcH us ++ [.ro ga o (jA1 L)]) ++ rowE (.slice (some ⟨gu, 0, none⟩) P.length cu) 114 4 (jA1 P))) elemSl rfl hv (by rw [List.length_map, husl]; omega) rfl (fun w hw => rd_own (i := 0) (xs := [.slice (some ⟨gu, 0, none⟩) P.length cu]) rfl rfl hw) rfl (by show _ ≤ 9223372036854775807; omega) (by omega) (toEnd2 [_, _, _] _ _ _) rfl (fun v2 hv2 => ?_)
   refine sN ⟨HLe.pick [2] (by simp) rfl, ?_⟩
   refine jH2 ?_
   obtain ⟨gv, cv, rfl⟩ := hv2.some (Nat.succ_pos q)
   refine sS1 2 rfl rfl rfl tyS133 rfl rfl rfl rfl ?_
   refine sN (hZ _ _ ?_)
   refine nF [] (Kn.nil) ?_
   refine nBN ?_
   refine nx_next (.own g1 133 [.slice (some ⟨gv, 0, none⟩) (q + 1) cv] :: (rowE (.slice (some ⟨gv, 0, none⟩) (q + 1) cv) 68 1 ((us ++ [(Value.slice (some ⟨gu, 0, none⟩) P.length cu, P)]).map Prod.fst) ++ pcH (us ++ [(Value.slice (some ⟨gu, 0, none⟩) P.length cu, P)]))) ⟨_, us ++ [(Value.slice (some ⟨gu, 0, none⟩) P.length cu, P)], by simp [husl], RowOk.mk _ _ _, fun x hx => ?_, by rw [List.map_append, hsnd, List.range_succ, List.map_append, ← hP]; rfl, rfl⟩ ?_
   ·rcases List.mem_append.1 hx with hx | hx
    ·exact hus x hx
    ·rw [List.mem_singleton.1 hx]; exact hu
   ·rw [pcH_snoc, List.map_append]
    exact fin_le _ _ _ _ _ _ _
 ·rintro D H ⟨v, us, husl, hv, hus, hsnd, rfl⟩
  rw [List.length_map, List.length_range] at husl hv hsnd
  refine nBN ?_
  with_reducible refine nx_normalM ?_
  refine aR (fun Z hZ => ?_)
  refine sL 1 rfl rfl tyA133 tyS133 rfl rfl ?_
  refine sA rfl rfl <| sN (hZ _ _ ?_)
  refine aF [(4, _)] (Kn.cons rfl (Kn.nil)) ?_
  refine aE ?_
  exact nx_unmark [0] ⟨rfl, trivial⟩ (jD4 _ rfl rfl (HLe.sub ((List.sublist_append_left _ _).trans (List.sublist_cons_self _ _))) ⟨us, by rw [husl]; exact hv, husl, hus, hsnd, rfl⟩)
end Go.Proofs.YtkojkeabelckjaaGreatDoor.V
namespace Go.Proofs.YtkojkeabelckjaaGreatDoor.V
open Go.RowKit
def pcs (L : List En) (z : Nat) : List (List En) := (List.range (cntP L.length z)).map (pcL L z)
def jH3 (ps : List (List En)) : List UInt8 := ps.flatMap fun P => (encQ P).1
def rootE (t : Nat) (P : List En) : En := ⟨(atE P 0).id, t, (encQ P).1.length, 0⟩
def jH8 (t : Nat) : List (List En) → List En
 | [] => []
 | P :: r => rootE t P :: jH8 (t + (encQ P).1.length) r
theorem rootR_len : ∀ (ps : List (List En)) (t : Nat), (jH8 t ps).length = ps.length
 | [], _ => rfl
 | P :: r, t => by simp [jH8, rootR_len r]
theorem rootR_snoc : ∀ (ps : List (List En)) (t : Nat) (P : List En), jH8 t (ps ++ [P]) = jH8 t ps ++ [rootE (t + (jH3 ps).length) P]
 | [], t, P => by simp [jH8, jH3]
 | Q :: r, t, P => by
  simp only [List.cons_append, jH8, rootR_snoc r, jH3, List.flatMap_cons, List.length_append]
  rw [Nat.add_assoc]
theorem textP_snoc (ps : List (List En)) (P : List En) : jH3 (ps ++ [P]) = jH3 ps ++ (encQ P).1 := by simp [jH3]
def okQ (L : List En) (b : Int) (z : Nat) : Bool := ((pcs L z).all fun P => decide ((encQ P).2 = 0)) && decide ((sizeQ (jH8 0 (pcs L z)) : Int) ≤ b)
def splitG (L : List En) (b : Int) : Nat → Nat → List En × List UInt8 × Nat × Nat
 | 0, _ => ([], [], 0, 15)
 | k + 1, z => if okQ L b z = true then (jH8 0 (pcs L z), jH3 (pcs L z), z, 0) else splitG L b k (2 * z)
def splitQ (L : List En) (b : Int) : List En × List UInt8 × Nat × Nat :=
 if b < 1 ∨ 16257 < b then ([], [], 0, 2) else if rowC L ≠ 0 then ([], [], 0, rowC L) else if jH9 L = true then ([], [], 0, 14)
 else if (sizeQ L : Int) ≤ b then (L, [], 0, 0) else splitG L b 13 1
theorem encQ_len (P : List En) : (encQ P).1.length ≤ 65536 := by
 unfold encQ
 split
 ·split
  ·exact Nat.zero_le _
  ·rename_i h
   show (allB (jE2 P)).length ≤ 65536
   unfold sumB at h
   omega
 ·exact Nat.zero_le _
theorem textP_len : ∀ ps : List (List En), (jH3 ps).length ≤ 65536 * ps.length
 | [] => by simp [jH3]
 | P :: r => by
  have h1 := encQ_len P
  have h2 := textP_len r
  simp only [jH3, List.flatMap_cons, List.length_append, List.length_cons] at h2 ⊢
  omega
theorem pcs_len (L : List En) (z : Nat) : (pcs L z).length = cntP L.length z := by simp [pcs]
theorem pcs_mem {L P : List En} {z : Nat} (h : P ∈ pcs L z) : ∀ e ∈ P, e ∈ L := fun e he => by
 obtain ⟨q, _, rfl⟩ := List.mem_map.1 h
 exact List.mem_of_mem_drop (List.mem_of_mem_take he)
theorem pcs_pos {L P : List En} {z : Nat} (hz : 0 < z) (h : P ∈ pcs L z) : 0 < P.length := by
 obtain ⟨q, hq, rfl⟩ := List.mem_map.1 h
 have := (cntP_iff hz).1 (List.mem_range.1 hq)
 rw [pcL_len]
 omega
theorem rootR_ok : ∀ (ps : List (List En)) (t : Nat), (∀ P ∈ ps, jF2 P) → t + 65536 * ps.length < 18446744073709551616 → jF2 (jH8 t ps)
 | [], _, _, _ => fun e he => by cases he
 | P :: r, t, hP, ht => fun e he => by
  have h1 := encQ_len P
  rw [List.length_cons] at ht
  rcases List.mem_cons.1 he with rfl | he
  ·have := atE_ok (hP P List.mem_cons_self) 0
   exact ⟨this.1, by show t < _; omega, by show (encQ P).1.length < _; omega, by show 0 < _; omega⟩
  ·exact rootR_ok r _ (fun Q hQ => hP Q (List.mem_cons_of_mem _ hQ)) (by omega) e he
def slA : Value → Option Addr
 | .slice A _ _ => A
 | _ => none
def pcR (us : List (Value × List En)) : Heap := us.flatMap fun x => roE (slA x.1) (jA1 x.2)
theorem pcR_ro (us : List (Value × List En)) : Ro (pcR us) := fun e he => by
 obtain ⟨x, _, hx⟩ := List.mem_flatMap.1 he
 exact Ro.roE _ _ e hx
theorem pcH_ro : ∀ (us : List (Value × List En)) (X Y : Heap), (∀ x ∈ us, RowOk x.1 x.2.length) → HLe (X ++ (pcR us ++ Y)) (X ++ (pcH us ++ Y))
 | [], X, Y, _ => HLe.refl _
 | x :: r, X, Y, h => by
  obtain ⟨A, c, hx, hA, hle⟩ := (h x List.mem_cons_self).ro
  have h1 := pcH_ro r (X ++ roE (slA x.1) (jA1 x.2)) Y (fun y hy => h y (List.mem_cons_of_mem _ hy))
  have h2 := hle X (pcH r ++ Y) 114 4 (jA1 x.2)
  rw [← hx] at h2
  have e1 : slA x.1 = A := by rw [hx]; rfl
  rw [← e1] at h2
  simp only [pcR, pcH, List.flatMap_cons, List.append_assoc] at h1 h2 ⊢
  exact h1.trans h2
theorem pcR_sub {us : List (Value × List En)} {x : Value × List En} (h : x ∈ us) : (roE (slA x.1) (jA1 x.2)).Sublist (pcR us) := by
 rw [pcR, List.flatMap_def]
 exact List.sublist_flatten_of_mem (List.mem_map.2 ⟨x, h, rfl⟩)
end Go.Proofs.YtkojkeabelckjaaGreatDoor.V
namespace Go.Proofs.YtkojkeabelckjaaGreatDoor.V
open Go.RowKit
theorem okQ_bad {L : List En} {b : Int} {z j : Nat} {P : List En} (hP : (pcs L z)[j]? = some P) (he : (encQ P).2 ≠ 0) : okQ L b z = false := by
 unfold okQ
 rw [Bool.and_eq_false_iff]
 refine .inl ?_
 rw [List.all_eq_false]
 exact ⟨P, List.mem_of_getElem? hP, by simpa using he⟩
theorem le_rot (x : Ent) (a b c : Heap) : HLe ((c ++ b) ++ a) (x :: ((a ++ b) ++ c)) := fun _ _ _ hw => (hw.sub (List.sublist_cons_self x _)).perm (by
 rw [List.append_assoc c b a]
 exact List.perm_append_comm.trans (List.Perm.append_left c List.perm_append_comm))
theorem le_back (a b c : Heap) : HLe (a ++ (c ++ b)) ((a ++ b) ++ c) := fun _ _ _ hw => hw.perm (by
 rw [List.append_assoc]
 exact List.Perm.append_left a List.perm_append_comm)
theorem split_fn (A : Option Addr) (c : Nat) (L : List En) (T : Heap) (b : Int) (hA : jH1 A L.length) (hT : 0 < L.length → T = roE A (jA1 L)) (hro : Ro T) (hL : L.length ≤ 10000) (hE : jF2 L) (hnil : A = none → L.length = 0) (hc : L.length ≤ c) :
  Fn Tryz.prog 23 [.slice A L.length c, iq b] T fun v H' => ∃ u, v = .tuple #[u, .string (str (splitQ L b).2.1), iq (splitQ L b).2.2.1, iq (splitQ L b).2.2.2] ∧ RowOk u (splitQ L b).1.length ∧ H' = rowE u 114 4 (jA1 (splitQ L b).1) := by
 have hmax : L.length ≤ maxLen := by show _ ≤ 9223372036854775807; omega
 refine Fn.enter (N := 80) Tryz.func23 rfl (by kernel_rfl) rfl (fun w0 => ?_)
 refine aR fun Z hZ => sA rfl rfl <| sA rfl rfl <| sA rfl rfl <| sA rfl rfl <| sN (hZ _ _ ?_)
 refine aF [(0, _), (1, _)] (kR rfl) ?_
 refine awp_scope ?_
 refine aS ?_
 refine jA7 [(0, .slice A L.length c), (1, iq b), (21, .bool (decide (b < 1 ∨ 16257 < b)))] T (fun Z hZ => ?_) ?_
 ·refine sM rfl rfl ?_
  refine jC4 rfl rfl rfl ?_
  refine sM rfl rfl ?_
  refine jG0 18 rfl (fun hb2 => ?_) (fun hb2 => ?_)
  ·refine sO rfl rfl rfl rfl rfl ?_
   refine sO rfl rfl rfl rfl rfl ?_
   refine sP rfl rfl rfl ?_
   refine sN (hZ _ _ ?_ ?_)
   ·exact Kn.cons rfl (Kn.cons rfl (Kn.cons (congrArg some (congrArg Value.bool (by first | (simp at *; done) | (simp at *; omega) | (simp at *; rw [Bool.eq_iff_iff]; simp; omega)))) Kn.nil))
   ·exact HLe.refl _
  ·refine sOn rfl rfl rfl ?_
   refine sM rfl rfl ?_
   refine sOn rfl rfl rfl ?_
   refine jF3 rfl rfl rfl ?_
   refine sP rfl rfl rfl ?_
   refine sN (hZ _ _ ?_ ?_)
   ·exact Kn.cons rfl (Kn.cons rfl (Kn.cons (congrArg some (congrArg Value.bool (by first | (simp at *; done) | (simp at *; omega) | (simp at *; rw [Bool.eq_iff_iff]; simp; omega)))) Kn.nil))
   ·exact HLe.refl _
 refine aC rfl (fun h => ?_) (fun h => ?_)
 ·have h1 : b < 1 ∨ 16257 < b := by simpa using h
  rw [show splitQ L b = ([], [], 0, 2) by unfold splitQ; rw [if_pos h1]]
  refine aR fun Z hZ => sA rfl rfl <| sA rfl rfl <| sA rfl rfl <| sA rfl rfl <| sN (hZ _ _ ?_)
  refine aF [(4, _), (5, _), (6, _), (7, _)] (kR rfl) ?_
  refine aE ?_
  repeat (with_reducible (first | refine nTR ?_ | refine jE9 ?_))
  exact nx_ret4h [] rfl rfl rfl rfl rfl (HLe.sub (List.nil_sublist _)) ⟨_, rfl, RowOk.nil, rfl⟩
 have h1 : ¬ (b < 1 ∨ 16257 < b) := by simpa using h
 refine aK ?_
 with_reducible refine nN ?_
 refine aS ?_
 refine aR fun Z hZ => sM rfl rfl ?_
 refine jD6 T (erow_fn A c L T hA hT hro hmax hE) rfl (List.Sublist.refl _) hro rfl ?_
 refine sA rfl rfl <| sN (hZ _ _ ?_)
 refine aF [(0, _), (1, _), (8, _)] (kR rfl) ?_
 refine aR fun Z hZ => sM rfl rfl ?_
 refine jE5 rfl rfl rfl ?_
 refine sN (hZ _ _ ?_)
 refine aF [(0, _), (1, _), (8, _), (25, _)] (kR rfl) ?_
 refine aC rfl (fun h2 => ?_) (fun h2 => ?_)
 ·have h2' : rowC L ≠ 0 := by simp at h2; omega
  rw [show splitQ L b = ([], [], 0, rowC L) by unfold splitQ; rw [if_neg h1, if_pos h2']]
  refine aR fun Z hZ => sM rfl rfl <| sA rfl rfl <| sA rfl rfl <| sA rfl rfl <| sA rfl rfl <| sN (hZ _ _ ?_)
  refine aF [(4, _), (5, _), (6, _), (7, _)] (kR rfl) ?_
  refine aE ?_
  repeat (with_reducible (first | refine nTR ?_ | refine jE9 ?_))
  exact nx_ret4h [] rfl rfl rfl rfl rfl (HLe.sub (List.nil_sublist _)) ⟨_, rfl, RowOk.nil, rfl⟩
 have h2' : rowC L = 0 := by simp at h2; omega
 refine aK ?_
 with_reducible refine nN ?_
 refine aS ?_
 refine aR fun Z hZ => sM rfl rfl ?_
 refine jD6 T (contains_fn A c L T hA hT hro hmax hE) rfl (List.Sublist.refl _) hro rfl ?_
 refine sN (hZ _ _ ?_)
 refine aF [(0, _), (1, _), (28, _)] (kR rfl) ?_
 refine aC rfl (fun h3 => ?_) (fun h3 => ?_)
 ·have h3' : jH9 L = true := h3
  rw [show splitQ L b = ([], [], 0, 14) by unfold splitQ; rw [if_neg h1, if_neg (by simpa using h2'), if_pos h3']]
  refine aR fun Z hZ => sA rfl rfl <| sA rfl rfl <| sA rfl rfl <| sA rfl rfl <| sN (hZ _ _ ?_)
  refine aF [(4, _), (5, _), (6, _), (7, _)] (kR rfl) ?_
  refine aE ?_
  repeat (with_reducible (first | refine nTR ?_ | refine jE9 ?_))
  exact nx_ret4h [] rfl rfl rfl rfl rfl (HLe.sub (List.nil_sublist _)) ⟨_, rfl, RowOk.nil, rfl⟩
 have h3' : ¬ jH9 L = true := by rw [show jH9 L = false from h3]; decide
 refine aK ?_
 with_reducible refine nN ?_
 refine aS ?_
 refine aR fun Z hZ => sM rfl rfl ?_
 refine jD6 T (dsize_fn A c L T hA hT hro (by omega) hE) rfl (List.Sublist.refl _) hro rfl ?_
 refine sM rfl rfl ?_
 refine sx_leq rfl rfl rfl ?_
 refine sN (hZ _ _ ?_)
 refine aF [(0, _), (1, _), (32, _)] (kR rfl) ?_
 refine aC rfl (fun h4 => ?_) (fun h4 => ?_)
 ·have h4' : (sizeQ L : Int) ≤ b := by simpa using h4
  rw [show splitQ L b = (L, [], 0, 0) by unfold splitQ; rw [if_neg h1, if_neg (by simpa using h2'), if_neg h3', if_pos h4']]
  refine aR fun Z hZ => sM rfl rfl ?_
  refine sx_callU T (clone_fn A c L T hA hT hnil hro (by omega)) rfl (List.Sublist.refl _) hro rfl ?_
  rintro v H' ⟨hv, rfl⟩
  rw [jE4]
  refine sA rfl rfl <| sA rfl rfl <| sA rfl rfl <| sA rfl rfl <| sN (hZ _ _ ?_)
  refine aF [(4, _), (5, _), (6, _), (7, _)] (kR rfl) ?_
  refine aE ?_
  repeat (with_reducible (first | refine nTR ?_ | refine jE9 ?_))
  exact nx_ret4h _ rfl rfl rfl rfl rfl (HLe.sub (List.sublist_append_left _ _)) ⟨_, rfl, hv, rfl⟩
 have h4' : ¬ (sizeQ L : Int) ≤ b := by simpa using h4
 have hL0 : 0 < L.length := by
  rcases Nat.eq_zero_or_pos L.length with h0 | h0
  ·exfalso
   have : L = [] := List.length_eq_zero_iff.1 h0
   subst this
   have hs0 : sizeQ [] = 1 := by
    unfold sizeQ
    rw [if_pos (by rfl), show jE2 [] = [0] from rfl, sumB, allB, List.flatMap_cons, List.flatMap_nil, vb_lt (by omega)]
    rfl
   rw [hs0] at h4'
   omega
  ·exact h0
 have hD : splitQ L b = splitG L b 13 1 := by unfold splitQ; rw [if_neg h1, if_neg (by simpa using h2'), if_neg h3', if_neg h4']
 rw [hD]
 obtain ⟨D, hDD⟩ : ∃ D, splitG L b 13 1 = D := ⟨_, rfl⟩
 rw [hDD]
 refine aK ?_
 with_reducible refine nN ?_
 refine aS (awp_label ?_)
 with_reducible refine nN ?_
 refine aS ?_
 refine aR fun Z hZ => sA rfl rfl <| sN (hZ _ _ ?_)
 refine aF [(0, _), (1, _), (9, _)] (kR rfl) ?_
 refine aB ?_
 refine jB6 (ι := Nat) (fun i => [(0, .slice A L.length c), (1, iq b), (9, iq (2 ^ i : Nat))]) (fun _ => T)
  (fun i => i ≤ 13 ∧ splitG L b (13 - i) (2 ^ i) = D) (fun i => 13 - i) 0 ⟨by omega, hDD⟩ (kR rfl) (HLe.refl _) ?_
 rintro i ⟨hi, hq⟩
 refine aS ?_
 refine aR fun Z hZ => sM rfl rfl ?_
 refine sx_leq rfl rfl rfl ?_
 refine sN (hZ _ _ ?_)
 refine aF [(0, _), (1, _), (9, _), (36, _)] (kR rfl) ?_
 refine aC rfl (fun h5 => ?_) (fun h5 => ?_)
 ·have hz4 : 2 ^ i ≤ 4096 := Int.ofNat_le.1 (of_decide_eq_true h5)
  have hi12 : i ≤ 12 := by
   rcases Nat.lt_or_ge i 13 with h | h
   ·omega
   ·have : 2 ^ 13 ≤ 2 ^ i := Nat.pow_le_pow_right (by omega) h
    omega
  obtain ⟨m', hm'⟩ : ∃ m', 13 - i = m' + 1 := ⟨12 - i, by omega⟩
  have hz0 : 0 < 2 ^ i := Nat.pow_pos (by omega)
  have hpow : 2 ^ (i + 1) = 2 * 2 ^ i := by rw [Nat.pow_succ]; omega
  rw [hm', splitG] at hq
  obtain ⟨z, hz⟩ : ∃ z, 2 ^ i = z := ⟨_, rfl⟩
  rw [hz] at hq hz4 hz0 hpow
  refine aK ?_
  with_reducible refine nN ?_
  refine awp_cut (ι := Unit) (fun _ => [(0, .slice A L.length c), (1, iq b), (9, iq z)]) (fun _ => T) (fun _ => okQ L b z = false) ?_ ?_
  ·refine aB ?_
   refine aF [(0, .slice A L.length c), (1, iq b), (9, iq z)] (Kn.cons rfl (Kn.cons rfl (Kn.cons (by show some (iq ((2 ^ i : Nat) : Int)) = _; rw [hz]) Kn.nil))) ?_
   refine aR fun Z hZ => sA rfl rfl <| sN (hZ _ _ ?_)
   refine aF [(0, _), (1, _), (9, _), (10, _)] (kR rfl) ?_
   refine aR fun Z hZ => sA rfl rfl <| sN (hZ _ _ ?_)
   refine aF [(0, _), (1, _), (9, _), (10, _), (11, _)] (kR rfl) ?_
   refine aS ?_
   refine aR fun Z hZ => sM rfl rfl <| sM rfl rfl ?_
   refine sx_callU T (cut_fn A c L T z hA hT hro hL hc hz0 (by show _ ≤ 9223372036854775807; omega)) rfl (List.Sublist.refl _) hro rfl ?_
   rintro v H' ⟨us, hv, husl, hus, hsnd, rfl⟩
   rw [((rowE_wrs _ _ _ _).append (pcH_wrs us)).filter]
   obtain ⟨A1, c1, rfl, hA1, hle1⟩ := hv.ro
   refine jC1 (roE A1 (us.map Prod.fst) ++ (pcR us ++ T)) (HLe.trans (pcH_ro us (roE A1 (us.map Prod.fst)) T hus) (by rw [List.append_assoc]; exact hle1 [] _ _ _ _)) ?_
   refine jD9 Tryz.underlying133 rfl rfl ?_
   refine sM rfl rfl <| sN (hZ _ _ ?_)
   refine aF [(0, _), (1, _), (9, _), (10, _), (11, _), (41, _), (42, _), (43, _)] (kR rfl) ?_
   have hps : us.map Prod.snd = pcs L z := hsnd
   have hul : us.length ≤ 10000 := by
    rw [husl]
    rcases Nat.lt_or_ge L.length (cntP L.length z) with h | h
    ·have h1 := (cntP_iff hz0).1 h
     have := Nat.le_mul_of_pos_right L.length hz0
     omega
    ·omega
   have hro2 : Ro (roE A1 (us.map Prod.fst) ++ (pcR us ++ T)) := (Ro.roE _ _).append ((pcR_ro us).append hro)
   have hget : ∀ {j : Nat} {x : Value × List En}, us[j]? = some x → (pcs L z)[j]? = some x.2 := fun {j x} hx => by rw [← hps, List.getElem?_map, hx]; rfl
   have hpl : (pcs L z).length = us.length := by rw [← hps, List.length_map]
   refine awp_meet (ι := Value × Value) (fun i => [(0, .slice A L.length c), (1, iq b), (9, iq z), (10, i.1), (11, i.2)]) (fun i => rowE i.1 114 4 (jA1 (jH8 0 (pcs L z))) ++ (rowE i.2 5 1 (bv (jH3 (pcs L z))) ++ (roE A1 (us.map Prod.fst) ++ (pcR us ++ T)))) (fun i => RowOk i.1 (pcs L z).length ∧ RowOk i.2 (jH3 (pcs L z)).length ∧ ∀ P ∈ pcs L z, (encQ P).2 = 0) ?_ ?_
   ·refine aB ?_
    refine jB6 (ι := Nat × Value × Value) (fun i => [(0, .slice A L.length c), (1, iq b), (9, iq z), (10, i.2.1), (11, i.2.2), (41, .slice A1 us.length c1), (42, iq (us.length : Nat)), (43, iq (i.1 : Nat))]) (fun i => rowE i.2.1 114 4 (jA1 (jH8 0 ((pcs L z).take i.1))) ++ (rowE i.2.2 5 1 (bv (jH3 ((pcs L z).take i.1))) ++ (roE A1 (us.map Prod.fst) ++ (pcR us ++ T))))
     (fun i => i.1 ≤ us.length ∧ RowOk i.2.1 i.1 ∧ RowOk i.2.2 (jH3 ((pcs L z).take i.1)).length ∧ ∀ P ∈ (pcs L z).take i.1, (encQ P).2 = 0) (fun i => us.length - i.1) (0, .slice none 0 0, .slice none 0 0) ⟨by simp, RowOk.nil, by rw [List.take_zero]; exact RowOk.nil, fun P hP => by rw [List.take_zero] at hP; cases hP⟩ (kR rfl) (HLe.refl _) ?_
    rintro ⟨j, v, w⟩ ⟨hj, hv2, hw2, hgood⟩
    simp only at hj hv2 hw2 hgood
    refine aR (fun Z hZ => ?_)
    refine jC4 rfl rfl rfl ?_
    refine sN (hZ _ _ ?_)
    refine aF [(0, _), (1, _), (9, _), (10, _), (11, _), (41, _), (42, _), (43, _), (44, _)] (kR rfl) ?_
    refine aS (aC rfl (fun h6 => ?_) (fun h6 => ?_))
    ·have hlt : j < us.length := by simpa using h6
     obtain ⟨x, hx⟩ : ∃ x, us[j]? = some x := ⟨_, List.getElem?_eq_getElem hlt⟩
     have hxm := List.mem_of_getElem? hx
     have hP := hget hx
     have hPm := List.mem_of_getElem? hP
     have hP0 := pcs_pos hz0 hPm
     have hPE : jF2 x.2 := fun e he => hE e (pcs_mem hPm e he)
     have hPl : x.2.length ≤ 10000 := by
      obtain ⟨q, _, hq⟩ := List.mem_map.1 hPm
      rw [← hq, pcL_len]
      omega
     obtain ⟨gp, cp, hxv⟩ := (hus x hxm).some hP0
     obtain ⟨u, P⟩ := x
     simp only at hxv hP hPm hP0 hPE hPl hxm
     subst hxv
     obtain ⟨ga, o1, hA1e⟩ := hA1.some (by omega)
     have hrd : rdV false 1 (us.map Prod.fst) j = some (.slice (some ⟨gp, 0, none⟩) P.length cp) := by show (us.map Prod.fst)[j]? = _; rw [List.getElem?_map, hx]; rfl
     have htake : (pcs L z).take (j + 1) = (pcs L z).take j ++ [P] := by rw [List.take_add_one, hP]; rfl
     have hel := encQ_len P
     have htl := textP_len ((pcs L z).take j)
     rw [List.length_take, hpl, Nat.min_eq_left hj] at htl
     obtain ⟨S, hS⟩ : ∃ S, (encQ P).1 = S := ⟨_, rfl⟩
     obtain ⟨e, he⟩ : ∃ e, (encQ P).2 = e := ⟨_, rfl⟩
     have henc := dencode_fn (some ⟨gp, 0, none⟩) cp P _ (fun _ => ⟨_, _, rfl⟩) (fun _ => rfl) (Ro.roE _ _) hPl hPE
     rw [hS, he] at henc
     rw [hS] at hel
     have hpsub : (roE (some ⟨gp, 0, none⟩) (jA1 P)).Sublist (rowE v 114 4 (jA1 (jH8 0 ((pcs L z).take j))) ++ (rowE w 5 1 (bv (jH3 ((pcs L z).take j))) ++ (roE A1 (us.map Prod.fst) ++ (pcR us ++ T)))) :=
      ((((pcR_sub hxm).trans (List.sublist_append_left _ T)).trans (List.sublist_append_right (roE A1 (us.map Prod.fst)) _)).trans (List.sublist_append_right (rowE w 5 1 _) _)).trans (List.sublist_append_right _ _)
     have hasub : (roE A1 (us.map Prod.fst)).Sublist (rowE v 114 4 (jA1 (jH8 0 ((pcs L z).take j))) ++ (rowE w 5 1 (bv (jH3 ((pcs L z).take j))) ++ (roE A1 (us.map Prod.fst) ++ (pcR us ++ T)))) :=
      ((List.sublist_append_left _ (pcR us ++ T)).trans (List.sublist_append_right (rowE w 5 1 _) _)).trans (List.sublist_append_right _ _)
     refine aK ?_
     with_reducible refine nN ?_
     refine aS (aB ?_)
     refine aR (fun Z hZ => ?_)
     refine jA6 (o1 + j * 1) Tryz.underlying133 tyS68 (by rw [hA1e]; rfl) rfl (by omega) (by simp) rfl ?_
     refine sx_loadRd (o := o1) (n := us.length) (size := 1) (xs := us.map Prod.fst) j rfl (by rw [Nat.mul_one]) (fun w hw => by rw [← hA1e]; exact rd_roE hA1 (fun y hy => hasub.subset hy) (by rw [List.length_map]; omega) hw) (by omega) tyA68 tyS68 hrd rfl ?_
     refine sA rfl rfl <| sN (hZ _ _ ?_)
     refine aF [(0, _), (1, _), (9, _), (10, _), (11, _), (13, _), (41, _), (42, _), (43, _)] (kR rfl) ?_
     refine aR fun Z hZ => sM rfl rfl ?_
     refine jD6 (roE (some ⟨gp, 0, none⟩) (jA1 P)) henc rfl hpsub (Ro.roE _ _) rfl ?_
     refine sM rfl rfl <| sX rfl rfl rfl <| sX rfl rfl rfl <| sA rfl rfl <| sA rfl rfl <| sN (hZ _ _ ?_)
     refine aF [(0, _), (1, _), (9, _), (10, _), (11, _), (13, _), (14, _), (15, _), (41, _), (42, _), (43, _)] (kR rfl) ?_
     refine aS ?_
     refine aR fun Z hZ => sM rfl rfl ?_
     refine jE5 rfl rfl rfl ?_
     refine sN (hZ _ _ ?_)
     refine aF [(0, _), (1, _), (9, _), (10, _), (11, _), (13, _), (14, _), (41, _), (42, _), (43, _), (53, _)] (kR rfl) ?_
     refine aC rfl (fun h7 => ?_) (fun h7 => ?_)
     ·have he0 : e ≠ 0 := by simp at h7; omega
      refine jB1 ?_
      repeat (with_reducible (first | refine nTE ?_ | refine nx_block_other (by decide) ?_))
      refine nBE ?_
      exact jG2 () (okQ_bad hP (by rw [he]; exact he0)) (kR rfl) (HLe.sub (((List.sublist_append_right (pcR us) T).trans (List.sublist_append_right (roE A1 _) _)).trans ((List.sublist_append_right (rowE w 5 1 _) _).trans (List.sublist_append_right _ _))))
     have he0 : e = 0 := by simp at h7; omega
     subst he0
     refine aK ?_
     with_reducible refine nN ?_
     have hid : rdV false 1 (jA1 P) 0 = some (uq (atE P 0).id) := rd_id (k := 0) (atE_at hP0)
     have hroot : jH8 0 ((pcs L z).take (j + 1)) = jH8 0 ((pcs L z).take j) ++ [⟨(atE P 0).id, (jH3 ((pcs L z).take j)).length, S.length, 0⟩] := by rw [htake, rootR_snoc, rootE, hS, Nat.zero_add]
     have htext : jH3 ((pcs L z).take (j + 1)) = jH3 ((pcs L z).take j) ++ S := by rw [htake, textP_snoc, hS]
     have hcells : jA1 (jH8 0 ((pcs L z).take (j + 1))) = jA1 (jH8 0 ((pcs L z).take j)) ++ [uq (atE P 0).id, uq (jH3 ((pcs L z).take j)).length, wq4 S.length, wq4 0] := by rw [hroot]; exact fm_snoc _ _
     obtain ⟨aw, cw, rfl, _⟩ := hw2.form
     refine aR fun Z hZ => sM rfl rfl <| sM rfl rfl ?_
     refine jA6 0 Tryz.underlying68 tyS114 rfl rfl (by omega) (by simp) rfl ?_
     refine sFA rfl tyF114_0 (by simp only [Nat.add_zero]; rfl) rfl ?_
     refine sx_loadRd (o := 0) (n := P.length) (size := 4) (xs := jA1 P) 0 rfl rfl (fun w hw => rd_roE (.inr ⟨_, _, rfl⟩) (fun y hy => hpsub.subset hy) (ecells_len P) hw) hP0 tyA45 tyS45 hid rfl ?_
     refine sM rfl rfl ?_
     refine jD9 Tryz.underlying132 rfl rfl ?_
     refine jC2 Tryz.underlying3 Tryz.underlying45 rfl (((jH3 ((pcs L z).take j)).length : Nat) : Int) (by rw [IntWalk.u64_in _ (by omega)]) rfl ?_
     refine sM rfl rfl ?_
     refine jF0 Tryz.underlying9 rfl rfl ?_
     refine jC2 Tryz.underlying3 Tryz.underlying112 rfl ((S.length : Nat) : Int) (by rw [u32_w, Nat.mod_eq_of_lt (by omega)]) rfl ?_
     refine jD1 tyZ114 tyP114 rfl rfl (by simp only [qS, Nat.reduceAdd, Value.cells, wrV]; rfl) rfl ?_
     refine sBS Tryz.underlying68 tyS114 tyZ114 rfl rfl rfl rfl (by simp only [qS, Nat.reduceAdd, Value.cells, wrV, Nat.reduceMul, Nat.zero_mul]; rfl) rfl (fun g1 => ?_)
     refine jD2 (_ :: (rowE (.slice aw (jH3 ((pcs L z).take j)).length cw) 5 1 (bv (jH3 ((pcs L z).take j))) ++ (roE A1 (us.map Prod.fst) ++ (pcR us ++ T)))) elemEn rfl hv2 (by rw [ecells_len, rootR_len, List.length_take, hpl, Nat.min_eq_left hj]) rfl (fun w hw => rd_own (i := 0) (xs := [uq (atE P 0).id, uq (jH3 ((pcs L z).take j)).length, wq4 S.length, wq4 0]) rfl rfl hw) rfl (by show _ ≤ 9223372036854775807; omega) (by omega) (HLe.toEnd [_] _ _) rfl (fun v2 hv2' => ?_)
     rw [← hcells]
     refine sA rfl rfl <| sN (hZ _ _ ?_)
     refine aF [(0, _), (1, _), (9, _), (10, _), (11, _), (14, _), (41, _), (42, _), (43, _)] (kR rfl) ?_
     refine aG (fun Z hZ => ?_)
     refine sM rfl rfl <| sM rfl rfl ?_
     refine sx_appendStr (rowE v2 114 4 (jA1 (jH8 0 ((pcs L z).take (j + 1)))) ++ (roE A1 (us.map Prod.fst) ++ (pcR us ++ T))) Tryz.underlying132 Tryz.underlying9 (by kernel_rfl) rfl hw2 rfl (by omega) (le_rot _ _ _ _) rfl (fun w2 hw2' => ?_)
     rw [← htext]
     rw [← htext] at hw2'
     refine sA rfl rfl <| sN (hZ _ _ ?_)
     refine nF [(0, _), (1, _), (9, _), (10, _), (11, _), (41, _), (42, _), (43, _)] (kR rfl) ?_
     repeat (with_reducible refine nBN ?_)
     with_reducible refine nN ?_
     refine aG (fun Z hZ => ?_)
     refine jB8 rfl rfl ((j + 1 : Nat) : Int) (by rw [IntWalk.i64_in _ (by omega)]; omega) rfl ?_
     refine sM rfl rfl <| sN (hZ _ _ ?_)
     refine nF [(0, _), (1, _), (9, _), (10, _), (11, _), (41, _), (42, _), (43, _)] (kR rfl) ?_
     refine jB5 (j + 1, v2, w2) ⟨by show j + 1 ≤ _; omega, hv2', hw2', fun Q hQ => ?_⟩ (by simp; omega) (kR rfl) ?_
     ·rw [htake] at hQ
      rcases List.mem_append.1 hQ with hQ | hQ
      ·exact hgood Q hQ
      ·rw [List.mem_singleton.1 hQ]; exact he
     ·exact le_back _ _ _
    ·have hje : j = us.length := by simp at h6; omega
     subst hje
     have hall : (pcs L z).take us.length = pcs L z := List.take_of_length_le (by omega)
     rw [hall] at hw2 hgood
     refine jB1 ?_
     repeat (with_reducible refine nTE ?_)
     with_reducible refine nBE ?_
     refine jG2 (v, w) ⟨by rw [hpl]; exact hv2, hw2, hgood⟩ (kR rfl) ?_
     simp only [hall]
     exact HLe.refl _
   ·rintro ⟨v, w⟩ ⟨hv2, hw2, hgood⟩
    simp only at hv2 hw2
    have hps0 : 0 < (pcs L z).length := by
     rw [pcs_len]
     exact (cntP_iff hz0).2 (by omega)
    have hRE : jF2 (jH8 0 (pcs L z)) := rootR_ok _ 0 (fun P hP e he => hE e (pcs_mem hP e he)) (by omega)
    have hrl := rootR_len (pcs L z) 0
    obtain ⟨gr, cr, rfl⟩ := hv2.some hps0
    have hok : okQ L b z = decide ((sizeQ (jH8 0 (pcs L z)) : Int) ≤ b) := by
     unfold okQ
     rw [List.all_eq_true.2 (fun P hP => by simpa using hgood P hP), Bool.true_and]
    have hsz := dsize_fn (some ⟨gr, 0, none⟩) cr (jH8 0 (pcs L z)) _ (fun _ => ⟨_, _, rfl⟩) (fun _ => rfl) (Ro.roE _ _) (by omega) hRE
    rw [hrl] at hsz
    with_reducible refine nN ?_
    refine aS ?_
    refine aR fun Z hZ => sM rfl rfl ?_
    refine sx_callV (roE (some ⟨gr, 0, none⟩) (jA1 (jH8 0 (pcs L z)))) hsz rfl ((HLe.sub (List.Sublist.cons_cons _ (List.nil_sublist _))).trans (HLe.rowRo [] _)) (Ro.roE _ _) rfl ?_
    refine sM rfl rfl ?_
    refine jF3 rfl rfl rfl ?_
    refine sN (hZ _ _ ?_)
    refine aF [(0, _), (1, _), (9, _), (10, _), (11, _), (75, _)] (kR rfl) ?_
    refine aC rfl (fun h8 => ?_) (fun h8 => ?_)
    ·have hbad : ¬ (sizeQ (jH8 0 (pcs L z)) : Int) ≤ b := by simp at h8; omega
     refine jB1 ?_
     repeat (with_reducible refine nTE ?_)
     refine nBE ?_
     exact jG2 () (by rw [hok, decide_eq_false hbad]) (kR rfl) (HLe.sub (((List.sublist_append_right (pcR us) T).trans (List.sublist_append_right (roE A1 _) _)).trans ((List.sublist_append_right (rowE w 5 1 _) _).trans (List.sublist_cons_self _ _))))
    have hgd : (sizeQ (jH8 0 (pcs L z)) : Int) ≤ b := by simp at h8; omega
    rw [hok, decide_eq_true hgd, if_pos rfl] at hq
    rw [← hq]
    have htp : 0 < (jH3 (pcs L z)).length := by
     match hpc : pcs L z, hps0 with
     | P :: r, _ =>
      rw [hpc] at hgood
      have h1 := encQ_ok (hgood P List.mem_cons_self)
      have h2 := allB_pos P
      rw [jH3, List.flatMap_cons, List.length_append, h1.2.2]
      show 0 < (allB (jE2 P)).length + _
      omega
    obtain ⟨gw, cw, rfl⟩ := hw2.some htp
    refine aK ?_
    with_reducible refine nN ?_
    refine jA8 [.ob gr (RowP 114 4 (pcs L z).length cr (jA1 (jH8 0 (pcs L z)))), .ob gw (RowP 5 1 (jH3 (pcs L z)).length cw (bv (jH3 (pcs L z))))] (HLe.sub (List.Sublist.cons_cons _ (List.Sublist.cons_cons _ (List.nil_sublist _)))) ?_
    refine jD0 _ [(0, true), (1, true), (2, false), (3, true), (4, true), (5, true), (6, true), (7, true)] mixed (by kernel_rfl) (HLe.pick [0, 1] (by simp) (by simp only [pick, List.filterMap_cons, qS]; rfl)) (fun Z hZ => ?_)
    refine tw_p rfl ?_
    refine jA3 rfl rfl ?_
    refine vN ?_
    refine tw_p rfl ?_
    refine jA3 rfl rfl ?_
    refine vN ?_
    refine tw_g rfl ?_
    refine sx_strB (l := jH3 (pcs L z)) Tryz.underlying132 Tryz.underlying5 Tryz.underlying9 rfl (fun w hw => rd_row (i := 1) rfl hw) rfl ?_
    refine sN ⟨HLe.pick [0, 1] (by simp) rfl, ?_⟩
    refine tw_p rfl ?_
    refine jA3 rfl rfl ?_
    refine vN ?_
    refine tw_p rfl ?_
    refine jD7 rfl rfl ?_
    refine vN ?_
    refine tw_p rfl ?_
    refine jD7 rfl rfl ?_
    refine vN ?_
    refine tw_p rfl ?_
    refine jD7 rfl rfl ?_
    refine vN ?_
    refine tw_p rfl ?_
    refine jD7 rfl rfl ?_
    refine vN ?_
    refine jH2 (hZ _ _ ?_)
    refine aF [(4, _), (5, _), (6, _), (7, _)] (kR rfl) ?_
    refine aE ?_
    repeat (with_reducible (first | refine nTR ?_ | refine nBR ?_ | refine jE9 ?_))
    exact nx_ret4h _ rfl rfl rfl rfl rfl (HLe.pick [0] (by simp) rfl) ⟨_, rfl, by rw [hrl]; exact RowOk.mk _ _ _, rfl⟩
  ·rintro ⟨⟩ hok
   rw [hok] at hq
   rw [if_neg (by decide)] at hq
   refine aG (fun Z hZ => ?_)
   refine sM rfl rfl ?_
   refine sx_mul rfl rfl ((2 ^ (i + 1) : Nat) : Int) (by rw [hpow, IntWalk.i64_in _ (by omega)]; omega) rfl ?_
   refine sA rfl rfl <| sN (hZ _ _ ?_)
   refine nF [(0, _), (1, _), (9, _)] (kR rfl) ?_
   exact jB5 (i + 1) ⟨by omega, by rw [hpow, show 13 - (i + 1) = m' by omega]; exact hq⟩ (by omega) (kR rfl) (HLe.refl _)
 ·have hi13 : i = 13 := by
   rcases Nat.lt_or_ge i 13 with h | h
   ·have : 2 ^ i ≤ 2 ^ 12 := Nat.pow_le_pow_right (by omega) (by omega)
    exact absurd (Int.ofNat_le.2 (Nat.le_trans this (by decide : 2 ^ 12 ≤ 4096))) (of_decide_eq_false h5)
   ·omega
  subst hi13
  rw [Nat.sub_self, splitG] at hq
  rw [← hq]
  refine jB1 ?_
  repeat (with_reducible refine nTE ?_)
  with_reducible refine nBE ?_
  with_reducible refine nN ?_
  refine aR fun Z hZ => sA rfl rfl <| sA rfl rfl <| sA rfl rfl <| sA rfl rfl <| sN (hZ _ _ ?_)
  refine aF [(4, _), (5, _), (6, _), (7, _)] (kR rfl) ?_
  refine aE ?_
  repeat (with_reducible refine jE9 ?_)
  exact nx_ret4h [] rfl rfl rfl rfl rfl (HLe.sub (List.nil_sublist _)) ⟨_, rfl, RowOk.nil, rfl⟩
end Go.Proofs.YtkojkeabelckjaaGreatDoor.V
namespace Go.Proofs.YtkojkeabelckjaaGreatDoor.V
open Go.RowKit
def pieceQ (p : En) (t : List UInt8) : List En × Nat :=
 if t.length < p.off + p.len then ([], 8)
 else if (decQ ((t.drop p.off).take p.len)).2.2 ≠ 0 then ([], (decQ ((t.drop p.off).take p.len)).2.2)
 else if jH9 (decQ ((t.drop p.off).take p.len)).1 = true then ([], 20)
 else if (decQ ((t.drop p.off).take p.len)).1.length = 0 ∨ (atE (decQ ((t.drop p.off).take p.len)).1 0).id ≠ p.id then ([], 10)
 else ((decQ ((t.drop p.off).take p.len)).1, 0)
def joinG (t : List UInt8) : List En → List En → List En × Nat
 | out, [] => if rowC out ≠ 0 then ([], rowC out) else (out, 0)
 | out, x :: r => if isPtr x = true then (if (pieceQ x t).2 ≠ 0 then ([], (pieceQ x t).2) else joinG t (out ++ (pieceQ x t).1) r) else joinG t (out ++ [x]) r
def joinQ (L : List En) (t : List UInt8) : List En × Nat := if rowC L ≠ 0 then ([], rowC L) else joinG t [] L
theorem pieceQ_ok (p : En) (t : List UInt8) : (pieceQ p t).1.length ≤ 4096 ∧ jF2 (pieceQ p t).1 := by
 have he : jF2 [] := fun e h => by cases h
 obtain ⟨h1, h2, _⟩ := decQ_ok ((t.drop p.off).take p.len)
 unfold pieceQ
 split
 ·exact ⟨Nat.zero_le _, he⟩
 split
 ·exact ⟨Nat.zero_le _, he⟩
 split
 ·exact ⟨Nat.zero_le _, he⟩
 split
 ·exact ⟨Nat.zero_le _, he⟩
 ·exact ⟨h1, h2⟩
theorem piece_fn (p : En) (hp : p.ok) (ho : p.off ≤ 1099511627776) (t : List UInt8) (ht : t.length ≤ 1000000) :
  Fn Tryz.prog 115 [p.val, .string (str t)] [] fun v H' => ∃ u, v = .tuple #[u, iq (pieceQ p t).2] ∧ RowOk u (pieceQ p t).1.length ∧ H' = rowE u 114 4 (jA1 (pieceQ p t).1) := by
 obtain ⟨p1, p2, p3, p4⟩ := hp
 refine Fn.enter (N := 55) Tryz.func115 rfl (by kernel_rfl) rfl (fun w0 => ?_)
 refine aR (fun Z hZ => ?_)
 refine jC3 rfl rfl rfl (fun g1 => ?_)
 refine sA rfl rfl <| sA rfl rfl <| sN (hZ _ _ ?_)
 refine aF [(1, _), (2, _)] (kR rfl) ?_
 refine aS ?_
 refine aR (fun Z hZ => ?_)
 refine sFA rfl jH0 (by simp only [Nat.zero_add]; rfl) rfl ?_
 first | refine sL 0 rfl rfl tyA45 tyS45 rfl rfl ?_
 refine sFA rfl tyF114_2 (by simp only [Nat.zero_add]; rfl) rfl ?_
 first | refine sL 0 rfl rfl tyA112 tyS112 rfl rfl ?_
 refine jC2 Tryz.underlying112 Tryz.underlying45 rfl ((p.len : Nat) : Int) (by rw [IntWalk.u64_in _ (by omega)]) rfl ?_
 refine jB8 rfl rfl ((p.off + p.len : Nat) : Int) (by rw [IntWalk.u64_in _ (by omega)]; omega) rfl ?_
 refine sM rfl rfl ?_
 refine jF0 Tryz.underlying9 rfl rfl ?_
 refine jC2 Tryz.underlying3 Tryz.underlying45 rfl ((t.length : Nat) : Int) (by rw [IntWalk.u64_in _ (by omega)]) rfl ?_
 refine jF3 rfl rfl rfl ?_
 refine sN (hZ _ _ ?_)
 refine aF [(1, _), (2, _), (18, _)] (kR rfl) ?_
 refine aC rfl (fun h => ?_) (fun h => ?_)
 ·have h1 : t.length < p.off + p.len := by simp at h; omega
  rw [show pieceQ p t = ([], 8) by unfold pieceQ; rw [if_pos h1]]
  refine aR fun Z hZ => sA rfl rfl <| sA rfl rfl <| sN (hZ _ _ ?_)
  refine aF [(4, _), (5, _)] (kR rfl) ?_
  refine aE ?_
  repeat (with_reducible refine nTR ?_)
  exact jB4 [] rfl rfl rfl (HLe.sub (List.nil_sublist _)) ⟨_, rfl, RowOk.nil, rfl⟩
 have h1 : ¬ t.length < p.off + p.len := by simp at h; omega
 obtain ⟨s, hs⟩ : ∃ s, (t.drop p.off).take p.len = s := ⟨_, rfl⟩
 have hsl : s.length ≤ 1000000 := by rw [← hs, List.length_take, List.length_drop]; omega
 have hD := ddecode_fn s hsl
 obtain ⟨d1, d2, d3, d4⟩ := decQ_ok s
 obtain ⟨M, hM⟩ : ∃ M, (decQ s).1 = M := ⟨_, rfl⟩
 obtain ⟨e, he⟩ : ∃ e, (decQ s).2.2 = e := ⟨_, rfl⟩
 rw [hM, he] at hD
 rw [hM] at d1 d2
 have hmax : M.length ≤ maxLen := by show _ ≤ 9223372036854775807; omega
 refine aK ?_
 with_reducible refine nN ?_
 refine aR fun Z hZ => sM rfl rfl ?_
 refine sFA rfl jH0 (by simp only [Nat.zero_add]; rfl) rfl ?_
 first | refine sL 0 rfl rfl tyA45 tyS45 rfl rfl ?_
 refine sFA rfl jH0 (by simp only [Nat.zero_add]; rfl) rfl ?_
 first | refine sL 0 rfl rfl tyA45 tyS45 rfl rfl ?_
 refine sFA rfl tyF114_2 (by simp only [Nat.zero_add]; rfl) rfl ?_
 first | refine sL 0 rfl rfl tyA112 tyS112 rfl rfl ?_
 refine jC2 Tryz.underlying112 Tryz.underlying45 rfl ((p.len : Nat) : Int) (by rw [IntWalk.u64_in _ (by omega)]) rfl ?_
 refine jB8 rfl rfl ((p.off + p.len : Nat) : Int) (by rw [IntWalk.u64_in _ (by omega)]; omega) rfl ?_
 refine sx_sliceS s Tryz.underlying9 rfl rfl rfl (by omega) (by omega) (by omega) (by rw [← hs]; simp only [Int.toNat_natCast]; rw [Nat.add_sub_cancel_left]) rfl ?_
 refine jD3 [] [_] hD rfl (HLe.refl _) rfl ?_
 rintro v H' ⟨u, rfl, hu, rfl⟩
 rw [jE4]
 obtain ⟨A1, c1, rfl, hA1, hle1⟩ := hu.ro
 refine jC1 ([_] ++ rowE (.slice A1 M.length c1) 114 4 (jA1 M)) (HLe.swap _ _) ?_
 refine sM rfl rfl <| sX rfl rfl rfl <| sX rfl rfl rfl <| sX rfl rfl rfl <| sA rfl rfl <| sA rfl rfl <| sA rfl rfl <| sN (hZ _ _ ?_)
 refine aF [(2, _), (6, _), (8, _)] (kR rfl) ?_
 refine aS (aB ?_)
 refine aR fun Z hZ => sM rfl rfl ?_
 refine jE5 rfl rfl rfl ?_
 refine sA rfl rfl <| sN (hZ _ _ ?_)
 refine aF [(2, _), (6, _), (8, _), (34, _)] (kR rfl) ?_
 refine aC rfl (fun h2 => ?_) (fun h2 => ?_)
 ·have he0 : e ≠ 0 := by simp at h2; omega
  rw [show pieceQ p t = ([], e) by unfold pieceQ; rw [if_neg h1, hs, he, if_pos he0]]
  refine aR fun Z hZ => sM rfl rfl <| sA rfl rfl <| sA rfl rfl <| sN (hZ _ _ ?_)
  refine aF [(4, _), (5, _)] (kR rfl) ?_
  refine aE ?_
  repeat (with_reducible (first | refine nTR ?_ | refine nBR ?_))
  exact jB4 [] rfl rfl rfl (HLe.sub (List.nil_sublist _)) ⟨_, rfl, RowOk.nil, rfl⟩
 have he0 : e = 0 := by simp at h2; omega
 refine aR fun Z hZ => sM rfl rfl ?_
 refine sx_callV (roE A1 (jA1 M)) (contains_fn A1 c1 M _ hA1.arg (fun _ => rfl) (Ro.roE _ _) hmax d2) rfl (row_view hle1 [.own g1 114 p.cells] _ _ _) (Ro.roE _ _) rfl ?_
 refine sA rfl rfl <| sN (hZ _ _ ?_)
 refine aF [(2, _), (6, _), (38, _)] (kR rfl) ?_
 refine aC rfl (fun h3 => ?_) (fun h3 => ?_)
 ·have h3' : jH9 M = true := h3
  rw [show pieceQ p t = ([], 20) by unfold pieceQ; rw [if_neg h1, hs, he, if_neg (by simpa using he0), hM, if_pos h3']]
  refine aR fun Z hZ => sA rfl rfl <| sA rfl rfl <| sN (hZ _ _ ?_)
  refine aF [(4, _), (5, _)] (kR rfl) ?_
  refine aE ?_
  repeat (with_reducible (first | refine nTR ?_ | refine nBR ?_))
  exact jB4 [] rfl rfl rfl (HLe.sub (List.nil_sublist _)) ⟨_, rfl, RowOk.nil, rfl⟩
 have h3' : ¬ jH9 M = true := by rw [show jH9 M = false from h3]; decide
 have hAs : 0 < M.length → ∃ g, A1 = some ⟨g, 0, none⟩ := fun h0 => by
  obtain ⟨g, c', hh⟩ := hu.some h0
  injection hh with hh _ _
  exact ⟨g, hh⟩
 obtain ⟨gz, hgz⟩ : ∃ g, 0 < M.length → A1 = some ⟨g, 0, none⟩ := by
  rcases Nat.eq_zero_or_pos M.length with h0 | h0
  ·exact ⟨0, fun h => by omega⟩
  ·obtain ⟨g, hg⟩ := hAs h0
   exact ⟨g, fun _ => hg⟩
 have hpos : ((M.length : Int) == 0) = false → 0 < M.length := fun h => by simp at h; exact List.length_pos_iff.2 h
 refine jC6 [(6, .slice A1 M.length c1), (41, .bool (decide (M.length = 0 ∨ (atE M 0).id ≠ p.id)))] ([.own g1 114 p.cells] ++ rowE (.slice A1 M.length c1) 114 4 (jA1 M)) mixed (by kernel_rfl) (fun Z hZ => ?_) ?_
 ·refine qM rfl rfl ?_
  refine sq_len Tryz.underlying68 rfl rfl ?_
  refine sq_eql rfl rfl rfl ?_
  refine qM rfl rfl ?_
  refine sq_split 45 rfl (fun hb3 => ?_) (fun hb3 => ?_)
  ·refine qO rfl rfl rfl rfl rfl ?_
   refine qO rfl rfl rfl rfl rfl ?_
   refine qO rfl rfl rfl rfl rfl ?_
   refine qO rfl rfl rfl rfl rfl ?_
   refine qO rfl rfl rfl rfl rfl ?_
   refine qO rfl rfl rfl rfl rfl ?_
   refine qO rfl rfl rfl rfl rfl ?_
   refine jC5 rfl rfl rfl ?_
   refine jB3 rfl rfl ?_
   refine jE0 (hZ _ _ ?_ ?_)
   ·exact Kn.cons rfl (Kn.cons (congrArg some (congrArg Value.bool (by first | (simp at hb3; subst hb3; rfl) | (simp at hb3; rw [Bool.eq_iff_iff]; simp [hb3]; omega) | (simp at hb3; rw [Bool.eq_iff_iff]; simp [hb3])))) Kn.nil)
   ·exact HLe.refl _
  ·refine jA4 rfl rfl rfl ?_
   refine qM rfl rfl ?_
   refine jA4 rfl rfl rfl ?_
   refine jE8 0 Tryz.underlying68 tyS114 (by rw [hgz (hpos hb3)]; rfl) rfl (by have := hpos hb3; omega) (by simp) rfl ?_
   refine jA4 rfl rfl rfl ?_
   refine qFA rfl tyF114_0 (by simp only [Nat.add_zero]; rfl) rfl ?_
   refine jA4 rfl rfl rfl ?_
   refine sq_loadRd (o := 0) (n := M.length) (size := 4) (xs := jA1 M) 0 rfl rfl (fun w hw => by have hg := hgz (hpos hb3); subst hg; exact rd_rowE hu (ecells_len M) (fun y hy => List.mem_append_right _ hy) hw) (hpos hb3) tyA45 tyS45 (rd_id (k := 0) (atE_at (hpos hb3))) rfl ?_
   refine jA4 rfl rfl rfl ?_
   refine qFA rfl tyF114_0 (by simp only [Nat.add_zero]; rfl) rfl ?_
   refine jA4 rfl rfl rfl ?_
   first | refine jB7 0 rfl rfl tyA45 tyS45 rfl rfl ?_
   refine jA4 rfl rfl rfl ?_
   refine sq_neq rfl rfl rfl ?_
   refine jC5 rfl rfl rfl ?_
   refine jB3 rfl rfl ?_
   refine jE0 (hZ _ _ ?_ ?_)
   ·exact Kn.cons rfl (Kn.cons (congrArg some (congrArg Value.bool (by first | (simp at hb3; subst hb3; rfl) | (simp at hb3; rw [Bool.eq_iff_iff]; simp [hb3]; omega) | (simp at hb3; rw [Bool.eq_iff_iff]; simp [hb3])))) Kn.nil)
   ·exact HLe.refl _
 refine aC rfl (fun h4 => ?_) (fun h4 => ?_)
 ·have h4' : M.length = 0 ∨ (atE M 0).id ≠ p.id := by simpa using h4
  rw [show pieceQ p t = ([], 10) by unfold pieceQ; rw [if_neg h1, hs, he, if_neg (by simpa using he0), hM, if_neg h3', if_pos h4']]
  refine aR fun Z hZ => sA rfl rfl <| sA rfl rfl <| sN (hZ _ _ ?_)
  refine aF [(4, _), (5, _)] (kR rfl) ?_
  refine aE ?_
  repeat (with_reducible (first | refine nTR ?_ | refine nBR ?_))
  exact jB4 [] rfl rfl rfl (HLe.sub (List.nil_sublist _)) ⟨_, rfl, RowOk.nil, rfl⟩
 have h4' : ¬ (M.length = 0 ∨ (atE M 0).id ≠ p.id) := by simpa using h4
 rw [show pieceQ p t = (M, 0) by unfold pieceQ; rw [if_neg h1, hs, he, if_neg (by simpa using he0), hM, if_neg h3', if_neg h4']]
 refine aK ?_
 repeat (with_reducible refine nBN ?_)
 with_reducible refine nN ?_
 refine aR fun Z hZ => sM rfl rfl <| sA rfl rfl <| sA rfl rfl <| sN (hZ _ _ ?_)
 refine aF [(4, _), (5, _)] (kR rfl) ?_
 refine aE ?_
 exact jB4 _ rfl rfl rfl (HLe.sub (List.sublist_append_right _ _)) ⟨_, rfl, hu, rfl⟩
end Go.Proofs.YtkojkeabelckjaaGreatDoor.V
namespace Go.Proofs.YtkojkeabelckjaaGreatDoor.V
open Go.RowKit
theorem join_fn (A : Option Addr) (c : Nat) (L : List En) (T : Heap) (hA : jH1 A L.length) (hT : 0 < L.length → T = roE A (jA1 L)) (hro : Ro T) (hL : L.length ≤ maxLen) (hE : jF2 L) (t : List UInt8) (ht : t.length ≤ 1000000) :
  Fn Tryz.prog 69 [.slice A L.length c, .string (str t)] T fun v H' => ∃ u, v = .tuple #[u, iq (joinQ L t).2] ∧ RowOk u (joinQ L t).1.length ∧ H' = rowE u 114 4 (jA1 (joinQ L t).1) := by
 have hL' : L.length ≤ 9223372036854775807 := hL
 refine Fn.enter (N := 50) Tryz.func69 rfl (by kernel_rfl) rfl (fun w0 => ?_)
 refine aR fun Z hZ => sA rfl rfl <| sA rfl rfl <| sN (hZ _ _ ?_)
 refine aF [(0, _), (1, _)] (kR rfl) ?_
 refine aS ?_
 refine aR fun Z hZ => sM rfl rfl ?_
 refine jD6 T (erow_fn A c L T hA hT hro hL hE) rfl (List.Sublist.refl _) hro rfl ?_
 refine sA rfl rfl <| sN (hZ _ _ ?_)
 refine aF [(0, _), (1, _), (6, _)] (kR rfl) ?_
 refine aR fun Z hZ => sM rfl rfl ?_
 refine jE5 rfl rfl rfl ?_
 refine sN (hZ _ _ ?_)
 refine aF [(0, _), (1, _), (6, _), (16, _)] (kR rfl) ?_
 refine aC rfl (fun h => ?_) (fun h => ?_)
 ·have hr : rowC L ≠ 0 := by simp at h; omega
  rw [show joinQ L t = ([], rowC L) by unfold joinQ; rw [if_pos hr]]
  refine aR fun Z hZ => sM rfl rfl <| sA rfl rfl <| sA rfl rfl <| sN (hZ _ _ ?_)
  refine aF [(4, _), (5, _)] (kR rfl) ?_
  refine aE ?_
  repeat (with_reducible refine nTR ?_)
  exact jB4 [] rfl rfl rfl (HLe.sub (List.nil_sublist _)) ⟨_, rfl, RowOk.nil, rfl⟩
 have hr : rowC L = 0 := by simp at h; omega
 obtain ⟨hl, hat⟩ := rowC_at hr hE
 obtain ⟨D, hD⟩ : ∃ D, joinG t [] L = D := ⟨_, rfl⟩
 rw [show joinQ L t = D by unfold joinQ; rw [if_neg (by simpa using hr), hD]]
 refine aK ?_
 with_reducible refine nN ?_
 refine aR fun Z hZ => sA rfl rfl <| sN (hZ _ _ ?_)
 refine aF [(0, _), (1, _), (7, _)] (kR rfl) ?_
 refine aS ?_
 refine aR fun Z hZ => sM rfl rfl ?_
 refine jD9 Tryz.underlying68 rfl rfl ?_
 refine sM rfl rfl <| sN (hZ _ _ ?_)
 refine aF [(1, _), (7, _), (18, _), (19, _), (20, _)] (kR rfl) ?_
 refine aB ?_
 refine jB6 (ι := Nat × Value × List En) (fun i => [(1, .string (str t)), (7, i.2.1), (18, .slice A L.length c), (19, iq (L.length : Nat)), (20, iq (i.1 : Nat))]) (fun i => T ++ rowE i.2.1 114 4 (jA1 i.2.2))
  (fun i => i.1 ≤ L.length ∧ RowOk i.2.1 i.2.2.length ∧ jF2 i.2.2 ∧ i.2.2.length ≤ i.1 * 4096 ∧ joinG t i.2.2 (L.drop i.1) = D) (fun i => L.length - i.1) (0, .slice none 0 0, []) ⟨by simp, RowOk.nil, fun e he => (by cases he), by simp, hD⟩ (kR rfl) (by simp [rowE]; exact HLe.refl _) ?_
 rintro ⟨k, v, out⟩ ⟨hk, hv, hO, hol, hq⟩
 simp only at hk hv hO hol hq
 refine aR (fun Z hZ => ?_)
 refine jC4 rfl rfl rfl ?_
 refine sN (hZ _ _ ?_)
 refine aF [(1, _), (7, _), (18, _), (19, _), (20, _), (21, _)] (kR rfl) ?_
 refine aS (aC rfl (fun h1 => ?_) (fun h1 => ?_))
 ·have hlt : k < L.length := by simpa using h1
  have hx := atE_at hlt
  have hxo := atE_ok hE k
  have hoff := (hat k hlt).2
  obtain ⟨x, hxe⟩ : ∃ x, atE L k = x := ⟨_, rfl⟩
  rw [hxe] at hx hxo hoff
  have hdr : L.drop k = x :: L.drop (k + 1) := by rw [List.drop_eq_getElem_cons hlt]; congr 1; exact (List.getElem?_eq_some_iff.1 hx).2
  rw [hdr, joinG] at hq
  obtain ⟨ga, o, rfl⟩ := hA (by omega)
  obtain rfl := hT (by omega)
  refine aK ?_
  with_reducible refine nN ?_
  refine awp_cut (ι := Value × List En) (fun i => [(1, .string (str t)), (7, i.1), (18, .slice (some ⟨ga, o, none⟩) L.length c), (19, iq (L.length : Nat)), (20, iq (k : Nat))]) (fun i => [.ro ga o (jA1 L)] ++ rowE i.1 114 4 (jA1 i.2)) (fun i => RowOk i.1 i.2.length ∧ jF2 i.2 ∧ i.2.length ≤ (k + 1) * 4096 ∧ joinG t i.2 (L.drop (k + 1)) = D) ?_ ?_
  ·refine aB ?_
   refine aR (fun Z hZ => ?_)
   refine jA6 (o + k * 4) Tryz.underlying68 tyS114 rfl rfl (by omega) (by simp) rfl ?_
   refine jD5 0 rfl rfl (k * 4) rfl tyA114 tyS114 (ecells_all hx) rfl ?_
   refine sAl tyZ114 rfl (fun g1 => ?_)
   refine sS 0 rfl rfl rfl tyS114 (by simp only [Value.cells]; rfl) rfl rfl rfl (by simp only [qS, Nat.reduceAdd, wrV]; rfl) (by simp only [List.set_cons_zero]; rfl) ?_
   refine sN (hZ _ _ ?_)
   refine aF [(1, _), (7, _), (9, _), (18, _), (19, _), (20, _)] (kR rfl) ?_
   refine aS ?_
   refine aR (fun Z hZ => ?_)
   refine sLA 0 rfl rfl tyA114 tyS114 rfl (by simp only [qS]; rfl) rfl ?_
   refine sCP (pointer_fn x hxo) rfl rfl ?_
   refine sx_not rfl rfl ?_
   refine sN (hZ _ _ ?_)
   refine aF [(1, _), (7, _), (9, _), (18, _), (19, _), (20, _), (26, _)] (kR rfl) ?_
   refine aC rfl (fun h2 => ?_) (fun h2 => ?_)
   ·have hp : isPtr x = false := by simpa using h2
    rw [hp, if_neg (by decide)] at hq
    refine aR fun Z hZ => sM rfl rfl ?_
    refine sLA 0 rfl rfl tyA114 tyS114 rfl (by simp only [qS]; rfl) rfl ?_
    refine sBS Tryz.underlying68 tyS114 tyZ114 rfl rfl rfl rfl (by simp only [qS, Nat.reduceAdd, Value.cells, wrV, Nat.reduceMul, Nat.zero_mul]; rfl) rfl (fun g2 => ?_)
    refine jD2 [_, _, _] elemEn rfl hv (ecells_len out) rfl (fun w hw => rd_own (i := 0) (xs := x.cells) rfl rfl hw) rfl (by show _ ≤ 9223372036854775807; omega) (by omega) (HLe.refl _) rfl (fun v2 hv2 => ?_)
    rw [show jA1 out ++ x.cells = jA1 (out ++ [x]) from (fm_snoc _ _).symm]
    refine sA rfl rfl <| sN (hZ _ _ ?_)
    refine aF [(1, _), (7, _), (18, _), (19, _), (20, _)] (kR rfl) ?_
    refine jB1 ?_
    repeat (with_reducible refine nTE ?_)
    refine nBE ?_
    refine jG2 (v2, out ++ [x]) ⟨by simpa using hv2, fun e he => ?_, by simp; omega, hq⟩ (kR rfl) (HLe.sub (List.Sublist.cons _ (List.Sublist.cons _ (List.Sublist.refl _))))
    rcases List.mem_append.1 he with he | he
    ·exact hO e he
    ·rw [List.mem_singleton.1 he]; exact hxo
   have hp : isPtr x = true := by simpa using h2
   rw [hp, if_pos rfl] at hq
   have hpc := piece_fn x hxo hoff t ht
   obtain ⟨q1, q2⟩ := pieceQ_ok x t
   obtain ⟨M, hM⟩ : ∃ M, (pieceQ x t).1 = M := ⟨_, rfl⟩
   obtain ⟨e, he⟩ : ∃ e, (pieceQ x t).2 = e := ⟨_, rfl⟩
   rw [hM, he] at hpc hq
   rw [hM] at q1 q2
   refine aK ?_
   with_reducible refine nN ?_
   refine aR (fun Z hZ => ?_)
   refine sLA 0 rfl rfl tyA114 tyS114 rfl (by simp only [qS]; rfl) rfl ?_
   refine sM rfl rfl ?_
   refine jD3 [] (_ :: .ro ga o (jA1 L) :: rowE v 114 4 (jA1 out)) hpc rfl (HLe.refl _) rfl ?_
   rintro v H' ⟨u, rfl, hu, rfl⟩
   rw [jE4]
   refine sM rfl rfl <| sX rfl rfl rfl <| sX rfl rfl rfl <| sA rfl rfl <| sA rfl rfl <| sN (hZ _ _ ?_)
   refine aF [(1, _), (7, _), (10, _), (11, _), (18, _), (19, _), (20, _)] (kR rfl) ?_
   refine aS ?_
   refine aR fun Z hZ => sM rfl rfl ?_
   refine jE5 rfl rfl rfl ?_
   refine sN (hZ _ _ ?_)
   refine aF [(1, _), (7, _), (10, _), (11, _), (18, _), (19, _), (20, _), (38, _)] (kR rfl) ?_
   refine aC rfl (fun h3 => ?_) (fun h3 => ?_)
   ·have he0 : e ≠ 0 := by simp at h3; omega
    rw [if_pos he0] at hq
    rw [← hq]
    refine aR fun Z hZ => sM rfl rfl <| sA rfl rfl <| sA rfl rfl <| sN (hZ _ _ ?_)
    refine aF [(4, _), (5, _)] (kR rfl) ?_
    refine aE ?_
    repeat (with_reducible (first | refine nTR ?_ | refine nBR ?_))
    exact jB4 [] rfl rfl rfl (HLe.sub (List.nil_sublist _)) ⟨_, rfl, RowOk.nil, rfl⟩
   have he0 : e = 0 := by simp at h3; omega
   rw [if_neg (by simpa using he0)] at hq
   refine aK ?_
   with_reducible refine nN ?_
   obtain ⟨A2, c2, rfl, hA2⟩ := hu.form
   refine aG (fun Z hZ => ?_)
   refine sM rfl rfl <| sM rfl rfl ?_
   refine jD2 (rowE (.slice A2 M.length c2) 114 4 (jA1 M) ++ [_, _]) elemEn rfl hv (ecells_len out) rfl (fun w hw => rd_rowE hu (ecells_len M) (fun y hy => List.mem_append_left _ hy) hw) (ecells_one M) (by show _ ≤ 9223372036854775807; omega) (by omega) (by rw [List.append_assoc]; exact HLe.refl _) rfl (fun v2 hv2 => ?_)
   rw [show jA1 out ++ jA1 M = jA1 (out ++ M) from by simp [jA1]]
   refine sA rfl rfl <| sN (hZ _ _ ?_)
   refine nF [(1, _), (7, _), (18, _), (19, _), (20, _)] (kR rfl) ?_
   repeat (with_reducible refine nBN ?_)
   refine jG2 (v2, out ++ M) ⟨by simpa using hv2, fun e he => ?_, by simp; omega, hq⟩ (kR rfl) (HLe.sub (by rw [List.append_assoc]; exact (List.Sublist.cons _ (List.Sublist.refl _)).trans (List.sublist_append_right _ _)))
   rcases List.mem_append.1 he with he | he
   ·exact hO e he
   ·exact q2 e he
  ·rintro ⟨v2, out2⟩ ⟨hv2, hO2, hol2, hq2⟩
   refine aG (fun Z hZ => ?_)
   refine jB8 rfl rfl ((k + 1 : Nat) : Int) (by rw [IntWalk.i64_in _ (by omega)]; omega) rfl ?_
   refine sM rfl rfl <| sN (hZ _ _ ?_)
   refine nF [(1, _), (7, _), (18, _), (19, _), (20, _)] (kR rfl) ?_
   exact jB5 (k + 1, v2, out2) ⟨by show k + 1 ≤ _; omega, hv2, hO2, hol2, hq2⟩ (by simp; omega) (kR rfl) (HLe.refl _)
 ·refine jB1 ?_
  repeat (with_reducible refine nTE ?_)
  with_reducible refine nBE ?_
  with_reducible refine nN ?_
  have hke : k = L.length := by simp at h1; omega
  subst hke
  rw [List.drop_length, joinG] at hq
  have hom : out.length ≤ maxLen := by show _ ≤ 9223372036854775807; omega
  obtain ⟨A3, c3, rfl, hA3, hle3⟩ := hv.ro
  refine aS ?_
  refine aR fun Z hZ => sM rfl rfl ?_
  refine sx_callV (roE A3 (jA1 out)) (erow_fn A3 c3 out _ hA3.arg (fun _ => rfl) (Ro.roE _ _) hom hO) rfl (row_view hle3 T _ _ _) (Ro.roE _ _) rfl ?_
  refine sA rfl rfl <| sN (hZ _ _ ?_)
  refine aF [(7, _), (12, _)] (kR rfl) ?_
  refine aR fun Z hZ => sM rfl rfl ?_
  refine jE5 rfl rfl rfl ?_
  refine sN (hZ _ _ ?_)
  refine aF [(7, _), (12, _), (47, _)] (kR rfl) ?_
  refine aC rfl (fun h2 => ?_) (fun h2 => ?_)
  ·have hr2 : rowC out ≠ 0 := by simp at h2; omega
   rw [if_pos hr2] at hq
   rw [← hq]
   refine aR fun Z hZ => sM rfl rfl <| sA rfl rfl <| sA rfl rfl <| sN (hZ _ _ ?_)
   refine aF [(4, _), (5, _)] (kR rfl) ?_
   refine aE ?_
   repeat (with_reducible refine nTR ?_)
   exact jB4 [] rfl rfl rfl (HLe.sub (List.nil_sublist _)) ⟨_, rfl, RowOk.nil, rfl⟩
  have hr2 : rowC out = 0 := by simp at h2; omega
  rw [if_neg (by simpa using hr2)] at hq
  rw [← hq]
  refine aK ?_
  with_reducible refine nN ?_
  refine aR fun Z hZ => sM rfl rfl <| sA rfl rfl <| sA rfl rfl <| sN (hZ _ _ ?_)
  refine aF [(4, _), (5, _)] (kR rfl) ?_
  refine aE ?_
  exact jB4 _ rfl rfl rfl (HLe.sub (List.sublist_append_right _ _)) ⟨_, rfl, hv, rfl⟩
end Go.Proofs.YtkojkeabelckjaaGreatDoor.V
namespace Go.Proofs.YtkojkeabelckjaaGreatDoor.V
open Go.RowKit
theorem hasPtr_len (L : List En) : jH9 L = decide (0 < (L.filter isPtr).length) := by
 induction L with
 | nil => rfl
 | cons x r ih =>
  rw [jH9, List.any_cons, List.filter_cons]
  cases hx : isPtr x with
  | true => simp
  | false => simpa [jH9] using ih
end Go.Proofs.YtkojkeabelckjaaGreatDoor.V
namespace Go.Proofs.YtkojkeabelckjaaGreatDoor.V
open Go.RowKit
end Go.Proofs.YtkojkeabelckjaaGreatDoor.V
