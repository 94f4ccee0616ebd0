/- Walks and plain laws for this claim (texts Gch1, LaySort, Zo1, joined). Each theorem states its own conditions. -/
import Derived.Test.YtkojkeabelckjaaGreatDoorJ05
import Derived.Test.YtkojkeabelckjaaGreatDoorJ08
import Derived.Test.YtkojkeabelckjaaGreatDoorJ11
import Derived.Test.YtkojkeabelckjaaGreatDoorJ09
import Derived.Shelf.SlSortCmp.WholeK
import Derived.Shelf.SlSortCmp.NoneTotal
import Derived.WalkKit
import Derived.Lib.ItoaNum

section
set_option linter.all false
namespace Go.Proofs.YtkojkeabelckjaaGreatDoor
open Go.RowKit
structure It where
  id : Nat
  tx : List UInt8
abbrev It.cells (e : It) : List Value := [uq e.id, .string (str e.tx)]
abbrev It.val (e : It) : Value := .agg e.cells.toArray
abbrev jB0 (L : List It) : List Value := L.flatMap It.cells
theorem it_len (e : It) : e.cells.length = 2 := rfl
theorem icells_len (L : List It) : (jB0 L).length = L.length * 2 := fm_len it_len L
theorem icells_all {L : List It} {i : Nat} {x : It} (h : L[i]? = some x) : rdV true 2 (jB0 L) (i * 2) = some x.val := fm_rd it_len h
theorem icells_id {L : List It} {i : Nat} {x : It} (h : L[i]? = some x) : rdV false 1 (jB0 L) (i * 2) = some (uq x.id) := by have := fm_rd1 (j := 0) it_len h rfl; simpa using this
theorem icells_take {L : List It} {k : Nat} {x : It} (h : L[k]? = some x) : jB0 (L.take (k + 1)) = jB0 (L.take k) ++ x.cells := fm_take h
theorem elemIt : ElemOk Tryz.prog 25 62 2 24 := ElemOk.mk_ (z := .agg #[uq 0, .string ⟨#[]⟩]) Tryz.underlying25 (by kernel_rfl) rfl (by omega)
def ItsOk (L : List It) : Prop := ∀ e ∈ L, e.id < 18446744073709551616
def jE4 (k : Nat) (s : List UInt8) (full : Bool) : Nat := if 6004799503160661 ≤ k then 8 else if s = [] then 2 else if 65536 < s.length then 5 else if full then 7 else 0
theorem wrong_fn (k : Nat) (s : List UInt8) (full : Bool) : Fn Tryz.prog 37 [uq k, .string (str s), .bool full] [] fun v _ => v = iq (jE4 k s full) := by
  refine Fn.enter (N := 19) Tryz.func37 rfl (by kernel_rfl) rfl (fun w0 => ?_)
  refine aR fun Z hZ => sA rfl rfl <| sN (hZ _ _ ?_)
  refine aF [(0, _), (1, _), (2, _)] (Kn.cons rfl (Kn.cons rfl (Kn.cons rfl (Kn.nil)))) ?_
  refine aS (aB ?_)
  refine aR fun Z hZ => sM rfl rfl ?_
  refine sx_geq rfl rfl rfl ?_
  refine sA rfl rfl <| sN (hZ _ _ ?_)
  refine aF [(1, _), (2, _), (7, _)] (Kn.cons rfl (Kn.cons rfl (Kn.cons rfl (Kn.nil)))) ?_
  refine aC rfl (fun h => ?_) (fun h => ?_)
  · have h' : 6004799503160661 ≤ k := by simp at h; omega
    rw [show jE4 k s full = 8 by unfold jE4; rw [if_pos h']]
    refine aR fun Z hZ => sA rfl rfl <| sN (hZ _ _ ?_)
    refine aF [(6, _)] (Kn.cons rfl (Kn.nil)) ?_
    refine aE ?_
    repeat (with_reducible (first | refine nTR ?_ | refine nBR ?_))
    exact nR1 rfl rfl rfl
  have h' : ¬ 6004799503160661 ≤ k := by simp at h; omega
  refine aR fun Z hZ => sM rfl rfl ?_
  refine sx_seql rfl rfl rfl ?_
  refine sA rfl rfl <| sN (hZ _ _ ?_)
  refine aF [(1, _), (2, _), (10, _)] (Kn.cons rfl (Kn.cons rfl (Kn.cons rfl (Kn.nil)))) ?_
  refine aC rfl (fun h1 => ?_) (fun h1 => ?_)
  · have h1' : s = [] := by simpa using h1
    rw [show jE4 k s full = 2 by unfold jE4; rw [if_neg h', if_pos h1']]
    refine aR fun Z hZ => sA rfl rfl <| sN (hZ _ _ ?_)
    refine aF [(6, _)] (Kn.cons rfl (Kn.nil)) ?_
    refine aE ?_
    repeat (with_reducible (first | refine nTR ?_ | refine nBR ?_))
    exact nR1 rfl rfl rfl
  have h1' : ¬ s = [] := by simpa using h1
  refine aR fun Z hZ => sM rfl rfl ?_
  refine jF3 Tryz.underlying9 rfl rfl ?_
  refine jE3 rfl rfl rfl ?_
  refine sA rfl rfl <| sN (hZ _ _ ?_)
  refine aF [(2, _), (13, _)] (Kn.cons rfl (Kn.cons rfl (Kn.nil))) ?_
  refine aC rfl (fun h2 => ?_) (fun h2 => ?_)
  · have h2' : 65536 < s.length := by simp at h2; omega
    rw [show jE4 k s full = 5 by unfold jE4; rw [if_neg h', if_neg h1', if_pos h2']]
    refine aR fun Z hZ => sA rfl rfl <| sN (hZ _ _ ?_)
    refine aF [(6, _)] (Kn.cons rfl (Kn.nil)) ?_
    refine aE ?_
    repeat (with_reducible (first | refine nTR ?_ | refine nBR ?_))
    exact nR1 rfl rfl rfl
  have h2' : ¬ 65536 < s.length := by simp at h2; omega
  refine aR fun Z hZ => sM rfl rfl <| sA rfl rfl <| sN (hZ _ _ ?_)
  refine aF [(17, _)] (Kn.cons rfl (Kn.nil)) ?_
  refine aC rfl (fun h3 => ?_) (fun h3 => ?_)
  · rw [show jE4 k s full = 7 by unfold jE4; rw [if_neg h', if_neg h1', if_neg h2', if_pos h3]]
    refine aR fun Z hZ => sA rfl rfl <| sN (hZ _ _ ?_)
    refine aF [(6, _)] (Kn.cons rfl (Kn.nil)) ?_
    refine aE ?_
    repeat (with_reducible (first | refine nTR ?_ | refine nBR ?_))
    exact nR1 rfl rfl rfl
  rw [show jE4 k s full = 0 by unfold jE4; rw [if_neg h', if_neg h1', if_neg h2', h3]; rfl]
  refine aK ?_
  repeat (with_reducible refine nBN ?_)
  with_reducible refine nN ?_
  refine aR fun Z hZ => sA rfl rfl <| sN (hZ _ _ ?_)
  refine aF [(6, _)] (Kn.cons rfl (Kn.nil)) ?_
  refine aE ?_
  exact nR1 rfl rfl rfl
end Go.Proofs.YtkojkeabelckjaaGreatDoor
namespace Go.Proofs.YtkojkeabelckjaaGreatDoor
open Go.RowKit
def cLo (k : Nat) : List It → Nat
  | [] => 0
  | e :: r => if e.id < k then cLo k r + 1 else 0
def itAt (L : List It) (i : Nat) : It := (L[i]?).getD ⟨0, []⟩
theorem itAt_at {L : List It} {i : Nat} (h : i < L.length) : L[i]? = some (itAt L i) := by simp [itAt, List.getElem?_eq_getElem h]
def Rise (L : List It) : Prop := L.Pairwise (fun a b => a.id < b.id)
def cHas (k : Nat) (L : List It) : Bool := decide (cLo k L < L.length ∧ (itAt L (cLo k L)).id = k)
abbrev chV (A : Option Addr) (n c : Nat) : Value := .agg #[.slice A n c]
end Go.Proofs.YtkojkeabelckjaaGreatDoor
namespace Go.Proofs.YtkojkeabelckjaaGreatDoor
open Go.RowKit
theorem wrs_fltc {T K A : Heap} (h : Wrs T) : HLe T (A ++ (T.filter Ent.wr ++ K)) := by
  rw [h.filter]
  exact HLe.sub ((List.sublist_append_left T K).trans (List.sublist_append_right A _))
theorem len_fn (A : Option Addr) (n c : Nat) : Fn Tryz.prog 63 [chV A n c] [] fun v _ => v = iq (n : Nat) := by
  refine Fn.enter (N := 6) Tryz.func63 rfl (by kernel_rfl) rfl (fun w0 => ?_)
  refine aR (fun Z hZ => ?_)
  refine jA5 rfl rfl rfl (fun g1 => ?_)
  refine sA rfl rfl <| sN (hZ _ _ ?_)
  refine aF [(1, _)] (Kn.cons rfl (Kn.nil)) ?_
  refine aR (fun Z hZ => ?_)
  refine sFA rfl tyF27_0 (by simp only [Nat.add_zero]; rfl) rfl ?_
  first | refine sL 0 rfl rfl tyA25 tyS25 rfl rfl ?_
  refine jE7 Tryz.underlying25 rfl rfl ?_
  refine sA rfl rfl <| sN (hZ _ _ ?_)
  refine aF [(2, _)] (Kn.cons rfl (Kn.nil)) ?_
  refine aE ?_
  exact nR1 rfl rfl rfl
def cBytes (L : List It) : Nat := (L.map fun e => e.tx.length).sum
theorem ceach_fn (A : Option Addr) (n c : Nat) : Fn Tryz.prog 48 [chV A n c] [] fun v H' => ∃ g, v = .func (.func 89) #[] #[ptr g 0] ∧ H' = [.own g 27 [.slice A n c]] := by
  refine Fn.enter (N := 4) Tryz.func48 rfl (by kernel_rfl) rfl (fun w0 => ?_)
  refine aR (fun Z hZ => ?_)
  refine jA5 rfl rfl rfl (fun g1 => ?_)
  refine sA rfl rfl <| sN (hZ _ _ ?_)
  refine aF [(1, _)] (Kn.cons rfl (Kn.nil)) ?_
  refine aR (fun Z hZ => ?_)
  refine sx_makeFunc rfl rfl ?_
  refine sA rfl rfl <| sN (hZ _ _ ?_)
  refine aF [(2, _)] (Kn.cons rfl (Kn.nil)) ?_
  refine aE ?_
  exact jD4 _ rfl rfl (HLe.refl _) ⟨g1, rfl, rfl⟩
theorem ceach_it (g : Nat) (A : Option Addr) (cp : Nat) (L : List It) (T : Heap) (hA : ArgOk A L.length) (hT : 0 < L.length → T = roE A (jB0 L)) (hL : L.length ≤ 100000) :
    Iter Tryz.prog 89 [ptr g 0] (.ro g 0 [.slice A L.length cp] :: T) (L.map fun e => [uq e.id, .string (str e.tx)]) := by
  intro l J Jr S hJ hS hJr hY T0 hT0
  have hlen : (L.map fun e => [uq e.id, .string (str e.tx)]).length = L.length := by simp
  rw [hlen]
  refine Fn.enter (N := 20) Tryz.func89 rfl (by kernel_rfl) rfl (fun w0 => ?_)
  refine jB5 (.ro g 0 [.slice A L.length cp] :: (T ++ (T0 ++ Jr))) (HLe.refl _) ?_
  refine aR (fun Z hZ => ?_)
  refine sFA rfl tyF27_0 (by simp only [Nat.add_zero]; rfl) rfl ?_
  refine jF0 0 rfl rfl 0 rfl tyA25 tyS25 rfl rfl ?_
  refine jE7 Tryz.underlying25 rfl rfl ?_
  refine sM rfl rfl <| sN (hZ _ _ ?_)
  refine aF [(0, _), (6, _), (7, _), (8, _)] (Kn.cons rfl (Kn.cons rfl (Kn.cons rfl (Kn.cons rfl (Kn.nil))))) ?_
  refine aB ?_
  refine jC2 (ι := Nat × Heap) (fun i => [(0, .func (.yield l) #[] #[]), (6, .slice A L.length cp), (7, iq (L.length : Nat)), (8, iq (i.1 : Nat))]) (fun i => T ++ (i.2 ++ Jr))
    (fun i => i.1 ≤ L.length ∧ J i.1 i.2) (fun i => L.length - i.1) (0, T0) ⟨by simp, hT0⟩ (Kn.cons rfl (Kn.cons rfl (Kn.cons rfl (Kn.cons rfl Kn.nil)))) (HLe.drop 1 rfl) ?_
  rintro ⟨i, T3⟩ ⟨hi, hT3⟩
  simp only at hi hT3
  refine aR (fun Z hZ => ?_)
  refine jC3 rfl rfl rfl ?_
  refine sN (hZ _ _ ?_)
  refine aF [(0, _), (6, _), (7, _), (8, _), (9, _)] (Kn.cons rfl (Kn.cons rfl (Kn.cons rfl (Kn.cons rfl (Kn.cons rfl (Kn.nil)))))) ?_
  refine aS (aC rfl (fun hh => ?_) (fun hh => ?_))
  · have hlt : i < L.length := by simpa using hh
    have hx := itAt_at hlt
    obtain ⟨ga, o, rfl⟩ := hA (by omega)
    obtain rfl := hT (by omega)
    refine jB5 (.ro ga o (jB0 L) :: (T3 ++ Jr)) (HLe.refl _) ?_
    refine aK ?_
    with_reducible refine nN ?_
    refine aS (aB ?_)
    refine aR (fun Z hZ => ?_)
    refine jB9 (o + i * 2) Tryz.underlying25 tyS62 rfl rfl (by omega) (by simp) rfl ?_
    refine jF0 0 rfl rfl (i * 2) rfl tyA62 tyS62 (icells_all hx) rfl ?_
    refine sAl tyZ62 rfl (fun g1 => ?_)
    refine sS 0 rfl rfl rfl tyS62 (by simp only [Value.cells]; rfl) rfl rfl rfl (by simp only [List.take_zero, List.drop_succ_cons, List.drop_zero, List.nil_append, List.append_nil, List.length_cons, List.length_nil, Nat.reduceAdd, Nat.zero_add, wrV]; rfl) (by simp only [List.set_cons_zero]; rfl) ?_
    refine sN (hZ _ _ ?_)
    refine aF [(0, _), (4, _), (6, _), (7, _), (8, _)] (Kn.cons rfl (Kn.cons rfl (Kn.cons rfl (Kn.cons rfl (Kn.cons rfl (Kn.nil)))))) ?_
    refine awy_seq_region (fun Z hZ => ?_)
    refine sy_x rfl ?_
    refine sM rfl rfl ?_
    refine sN ?_
    refine sy_x rfl ?_
    refine sFA rfl tyF62_0 (by simp only [Nat.add_zero]; rfl) rfl ?_
    refine sN ?_
    refine sy_x rfl ?_
    refine sL 0 rfl rfl tyA45 tyS45 rfl rfl ?_
    refine sN ?_
    refine sy_x rfl ?_
    refine sFA rfl tyF62_1 (by simp only [Nat.zero_add]; rfl) rfl ?_
    refine sN ?_
    refine sy_x rfl ?_
    refine sL 0 rfl rfl tyA9 tyS9 rfl rfl ?_
    refine sN ?_
    refine sy_yield [_, _] T3 Jr Jr (hY i _ T3 (by simp [hx]) hT3) rfl rfl rfl (List.Sublist.refl _) hJr rfl ?_
    rintro v T4 ⟨b, rfl, hb1, hb2⟩
    refine sy_x rfl ?_
    refine sx_not rfl rfl ?_
    refine sN ?_
    refine sy_nil (hZ _ _ ?_)
    refine aF [(0, _), (6, _), (7, _), (8, _), (18, _)] (Kn.cons rfl (Kn.cons rfl (Kn.cons rfl (Kn.cons rfl (Kn.cons rfl (Kn.nil)))))) ?_
    refine aC rfl (fun h3 => ?_) (fun h3 => ?_)
    · have hb : b = false := by simpa using h3
      refine aE ?_
      repeat (with_reducible (first | refine nTR ?_ | refine nBR ?_))
      exact nx_ret0h T4 rfl (wrs_fltc (A := [_, _]) (hS T4 (hb2 hb))) (.inr (hb2 hb))
    have hb : b = true := by simpa using h3
    have hT4 := hb1 hb
    rw [(hJ _ T4 hT4).filter]
    refine aK ?_
    repeat (with_reducible refine nBN ?_)
    with_reducible refine nN ?_
    refine aG (fun Z hZ => ?_)
    refine jA7 rfl rfl ((i + 1 : Nat) : Int) (by rw [IntWalk.i64_in _ (by omega)]; omega) rfl ?_
    refine sM rfl rfl <| sN (hZ _ _ ?_)
    refine nF [(0, _), (6, _), (7, _), (8, _)] (Kn.cons rfl (Kn.cons rfl (Kn.cons rfl (Kn.cons rfl (Kn.nil))))) ?_
    exact jB4 (i + 1, T4) ⟨by show i + 1 ≤ _; omega, hT4⟩ (by simp; omega) (Kn.cons rfl (Kn.cons rfl (Kn.cons rfl (Kn.cons rfl Kn.nil)))) (HLe.drop 1 rfl)
  · have hie : i = L.length := by simp at hh; omega
    subst hie
    refine jA8 ?_
    repeat (with_reducible refine nTE ?_)
    with_reducible refine nBE ?_
    exact nx_end0h T3 rfl (HLe.sub ((List.sublist_append_left T3 Jr).trans (List.sublist_append_right T _))) (.inl hT3)
end Go.Proofs.YtkojkeabelckjaaGreatDoor
namespace Go.Proofs.YtkojkeabelckjaaGreatDoor
open Go.RowKit
def itq (a b : It) : Bool := (a.id == b.id) && (a.tx == b.tx)
def sameI : List It → List It → Bool
  | [], [] => true
  | a :: r, b :: s => itq a b && sameI r s
  | _, _ => false
theorem itq_iff {a b : It} : itq a b = true ↔ a = b := by
  obtain ⟨a1, a2⟩ := a
  obtain ⟨b1, b2⟩ := b
  simp [itq]
theorem sameI_iff : ∀ {L M : List It}, sameI L M = true ↔ L = M
  | [], [] => by simp [sameI]
  | a :: r, b :: s => by simp [sameI, itq_iff, sameI_iff (L := r) (M := s)]
  | [], b :: s => by simp [sameI]
  | a :: r, [] => by simp [sameI]
theorem sameI_len : ∀ {L M : List It}, sameI L M = true → L.length = M.length := fun h => by rw [sameI_iff.1 h]
theorem it_eq (a b : It) : EqV Tryz.prog 10000 62 a.val b.val (itq a b) := by
  have h : EqV Tryz.prog 10000 62 a.val b.val _ := EqV.struct Tryz.underlying62 (by kernel_rfl) (.cons rfl tyA45 tyS45 rfl rfl (EqV.int Tryz.underlying45) (.cons rfl tyA9 tyS9 rfl rfl (EqV.string Tryz.underlying9) .nil))
  have e : itq a b = (((a.id : Int) == (b.id : Int)) && ((a.tx == b.tx) && true)) := by
    rw [Bool.eq_iff_iff]
    simp [itq]
    intro _
    omega
  rw [e]
  exact h
theorem guard_it : Program.eqGuardType Tryz.prog Tryz.prog.depth 62 = false := by kernel_rfl
theorem iequal_fn (A : Option Addr) (c : Nat) (L : List It) (T : Heap) (hA : ArgOk A L.length) (hT : 0 < L.length → T = roE A (jB0 L)) (hL : L.length ≤ maxLen)
    (B : Option Addr) (d : Nat) (M : List It) (U : Heap) (hB : ArgOk B M.length) (hU : 0 < M.length → U = roE B (jB0 M)) (hM : M.length ≤ maxLen) :
    Fn Tryz.prog 41 [.slice A L.length c, .slice B M.length d] (T ++ U) fun v _ => v = .bool (sameI L M) := by
  have hL' : L.length ≤ 9223372036854775807 := hL
  have hM' : M.length ≤ 9223372036854775807 := hM
  refine Fn.enter (N := 26) Tryz.func41 rfl (by kernel_rfl) rfl (fun w0 => ?_)
  refine aR fun Z hZ => sA rfl rfl <| sN (hZ _ _ ?_)
  refine aF [(0, _), (1, _)] (Kn.cons rfl (Kn.cons rfl (Kn.nil))) ?_
  refine aS ?_
  refine aR fun Z hZ => sM rfl rfl ?_
  refine jE7 Tryz.underlying25 rfl rfl ?_
  refine sM rfl rfl ?_
  refine jE7 Tryz.underlying25 rfl rfl ?_
  refine jC9 rfl rfl rfl ?_
  refine sN (hZ _ _ ?_)
  refine aF [(0, _), (1, _), (10, _)] (Kn.cons rfl (Kn.cons rfl (Kn.cons rfl (Kn.nil)))) ?_
  refine aC rfl (fun ha => ?_) (fun ha => ?_)
  · have hne : L.length ≠ M.length := by simp at ha; omega
    rw [show sameI L M = false by cases hs : sameI L M with | false => rfl | true => exact absurd (sameI_len hs) hne]
    refine aR fun Z hZ => sA rfl rfl <| sN (hZ _ _ ?_)
    refine aF [(4, _)] (Kn.cons rfl (Kn.nil)) ?_
    refine aE ?_
    repeat (with_reducible refine nTR ?_)
    exact nR1 rfl rfl rfl
  have hlm : L.length = M.length := by simp at ha; omega
  refine aK ?_
  with_reducible refine nN ?_
  refine aS ?_
  refine aR fun Z hZ => sM rfl rfl ?_
  refine jE7 Tryz.underlying25 rfl rfl ?_
  refine sM rfl rfl <| sN (hZ _ _ ?_)
  refine aF [(0, _), (1, _), (12, _), (13, _)] (Kn.cons rfl (Kn.cons rfl (Kn.cons rfl (Kn.cons rfl (Kn.nil))))) ?_
  refine aB ?_
  refine jC2 (ι := Nat) (fun k => [(0, .slice A L.length c), (1, .slice B M.length d), (12, iq (L.length : Nat)), (13, iq (k : Nat))]) (fun _ => T ++ U)
    (fun k => k ≤ L.length ∧ sameI (L.drop k) (M.drop k) = sameI L M) (fun k => L.length - k) 0 ⟨by simp, rfl⟩ (Kn.cons rfl (Kn.cons rfl (Kn.cons rfl (Kn.cons rfl Kn.nil)))) (HLe.refl _) ?_
  rintro k ⟨hk, hq⟩
  refine aR (fun Z hZ => ?_)
  refine jC3 rfl rfl rfl ?_
  refine sN (hZ _ _ ?_)
  refine aF [(0, _), (1, _), (12, _), (13, _), (14, _)] (Kn.cons rfl (Kn.cons rfl (Kn.cons rfl (Kn.cons rfl (Kn.cons rfl (Kn.nil)))))) ?_
  refine aS (aC rfl (fun h => ?_) (fun h => ?_))
  · have hlt : k < L.length := by simpa using h
    obtain ⟨x, hx⟩ : ∃ x, L[k]? = some x := ⟨_, List.getElem?_eq_getElem hlt⟩
    obtain ⟨y, hy⟩ : ∃ y, M[k]? = some y := ⟨_, List.getElem?_eq_getElem (by omega)⟩
    have hxe : L[k] = x := Option.some.inj ((List.getElem?_eq_getElem hlt).symm.trans hx)
    have hye : M[k]'(by omega) = y := Option.some.inj ((List.getElem?_eq_getElem (by omega)).symm.trans hy)
    rw [List.drop_eq_getElem_cons hlt, List.drop_eq_getElem_cons (show k < M.length by omega), hxe, hye, sameI] at hq
    obtain ⟨g, o, rfl⟩ := hA (by omega)
    obtain ⟨g', o', rfl⟩ := hB (by omega)
    obtain rfl := hT (by omega)
    obtain rfl := hU (by omega)
    refine aK ?_
    with_reducible refine nN ?_
    refine aS (aB ?_)
    refine aR fun Z hZ => sM rfl rfl <| sA rfl rfl <| sN (hZ _ _ ?_)
    refine aF [(0, _), (1, _), (5, _), (12, _), (13, _)] (Kn.cons rfl (Kn.cons rfl (Kn.cons rfl (Kn.cons rfl (Kn.cons rfl (Kn.nil)))))) ?_
    refine jC1 mixed (by kernel_rfl) (fun Z hZ => ?_)
    refine qM rfl rfl ?_
    refine qM rfl rfl ?_
    refine jG5 (o + k * 2) Tryz.underlying25 tyS62 rfl rfl (by omega) (by simp) rfl ?_
    refine sq_loadRo 0 rfl rfl (k * 2) rfl tyA62 tyS62 (icells_all hx) rfl ?_
    refine qM rfl rfl ?_
    refine qM rfl rfl ?_
    refine jG5 (o' + k * 2) Tryz.underlying25 tyS62 rfl rfl (by omega) (by simp) rfl ?_
    refine sq_loadRo 1 rfl rfl (k * 2) rfl tyA62 tyS62 (icells_all hy) rfl ?_
    refine sq_aneq (it_eq x y) guard_it rfl rfl rfl ?_
    refine jD0 (hZ _ _ ?_)
    refine aF [(0, _), (1, _), (12, _), (13, _), (24, _)] (Kn.cons rfl (Kn.cons rfl (Kn.cons rfl (Kn.cons rfl (Kn.cons rfl (Kn.nil)))))) ?_
    refine aC rfl (fun hb => ?_) (fun hb => ?_)
    · have hb' : itq x y = false := by simpa using hb
      rw [hb'] at hq
      rw [← hq]
      refine aR fun Z hZ => sA rfl rfl <| sN (hZ _ _ ?_)
      refine aF [(4, _)] (Kn.cons rfl (Kn.nil)) ?_
      refine aE ?_
      repeat (with_reducible (first | refine nTR ?_ | refine nBR ?_))
      exact nR1 rfl rfl rfl
    have hb' : itq x y = true := by simpa using hb
    rw [hb', Bool.true_and] at hq
    refine aK ?_
    repeat (with_reducible refine nBN ?_)
    with_reducible refine nN ?_
    refine aG (fun Z hZ => ?_)
    refine jA7 rfl rfl ((k + 1 : Nat) : Int) (by rw [IntWalk.i64_in _ (by omega)]; omega) rfl ?_
    refine sM rfl rfl <| sN (hZ _ _ ?_)
    refine nF [(0, _), (1, _), (12, _), (13, _)] (Kn.cons rfl (Kn.cons rfl (Kn.cons rfl (Kn.cons rfl (Kn.nil))))) ?_
    exact jB4 (k + 1) ⟨by omega, hq⟩ (by omega) (Kn.cons rfl (Kn.cons rfl (Kn.cons rfl (Kn.cons rfl Kn.nil)))) (HLe.refl _)
  · refine jA8 ?_
    repeat (with_reducible refine nTE ?_)
    with_reducible refine nBE ?_
    with_reducible refine nN ?_
    have hke : k = L.length := by simp at h; omega
    subst hke
    rw [List.drop_length, List.drop_of_length_le (by omega), sameI] at hq
    rw [← hq]
    refine aR fun Z hZ => sA rfl rfl <| sN (hZ _ _ ?_)
    refine aF [(4, _)] (Kn.cons rfl (Kn.nil)) ?_
    refine aE ?_
    exact nR1 rfl rfl rfl
theorem csame_fn (A : Option Addr) (c : Nat) (L : List It) (T : Heap) (hA : ArgOk A L.length) (hT : 0 < L.length → T = roE A (jB0 L)) (hroT : Ro T) (hL : L.length ≤ maxLen)
    (B : Option Addr) (d : Nat) (M : List It) (U : Heap) (hB : ArgOk B M.length) (hU : 0 < M.length → U = roE B (jB0 M)) (hroU : Ro U) (hM : M.length ≤ maxLen) :
    Fn Tryz.prog 17 [chV A L.length c, chV B M.length d] (T ++ U) fun v _ => v = .bool (sameI L M) := by
  refine Fn.enter (N := 10) Tryz.func17 rfl (by kernel_rfl) rfl (fun w0 => ?_)
  refine aR (fun Z hZ => ?_)
  refine jA5 rfl rfl rfl (fun g1 => ?_)
  refine jA5 rfl rfl rfl (fun g2 => ?_)
  refine sA rfl rfl <| sN (hZ _ _ ?_)
  refine aF [(2, _), (3, _)] (Kn.cons rfl (Kn.cons rfl (Kn.nil))) ?_
  refine aR (fun Z hZ => ?_)
  refine sFA rfl tyF27_0 (by simp only [Nat.add_zero]; rfl) rfl ?_
  refine sL 1 rfl rfl tyA25 tyS25 rfl rfl ?_
  refine sFA rfl tyF27_0 (by simp only [Nat.add_zero]; rfl) rfl ?_
  refine sL 0 rfl rfl tyA25 tyS25 rfl rfl ?_
  refine jF4 (T ++ U) (iequal_fn A c L T hA hT hL B d M U hB hU hM) rfl ((List.sublist_cons_self _ _).trans (List.sublist_cons_self _ _)) (hroT.append hroU) rfl ?_
  refine sA rfl rfl <| sN (hZ _ _ ?_)
  refine aF [(4, _)] (Kn.cons rfl (Kn.nil)) ?_
  refine aE ?_
  exact nR1 rfl rfl rfl
end Go.Proofs.YtkojkeabelckjaaGreatDoor
namespace Go.Proofs.YtkojkeabelckjaaGreatDoor
open Go.RowKit
end Go.Proofs.YtkojkeabelckjaaGreatDoor
namespace Go.Proofs.YtkojkeabelckjaaGreatDoor
open Go.RowKit
def cPut (k : Nat) (s : List UInt8) (L : List It) : List It := L.take (cLo k L) ++ ⟨k, s⟩ :: L.drop (cLo k L + if cHas k L then 1 else 0)
end Go.Proofs.YtkojkeabelckjaaGreatDoor
namespace Go.Proofs.YtkojkeabelckjaaGreatDoor
open Go.RowKit
structure Half (k : Nat) (X Y : List It) : Prop where
  ahead : ∀ e ∈ X, e.id < k
  behind : ∀ e ∈ Y, k < e.id
  riseX : Rise X
  riseY : Rise Y
theorem lo_of {k : Nat} : ∀ {X Z : List It}, (∀ e ∈ X, e.id < k) → (∀ e ∈ Z, k ≤ e.id) → cLo k (X ++ Z) = X.length
  | [], [], _, _ => rfl
  | [], e :: r, _, h => by
    have := h e List.mem_cons_self
    rw [List.nil_append, cLo, if_neg (by omega)]
    rfl
  | e :: r, Z, h, h2 => by
    have := h e List.mem_cons_self
    rw [List.cons_append, cLo, if_pos this, lo_of (fun x hx => h x (List.mem_cons_of_mem _ hx)) h2]
    rfl
section
variable {k : Nat} {X Y : List It} {s : List UInt8}
theorem itAt_mid (s : It) : itAt (X ++ s :: Y) X.length = s := by simp [itAt]
theorem Half.lo1 (h : Half k X Y) : cLo k (X ++ ⟨k, s⟩ :: Y) = X.length := lo_of h.ahead fun e he => by
  rcases List.mem_cons.1 he with rfl | he
  · exact Nat.le_refl _
  · exact Nat.le_of_lt (h.behind e he)
theorem Half.lo0 (h : Half k X Y) : cLo k (X ++ Y) = X.length := lo_of h.ahead fun e he => Nat.le_of_lt (h.behind e he)
theorem Half.has1 (h : Half k X Y) : cHas k (X ++ ⟨k, s⟩ :: Y) = true := by
  unfold cHas
  rw [h.lo1, itAt_mid]
  simp
theorem Half.has0 (h : Half k X Y) : cHas k (X ++ Y) = false := by
  unfold cHas
  rw [h.lo0]
  cases Y with
  | nil => simp
  | cons y r =>
    have := h.behind y List.mem_cons_self
    rw [itAt_mid]
    simp
    omega
theorem Half.put1 (h : Half k X Y) (t : List UInt8) : cPut k t (X ++ ⟨k, s⟩ :: Y) = X ++ ⟨k, t⟩ :: Y := by
  unfold cPut
  rw [h.has1, h.lo1, if_pos rfl]
  simp
theorem Half.put0 (h : Half k X Y) (t : List UInt8) : cPut k t (X ++ Y) = X ++ ⟨k, t⟩ :: Y := by
  unfold cPut
  rw [h.has0, h.lo0, if_neg (by decide)]
  simp
theorem Half.rise1 (h : Half k X Y) : Rise (X ++ ⟨k, s⟩ :: Y) := by
  refine List.pairwise_append.2 ⟨h.riseX, List.pairwise_cons.2 ⟨fun e he => h.behind e he, h.riseY⟩, fun a ha b hb => ?_⟩
  have h1 := h.ahead a ha
  rcases List.mem_cons.1 hb with rfl | hb
  · exact h1
  · have := h.behind b hb
    omega
theorem Half.ne (h : Half k X Y) : (∀ e ∈ X, e.id ≠ k) ∧ (∀ e ∈ Y, e.id ≠ k) := ⟨fun e he => Nat.ne_of_lt (h.ahead e he), fun e he => Nat.ne_of_gt (h.behind e he)⟩
end
theorem it_half {L : List It} (hr : Rise L) (k : Nat) : ∃ X Y, Half k X Y ∧ ((∃ s, L = X ++ ⟨k, s⟩ :: Y) ∨ L = X ++ Y) := by
  induction L with
  | nil => exact ⟨[], [], ⟨by simp, by simp, List.Pairwise.nil, List.Pairwise.nil⟩, .inr rfl⟩
  | cons e r ih =>
    obtain ⟨h1, h2⟩ := List.pairwise_cons.1 hr
    rcases Nat.lt_trichotomy e.id k with h | h | h
    · obtain ⟨X, Y, hh, hl⟩ := ih h2
      have hX : ∀ x ∈ X, x ∈ r := fun x hx => by rcases hl with ⟨s, hl⟩ | hl <;> rw [hl] <;> exact List.mem_append_left _ hx
      refine ⟨e :: X, Y, ⟨fun x hx => ?_, hh.behind, List.pairwise_cons.2 ⟨fun x hx => h1 x (hX x hx), hh.riseX⟩, hh.riseY⟩, ?_⟩
      · rcases List.mem_cons.1 hx with rfl | hx
        · exact h
        · exact hh.ahead x hx
      · rcases hl with ⟨s, hl⟩ | hl
        · exact .inl ⟨s, by rw [hl]; rfl⟩
        · exact .inr (by rw [hl]; rfl)
    · exact ⟨[], r, ⟨by simp, fun x hx => by have := h1 x hx; omega, List.Pairwise.nil, h2⟩, .inl ⟨e.tx, by rw [← h]; rfl⟩⟩
    · exact ⟨[], e :: r, ⟨by simp, fun x hx => by
        rcases List.mem_cons.1 hx with rfl | hx
        · exact h
        · have := h1 x hx; omega, List.Pairwise.nil, hr⟩, .inr rfl⟩
theorem put_rise {L : List It} (hr : Rise L) (k : Nat) (t : List UInt8) : Rise (cPut k t L) := by
  obtain ⟨X, Y, h, ⟨s, rfl⟩ | rfl⟩ := it_half hr k
  · rw [h.put1]; exact h.rise1
  · rw [h.put0]; exact h.rise1
structure ChOk (L : List It) : Prop where
  rise : Rise L
  lt : ∀ e ∈ L, e.id < 6004799503160661
  tx : ∀ e ∈ L, e.tx ≠ [] ∧ e.tx.length ≤ 65536
  len : L.length ≤ 2048
theorem ChOk.nil : ChOk [] := ⟨List.Pairwise.nil, fun _ h => (by cases h), fun _ h => (by cases h), by simp⟩
end Go.Proofs.YtkojkeabelckjaaGreatDoor
namespace Go.Proofs.YtkojkeabelckjaaGreatDoor
open Go.RowKit
end Go.Proofs.YtkojkeabelckjaaGreatDoor
namespace Go.Proofs.YtkojkeabelckjaaGreatDoor
open Go.RowKit
end Go.Proofs.YtkojkeabelckjaaGreatDoor
namespace Go.Proofs.YtkojkeabelckjaaGreatDoor
open Go.RowKit
def ofE : List Nat → List It → Nat
  | _, [] => 0
  | seen, e :: r => if e.id ∈ seen then 22 else if jE4 e.id e.tx (decide (2048 ≤ seen.length)) ≠ 0 then jE4 e.id e.tx (decide (2048 ≤ seen.length)) else ofE (seen ++ [e.id]) r
def ofQ (L : List It) : Nat := ofE [] L
def sortI (L : List It) : List It := L.foldl (fun acc e => cPut e.id e.tx acc) []
def idsI (L : List It) : List Nat := L.map fun e => e.id
theorem sortI_snoc (L : List It) (x : It) : sortI (L ++ [x]) = cPut x.id x.tx (sortI L) := by simp [sortI]
theorem put_perm {L : List It} (hr : Rise L) {k : Nat} (t : List UInt8) (h : cHas k L = false) : (cPut k t L).Perm (L ++ [⟨k, t⟩]) := by
  obtain ⟨X, Y, hh, ⟨s, rfl⟩ | rfl⟩ := it_half hr k
  · rw [hh.has1] at h; cases h
  · rw [hh.put0]
    exact (List.perm_middle).trans (List.perm_append_singleton _ _).symm
theorem has_mem {L : List It} (hr : Rise L) (k : Nat) : cHas k L = true ↔ k ∈ idsI L := by
  obtain ⟨X, Y, hh, ⟨s, rfl⟩ | rfl⟩ := it_half hr k
  · rw [hh.has1]; simp [idsI]
  · rw [hh.has0]
    simp only [idsI, List.map_append, List.mem_append, List.mem_map, Bool.false_eq_true, false_iff, not_or, not_exists, not_and]
    exact ⟨fun x hx => hh.ne.1 x hx, fun x hx => hh.ne.2 x hx⟩
theorem sortI_ok : ∀ (L : List It), (idsI L).Nodup → Rise (sortI L) ∧ (sortI L).Perm L := by
  intro L
  rw [← List.reverse_reverse L]
  induction L.reverse with
  | nil => exact fun _ => ⟨List.Pairwise.nil, List.Perm.refl _⟩
  | cons x r ih =>
    intro hn
    rw [List.reverse_cons] at hn ⊢
    have hn2 : (idsI r.reverse).Nodup ∧ x.id ∉ idsI r.reverse := by
      simp only [idsI, List.map_append, List.map_cons, List.map_nil] at hn ⊢
      have := List.nodup_append.1 hn
      exact ⟨this.1, fun h => this.2.2 _ h _ (by simp) rfl⟩
    obtain ⟨h1, h2⟩ := ih hn2.1
    rw [sortI_snoc]
    have hh : cHas x.id (sortI r.reverse) = false := by
      cases hc : cHas x.id (sortI r.reverse) with
      | false => rfl
      | true => exact absurd ((h2.map fun e => e.id).mem_iff.1 ((has_mem h1 x.id).1 hc)) hn2.2
    exact ⟨put_rise h1 _ _, (put_perm h1 x.tx hh).trans (h2.append_right _)⟩
theorem rise_eq : ∀ {L M : List It}, Rise L → Rise M → L.Perm M → L = M
  | [], M, _, _, h => (List.nil_perm.1 h).symm
  | a :: r, [], _, _, h => absurd h (by simp)
  | a :: r, b :: s, hl, hm, h => by
    obtain ⟨a1, a2⟩ := List.pairwise_cons.1 hl
    obtain ⟨b1, b2⟩ := List.pairwise_cons.1 hm
    have hab : a = b := by
      have h1 : a ∈ b :: s := h.mem_iff.1 List.mem_cons_self
      have h2 : b ∈ a :: r := h.mem_iff.2 List.mem_cons_self
      rcases List.mem_cons.1 h1 with h1 | h1
      · exact h1
      · rcases List.mem_cons.1 h2 with h2 | h2
        · exact h2.symm
        · have := a1 b h2
          have := b1 a h1
          omega
    subst hab
    rw [rise_eq a2 b2 (h.cons_inv)]
theorem le_rise {M : List It} (h : M.Pairwise (fun a b => a.id ≤ b.id)) (hn : (idsI M).Nodup) : Rise M := by
  induction M with
  | nil => exact List.Pairwise.nil
  | cons e r ih =>
    obtain ⟨h1, h2⟩ := List.pairwise_cons.1 h
    simp only [idsI, List.map_cons, List.nodup_cons] at hn
    refine List.pairwise_cons.2 ⟨fun x hx => ?_, ih h2 hn.2⟩
    have := h1 x hx
    have hne : e.id ≠ x.id := fun hh => hn.1 (by rw [hh]; exact List.mem_map_of_mem hx)
    omega
theorem ofE_ok : ∀ (L : List It) (seen : List Nat), ofE seen L = 0 → seen.Nodup → (seen ++ idsI L).Nodup ∧ (seen.length ≤ 2048 → seen.length + L.length ≤ 2048) ∧ ∀ e ∈ L, e.id < 6004799503160661 ∧ e.tx ≠ [] ∧ e.tx.length ≤ 65536
  | [], seen, _, hn => by simp [idsI, hn]
  | e :: r, seen, h, hn => by
    rw [ofE] at h
    split at h
    · omega
    rename_i h1
    split at h
    · rename_i h2; exact absurd h h2
    rename_i h2
    have hw : jE4 e.id e.tx (decide (2048 ≤ seen.length)) = 0 := by omega
    unfold jE4 at hw
    repeat' split at hw
    all_goals first | omega | skip
    rename_i w1 w2 w3 w4
    have w4' : seen.length < 2048 := by simpa using w4
    have hn2 : (seen ++ [e.id]).Nodup := List.nodup_append.2 ⟨hn, by simp, fun a ha b hb hab => h1 (by simp at hb; rw [← hb, ← hab]; exact ha)⟩
    obtain ⟨i1, i2, i3⟩ := ofE_ok r (seen ++ [e.id]) h hn2
    refine ⟨by simpa [idsI] using i1, fun _ => ?_, fun x hx => ?_⟩
    · have := i2 (by simp; omega)
      simp at this ⊢
      omega
    · rcases List.mem_cons.1 hx with rfl | hx
      · exact ⟨by omega, w2, by omega⟩
      · exact i3 x hx
theorem of_ok {L : List It} (h : ofQ L = 0) : (idsI L).Nodup ∧ L.length ≤ 2048 ∧ ChOk (sortI L) ∧ (sortI L).Perm L := by
  obtain ⟨h1, h2, h3⟩ := ofE_ok L [] h List.nodup_nil
  rw [List.nil_append] at h1
  have h2 := h2 (by simp)
  simp at h2
  obtain ⟨h4, h5⟩ := sortI_ok L h1
  exact ⟨h1, h2, ⟨h4, fun e he => (h3 e (h5.mem_iff.1 he)).1, fun e he => (h3 e (h5.mem_iff.1 he)).2, by rw [h5.length_eq]; exact h2⟩, h5⟩
theorem sort_is {L M : List It} (h : (idsI L).Nodup) (hp : M.Perm L) (hs : M.Pairwise (fun a b => a.id ≤ b.id)) : M = sortI L := by
  obtain ⟨h4, h5⟩ := sortI_ok L h
  exact rise_eq (le_rise hs ((hp.map fun e : It => e.id).nodup_iff.2 h)) h4 (hp.trans h5.symm)
end Go.Proofs.YtkojkeabelckjaaGreatDoor
end

section
set_option linter.all false
namespace Go.Proofs.YtkojkeabelckjaaGreatDoor
open Go.RowKit Go.Sort
set_option maxRecDepth 100000
def sortI_rho : Go.Shelf.Ren := ⟨fun n => match n with | 0 => 0 | 1 => 1 | 2 => 2 | 6 => 38 | 14 => 80 | 15 => 81 | 20 => 121 | 21 => 122 | 22 => 123 | 23 => 124 | 24 => 125 | 25 => 126 | 26 => 127 | 27 => 128 | 28 => 129 | 29 => 130 | 46 => 159 | 47 => 160 | 48 => 161 | 49 => 162 | 50 => 163 | 57 => 187 | 60 => 246 | 61 => 247 | 62 => 248 | 63 => 249 | 64 => 250 | 65 => 251 | 66 => 252 | 67 => 253 | 68 => 254 | 69 => 255 | 70 => 256 | 71 => 257 | 72 => 258 | 73 => 259 | 74 => 260 | 75 => 270 | _ => 0, fun n => match n with | 0 => 0 | 1 => 1 | 2 => 2 | 3 => 3 | 4 => 4 | 5 => 5 | 6 => 6 | 7 => 7 | 8 => 8 | 9 => 9 | 10 => 10 | 11 => 11 | 12 => 12 | 13 => 13 | 14 => 14 | 15 => 15 | 16 => 16 | 17 => 17 | 18 => 18 | 19 => 19 | 20 => 20 | 21 => 21 | 22 => 25 | 23 => 97 | 24 => 62 | 25 => 99 | 27 => 247 | 37 => 171 | 38 => 172 | 39 => 48 | 42 => 289 | 44 => 236 | 45 => 237 | 46 => 238 | 47 => 239 | 48 => 240 | 49 => 241 | 50 => 101 | 51 => 242 | 52 => 243 | 53 => 112 | 54 => 193 | 55 => 45 | 66 => 268 | 67 => 269 | 68 => 218 | 69 => 270 | 70 => 271 | 71 => 272 | 76 => 296 | 77 => 297 | 78 => 298 | 81 => 126 | 82 => 356 | 83 => 357 | 84 => 358 | 85 => 359 | 86 => 360 | 87 => 148 | 88 => 361 | 89 => 362 | 90 => 363 | 91 => 254 | 92 => 364 | 93 => 365 | 94 => 366 | 95 => 367 | 96 => 290 | _ => 0, fun n => match n with | _ => 0⟩
theorem sortI0 : SlLaysF0.n6 Tryz.prog sortI_rho where
  mixed := by kernel_rfl
  f6 := ⟨"slices.SortFunc[[]gazetteer/chart.Item,gazetteer/chart.Item]", by decide, by kernel_rfl⟩
  f14 := ⟨"slices.pdqsortCmpFunc[gazetteer/chart.Item]", by decide, by kernel_rfl⟩
  f15 := by kernel_rfl
  f20 := ⟨"slices.insertionSortCmpFunc[gazetteer/chart.Item]", by decide, by kernel_rfl⟩
  f21 := ⟨"slices.heapSortCmpFunc[gazetteer/chart.Item]", by decide, by kernel_rfl⟩
  f22 := ⟨"slices.breakPatternsCmpFunc[gazetteer/chart.Item]", by decide, by kernel_rfl⟩
  f23 := ⟨"slices.choosePivotCmpFunc[gazetteer/chart.Item]", by decide, by kernel_rfl⟩
  f24 := ⟨"slices.reverseRangeCmpFunc[gazetteer/chart.Item]", by decide, by kernel_rfl⟩
  f25 := ⟨"slices.partialInsertionSortCmpFunc[gazetteer/chart.Item]", by decide, by kernel_rfl⟩
  f26 := ⟨"slices.partitionEqualCmpFunc[gazetteer/chart.Item]", by decide, by kernel_rfl⟩
  f27 := ⟨"slices.partitionCmpFunc[gazetteer/chart.Item]", by decide, by kernel_rfl⟩
  f28 := by kernel_rfl
  f29 := by kernel_rfl
  f46 := ⟨"slices.siftDownCmpFunc[gazetteer/chart.Item]", by decide, by kernel_rfl⟩
  f47 := by kernel_rfl
  f48 := by kernel_rfl
  f49 := ⟨"slices.medianAdjacentCmpFunc[gazetteer/chart.Item]", by decide, by kernel_rfl⟩
  f50 := ⟨"slices.medianCmpFunc[gazetteer/chart.Item]", by decide, by kernel_rfl⟩
  f57 := ⟨"slices.order2CmpFunc[gazetteer/chart.Item]", by decide, by kernel_rfl⟩
  t0 := by kernel_rfl
  a0 := fun w => by kernel_rfl
  z0 := fun w => by kernel_rfl
  v0 := fun w => by kernel_rfl
  t3 := by kernel_rfl
  a3 := fun w => by kernel_rfl
  z3 := fun w => by kernel_rfl
  v3 := fun w => by kernel_rfl
  t4 := by kernel_rfl
  a4 := fun w => by kernel_rfl
  z4 := fun w => by kernel_rfl
  v4 := fun w => by kernel_rfl
  t5 := by kernel_rfl
  a5 := fun w => by kernel_rfl
  z5 := fun w => by kernel_rfl
  v5 := fun w => by kernel_rfl
  t9 := by kernel_rfl
  a9 := fun w => by kernel_rfl
  z9 := fun w => by kernel_rfl
  v9 := fun w => by kernel_rfl
  t22 := by kernel_rfl
  a22 := fun w => by kernel_rfl
  z22 := fun w => by kernel_rfl
  v22 := fun w => by kernel_rfl
  t25 := by kernel_rfl
  a25 := fun w => by kernel_rfl
  z25 := fun w => by kernel_rfl
  v25 := fun w => by kernel_rfl
  t39 := by kernel_rfl
  a39 := fun w => by kernel_rfl
  z39 := fun w => by kernel_rfl
  v39 := fun w => by kernel_rfl
  t45 := by kernel_rfl
  a45 := fun w => by kernel_rfl
  z45 := fun w => by kernel_rfl
  v45 := fun w => by kernel_rfl
  t46 := by kernel_rfl
  a46 := fun w => by kernel_rfl
  z46 := fun w => by kernel_rfl
  v46 := fun w => by kernel_rfl
  t50 := by kernel_rfl
  a50 := fun w => by kernel_rfl
  z50 := fun w => by kernel_rfl
  v50 := fun w => by kernel_rfl
  t53 := by kernel_rfl
  a53 := fun w => by kernel_rfl
  z53 := fun w => by kernel_rfl
  v53 := fun w => by kernel_rfl
  t55 := by kernel_rfl
  a55 := fun w => by kernel_rfl
  z55 := fun w => by kernel_rfl
  v55 := fun w => by kernel_rfl
  t66 := by kernel_rfl
  a66 := fun w => by kernel_rfl
  z66 := fun w => by kernel_rfl
  v66 := fun w => by kernel_rfl
  t70 := by kernel_rfl
  a70 := fun w => by kernel_rfl
  z70 := fun w => by kernel_rfl
  v70 := fun w => by kernel_rfl
  t76 := by kernel_rfl
  a76 := fun w => by kernel_rfl
  z76 := fun w => by kernel_rfl
  v76 := fun w => by kernel_rfl
  t77 := by kernel_rfl
  a77 := fun w => by kernel_rfl
  z77 := fun w => by kernel_rfl
  v77 := fun w => by kernel_rfl
theorem of1_is (x y : It) (W : World) : Calls Tryz.prog 39 #[x.val, y.val] W fun e w' => e = .returned (iq (cmpQ x.id y.id)) ∧ ∃ q os', w' = grow (W.drewN q) os' := by
  have hcon := cmp_is x.id y.id
  generalize cmpQ x.id y.id = r at hcon ⊢
  go_enter Tryz.func39, Tryz.ntmps39
  go_wp2_with (go_at_call 40; refine (hcon _).mono ?_; rintro e w' ⟨rfl, rfl⟩)
  go_ret
  exact ⟨rfl, 0, _, by rw [alloc_eq_grow, alloc_eq_grow, grow_grow]; rfl⟩
instance : Inhabited It := ⟨⟨0, []⟩⟩
theorem it_cmpLays (blk off size : Nat) (w : World) : CmpLays Tryz.prog 39 #[] It.cells 2 (fun x y => cmpQ x.id y.id) blk off size w :=
  fun _ _ _ _ x y => of1_is x y _
theorem it_ltOf (x y : It) : ltOf (fun x y : It => cmpQ x.id y.id) x y = decide (x.id < y.id) := by
  unfold ltOf
  rw [Bool.eq_iff_iff]
  simp [cmpQ_lt]
theorem it_swo : SWO (ltOf fun x y : It => cmpQ x.id y.id) where
  irrefl x := by rw [it_ltOf]; simp
  trans x y z h1 h2 := by rw [it_ltOf] at *; simp at *; omega
  ntrans x y z h1 h2 := by rw [it_ltOf] at *; simp at *; omega
theorem icells_get : ∀ (L : List It) (t : Nat), t < L.length * 2 → (jB0 L)[t]? = some ((L[t / 2]!).cells)[t % 2]!
  | [], t, h => by simp at h
  | e :: r, 0, _ => by simp
  | e :: r, 1, _ => by simp
  | e :: r, t + 2, h => by
    have h1 := icells_get r t (by simp at h; omega)
    have e1 : (t + 2) / 2 = t / 2 + 1 := by omega
    have e2 : (t + 2) % 2 = t % 2 := by omega
    rw [e1, e2]
    simp only [jB0, List.flatMap_cons, It.cells] at h1 ⊢
    simpa using h1
theorem it_flat (L : List It) : (flatK It.cells 2 L.toArray).toList = jB0 L := by
  refine List.ext_getElem? fun t => ?_
  rcases Nat.lt_or_ge t (L.length * 2) with h | h
  · rw [icells_get L t h]
    have hs : t < (flatK It.cells 2 L.toArray).size := by rw [size_flatK]; simpa using h
    have g := get_flatK It.cells 2 L.toArray t (by simpa using h)
    rw [getElem!_pos _ t hs] at g
    rw [Array.getElem?_toList, Array.getElem?_eq_getElem hs, g]
    simp
  · rw [List.getElem?_eq_none (by simpa using h), List.getElem?_eq_none (by rw [icells_len]; omega)]
theorem enter_sort : Enters Tryz.prog 38 := Enters.mk Tryz.func38 (by kernel_rfl) (by kernel_rfl)
theorem sort_fn (g n c : Nat) (L : List It) (hn : n = L.length) (hL : L.length ≤ 1000000) :
    Fn Tryz.prog 38 [.slice (some ⟨g, 0, none⟩) n c, .func (.func 39) #[] #[]] [.ob g (RowP 62 2 n c (jB0 L))] fun v H' => v = .tuple #[] ∧ ∃ M : List It, M.Perm L ∧ M.Pairwise (fun a b => a.id ≤ b.id) ∧ H' = [.ob g (RowP 62 2 n c (jB0 M))] := by
  refine ⟨enter_sort, fun w hw => ?_⟩
  subst hn
  obtain ⟨⟨ob, hob, cur, rfl, hc1, hc2, hc3, hc4, hc5⟩, _⟩ := hw.ents _ List.mem_cons_self
  have hlt : g < w.heap.size := (Array.getElem?_eq_some_iff.1 hob).1
  have eg : ∀ args w, (callFunc 39 args).run Tryz.prog w = .ok (.enter 39 args) w := enters_of Tryz.func39 (by kernel_rfl) rfl
  have hH : HoldsK It.cells 2 w g 0 L.toArray := fun j hj => by
    have hj' : j < L.length * 2 := by simpa using hj
    have hjs : j < (flatK It.cells 2 L.toArray).size := hj
    have h1 : (jB0 L)[j]? = some ((flatK It.cells 2 L.toArray)[j]!) := by
      rw [← it_flat, Array.getElem?_toList, Array.getElem?_eq_getElem hjs, getElem!_pos _ j hjs]
    refine ⟨?_, ?_⟩
    · rw [Nat.zero_add]
      simp only [World.cell?, hob]
      rw [← hc4, List.getElem?_take, if_pos hj'] at h1
      simpa using h1
    · simp [World.frozen?, hob]
  have hcon := AnyQ.slices_SortFunc sortI0 2 (fun w => by kernel_rfl) (fun w => by kernel_rfl) It.cells (fun _ => rfl) (fun x v hv => by simp [It.cells] at hv; rcases hv with rfl | rfl <;> rfl) (fun x y => cmpQ x.id y.id) it_swo 39 #[] g 0 c L.toArray w eg (it_cmpLays g 0 _ w) hH hlt (by simp; omega)
  have hcon' : Calls Tryz.prog 38 #[.slice (some ⟨g, 0, none⟩) L.length c, .func (.func 39) #[] #[]] w (fun e w' => e = .returned (.tuple #[]) ∧ ∃ d' n os, PermIn 0 L.length L.toArray d' ∧ SortedIn (ltOf fun x y : It => cmpQ x.id y.id) 0 L.length d' ∧ w' = sortWorldK It.cells 2 w g 0 n d' os) := hcon
  refine hcon'.mono fun e w' he => ?_
  obtain ⟨he, d', m, os, hp, hs, rfl⟩ := he
  have hsz : d'.size = L.length := by simpa using hp.1
  have hperm : d'.toList.Perm L := by
    have := hp.2.2
    have e : List.take d'.size L = L := by rw [hsz, List.take_length]
    simpa [← hsz, e] using this
  refine ⟨_, [.ob g (RowP 62 2 L.length c (jB0 d'.toList))], he, ⟨rfl, d'.toList, hperm, ?_, rfl⟩, ?_⟩
  · refine List.pairwise_iff_getElem.2 fun i j hi hj hij => ?_
    have h1 := hs i j (Nat.zero_le _) hij (by simp at hj ⊢; omega)
    rw [it_ltOf] at h1
    simp at hi hj
    rw [getElem!_pos d' i hi, getElem!_pos d' j hj] at h1
    simpa using h1
  · have hfs : (flatK It.cells 2 d').size = L.length * 2 := by rw [size_flatK, hsz]
    have hfl : (flatK It.cells 2 d').toList = jB0 d'.toList := by have := it_flat d'.toList; simpa using this
    obtain ⟨cur', hcur'⟩ : ∃ c', putCells id 0 (flatK It.cells 2 d') cur = c' := ⟨_, rfl⟩
    have hcs : cur'.size = c * 2 := by rw [← hcur']; simp [putCells, hc3]
    have hct : cur'.toList.take (L.length * 2) = jB0 d'.toList := by
      refine List.ext_getElem? fun t => ?_
      rcases Nat.lt_or_ge t (L.length * 2) with h | h
      · have ht : t < cur.size := by omega
        have htf : t < (flatK It.cells 2 d').size := by omega
        rw [List.getElem?_take, if_pos h, Array.getElem?_toList, ← hcur', ← hfl, Array.getElem?_toList]
        simp only [putCells, Array.getElem?_mapIdx, Array.getElem?_eq_getElem ht, Option.map_some, Array.getElem?_eq_getElem htf]
        rw [if_pos ⟨Nat.zero_le _, by omega⟩, Nat.sub_zero, getElem!_pos _ t htf]
        rfl
      · rw [List.getElem?_eq_none (by rw [List.length_take]; omega), List.getElem?_eq_none (by rw [icells_len]; simp; omega)]
    have hblk : ∀ k, k < w.heap.size → (sortWorldK It.cells 2 w g 0 m d' os).heap[k]? = if g = k then some (.cells cur' 62 (0, 0)) else w.heap[k]? := fun k hk => by
      simp only [sortWorldK, grow, putRowK, putRow, mapBlock, Go.Sort.ahead]
      rw [Array.getElem?_append_left (by simpa using hk), Array.getElem?_modify]
      by_cases hgk : g = k
      · subst hgk
        rw [if_pos rfl, if_pos rfl, hob, Option.map_some, onCells, hcur']
      · rw [if_neg hgk, if_neg hgk]
    refine ⟨⟨rfl, rfl, rfl, by simp only [sortWorldK, grow, putRowK, putRow, mapBlock, Go.Sort.ahead, Array.size_append, Array.size_modify]; exact Nat.le_add_right _ _, fun k hk hn => ?_⟩, fun x hx => ?_, List.pairwise_singleton _ _⟩
    · rw [hblk k hk, if_neg (fun h => hn (by subst h; exact (List.mem_cons_self : g ∈ [g])))]
    · obtain rfl := List.mem_singleton.1 hx
      refine ⟨⟨_, ?_, cur', rfl, hc1, hc2, hcs, hct, by rw [icells_len]; simp [hsz]⟩, fun _ => .inl (List.mem_cons_self : g ∈ [g])⟩
      have := hblk g hlt
      rw [if_pos rfl] at this
      exact this
theorem sortE_fn (A : Option Addr) (c : Nat) : Fn Tryz.prog 38 [.slice A 0 c, .func (.func 39) #[] #[]] [] fun v _ => v = .tuple #[] :=
  Fn.of_same enter_sort fun w => (AnyF.slices_SortFunc_none sortI0 A c (.func (.func 39) #[] #[]) w).mono fun e w' ⟨he, hw⟩ => ⟨he, hw.symm⟩
end Go.Proofs.YtkojkeabelckjaaGreatDoor
end

section
set_option linter.all false
namespace Go.Proofs.YtkojkeabelckjaaGreatDoor
open Go.RowKit
def zoomQ (k : Nat) : Int := if 6004799503160661 ≤ k then -1 else (((Lib.bitLen (3 * k + 1) - 1) / 2 : Nat) : Int)
def jB8 : Nat → Nat
  | 0 => 0
  | z + 1 => jB8 z + 4 ^ z
theorem base4_eq (z : Nat) : 3 * jB8 z + 1 = 4 ^ z := by
  induction z with
  | zero => rfl
  | succ z ih => rw [jB8, Nat.pow_succ]; omega
theorem base4_27 : jB8 27 = 6004799503160661 := by decide
theorem bitLen_b (x : Nat) (h0 : x ≠ 0) (h : x < 18446744073709551616) : 1 ≤ Lib.bitLen x ∧ 2 ^ (Lib.bitLen x - 1) ≤ x ∧ x < 2 ^ Lib.bitLen x := Lib.bitLenAux_bounds 64 x h h0
theorem pow_mono {a b : Nat} (h : a ≤ b) : 4 ^ a ≤ 4 ^ b := Nat.pow_le_pow_right (by decide) h
theorem base4_mono {a b : Nat} (h : a ≤ b) : jB8 a ≤ jB8 b := by
  have h1 := base4_eq a
  have h2 := base4_eq b
  have h3 := pow_mono h
  omega
theorem zoom_at {k z : Nat} (hz : z ≤ 26) (h1 : jB8 z ≤ k) (h2 : k < jB8 (z + 1)) : zoomQ k = (z : Int) := by
  have e1 := base4_eq z
  have e2 := base4_eq (z + 1)
  have e3 : jB8 (z + 1) ≤ jB8 27 := base4_mono (by omega)
  rw [base4_27] at e3
  unfold zoomQ
  rw [if_neg (by omega)]
  obtain ⟨b1, b2, b3⟩ := bitLen_b (3 * k + 1) (by omega) (by omega)
  have p1 : (4 : Nat) ^ z = 2 ^ (2 * z) := by rw [Nat.pow_mul]
  have p2 : (4 : Nat) ^ (z + 1) = 2 ^ (2 * z + 2) := by rw [show 2 * z + 2 = 2 * (z + 1) by omega, Nat.pow_mul]
  generalize Lib.bitLen (3 * k + 1) = b at b1 b2 b3 ⊢
  have q1 : b - 1 < 2 * z + 2 := (Nat.pow_lt_pow_iff_right (a := 2) (by decide)).1 (by omega)
  have q2 : 2 * z < b := (Nat.pow_lt_pow_iff_right (a := 2) (by decide)).1 (by omega)
  have : (b - 1) / 2 = z := by omega
  rw [this]
theorem zoom_ex {k : Nat} (h : k < 6004799503160661) : ∃ z : Nat, z ≤ 26 ∧ zoomQ k = (z : Int) ∧ jB8 z ≤ k ∧ k < jB8 (z + 1) := by
  have key : ∀ n, k < jB8 n → ∃ z, z < n ∧ jB8 z ≤ k ∧ k < jB8 (z + 1) := by
    intro n
    induction n with
    | zero => intro h; simp [jB8] at h
    | succ n ih =>
      intro h
      rcases Nat.lt_or_ge k (jB8 n) with h1 | h1
      · obtain ⟨z, h2, h3⟩ := ih h1
        exact ⟨z, by omega, h3⟩
      · exact ⟨n, by omega, h1, h⟩
  obtain ⟨z, h1, h2, h3⟩ := key 27 (by rw [base4_27]; exact h)
  exact ⟨z, by omega, zoom_at (by omega) h2 h3, h2, h3⟩
theorem zoom_fn (k : Nat) (hk : k < 18446744073709551616) : Fn Tryz.prog 108 [uq k] [] fun v _ => v = iq (zoomQ k) := by
  refine Fn.enter (N := 11) Tryz.func108 rfl (by kernel_rfl) rfl (fun w0 => ?_)
  refine aR fun Z hZ => sA rfl rfl <| sN (hZ _ _ ?_)
  refine aF [(0, _)] (Kn.cons rfl (Kn.nil)) ?_
  refine aS ?_
  refine aR fun Z hZ => sM rfl rfl ?_
  first | refine sx_geq rfl rfl rfl ?_ | refine sx_sgeq rfl rfl rfl ?_
  refine sN (hZ _ _ ?_)
  refine aF [(0, _), (4, _)] (Kn.cons rfl (Kn.cons rfl (Kn.nil))) ?_
  first | refine aC rfl (fun h => ?_) (fun h => ?_) | refine aS (aC rfl (fun h => ?_) (fun h => ?_))
  · have h' : 6004799503160661 ≤ k := by simp at h; omega
    rw [show zoomQ k = -1 by unfold zoomQ; rw [if_pos h']]
    refine aR fun Z hZ => sA rfl rfl <| sN (hZ _ _ ?_)
    refine aF [(2, _)] (Kn.cons rfl (Kn.nil)) ?_
    refine aE ?_
    repeat (with_reducible (first | refine nTR ?_ | refine nBR ?_ | refine jC0 ?_))
    exact nR1 rfl rfl rfl
  have h' : ¬ 6004799503160661 ≤ k := by simp at h; omega
  rw [show zoomQ k = (((Lib.bitLen (3 * k + 1) - 1) / 2 : Nat) : Int) by unfold zoomQ; rw [if_neg h']]
  obtain ⟨b1, b2, b3⟩ := bitLen_b (3 * k + 1) (by omega) (by omega)
  obtain ⟨b, hb⟩ : ∃ b, Lib.bitLen (3 * k + 1) = b := ⟨_, rfl⟩
  have hl := clen_fn (3 * k + 1) (by omega)
  have hb64 : b ≤ 64 := by
    have : b - 1 < 64 := (Nat.pow_lt_pow_iff_right (a := 2) (by decide)).1 (by rw [← hb]; omega)
    omega
  rw [hb] at hl b1 ⊢
  refine aK ?_
  repeat (with_reducible (first | refine nBN ?_ | refine nx_scope_normal ?_))
  with_reducible first | refine nN ?_ | refine nx_normalM ?_
  refine aR fun Z hZ => sM rfl rfl ?_
  refine sx_mul rfl rfl ((3 * k : Nat) : Int) (by rw [IntWalk.u64_in _ (by omega)]; omega) rfl ?_
  refine jA7 rfl rfl ((3 * k + 1 : Nat) : Int) (by rw [IntWalk.u64_in _ (by omega)]; omega) rfl ?_
  refine sCP hl rfl rfl ?_
  refine jG4 rfl rfl ((b - 1 : Nat) : Int) (by rw [IntWalk.i64_in _ (by omega)]; omega) rfl ?_
  refine sx_quo rfl rfl (by omega) (((b - 1) / 2 : Nat) : Int) (by rw [Int.tdiv_eq_ediv_of_nonneg (by omega), IntWalk.i64_in _ (by omega)]; omega) rfl ?_
  refine sA rfl rfl <| sN (hZ _ _ ?_)
  refine aF [(2, _)] (Kn.cons rfl (Kn.nil)) ?_
  refine aE ?_
  repeat (with_reducible (first | refine nTR ?_ | refine nBR ?_ | refine jC0 ?_))
  exact nR1 rfl rfl rfl
end Go.Proofs.YtkojkeabelckjaaGreatDoor
end
